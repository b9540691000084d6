/- Contracts of functions of the program, and plain laws, towards the laws of replicas. Joined of the texts: FA. -/
import Derived.Test.YtnehgpeelgjjhaaGreatDoorRows
import Derived.WalkKit
import Derived.ProofKit
import Derived.OpenShut
import Derived.JoinedOf
import Derived.KernelRfl
set_option linter.all false
set_option maxRecDepth 100000
set_option maxHeartbeats 12800000
namespace Go.Proofs.YtnehgpeelgjjhaaGreatDoor
theorem fact_maps :mapsRowed Tryz.prog=true:=by kernel_rfl
theorem fact_stops :Tryz.prog.stops=[]:=by kernel_rfl
theorem fact_knobs :Tryz.prog.stopKnobs=[]:=by kernel_rfl
theorem fact_plain :Tryz.prog.plainKeys=false:=by kernel_rfl
theorem fact_heard :Tryz.prog.stopsHeard=true:=by kernel_rfl
theorem fact_enter :Tryz.prog.mayEnter=true:=by kernel_rfl
theorem fact_lifts :Tryz.prog.liftsFinal=Rows.replicaAgreeRow.lifted:=by kernel_rfl
theorem fact_make :Tryz.prog.make=some Rows.replicaAgreeRow.make:=by kernel_rfl
theorem fact_named3 :Tryz.prog.funcNamed "clearway/clearwaylaw31.ReplicaMatchesReference" = some 3:=by kernel_rfl
end Go.Proofs.YtnehgpeelgjjhaaGreatDoor
