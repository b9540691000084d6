/- Contracts of functions of the program, and plain laws, towards the laws of replicas. Joined of the texts: FL. -/
import Derived.Test.YtnehgpeelgjjhaaGreatDoorRows
import Derived.WalkKit
import Derived.ProofKit
import Derived.OpenShut
import Derived.JoinedOf
import Derived.KernelRfl
set_option linter.all false
set_option maxRecDepth 100000
set_option maxHeartbeats 12800000
namespace Go.Proofs.YtnehgpeelgjjhaaGreatDoor
theorem laid_types :(List.range Tryz.prog.types.size).all (rowFine Tryz.prog)=true:=by kernel_rfl
theorem laid_globals :Tryz.prog.globals.all (λg=>decide (g.type<Tryz.prog.types.size))=true:=by kernel_rfl
theorem laid_funcs :Tryz.prog.funcs.all (λf=>f.params.all λt=>decide (t<Tryz.prog.types.size))=true:=by kernel_rfl
theorem laid_out :laidOutB Tryz.prog=true:=by
 unfold laidOutB;rw[laid_types,laid_globals,laid_funcs];rfl
end Go.Proofs.YtnehgpeelgjjhaaGreatDoor
