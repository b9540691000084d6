/- ReplicaAgree: for every input the law returns true and its arguments read as before (the card: the row, and its listed variables tied to the text). Conditions: none beyond the card. Joined of the texts: C5. -/
import Derived.Test.YtnehgpeelgjjhaaGreatDoorRows
import Derived.Test.YtnehgpeelgjjhaaGreatDoorCards
import Derived.SevenTiedAt
import Derived.Test.YtnehgpeelgjjhaaGreatDoorW16
import Derived.Test.YtnehgpeelgjjhaaGreatDoorW17
set_option linter.all false
namespace Go.Proofs.YtnehgpeelgjjhaaGreatDoor
open Go
theorem agree_wants3 : Tryz.prog.wantsStandIn 3 = false := by kernel_rfl
theorem agree_wants22 : Tryz.prog.wantsStandIn 22 = false := by kernel_rfl
set_option maxRecDepth 100000
theorem agree_wf : Rows.replicaAgreeRow.wfByText (OpenSpec.ofChange Rows.replicaAgreeSpec) = true := by kernel_rfl
theorem agree_goes : false = Rows.replicaAgreeRow.goesBy Tryz.pinned.checked.prog := by
  show false = ((Tryz.prog.funcNamed "clearway/clearwaylaw31.ReplicaAgree").any Tryz.prog.goes || false)
  rw [fact_named5, Bool.or_false, Option.any_some, Go.Proofs.YtnehgpeelgjjhaaGreatDoor.Tw.goes_no]
theorem agree_main : Tryz.prog.mainIs = some (((true, "3b04a6dbf67849fcbfbbffd61e5fc21e37ba9dbcacf7e04adba764dc70da4b72") : Bool × String).1, ((true, "3b04a6dbf67849fcbfbbffd61e5fc21e37ba9dbcacf7e04adba764dc70da4b72") : Bool × String).2.toList) := by kernel_rfl
theorem agree_plain (f : FuncId) (fn : Func) (hf : Tryz.prog.funcNamed "clearway/clearwaylaw31.ReplicaAgree" = some f) (hfn : Tryz.prog.funcs[f]? = some fn) : true = Tryz.prog.looks [] ∧ ∀ (j : Nat) t, fn.params[j]? = some t → Tryz.prog.wantsStandIn t = false := by
  obtain rfl : f = 5 := Option.some.inj (fact_named5.symm.trans hf) |>.symm
  obtain rfl : fn = Tryz.f5 := (Option.some.inj (Tryz.func5.symm.trans hfn)).symm
  refine ⟨Go.Proofs.YtnehgpeelgjjhaaGreatDoor.Tw.looks_yes.symm, fun j t ht => ?_⟩
  rw [Tryz.params5] at ht
  rcases j with _ | _ | j
  · obtain rfl : t = 3 := by simpa using ht.symm
    exact agree_wants3
  · obtain rfl : t = 22 := by simpa using ht.symm
    exact agree_wants22
  · simp at ht
theorem agree_card_holds : Rows.ReplicaAgreeCardSaid :=
  Claim7.holds_tied_plain_at .later [] [.data, .data, .funcs] true (true, "3b04a6dbf67849fcbfbbffd61e5fc21e37ba9dbcacf7e04adba764dc70da4b72") true
    agree_holds (fun _ h => by cases h) agree_wf (fun _ h => by cases h) agree_row_tie rfl ⟨rfl, rfl⟩ agree_main rfl agree_plain agree_goes
end Go.Proofs.YtnehgpeelgjjhaaGreatDoor
