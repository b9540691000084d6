/- ReplicaMatchesReference: for every input the law returns true and its arguments read as before (the card: the row, and its listed variables tied to the text). Conditions: none beyond the card. The texts that it imports were shortened by a program (blanks, indentation) to keep within the size that a claim may have. Joined of the texts: C3. -/
import Derived.Test.YtnehgpeelgjjhaaGreatDoorRows
import Derived.Test.YtnehgpeelgjjhaaGreatDoorCards
import Derived.SevenTiedAt
import Derived.Test.YtnehgpeelgjjhaaGreatDoorW29
import Derived.Test.YtnehgpeelgjjhaaGreatDoorW13
import Derived.Test.YtnehgpeelgjjhaaGreatDoorW03
import Derived.Test.YtnehgpeelgjjhaaGreatDoorW14
set_option linter.all false
set_option maxRecDepth 100000
set_option maxHeartbeats 12800000
namespace Go.Proofs.YtnehgpeelgjjhaaGreatDoor
open Go
theorem matches_wants3 :Tryz.prog.wantsStandIn 3=false:=by kernel_rfl
theorem matches_wants22 :Tryz.prog.wantsStandIn 22=false:=by kernel_rfl
theorem matches_wants26 :Tryz.prog.wantsStandIn 26=false:=by kernel_rfl
theorem matches_wants28 :Tryz.prog.wantsStandIn 28=false:=by kernel_rfl
theorem matches_wants9 :Tryz.prog.wantsStandIn 9=false:=by kernel_rfl
theorem matches_wants29 :Tryz.prog.wantsStandIn 29=false:=by kernel_rfl
theorem matches_wf :Rows.replicaMatchesReferenceRow.wfByText (OpenSpec.ofChange Rows.replicaMatchesReferenceSpec)=true:=by kernel_rfl
theorem matches_goes :false=Rows.replicaMatchesReferenceRow.goesBy Tryz.pinned.checked.prog:=by
 show false=((Tryz.prog.funcNamed "clearway/clearwaylaw31.ReplicaMatchesReference").any Tryz.prog.goes||false);rw[fact_named3,Bool.or_false,Option.any_some,Go.Proofs.YtnehgpeelgjjhaaGreatDoor.Tw.goes_no]
theorem matches_main :Tryz.prog.mainIs=some (((true, "3b04a6dbf67849fcbfbbffd61e5fc21e37ba9dbcacf7e04adba764dc70da4b72"):Bool×String).1,((true, "3b04a6dbf67849fcbfbbffd61e5fc21e37ba9dbcacf7e04adba764dc70da4b72"):Bool×String).2.toList):=by kernel_rfl
theorem matches_plain (f:FuncId)(fn:Func)(hf:Tryz.prog.funcNamed "clearway/clearwaylaw31.ReplicaMatchesReference" = some f)(hfn:Tryz.prog.funcs[f]?=some fn):true=Tryz.prog.looks []/\∀(j:Nat) t,fn.params[j]?=some t->Tryz.prog.wantsStandIn t=false:=by
 obtain rfl:f=3:=Option.some.inj (fact_named3.symm.trans hf) |>.symm
 obtain rfl:fn=Tryz.f3:=(Option.some.inj (Tryz.func3.symm.trans hfn)).symm;refine⟨Go.Proofs.YtnehgpeelgjjhaaGreatDoor.Tw.looks_yes.symm,λj t ht=>?_⟩;rw[Tryz.params3]at ht;rcases j with _|_|_|_|_|_|j
 ·obtain rfl:t=3:=by simpa using ht.symm
  exact matches_wants3
 ·obtain rfl:t=22:=by simpa using ht.symm
  exact matches_wants22
 ·obtain rfl:t=26:=by simpa using ht.symm
  exact matches_wants26
 ·obtain rfl:t=28:=by simpa using ht.symm
  exact matches_wants28
 ·obtain rfl:t=9:=by simpa using ht.symm
  exact matches_wants9
 ·obtain rfl:t=29:=by simpa using ht.symm
  exact matches_wants29
 ·simp at ht
theorem matches_card_holds :Rows.ReplicaMatchesReferenceCardSaid :=
 Claim7.holds_tied_plain_at .later [] [.data,.data,.funcs] true (true, "3b04a6dbf67849fcbfbbffd61e5fc21e37ba9dbcacf7e04adba764dc70da4b72") true
  matches_holds (λ_ h=>by cases h) matches_wf (λ_ h=>by cases h) matches_row_tie rfl ⟨rfl,rfl⟩ matches_main rfl matches_plain matches_goes
end Go.Proofs.YtnehgpeelgjjhaaGreatDoor
