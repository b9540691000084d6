/- ReplicaStable: for every input the law returns true and its arguments read as before (the card: the row, and its listed variables tied to the text). Conditions: none beyond the card. Joined of the texts: P4, C4. -/
import Derived.Test.YtnehgpeelgjjhaaGreatDoorW16
import Derived.Test.YtnehgpeelgjjhaaGreatDoorS02
import Derived.WideKeyPair
import Derived.Test.YtnehgpeelgjjhaaGreatDoorRows
import Derived.Test.YtnehgpeelgjjhaaGreatDoorCards
import Derived.SevenTiedAt
import Derived.Test.YtnehgpeelgjjhaaGreatDoorW17
set_option linter.all false
namespace Go.Proofs.YtnehgpeelgjjhaaGreatDoor
open Go.ChangeShapes Go.WideShapes Go.ChangeAt Go.RowKit Go.WideMaps Go.Proofs.YtnehgpeelgjjhaaGreatDoor.Tw
theorem pair29 : ArrKey Tryz.prog 29 3 2 := ⟨Tryz.underlying29, by kernel_rfl, cells3, by kernel_rfl⟩

set_option maxRecDepth 100000 in
theorem lifted4 (os : Os) (started : os.Started) (H : Type) (enc : TypeId × Value → H) :
    ReturnsInHanded {} Tryz.checked os 4 .any (fun w args => (Rows.replicaStableSpec.pre enc Tryz.prog Tryz.f4 [] false w args ∧ laidMetH Tryz.prog LL w) ∧ sizedMet enc Tryz.prog Tryz.f4 (OpenSpec.ofChange Rows.replicaStableSpec) false w args)
      (Rows.replicaStableSpec.post enc Tryz.prog Tryz.f4 false true false false) := by
  refine returnsInHanded_of_change_and (C := Tryz.checked) (X := fun w _ => laidMetH Tryz.prog LL w) (fun _ _ _ hh h => h.of_heap hh) own started (by kernel_rfl) Tryz.func4
    (ChangeSpec.witness_shaped (enc := enc) (C := Tryz.checked) (os := os) (X := fun w _ => laidMetH Tryz.prog LL w) false (World.doorLaid Tryz.prog 24 os) #[.int .i64 0, .slice none 0 0, .agg #[.int .i64 0, .int .i64 0]] 8 rfl (World.shaped_of_RefB (by kernel_rfl) (by kernel_rfl)) (by kernel_rfl) (by kernel_rfl) (by kernel_rfl) (door_met os _)) ?_
  intro W base args ds gs before hval0 hW _ _ hL _
  have hval : ∀ (j : Nat) t v, Tryz.f4.params[j]? = some t → args[j]? = some v → Value.okWide Tryz.prog W .any base t v := hval0
  have hW' := hW
  obtain ⟨p, q, hA0, hV, rfl, hfz, hnd⟩ := hW
  have hA : DataW.TrodAll enc Tryz.prog W 0 (fun _ => true) true Tryz.f4.params.toList args.toList ds p := hA0
  rw [Tryz.params4] at hA hval
  obtain ⟨v0, vs0, d0, ds0, p0, q0, hargs, rfl, rfl, h0, r0⟩ := trodAll_cons hA
  obtain ⟨v1, vs1, d1, ds1, p1, q1, rfl, rfl, rfl, h1, r1⟩ := trodAll_cons r0
  obtain ⟨v2, vs2, d2, ds2, p2, q2, rfl, rfl, rfl, h2, r2⟩ := trodAll_cons r1
  obtain ⟨rfl, rfl, rfl⟩ := trodAll_nil r2
  obtain rfl : args = #[v0, v1, v2] := by cases args; simp_all
  obtain ⟨rfl, rfl⟩ := trodVars_none hV
  obtain ⟨a0, rfl, rfl, rfl, w0⟩ := open_int Tryz.underlying3 (hval 0 3 v0 rfl rfl) h0
  obtain ⟨a1, len1, cap1, rfl⟩ := okWide_slice Tryz.underlying22 (hval 1 22 v1 rfl rfl)
  obtain ⟨f0, s0, rfl, rfl, rfl, wf, ws⟩ := open_pair pair29 Tryz.underlying3 (hval 2 29 v2 rfl rfl) h2
  have k1 := h1
  have lt1 : ∀ x ∈ p1, x.block < W.heap.size := by obtain ⟨m, hm⟩ := k1; exact DataW.trod_lt m _ _ _ hm
  obtain ⟨xs, hx, hl, hw⟩ := reads3 Tryz.underlying22 Tryz.underlying87 Tryz.underlying3 cells87 cells3 h1
  obtain ⟨tab, hT⟩ := tab_laid hL
  clear hA0 hval0
  refine (stable_law W tab hT a0 (wf_i64 w0) a1 len1 cap1 xs hx hl hw f0 s0 (wf_i64 wf) (wf_i64 ws)).mono fun e W' ⟨he, bel⟩ => ?_
  subst he
  exact ⟨_, rfl, _, _, _, [], _, [], hW', trodAll_mk1 (shut_bool Tryz.underlying4 _), (trodAll_cons_mk (shut_int Tryz.underlying3 w0) (trodAll_cons_mk (Below.trod laid_out (by kernel_rfl) (of_decide_eq_true (by kernel_rfl)) k1 bel lt1) (trodAll_cons_mk (shut_pair pair29 Tryz.underlying3 wf ws) trodAll_mk0))), rfl, bel.frame _, fun h => by cases h⟩

theorem stable_holds : Rows.ReplicaStableSaid :=
  OpenClaim.holds_of_wide 4 Tryz.f4 rfl rfl rfl rfl rfl rfl rfl ⟨rfl, rfl, rfl, rfl, rfl⟩ rfl rfl rfl rfl rfl fact_named4 Tryz.func4 stable_facts
    (of_decide_eq_true (by kernel_rfl)) (by unfold Func.isWrapper; first | (rw [if_pos (by decide +kernel)]; kernel_rfl) | (rw [if_neg (by decide +kernel)]; exact ⟨rfl, rfl⟩))
    (fun os started H enc _ => lifted4 os started H enc)
end Go.Proofs.YtnehgpeelgjjhaaGreatDoor
namespace Go.Proofs.YtnehgpeelgjjhaaGreatDoor
open Go
theorem stable_wants3 : Tryz.prog.wantsStandIn 3 = false := by kernel_rfl
theorem stable_wants22 : Tryz.prog.wantsStandIn 22 = false := by kernel_rfl
theorem stable_wants29 : Tryz.prog.wantsStandIn 29 = false := by kernel_rfl
set_option maxRecDepth 100000
theorem stable_wf : Rows.replicaStableRow.wfByText (OpenSpec.ofChange Rows.replicaStableSpec) = true := by kernel_rfl
theorem stable_goes : false = Rows.replicaStableRow.goesBy Tryz.pinned.checked.prog := by
  show false = ((Tryz.prog.funcNamed "clearway/clearwaylaw31.ReplicaStable").any Tryz.prog.goes || false)
  rw [fact_named4, Bool.or_false, Option.any_some, Go.Proofs.YtnehgpeelgjjhaaGreatDoor.Tw.goes_no]
theorem stable_main : Tryz.prog.mainIs = some (((true, "3b04a6dbf67849fcbfbbffd61e5fc21e37ba9dbcacf7e04adba764dc70da4b72") : Bool × String).1, ((true, "3b04a6dbf67849fcbfbbffd61e5fc21e37ba9dbcacf7e04adba764dc70da4b72") : Bool × String).2.toList) := by kernel_rfl
theorem stable_plain (f : FuncId) (fn : Func) (hf : Tryz.prog.funcNamed "clearway/clearwaylaw31.ReplicaStable" = some f) (hfn : Tryz.prog.funcs[f]? = some fn) : true = Tryz.prog.looks [] ∧ ∀ (j : Nat) t, fn.params[j]? = some t → Tryz.prog.wantsStandIn t = false := by
  obtain rfl : f = 4 := Option.some.inj (fact_named4.symm.trans hf) |>.symm
  obtain rfl : fn = Tryz.f4 := (Option.some.inj (Tryz.func4.symm.trans hfn)).symm
  refine ⟨Go.Proofs.YtnehgpeelgjjhaaGreatDoor.Tw.looks_yes.symm, fun j t ht => ?_⟩
  rw [Tryz.params4] at ht
  rcases j with _ | _ | _ | j
  · obtain rfl : t = 3 := by simpa using ht.symm
    exact stable_wants3
  · obtain rfl : t = 22 := by simpa using ht.symm
    exact stable_wants22
  · obtain rfl : t = 29 := by simpa using ht.symm
    exact stable_wants29
  · simp at ht
theorem stable_card_holds : Rows.ReplicaStableCardSaid :=
  Claim7.holds_tied_plain_at .later [] [.data, .data, .funcs] true (true, "3b04a6dbf67849fcbfbbffd61e5fc21e37ba9dbcacf7e04adba764dc70da4b72") true
    stable_holds (fun _ h => by cases h) stable_wf (fun _ h => by cases h) stable_row_tie rfl ⟨rfl, rfl⟩ stable_main rfl stable_plain stable_goes
end Go.Proofs.YtnehgpeelgjjhaaGreatDoor
