/- Contracts of functions of the program, and plain laws, towards the laws of replicas. Joined of the texts: FB, P5. -/
import Derived.Test.YtnehgpeelgjjhaaGreatDoorW13
import Derived.Test.YtnehgpeelgjjhaaGreatDoorW14
import Derived.Test.YtnehgpeelgjjhaaGreatDoorW15
import Derived.Test.YtnehgpeelgjjhaaGreatDoorRows
import Derived.WalkKit
import Derived.ProofKit
import Derived.OpenShut
import Derived.LaidMore
import Derived.ShutString
import Derived.ChangeOld
import Derived.Below
import Derived.Stop.Joined
import Derived.Test.YtnehgpeelgjjhaaGreatDoorW12
set_option linter.all false
namespace Go.Proofs.YtnehgpeelgjjhaaGreatDoor
open Go.Proofs.YtnehgpeelgjjhaaGreatDoor.Tw
theorem agree_facts : joinedFacts Tryz.prog 5 Tryz.f5 Rows.replicaAgreeSpec Rows.replicaAgreeRow = true := by
  unfold joinedFacts
  rw [laid_out, fact_maps, place5, follow5, recur5, vars5, fact_plain, fact_heard, fact_enter, fact_lifts, fact_make, fact_stops, fact_knobs]
  kernel_rfl
theorem stable_facts : joinedFacts Tryz.prog 4 Tryz.f4 Rows.replicaStableSpec Rows.replicaStableRow = true := by
  unfold joinedFacts
  rw [laid_out, fact_maps, place4, follow4, recur4, vars4, fact_plain, fact_heard, fact_enter, fact_lifts, fact_make, fact_stops, fact_knobs]
  kernel_rfl
theorem matches_facts : joinedFacts Tryz.prog 3 Tryz.f3 Rows.replicaMatchesReferenceSpec Rows.replicaMatchesReferenceRow = true := by
  unfold joinedFacts
  rw [laid_out, fact_maps, place3, follow3, recur3, vars3, fact_plain, fact_heard, fact_enter, fact_lifts, fact_make, fact_stops, fact_knobs]
  kernel_rfl
end Go.Proofs.YtnehgpeelgjjhaaGreatDoor
namespace Go.Proofs.YtnehgpeelgjjhaaGreatDoor
open Go.ChangeShapes Go.WideShapes Go.ChangeAt Go.RowKit Go.Proofs.YtnehgpeelgjjhaaGreatDoor.Tw

theorem own : ownKnob Tryz.prog.godebug = none := by kernel_rfl
theorem cells87 : Tryz.prog.cellsOf 87 = 3 := by kernel_rfl
theorem cells3 : Tryz.prog.cellsOf 3 = 1 := by kernel_rfl
theorem cells179 : Tryz.prog.cellsOf 179 = 1 := by kernel_rfl
/-- the list of the variables that the rows list -/
abbrev LL : List (String × DataW Unit) := [("math/bits.deBruijn32tab", Rows.laid_math_bits_deBruijn32tab), ("clearway/digest.round", Rows.laid_clearway_digest_round), ("clearway/dist.checks", Rows.laid_clearway_dist_checks)]
theorem door_met (os : Os) (args : Array Value) : laidMetH Tryz.prog LL ((World.doorLaid Tryz.prog 24 os).forCall (fun _ _ => 0) ⟨#[], args, []⟩).memory :=
  laidMetH_of_parts3 (fuel := 8) (laidMet_of_run' 8 (by kernel_rfl) (by kernel_rfl)) (by kernel_rfl) (by kernel_rfl)
theorem tab_laid {W : World} (h : laidMetH Tryz.prog LL W) : ∃ tab, Tab W tab :=
  tab_of_laid (by kernel_rfl) (by kernel_rfl) (by kernel_rfl) Tryz.underlying242 Tryz.underlying179 cells179 h

set_option maxRecDepth 100000 in
theorem lifted5 (os : Os) (started : os.Started) (H : Type) (enc : TypeId × Value → H) :
    ReturnsInHanded {} Tryz.checked os 5 .any (fun w args => (Rows.replicaAgreeSpec.pre enc Tryz.prog Tryz.f5 [] false w args ∧ laidMetH Tryz.prog LL w) ∧ sizedMet enc Tryz.prog Tryz.f5 (OpenSpec.ofChange Rows.replicaAgreeSpec) false w args)
      (Rows.replicaAgreeSpec.post enc Tryz.prog Tryz.f5 false true false false) := by
  refine returnsInHanded_of_change_and (C := Tryz.checked) (X := fun w _ => laidMetH Tryz.prog LL w) (fun _ _ _ hh h => h.of_heap hh) own started (by kernel_rfl) Tryz.func5
    (ChangeSpec.witness_shaped (enc := enc) (C := Tryz.checked) (os := os) (X := fun w _ => laidMetH Tryz.prog LL w) false (World.doorLaid Tryz.prog 24 os) #[.int .i64 0, .slice none 0 0] 8 rfl (World.shaped_of_RefB (by kernel_rfl) (by kernel_rfl)) (by kernel_rfl) (by kernel_rfl) (by kernel_rfl) (door_met os _)) ?_
  intro W base args ds gs before hval0 hW _ _ hL _
  have hval : ∀ (j : Nat) t v, Tryz.f5.params[j]? = some t → args[j]? = some v → Value.okWide Tryz.prog W .any base t v := hval0
  have hW' := hW
  obtain ⟨p, q, hA0, hV, rfl, hfz, hnd⟩ := hW
  have hA : DataW.TrodAll enc Tryz.prog W 0 (fun _ => true) true Tryz.f5.params.toList args.toList ds p := hA0
  rw [Tryz.params5] at hA hval
  obtain ⟨v0, vs0, d0, ds0, p0, q0, hargs, rfl, rfl, h0, r0⟩ := trodAll_cons hA
  obtain ⟨v1, vs1, d1, ds1, p1, q1, rfl, rfl, rfl, h1, r1⟩ := trodAll_cons r0
  obtain ⟨rfl, rfl, rfl⟩ := trodAll_nil r1
  obtain rfl : args = #[v0, v1] := by cases args; simp_all
  obtain ⟨rfl, rfl⟩ := trodVars_none hV
  obtain ⟨a0, rfl, rfl, rfl, w0⟩ := open_int Tryz.underlying3 (hval 0 3 v0 rfl rfl) h0
  obtain ⟨a1, len1, cap1, rfl⟩ := okWide_slice Tryz.underlying22 (hval 1 22 v1 rfl rfl)
  have k1 := h1
  have lt1 : ∀ x ∈ p1, x.block < W.heap.size := by obtain ⟨m, hm⟩ := k1; exact DataW.trod_lt m _ _ _ hm
  obtain ⟨xs, hx, hl, hw⟩ := reads3 Tryz.underlying22 Tryz.underlying87 Tryz.underlying3 cells87 cells3 h1
  obtain ⟨tab, hT⟩ := tab_laid hL
  clear hA0 hval0
  refine (agree_any W tab hT a0 (wf_i64 w0) a1 len1 cap1 xs hx hl hw).mono fun e W' ⟨he, bel⟩ => ?_
  subst he
  exact ⟨_, rfl, _, _, _, [], _, [], hW', trodAll_mk1 (shut_bool Tryz.underlying4 _), (trodAll_cons_mk (shut_int Tryz.underlying3 w0) (trodAll_cons_mk (Below.trod laid_out (by kernel_rfl) (of_decide_eq_true (by kernel_rfl)) k1 bel lt1) trodAll_mk0)), rfl, bel.frame _, fun h => by cases h⟩

theorem agree_holds : Rows.ReplicaAgreeSaid :=
  OpenClaim.holds_of_wide 5 Tryz.f5 rfl rfl rfl rfl rfl rfl rfl ⟨rfl, rfl, rfl, rfl, rfl⟩ rfl rfl rfl rfl rfl fact_named5 Tryz.func5 agree_facts
    (of_decide_eq_true (by kernel_rfl)) (by unfold Func.isWrapper; first | (rw [if_pos (by decide +kernel)]; kernel_rfl) | (rw [if_neg (by decide +kernel)]; exact ⟨rfl, rfl⟩))
    (fun os started H enc _ => lifted5 os started H enc)
end Go.Proofs.YtnehgpeelgjjhaaGreatDoor
