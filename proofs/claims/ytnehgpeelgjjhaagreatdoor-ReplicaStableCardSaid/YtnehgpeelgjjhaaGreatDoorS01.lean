/- ReplicaStable: for every input the law returns true and its arguments read as before (the card: the row, and its listed variables tied to the text). Conditions: none beyond the card. Joined of the texts: L4q. -/
import Derived.Test.YtnehgpeelgjjhaaGreatDoorW12
import Derived.Test.YtnehgpeelgjjhaaGreatDoorW00
import Derived.Test.YtnehgpeelgjjhaaGreatDoorW07
set_option linter.all false
namespace Go.Proofs.YtnehgpeelgjjhaaGreatDoor.Tw
open Go.RowKit Go.Shelf
theorem encMo_length (l : List Rp.Motion) : (encMo l).length = l.length * 4 := by
  induction l with
  | nil => rfl
  | cons x l ih => simp only [encMo, List.flatMap_cons, List.length_append, List.length_cons] at ih ⊢; simp [moE] at ih ⊢; omega
theorem Reads.mo_take {w : World} {B n : Nat} {A : Option Addr} {l : List Rp.Motion} (h : Reads w B 4 A n (encMo l)) (hl : l.length = n) (k : Nat) (hk : k ≤ n) : Reads w B 4 A k (encMo (l.take k)) := by
  refine ⟨by rw [encMo_length, List.length_take]; omega, fun h0 => ?_⟩
  obtain ⟨b, off, e, hb, hc⟩ := h.2 (by omega)
  refine ⟨b, off, e, hb, fun j u hu => hc j u ?_⟩
  have e2 : encMo l = encMo (l.take k) ++ encMo (l.drop k) := by rw [encMo_append, List.take_append_drop]
  rw [e2, List.getElem?_append_left (List.getElem?_eq_some_iff.1 hu).1]
  exact hu
theorem Reads.ps_take {w : World} {B n : Nat} {A : Option Addr} {l : List Rp.Post} (h : Reads w B 4 A n (encPs l)) (hl : l.length = n) (k : Nat) (hk : k ≤ n) : Reads w B 4 A k (encPs (l.take k)) := by
  refine ⟨by rw [encPs_length, List.length_take]; omega, fun h0 => ?_⟩
  obtain ⟨b, off, e, hb, hc⟩ := h.2 (by omega)
  refine ⟨b, off, e, hb, fun j u hu => hc j u ?_⟩
  have e2 : encPs l = encPs (l.take k) ++ encPs (l.drop k) := by
    show l.flatMap encP = _
    conv => lhs; rw [← List.take_append_drop k l]
    rw [List.flatMap_append]; rfl
  rw [e2, List.getElem?_append_left (List.getElem?_eq_some_iff.1 hu).1]
  exact hu
/-- the least of the first j numbers and the first one -/
def minF (l : List Int) (j : Nat) : Int := (l.take j).foldl min (l.getD 0 0)
theorem minF_zero (l : List Int) : minF l 0 = l.getD 0 0 := rfl
theorem minF_succ {l : List Int} {j : Nat} {x : Int} (h : l[j]? = some x) : minF l (j + 1) = min (minF l j) x := by
  unfold minF
  rw [List.take_add_one, h, List.foldl_append]
  rfl
theorem minF_all {l : List Int} {n : Nat} (h : l.length = n) (hn : 0 < n) : minF l n = Rp.least l := by
  unfold minF
  rw [List.take_of_length_le (by omega)]
  cases l with
  | nil => simp at h; omega
  | cons x l => simp [Rp.least]
end Go.Proofs.YtnehgpeelgjjhaaGreatDoor.Tw
