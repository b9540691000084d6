/- Contracts of functions of the program, and plain laws, towards the laws of replicas. Joined of the texts: LooseIn, G5, G6, V9, H3, H4, S4, S5, S6, S7. -/
import Derived.Test.YtnehgpeelgjjhaaGreatDoorW02
import Derived.OrdersIn
import Derived.TacticsIn
import Derived.Test.YtnehgpeelgjjhaaGreatDoorW08
import Derived.Test.YtnehgpeelgjjhaaGreatDoorW07
import Derived.Deep.DeepCutAuto
import Derived.Laws.Closers25b
set_option linter.all false
/-! The loose walk of a region inside the widest fence: what stands at its end may call yield. -/
namespace Go.Loose
open Go Go.RowKit Go.Proofs.YtnehgpeelgjjhaaGreatDoor.Tw
set_option linter.unusedSimpArgs false
section
variable {P : Program} {ops : Array Oper} {md : Region.Mode} {C : World → Prop} {V : Nat → Option (Value → World → Prop)} {Q : Act → (World → Prop) → Prop} {L L' : Nat → Bool} {n : Nat}
theorem wpIn_of_val {o : Oper} {a : Act} {w : World} {u : Value} {K : Act → World → Prop} {Q' : Exit → Act → World → Prop} (h : valAt P o a w u) (hK : K (a.put o.dst u) w) : o.wpIn Fence.wide n P a w K Q' := by
  unfold valAt at h
  refine ⟨fun _ _ => trivial, ?_⟩
  show o.uponIn Fence.wide n P a K Q' ((execOp a.eval o).run P w)
  generalize (execOp a.eval o).run P w = r at h ⊢
  match r, h with
  | .ok (.value _) _, ⟨rfl, rfl⟩ => exact hK
theorem wpIn_of_loose {o : Oper} {a : Act} {w : World} {Vk : Value → World → Prop} {K : Act → World → Prop} {Q' : Exit → Act → World → Prop} (h : looseAt P o a Vk w) (hK : ∀ u w', Below w.heap.size w w' → Vk u w' → K (a.put o.dst u) w') : o.wpIn Fence.wide n P a w K Q' := by
  unfold looseAt at h
  refine ⟨fun _ _ => trivial, ?_⟩
  show o.uponIn Fence.wide n P a K Q' ((execOp a.eval o).run P w)
  generalize (execOp a.eval o).run P w = r at h ⊢
  match r, h with
  | .ok (.value u) w', h => exact hK u w' h.1 h.2
  | .ok .skip w', h => exact hK undef w' h.1 h.2
  | .ok (.enter f args) w', h =>
    obtain ⟨rfl, hc⟩ := h
    exact ⟨fun h => (by cases h), callsIn_wide.2 (hc.mono fun e w2 ⟨u, e1, hb, hv⟩ => by subst e1; exact hK u w2 hb hv)⟩
theorem tail_anyIn {m : Nat} (hF : Fits md ops V m) {Q' : Exit → Act → World → Prop} : ∀ (fuel k : Nat) (listed : Array Bool) (a : Act) (w : World), m ≤ k → k ≤ ops.size → listed.size = ops.size → left listed ops.size ≤ fuel →
    (∀ i, i < k → listed.getD i true = true) → (∀ i, k ≤ i → i < ops.size → listed.getD i true = false) → wpListIn Fence.wide n P ops Q' (ops.toList.drop k) a w → wpAnyIn Fence.wide n P md ops Q' fuel listed a w := by
  intro fuel
  induction fuel with
  | zero =>
    intro k listed a w hmk hk hsz hle hdo hun h
    have hk' : k = ops.size := by
      rcases Nat.lt_or_ge k ops.size with h1 | h1
      · have := left_zero (listed := listed) ops.size (by omega) k h1
        rw [hun k (Nat.le_refl _) h1] at this
        cases this
      · omega
    subst hk'
    refine ⟨?_, ?_⟩
    · refine List.eq_nil_iff_forall_not_mem.2 fun j hj => ?_
      obtain ⟨h1, oj, hoj, _⟩ := mem_ready.1 hj
      rw [hdo j (Array.getElem?_eq_some_iff.1 hoj).1] at h1
      cases h1
    · rw [List.drop_eq_nil_of_le (by simp)] at h
      exact h
  | succ fuel ih =>
    intro k listed a w hmk hk hsz hle hdo hun h
    have only : ∀ j ∈ Region.ready md ops listed, j = k ∧ k < ops.size := fun j hj => by
      obtain ⟨h1, oj, hoj, hall⟩ := mem_ready.1 hj
      have hjs := (Array.getElem?_eq_some_iff.1 hoj).1
      have hkj : k ≤ j := by
        rcases Nat.lt_or_ge j k with h2 | h2
        · rw [hdo j h2] at h1; cases h1
        · exact h2
      refine ⟨?_, by omega⟩
      rcases Nat.lt_or_ge k j with h2 | h2
      · have hp := hF.last j oj (by omega) hoj (fun i => i < k) (fun i o e hi ho he hb => Nat.lt_trans (hF.early i o e ho he hb) hi) (fun e he hb => by
          rcases Nat.lt_or_ge e.on k with h3 | h3
          · exact h3
          · have h4 := hall e he hb
            have h5 : e.on < ops.size := by have := hF.early j oj e hoj he hb; omega
            have h6 := hun e.on h3 h5
            rw [getD_true (by omega)] at h6
            rw [h6] at h4; cases h4) k h2
        omega
      · omega
    rcases Nat.lt_or_ge k ops.size with hlt | hge
    · have hok : ops[k]? = some ops[k] := Array.getElem?_eq_getElem hlt
      have hkr : k ∈ Region.ready md ops listed := mem_ready.2 ⟨hun k (Nat.le_refl _) hlt, ops[k], hok, fun e he hb => by
        have h1 := hF.early k _ e hok he hb
        have := hdo e.on h1
        rwa [getD_true (by omega)] at this⟩
      refine ⟨fun h0 => (by rw [h0] at hkr; cases hkr), fun j hj => ?_⟩
      obtain ⟨rfl, _⟩ := only j hj
      have hd : ops.toList.drop j = ops[j] :: ops.toList.drop (j + 1) := by
        rw [List.drop_eq_getElem_cons (by simpa using hlt)]
        simp
      rw [hd] at h
      have hun' := hun j (Nat.le_refl _) hlt
      have hc := left_set hun' ops.size hlt
      have nxt : ∀ a w, wpListIn Fence.wide n P ops Q' (ops.toList.drop (j + 1)) a w → wpAnyIn Fence.wide n P md ops Q' fuel (listed.setIfInBounds j true) a w := fun a w hw =>
        ih (j + 1) (listed.setIfInBounds j true) a w (by omega) (by omega) (by simpa using hsz) (by omega)
          (fun i hi => by
            by_cases e : i = j
            · subst e; simp [hsz, hlt]
            · have := hdo i (by omega)
              simpa [Array.getElem?_setIfInBounds_ne (show j ≠ i by omega)] using this)
          (fun i h1 h2 => by
            have := hun i (by omega) h2
            simpa [Array.getElem?_setIfInBounds_ne (show j ≠ i by omega)] using this) hw
      refine wpOpIn_mono nxt ?_
      unfold wpOpIn
      simp only [hok]
      exact h
    · refine ⟨fun _ => ?_, fun j hj => by have := (only j hj).2; omega⟩
      rw [List.drop_eq_nil_of_le (by simpa using hge)] at h
      exact h


theorem mainIn {m : Nat} (hF : Fits md ops V m) (hS : Stable V) (hC : Closed C) (hQ : Anti Q) {Q' : Exit → Act → World → Prop} (hend : ∀ a F w, Q a F → C w → F w → wpListIn Fence.wide n P ops Q' (ops.toList.drop m) a w) :
    ∀ (fuel : Nat) (listed : Array Bool) (a : Act) (F : World → Prop) (w : World), listed.size = ops.size → left listed ops.size ≤ fuel →
      (∀ i o e, listed.getD i false = true → ops[i]? = some o → e ∈ o.after → Region.binds md e = true → listed.getD e.on false = true) →
      (∀ i, m ≤ i → i < ops.size → listed.getD i true = false) → C w → F w → (∀ W W', F W → Below W.heap.size W W' → F W') → Inv ops V (fun i => i < m ∧ listed.getD i true = true) a w →
      walk P ops C V Q (fun i => listed.getD i true) 0 (ops.toList.take m) a F → wpAnyIn Fence.wide n P md ops Q' fuel listed a w := by
  intro fuel
  induction fuel with
  | zero =>
    intro listed a F w hsz hle hdown htail hw hFw hFs hI hwalk
    have hm : m = ops.size := by
      have hf := hF.few
      rcases Nat.lt_or_ge m ops.size with h1 | h1
      · have := left_zero (listed := listed) ops.size (by omega) m h1
        rw [htail m (Nat.le_refl _) h1] at this; cases this
      · omega
    have hq := walk_all (m := m) _ _ _ _ (fun i _ hi => left_zero (listed := listed) ops.size (by omega) i (by simp at hi; omega)) hwalk
    exact tail_anyIn (n := n) hF 0 m listed a w (Nat.le_refl _) hF.few hsz hle (fun i hi => left_zero (listed := listed) ops.size (by omega) i (by omega)) htail (hend a F w hq hw hFw)
  | succ fuel ih =>
    intro listed a F w hsz hle hdown htail hw hFw hFs hI hwalk
    have hf := hF.few
    by_cases hall : ∀ i, i < m → listed.getD i true = true
    · have hq := walk_all (m := m) _ _ _ _ (fun i _ hi => hall i (by simp at hi; omega)) hwalk
      exact tail_anyIn (n := n) hF (fuel + 1) m listed a w (Nat.le_refl _) hf hsz hle hall htail (hend a F w hq hw hFw)
    · have hmin : ∃ i, i < m ∧ listed.getD i true = false ∧ ∀ j, j < i → listed.getD j true = true := by
        have key : ∀ n, (∀ j, j < n → listed.getD j true = true) ∨ ∃ i, i < n ∧ listed.getD i true = false ∧ ∀ j, j < i → listed.getD j true = true := by
          intro n
          induction n with
          | zero => exact .inl fun j hj => by omega
          | succ n ihn =>
            rcases ihn with h1 | ⟨i, h1, h2, h3⟩
            · by_cases hn : listed.getD n true = true
              · exact .inl fun j hj => by
                  rcases Nat.lt_succ_iff_lt_or_eq.1 hj with h | h
                  · exact h1 j h
                  · rw [h]; exact hn
              · exact .inr ⟨n, by omega, by simpa using hn, h1⟩
            · exact .inr ⟨i, by omega, h2, h3⟩
        rcases key m with h | h
        · exact absurd h hall
        · exact h
      obtain ⟨i0, hi0, hi0u, hi0d⟩ := hmin
      have h0r : i0 ∈ Region.ready md ops listed := mem_ready.2 ⟨hi0u, ops[i0]'(by omega), Array.getElem?_eq_getElem _, fun e he hb => by
        have h1 := hF.early i0 _ e (Array.getElem?_eq_getElem (by omega)) he hb
        have := hi0d e.on h1
        rwa [getD_true (by omega)] at this⟩
      refine ⟨fun h0 => (by rw [h0] at h0r; cases h0r), fun j hj => ?_⟩
      obtain ⟨hju, oj, hoj, hjall⟩ := mem_ready.1 hj
      have hjs := (Array.getElem?_eq_some_iff.1 hoj).1
      have hjm : j < m := by
        rcases Nat.lt_or_ge j m with h1 | h1
        · exact h1
        · have := hF.last j oj h1 hoj (fun i => listed.getD i false = true) hdown hjall i0 (by omega)
          rw [getD_true (by omega)] at hi0u
          rw [hi0u] at this; cases this
      have hap : ∀ i oi, 0 ≤ i → i < j → (fun i => listed.getD i true) i = false → ops[i]? = some oi → oi.apart ops oj = true := fun i oi _ hij hun hoi => by
        rcases hF.apart i j oi oj hij hjm hoi hoj with ⟨e, he, hb, rfl⟩ | h
        · have := hjall e he hb
          simp only at hun
          rw [getD_true (by omega)] at hun
          rw [hun] at this; cases this
        · exact h
      have hl : ∀ t o, (ops.toList.take m)[t]? = some o → ops[0 + t]? = some o := fun t o ht => by
        rw [List.getElem?_take] at ht
        split at ht
        · simpa using ht
        · cases ht
      have hlen : (ops.toList.take m).length = m := by simp; omega
      have hI' : Inv ops V (fun i => i < 0 ∨ (fun i => listed.getD i true) i = true ∧ i < m) a w := hI.mono fun i hi => hi.elim (fun h => by omega) (fun h => ⟨h.2, h.1⟩)
      have hsays : says P ops C V j oj a := reach hF.sel hF.distinct hS hC hjm hoj hju _ 0 a F w hl (Nat.zero_le _) (by omega) hap hw
        (fun i oi Vi d hd hoi hVi hdst => by
          rcases hd with h | h
          · omega
          · rcases Nat.lt_or_ge i m with h1 | h1
            · exact hI i oi Vi d ⟨h1, h⟩ hoi hVi hdst
            · have := htail i h1 (Array.getElem?_eq_some_iff.1 hoi).1
              have h' : listed.getD i true = true := h
              rw [this] at h'; cases h') hwalk
      -- what follows once j has come to u, in w', X holding there
      have nxt : ∀ (u : Value) (X : World → Prop) (w' : World), came P ops C V j oj a u X → Below w.heap.size w w' → X w' → (∀ W W', X W → Below W.heap.size W W' → X W') → (∀ Vj, V j = some Vj → u = undef ∨ Vj u w') → F w' →
          wpAnyIn Fence.wide n P md ops Q' fuel (listed.setIfInBounds j true) (a.put oj.dst u) w' := fun u X w' hcame hb hX hXs hv hFw' => by
        have hw' := hC _ _ hw hb
        have hwk := take hF.sel hQ hw hoj hju (X := X) _ 0 a F hl (Nat.zero_le _) (by omega) hap hcame hwalk
        have hc := left_set hju ops.size hjs
        have hset : ∀ i, i ≠ j → ∀ b, (listed.setIfInBounds j true).getD i b = listed.getD i b := fun i hi b => by simp [Array.getElem?_setIfInBounds_ne (Ne.symm hi)]
        have hsetj : ∀ b, (listed.setIfInBounds j true).getD j b = true := fun b => by simp [hsz, hjs]
        refine ih _ _ (fun W => F W ∧ X W) w' (by simpa using hsz) (by omega) ?_ ?_ hw' ⟨hFw', hX⟩ (fun W W' h hb => ⟨hFs _ _ h.1 hb, hXs _ _ h.2 hb⟩) ?_ ?_
        · intro i o e hi ho he hbd
          have hon : listed.getD e.on false = true := by
            by_cases hij : i = j
            · subst hij
              rw [hoj] at ho; obtain rfl := Option.some.inj ho
              exact hjall e he hbd
            · rw [hset i hij] at hi
              exact hdown i o e hi ho he hbd
          by_cases hej : e.on = j
          · rw [hej]; exact hsetj _
          · rw [hset _ hej]; exact hon
        · intro i h1 h2
          rw [hset i (by omega)]
          exact htail i h1 h2
        · refine (Inv.step hF.distinct hS hjm hI hoj hb hv).mono fun i hi => ?_
          by_cases hij : i = j
          · exact .inr hij
          · rw [hset i hij] at hi; exact .inl hi
        · refine walk_congr _ 0 _ _ (fun i _ _ => ?_) hwk
          by_cases hij : i = j
          · subst hij; simp [hsz, hjs]
          · simp [hij, Array.getElem?_setIfInBounds_ne (Ne.symm hij)]
      unfold wpOpIn
      simp only [hoj]
      by_cases hwn : Region.wanted oj (yielded ops a.tmps) = true
      · rw [if_pos hwn]
        have hs := hsays hwn
        cases hV : V j with
        | none =>
          rw [hV] at hs
          obtain ⟨u, hu⟩ := hs
          exact wpIn_of_val (hu w hw) (nxt u (fun _ => True) w (.inr (.inl ⟨hwn, hV, hu⟩)) (Below.refl _ _) trivial (fun _ _ _ _ => trivial) (fun Vj e => by rw [hV] at e; cases e) hFw)
        | some Vj =>
          rw [hV] at hs
          have hfacts : Facts ops V j oj a w := fun i oi Vi d hij hoi hVi hdst hlk => by
            by_cases hun : listed.getD i true = true
            · exact hI i oi Vi d ⟨by omega, hun⟩ hoi hVi hdst
            · obtain ⟨h1, _, _⟩ := Oper.apart_spec (hap i oi (Nat.zero_le _) hij (by simpa using hun) hoi)
              exact absurd hlk (h1 d hdst)
          exact wpIn_of_loose (hs w hw hfacts) fun u w' hb hu =>
            nxt u (fun W => Vj u W) w' (.inr (.inr ⟨hwn, Vj, hV, ⟨w', hC _ _ hw hb, hu⟩, fun _ h => h⟩)) hb hu (fun W W' h hb => hS j Vj hV _ _ _ h hb) (fun Vj' e => by rw [hV] at e; cases e; exact .inr hu) (hFs _ _ hFw hb)
      · rw [if_neg hwn]
        exact ⟨fun _ _ => trivial, nxt undef (fun _ => True) w (.inl ⟨by simpa using hwn, rfl⟩) (Below.refl _ _) trivial (fun _ _ _ _ => trivial) (fun _ _ => .inl rfl) hFw⟩


end
section
variable {P : Program} {n : Nat}
theorem wpIn_region_later {id : Nat} {l : List Oper} {Q' : Exit → Act → World → Prop} {a : Act} {w : World} (Vs : List (Nat × Pred)) (m : Nat) (hm : P.follows .mixedOrders = true) (hB : fits .any l.toArray m (Vs.map (·.1)) = true)
    (h : walk P l.toArray (From w) (at_ Vs) (fun a' F => ∀ W, Below w.heap.size w W → F W → wpListIn Fence.wide n P l.toArray Q' (l.drop m) a' W) (fun _ => false) 0 (l.take m) a (fun _ => True)) :
    (Code.region id l.toArray true).wpIn Fence.wide n P Q' a w := by
  refine wpIn_region_any hm ?_
  refine mainIn (n := n) (C := From w) (V := at_ Vs) (Q := fun a' F => ∀ W, Below w.heap.size w W → F W → wpListIn Fence.wide n P l.toArray Q' (l.drop m) a' W) (Fits.of hB fun i Vi hi => at_mem Vs i Vi hi) (at_stable Vs)
    (fun W W' ⟨x, hx⟩ hb => ⟨⟨W', x.is.trans ((hx ▸ hb).mono x.is.size)⟩, rfl⟩) (fun a' F F' hF hq W hW hF' => hq W hW (hF W hF')) (fun a' F W hq ⟨x, hx⟩ hF => by simpa using hq W (hx ▸ x.is) hF)
    l.toArray.size (Array.replicate l.toArray.size false) a (fun _ => True) { w with drawn := w.drawn + 1 } (by simp) ?_ ?_ ?_ ⟨⟨_, (Below.refl _ _).drew⟩, rfl⟩ trivial (fun _ _ _ _ => trivial) ?_ ?_
  · have : ∀ n, left (Array.replicate l.toArray.size false) n ≤ n := fun n => by
      induction n with
      | zero => exact Nat.le_refl _
      | succ n ih => unfold left; split <;> omega
    exact this _
  · intro i o e hi
    have : (Array.replicate l.toArray.size false).getD i false = false := by simp [Array.getElem?_replicate]; split <;> rfl
    rw [this] at hi; cases hi
  · intro i _ h2
    have h3 : i < l.length := by simpa using h2
    simp [Array.getElem?_replicate, h3]
  · intro i oi Vi d hd hoi
    have h3 : i < l.length := by simpa using (Array.getElem?_eq_some_iff.1 hoi).1
    simp [Array.getElem?_replicate, h3] at hd
  · refine walk_congr _ 0 _ _ (fun i _ hi => ?_) (by simpa using h)
    have h3 : i < l.length := by simp at hi; omega
    simp [Array.getElem?_replicate, h3]

end
end Go.Loose
namespace Go.Proofs.YtnehgpeelgjjhaaGreatDoor.Tw
open Go.RowKit Go.Shelf
attribute [local go_sem] Oper.semAt_some
attribute [local irreducible] enc1
/-- the header of the empty graph's page -/
def hdr : ByteArray := enc1 0 ++ ⟨#[]⟩ ++ enc1 0
set_option maxRecDepth 100000 in
set_option maxHeartbeats 1000000 in
/-- the iterator over the pages of the empty graph: one round -/
theorem entries_iter (n : Nat) (hn : 1 ≤ n) (l g n₀ p : Nat) (J Jx : List Unit → World → Prop)
    (hJ : ∀ s (A B : World), J s A → A.grownBy B none → J s B)
    (hY : ∀ pre (x : Unit) W, J pre W → pre.length < 1 → YieldAt Fence.wide (n - 1) Tryz.prog l #[.agg #[.int .i64 63, .string hdr]] W fun e W' =>
      (e = .returned (.bool true) ∧ J (pre ++ [x]) W' ∧ KeepB n₀ p W W') ∨ (e = .returned (.bool false) ∧ Jx (pre ++ [x]) W'))
    (W : World) (hG : Blk W g 79 #[nilS, nilS, nilS]) (h0 : J [] W) :
    CallsIn Fence.wide n Tryz.prog 321 #[.func (.yield l) #[] #[], .pointer (some ⟨g, 0, none⟩)] W fun e W' => (∃ v, e = .returned v) ∧
      ((∃ ys, ys = [()] ∧ J ys W') ∨ (∃ pre, True ∧ Jx pre W')) := by
  have HG := Lib.hid hG
  have hs : Hid (hdr.size = 2) := Lib.hid (by unfold hdr; simp only [ByteArray.size_append, enc1_size]; rfl)
  obtain ⟨g1, g2, g3⟩ := hG.three
  have z1 : ¬ 9223372036854775807 < (enc1 0).size := by rw [enc1_size]; omega
  have z2 : ¬ 9223372036854775807 < (enc1 0).size + (enc1 0).size := by rw [enc1_size]; omega
  clear hG
  have L1 := Later.of g3
  refine callsIn_of_wp Tryz.func321 rfl trivial ?_ rfl
  simp only [Tryz.ntmps321, List.size_toArray, List.length_cons, List.length_nil, Nat.reduceAdd, Nat.reduceSub, Array.replicate_succ, Array.replicate_zero, List.push_toArray, List.append_toArray, List.nil_append, List.cons_append]
  refine wpIn_wide.2 ?_
  go_wp2_with fail
  refine wp_loop_rounds 1 ?_
  rw [rounds_succ]
  go_wp2_with fail
  refine wp_loop_rounds 1 ?_
  rw [rounds_succ]
  go_wp2_with fail
  refine (wpIn_wide (n := n)).1 ?_
  refine Loose.wpIn_region_later [(4, .row W.heap.size 3 1 #[.int .i64 0]), (5, .is (.string (enc1 0))), (8, .is (.string ⟨#[]⟩)), (11, .row W.heap.size 3 1 #[.int .i64 0]), (12, .is (.string (enc1 0)))] 15 (by kernel_rfl) (by kernel_rfl) ?_
  (simp only [List.take_succ_cons, List.take_zero, List.drop_succ_cons, List.drop_zero])
  (repeat (first | refine Loose.walk_skip rfl ?_ | (refine Loose.walk_plain rfl rfl rfl (fun K hK => ?_); go_big_quiet_op; refine hK _ ?_; clear hK K)))
  refine Loose.walk_loose rfl rfl (fun W' hW' _ => Loose.loose_val (u := .slice (some ⟨W'.heap.size, 0, none⟩) 1 1) (W' := W'.alloc (.cells #[.int .i64 0] 3)) (by kernel_rfl) ((Below.refl _ _).alloc (Nat.le_refl _) _) ⟨_, rfl, hW'.size, Blk.new _ _ _⟩) ?_
  rintro _ _ _ ⟨x, rfl, hx, _⟩
  (simp only [Act.put, List.setIfInBounds_toArray, List.set_cons_succ, List.set_cons_zero])
  (repeat (first | refine Loose.walk_skip rfl ?_ | (refine Loose.walk_plain rfl rfl rfl (fun K hK => ?_); go_big_quiet_op; refine hK _ ?_; clear hK K)))
  refine Loose.walk_loose rfl rfl (fun W' hW' hF => Loose.loose_call (f := 323) (args := #[.slice (some ⟨x, 0, none⟩) 1 1]) (by kernel_rfl) ((ints1 W' x 1 0 (by omega) ((Loose.Pred.row_at (hF.get 4 (by decide) rfl rfl rfl (by decide) (by intro h; cases h))).2.cell 0)).mono fun e w' ⟨he, hb⟩ => ⟨_, he, hb, rfl⟩)) ?_
  rintro _ _ _ rfl
  (simp only [Act.put, List.setIfInBounds_toArray, List.set_cons_succ, List.set_cons_zero])
  (repeat (first | refine Loose.walk_skip rfl ?_ | (refine Loose.walk_plain rfl rfl rfl (fun K hK => ?_); go_big_quiet_op; refine hK _ ?_; clear hK K)))
  refine Loose.walk_loose rfl rfl (fun W' hW' hF => Loose.loose_call (f := 323) (args := #[.slice none 0 0]) (by kernel_rfl) ((ints0 W').mono fun e w' ⟨he, hb⟩ => ⟨_, he, hb, rfl⟩)) ?_
  rintro _ _ _ rfl
  (simp only [Act.put, List.setIfInBounds_toArray, List.set_cons_succ, List.set_cons_zero])
  (repeat (first | refine Loose.walk_skip rfl ?_ | (refine Loose.walk_plain rfl rfl rfl (fun K hK => ?_); go_big_quiet_op; refine hK _ ?_; clear hK K)))
  refine Loose.walk_loose rfl rfl (fun W' hW' _ => Loose.loose_val (u := .slice (some ⟨W'.heap.size, 0, none⟩) 1 1) (W' := W'.alloc (.cells #[.int .i64 0] 3)) (by kernel_rfl) ((Below.refl _ _).alloc (Nat.le_refl _) _) ⟨_, rfl, hW'.size, Blk.new _ _ _⟩) ?_
  rintro _ _ _ ⟨y, rfl, hy, _⟩
  (simp only [Act.put, List.setIfInBounds_toArray, List.set_cons_succ, List.set_cons_zero])
  (repeat (first | refine Loose.walk_skip rfl ?_ | (refine Loose.walk_plain rfl rfl rfl (fun K hK => ?_); go_big_quiet_op; refine hK _ ?_; clear hK K)))
  refine Loose.walk_loose rfl rfl (fun W' hW' hF => Loose.loose_call (f := 323) (args := #[.slice (some ⟨y, 0, none⟩) 1 1]) (by kernel_rfl) ((ints1 W' y 1 0 (by omega) ((Loose.Pred.row_at (hF.get 11 (by decide) rfl rfl rfl (by decide) (by intro h; cases h))).2.cell 0)).mono fun e w' ⟨he, hb⟩ => ⟨_, he, hb, rfl⟩)) ?_
  rintro _ _ _ rfl
  (simp only [Act.put, List.setIfInBounds_toArray, List.set_cons_succ, List.set_cons_zero])
  (repeat (first | refine Loose.walk_skip rfl ?_ | (refine Loose.walk_plain rfl rfl rfl (fun K hK => ?_); go_big_quiet_op; refine hK _ ?_; clear hK K)))
  refine Loose.walk_nil ?_
  rintro U hU -
  have hJU := hJ _ _ _ h0 (grown_below hU none)
  obtain ⟨fn, tmps, assign, body, hy, hR⟩ := hY [] () U hJU (by simp)
  unfold hdr at hy
  clear hY h0 hJU hJ L1 hs
  gi_wp2
  refine hR.mono ?_
  rintro e W3 (⟨rfl, hJ3, hk3⟩ | ⟨rfl, hJx3⟩)
  · gi_wp2
    first | go_end0 | refine bodyPost_ret (results_none rfl _ _ _) rfl ?_
    exact ⟨⟨_, rfl⟩, .inl ⟨[()], rfl, hJ3⟩⟩
  · gi_wp2
    first | go_end0 | refine bodyPost_ret (results_none rfl _ _ _) rfl ?_
    exact ⟨⟨_, rfl⟩, .inr ⟨_, trivial, hJx3⟩⟩
theorem entries_stops (n : Nat) (hn : 1 ≤ n) (g n₀ p : Nat) (w : World) (hG : Blk w g 79 #[nilS, nilS, nilS]) :
    SeqStopsK Fence.wide n Tryz.prog 321 #[.pointer (some ⟨g, 0, none⟩)] (fun _ : Unit => #[.agg #[.int .i64 63, .string hdr]]) (KeepB n₀ p) (fun ys => ys = [()]) (fun _ => True) 1 w :=
  fun l J Jx W hW hJ _ hY h0 => entries_iter n hn l g n₀ p J Jx (fun s A B hs hg => hJ s A B none hs hg (fun r e => by cases e)) hY W (hG.below hW hG.lt) h0
end Go.Proofs.YtnehgpeelgjjhaaGreatDoor.Tw
namespace Go.Proofs.YtnehgpeelgjjhaaGreatDoor.Tw
open Go.RowKit Go.Shelf
attribute [local go_sem] Oper.semAt_some
theorem hdr_size : hdr.size = 2 := by unfold hdr; simp only [ByteArray.size_append, enc1_size]; rfl
theorem hdr_some : hdr.toList.isEmpty = false := by
  cases h : hdr.toList with
  | nil =>
    have e := (Go.toList_nil_iff_emptyBytes hdr).1 h
    have := hdr_size
    rw [e] at this
    cases this
  | cons a l => rfl
attribute [local irreducible] enc1 hdr
set_option maxRecDepth 100000 in
theorem entriesOf (w : World) : Calls Tryz.prog 253 #[g0] w fun e w' => ∃ b, e = .returned (.func (.func 321) #[] #[.pointer (some ⟨b, 0, none⟩)]) ∧ Blk w' b 79 #[nilS, nilS, nilS] ∧ Below w.heap.size w w' := by
  go_enter Tryz.func253, Tryz.ntmps253
  go_wp2
  go_ret
  exact ⟨_, rfl, Blk.new w 79 _, (Below.refl _ _).alloc (Nat.le_refl _) _⟩
theorem info376 : (Tryz.prog.info? 376).map (fun i => (i.size, i.bytes, i.zero)) = some (2, 24, some (.agg #[.int .i64 0, .string ⟨#[]⟩])) := by kernel_rfl
theorem But.kept' {w w' : World} (h : But w.heap.size w w') (B : Nat) : KeepsFrom B w w' := ⟨h.size, fun k o _ hk _ => (h.block k (Array.getElem?_eq_some_iff.1 hk).1 (by have := (Array.getElem?_eq_some_iff.1 hk).1; omega)).trans hk⟩
theorem But.kept {p : Nat} {w w' : World} (h : But p w w') {t : TypeId} {cs : Array Value} (hp : Blk w p t cs) (B : Nat) : KeepsFrom B w w' := (KeepsOthers.of_but h hp).from B
theorem But.below {p B : Nat} {a w w' : World} (h : But p w w') (ha : Below B a w) (hp : B ≤ p) (hB : B ≤ a.heap.size) : Below B a w' :=
  ⟨h.os.trans ha.os, h.tape.trans ha.tape, h.output.trans ha.output, Nat.le_trans ha.size h.size, fun k hk => (h.block k (by have := ha.size; omega) (by omega)).trans (ha.block k hk)⟩
theorem But.alloc {p : Nat} {w w' : World} (h : But p w w') (o : Obj) : But p w (w'.alloc o) := h.trans (.of_below ((Below.refl _ _).alloc (Nat.le_refl _) o))
theorem blk_own {β : Type} (B g : Nat) (t : TypeId) (cs : Array Value) : OwnFrom B (fun (_ : β) W => Blk W g t cs) := fun _ A C row h hg hr =>
  (hg.block g h.lt (fun e => by obtain ⟨_, o, ho, hc⟩ := hr g e.symm; rw [h.heap] at ho; cases ho; cases hc)).trans h
theorem cell_own {A C : World} {row : Option Nat} {g i : Nat} {v : Value} (h : A.cell? ⟨g, i, none⟩ = some v) (hg : A.grownBy C row) (hr : ∀ r, row = some r → ∃ o : Obj, A.heap[r]? = some o ∧ o.isCells = false) : C.cell? ⟨g, i, none⟩ = some v := by
  refine (World.cell?_of_block (hg.block g (lt_of_cell h) fun e => ?_)).trans h
  obtain ⟨o, ho, hc⟩ := hr g e.symm
  unfold World.cell? at h
  simp only [ho] at h
  cases o <;> simp_all [Obj.isCells]
def EI (w w4 : World) (p : Nat) (pre : List Unit) (W : World) : Prop :=
  (if pre.length = 0 then Blk W p 300 #[.slice none 0 0] else ∃ g cap, Blk W p 300 #[.slice (some ⟨g, 0, none⟩) 1 cap] ∧ W.cell? ⟨g, 0, none⟩ = some (.int .i64 63) ∧ W.cell? ⟨g, 1, none⟩ = some (.string hdr)) ∧ KeepB w4.heap.size p w4 W ∧ Below w.heap.size w W
theorem EI.own {w w4 : World} {p : Nat} (hw : w.heap.size ≤ w4.heap.size) : OwnFrom w4.heap.size (EI w w4 p) := by
  rintro s A B row ⟨h1, h2, h3⟩ hg hr
  refine ⟨?_, h2.grown hg (fun r e => (hr r e).1) (Nat.le_refl _), ?_⟩
  · split at h1
    · rename_i hs
      rw [if_pos hs]
      exact blk_own w4.heap.size _ _ _ () A B row h1 hg hr
    · rename_i hs
      rw [if_neg hs]
      obtain ⟨g, cap, h4, h5, h6⟩ := h1
      exact ⟨g, cap, blk_own w4.heap.size _ _ _ () A B row h4 hg hr, cell_own h5 hg (fun r e => (hr r e).2), cell_own h6 hg (fun r e => (hr r e).2)⟩
  · refine ⟨hg.os.trans h3.os, hg.tape.trans h3.tape, hg.output.trans h3.output, Nat.le_trans h3.size hg.size, fun k hk => ?_⟩
    have hnk : some k ≠ row := fun e => by have := (hr k e.symm).1; omega
    exact (hg.block k (Nat.lt_of_lt_of_le hk h3.size) hnk).trans (h3.block k hk)
set_option maxRecDepth 100000 in
set_option maxHeartbeats 1000000 in
/-- page.Entries of the empty graph -/
theorem pageEntries0 (w : World) : Calls Tryz.prog 199 #[g0] w fun e w' => (∃ g c, e = .returned (.tuple #[.slice (some ⟨g, 0, none⟩) 1 c, .int .i64 0]) ∧ w'.cell? ⟨g, 0, none⟩ = some (.int .i64 63) ∧ w'.cell? ⟨g, 1, none⟩ = some (.string hdr)) ∧ Below w.heap.size w w' := by
  refine calls_of_marks Tryz.func199 rfl ?_
  simp only [Tryz.ntmps199, List.size_toArray, List.length_cons, List.length_nil, Nat.reduceAdd, Nat.reduceSub, Array.replicate_succ, Array.replicate_zero, List.push_toArray, List.append_toArray, List.nil_append, List.cons_append]
  go_wp2_with fail
  refine (valid0 _).mono ?_
  rintro e w1 ⟨rfl, h1⟩
  have hG := (Blk.new w 79 #[nilS, nilS, nilS]).below h1 (by simp)
  have hW1 := ((Below.refl w.heap.size w).alloc (Nat.le_refl _) (.cells #[nilS, nilS, nilS] 79)).trans (h1.mono (by simp))
  have hs1 := h1.size
  simp only [World.size_alloc] at hs1
  obtain ⟨c1, c2, c3⟩ := (hG.alloc (.cells #[.slice none 0 0] 300)).three
  clear h1
  go_wp2_with fail
  refine (entriesOf _).mono ?_
  rintro e w4 ⟨b1, rfl, hb1, h4⟩
  go_wp2_with fail
  have hz4 := h4.size
  simp only [World.size_alloc] at hz4 h4
  have HP : Hid (Blk w4 w1.heap.size 300 #[.slice none 0 0]) := Lib.hid ((Blk.new w1 300 #[.slice none 0 0]).below h4 (by simp))
  have HW4 : Hid (Below w.heap.size w w4) := Lib.hid ((hW1.alloc (by omega) (.cells #[.slice none 0 0] 300)).trans (h4.mono (by omega)))
  have HB := Lib.hid hb1
  clear hb1 h4 hW1 hG c1 c2 c3
  refine with_act ?_
  intro b hb
  refine wpIn_wide (n := 9).1 ?_
  refine wpIn_rangeFunc_ownH (α := Unit) (F := Fence.wide) rfl (by omega) (gf := 321) (lb := #[.pointer (some ⟨b1, 0, none⟩)]) (by rw [hb]; rfl) trivial (enters_of Tryz.func321 (by kernel_rfl) rfl)
    (entries_stops 8 (by omega) b1 w4.heap.size w1.heap.size w4 HB.out) (fun h k => h.trans k) (fun W l o o' hl _ _ _ => KeepB.putObj hl o') (Below.refl _ _) (fun _ => rfl)
    (EI w w4 w1.heap.size)
    (fun _ _ _ => False)
    (EI.own HW4.out.size)
    (fun _ _ _ _ _ hs _ _ => hs) ⟨by simpa using HP.out, KeepB.refl _ _ _, HW4.out⟩
    (fun _ a' W => ∃ g5, a' = { tmps := (b.tmps.setIfInBounds 11 (.agg #[.int .i64 63, .string hdr])).setIfInBounds 5 (.pointer (some ⟨g5, 0, none⟩)), defers := [] } ∧ w4.heap.size ≤ g5 ∧ Blk W g5 376 #[.int .i64 63, .string hdr]) ?ownA ?assign ?body ?done ?stop
  case ownA =>
    rintro x a' _ A B row ⟨g5, h1, h2, h3⟩ hg hr
    exact ⟨g5, h1, h2, blk_own w4.heap.size g5 376 _ () A B row h3 hg hr⟩
  case assign =>
    subst hb
    rintro l pre x W K hI hK
    simp only [List.setIfInBounds_toArray, List.set_cons_succ, List.set_cons_zero] at hK
    gi_wp2
    have hbw : Below W.heap.size W (W.alloc (.cells #[.int .i64 63, .string hdr] 376)) := (Below.refl _ _).alloc (Nat.le_refl _) _
    exact hK _ _ ((But.of_below (p := W.heap.size) hbw).kept' _) (KeepB.of_below hbw hI.2.1.1) ((EI.own HW4.out.size).alloc _ hI) ⟨W.heap.size, rfl, hI.2.1.1, Blk.new _ _ _⟩
  case body =>
    subst hb
    rintro l pre x a' W _ _ ⟨hI1, hI2, hI3⟩ ⟨g5, rfl, hg5, hA⟩ hlen
    have hp0 : pre.length = 0 := by omega
    simp only [hp0, if_true] at hI1
    simp only [List.setIfInBounds_toArray, List.set_cons_succ, List.set_cons_zero]
    have cv := hI1.cell 0
    have ca := hA.cell 0
    have ca1 := hA.cell 1
    have hk0 := (Blk.new W 376 #[.int .i64 63, .string hdr])
    have hzb : w1.heap.size + 1 ≤ (W.alloc (.cells #[.int .i64 63, .string hdr] 376)).heap.size := by have := hI2.1; simp; omega
    have HI1 := Lib.hid (hI1.alloc (.cells #[.int .i64 63, .string hdr] 376))
    obtain ⟨i0, hi, hz0, hz1, hz2⟩ : ∃ i, Tryz.prog.info? 376 = some i ∧ i.zero = some (.agg #[.int .i64 0, .string ⟨#[]⟩]) ∧ i.size = 2 ∧ i.bytes = 24 := by
      have h := info376
      cases hi : Tryz.prog.info? 376 with
      | none => rw [hi] at h; cases h
      | some i =>
        rw [hi] at h
        simp only [Option.map_some, Option.some.injEq, Prod.mk.injEq] at h
        exact ⟨i, rfl, h.2.2, h.1, h.2.1⟩
    gi_wp2_with (first
      | (gi_at_builtin; refine wpListIn_append_own _ rfl _ _ 300 rfl (w1.heap.size + 1) 376 i0 (.agg #[.int .i64 0, .string ⟨#[]⟩]) 2 24 Tryz.underlying300 hi hz0 hz1 hz2 rfl (by decide) _ _ _ rfl (World.ownsRow_nil _ _ _ _) ⟨W.heap.size, 0, none⟩ 1 1 [.int .i64 63, .string hdr] rfl rfl ?c1 ?c2 (by decide) (by decide) hzb ?_)
      | gi_in)
    case c1 =>
      intro j u hj
      match j, hj with
      | 0, hj => simp at hj; subst hj; exact hk0.cell 0
      | 1, hj => simp at hj; subst hj; exact hk0.cell 1
    case c2 =>
      intro u hu
      simp only [List.mem_cons, List.not_mem_nil, or_false] at hu
      rcases hu with rfl | rfl <;> rfl
    intro v2 w2 hown hg2 hne
    have hown' := hown
    obtain ⟨_, h | ⟨g2, cap, cur, rfl, hb2, hh, hcap, _⟩⟩ := hown
    · exact absurd h.2 (by decide)
    have d0 := hown'.cellAt 0 (by decide)
    have d1 := hown'.cellAt 1 (by decide)
    have HI2 := Lib.hid (HI1.out.grown hg2 (fun r e => by cases e))
    have cv2 := HI2.out.cell 0
    have fz2 := HI2.out.frozen 0
    have hz2 := hg2.size
    simp only [World.size_alloc] at hz2
    have hBut : But w1.heap.size W w2 := ⟨hg2.os, hg2.tape, hg2.output, by omega, fun k hk _ => (hg2.block k (by simp; omega) (fun e => by cases e)).trans (heap_alloc_old W _ hk)⟩
    have hBB := Lib.hid (hBut.setCell 0 (.slice (some ⟨g2, 0, none⟩) 1 cap))
    have HS := Lib.hid (HI2.out.set_ 0 (.slice (some ⟨g2, 0, none⟩) 1 cap))
    have D0 := Lib.hid ((World.cell?_setCell_other w2 ⟨w1.heap.size, 0, none⟩ ⟨g2, 0, none⟩ (.slice (some ⟨g2, 0, none⟩) 1 cap) (by simp; try omega)).trans d0)
    have D1 := Lib.hid ((World.cell?_setCell_other w2 ⟨w1.heap.size, 0, none⟩ ⟨g2, 1, none⟩ (.slice (some ⟨g2, 0, none⟩) 1 cap) (by simp; try omega)).trans d1)
    clear hown' hh d0 d1 hg2 hne hBut cv
    gi_wp2
    have hne : ¬ (pre ++ [x]).length = 0 := by simp
    refine ⟨hBB.out.kept hI1 _, KeepB.of_but hBB.out hI2.1, ?_, hI2.trans (KeepB.of_but hBB.out hI2.1), hBB.out.below hI3 (by omega) (Nat.le_refl _)⟩
    rw [if_neg hne]
    exact ⟨g2, cap, HS.out, D0.out, D1.out⟩
  case done =>
    subst hb
    rintro D xs W hD rfl ⟨hI1, hI2, hI3⟩ hK
    simp only [List.length_cons, List.length_nil, Nat.zero_add, Nat.one_ne_zero, if_false] at hI1
    obtain ⟨g, cap, hv1, cx, cy⟩ := hI1
    have cv := hv1.cell 0
    go_wp2_with fail
    refine leaves_mark hK (results_tmp2 rfl _ _ _) ⟨⟨g, cap, rfl, ?_, ?_⟩, below_putObj hI3 (by have := hI2.1; have := HW4.out.size; omega) _⟩
    · exact cell_own cx (grownBy_putObj' W D _) (fun r e => by cases e; exact ⟨_, hK, rfl⟩)
    · exact cell_own cy (grownBy_putObj' W D _) (fun r e => by cases e; exact ⟨_, hK, rfl⟩)
  case stop => intro D c' pre W _ _ h; exact h.elim
set_option maxRecDepth 100000 in
/-- page.Root of the empty graph -/
theorem pageRoot0 (w : World) (tab : Array Value) (hT : Tab w tab) : Calls Tryz.prog 143 #[g0] w fun e w' => e = .returned (.tuple #[.string (rootF tab [(63, hdr)]), .int .i64 0]) ∧ Below w.heap.size w w' := by
  have HT := Lib.hid hT
  have ht0 := hT.1.lt
  clear hT
  go_enter Tryz.func143, Tryz.ntmps143
  go_wp2_with fail
  refine (pageEntries0 _).mono ?_
  rintro e w1 ⟨⟨g, c, rfl, c1, c2⟩, h1⟩
  have hW1 := ((Below.refl w.heap.size w).alloc (Nat.le_refl _) (.cells #[nilS, nilS, nilS] 79)).trans (h1.mono (by simp))
  have H1 := Lib.hid c1
  have H2 := Lib.hid c2
  have hs1 := hW1.size
  clear h1 c1 c2
  go_wp2_with fail
  refine (sroot1 w1 tab (HT.out.below hW1 ht0) g c 63 hdr (by omega) (by rw [hdr_size]; omega) (by rw [hdr_size]; omega) hdr_some H1.out H2.out).mono ?_
  rintro e w2 ⟨rfl, h2⟩
  go_wp2_with fail
  go_ret2
  exact ⟨rfl, hW1.trans (h2.mono hs1)⟩
end Go.Proofs.YtnehgpeelgjjhaaGreatDoor.Tw
namespace Go.Proofs.YtnehgpeelgjjhaaGreatDoor.Tw
open Go.RowKit Go.Shelf
abbrev cmdZ : Array Value := #[.int .i64 0, .string ⟨#[]⟩, .int .i64 0, .string ⟨#[]⟩, .slice none 0 0, .slice none 0 0]
theorem size149 : (Tryz.prog.info? 149).map (·.size) = some 6 := by kernel_rfl
set_option maxRecDepth 100000 in
theorem whole1 (w : World) (f i o g : Nat) (s : ByteArray) (n : Int) (hF : Blk w f 194 #[.func (.func 118) #[] #[]]) (hI : Blk w i 196 #[.pointer (some ⟨g, 0, none⟩)]) (hG : Blk w g 249 #[.string s, .int .i64 0]) (hs : s.size = 1) (hi : ∀ w, Calls Tryz.prog 214 #[.string s, .int .i64 0] w fun e w' => e = .returned (.tuple #[.int .i64 n, .int .i64 1, .int .i64 0]) ∧ w' = w) :
    Calls Tryz.prog 157 #[.pointer (some ⟨f, 0, none⟩), .pointer (some ⟨i, 0, none⟩), .pointer (some ⟨o, 0, none⟩)] w fun e w' => e = .panicked [{ v := .iface 32 (.int .i64 300), recovered := false }] ∧ But g w w' := by
  have HI := Lib.hid hi
  have c1 := hF.cell 0
  have c2 := hI.cell 0
  clear hi
  go_enter Tryz.func157, Tryz.ntmps157
  go_wp2_with fail
  refine (command1 w g s n hG hs HI.out).mono ?_
  rintro e w1 ⟨rfl, h1⟩
  exact ⟨rfl, rfl, h1⟩
set_option maxRecDepth 100000 in
set_option maxHeartbeats 1000000 in
theorem whole0 (w : World) (s : ByteArray) (n : Int) (hs : s.size = 1) (hi : ∀ w, Calls Tryz.prog 214 #[.string s, .int .i64 0] w fun e w' => e = .returned (.tuple #[.int .i64 n, .int .i64 1, .int .i64 0]) ∧ w' = w) :
    Calls Tryz.prog 117 #[.string s, .func (.func 118) #[] #[]] w fun e w' => e = .returned (.tuple #[.agg cmdZ, .int .i64 300]) ∧ Below w.heap.size w w' := by
  have HI := Lib.hid hi
  clear hi
  obtain ⟨W, hW⟩ : ∃ W, W = (((((w.alloc (.cells #[.func (.func 118) #[] #[]] 194)).alloc (.cells cmdZ 149)).alloc (.cells #[.string s, .int .i64 0] 249)).alloc (.cells #[.pointer (some ⟨w.heap.size + 1 + 1, 0, none⟩)] 196)).alloc (.cells cmdZ 149)).alloc (.cells cmdZ 149) := ⟨_, rfl⟩
  have hF := Lib.hid (show Blk W w.heap.size 194 #[.func (.func 118) #[] #[]] by rw [hW]; exact (((((Blk.new _ _ _).alloc _).alloc _).alloc _).alloc _).alloc _)
  have hR := Lib.hid (show Blk W (w.heap.size + 1) 149 cmdZ by rw [hW]; exact ((((Blk.new' _ 149 cmdZ (by simp)).alloc _).alloc _).alloc _).alloc _)
  have hG := Lib.hid (show Blk W (w.heap.size + 1 + 1) 249 #[.string s, .int .i64 0] by rw [hW]; exact (((Blk.new' _ 249 _ (by simp)).alloc _).alloc _).alloc _)
  have hI := Lib.hid (show Blk W (w.heap.size + 1 + 1 + 1) 196 #[.pointer (some ⟨w.heap.size + 1 + 1, 0, none⟩)] by rw [hW]; exact ((Blk.new' _ 196 _ (by simp)).alloc _).alloc _)
  have hN := Lib.hid (show Blk W (w.heap.size + 1 + 1 + 1 + 1 + 1) 149 cmdZ by rw [hW]; exact Blk.new' _ 149 _ (by simp))
  have hB := Lib.hid (show Below w.heap.size w W by rw [hW]; exact ((((((Below.refl _ w).alloc (Nat.le_refl _) _).alloc (by simp) _).alloc (by simp; omega) _).alloc (by simp; omega) _).alloc (by simp; omega) _).alloc (by simp; omega) _)
  have hz : W.heap.size = w.heap.size + 6 := by rw [hW]; simp
  have HZ := Lib.hid hz
  have hz' : w.heap.size + 6 ≤ W.heap.size := by omega
  have ht := etry_err W 157 #[.pointer (some ⟨w.heap.size, 0, none⟩), .pointer (some ⟨w.heap.size + 1 + 1 + 1, 0, none⟩), .pointer (some ⟨w.heap.size + 1 + 1 + 1 + 1, 0, none⟩)] 300 (fun V => But (w.heap.size + 1 + 1) (W.alloc (.cells #[.bool false] 4)) V) (enters_of Tryz.func157 (by kernel_rfl) rfl)
    (whole1 _ _ _ _ (w.heap.size + 1 + 1) s n (hF.out.alloc _) (hI.out.alloc _) (hG.out.alloc _) hs HI.out) (fun V hV => hV.blk (Blk.new W 4 #[.bool false]) (by omega))
  have HT := Lib.hid ht
  clear ht
  go_enter Tryz.func117, Tryz.ntmps117
  go_wp2_with fail
  rw [← hW]
  clear hW hz
  refine HT.out.mono ?_
  rintro e w1 ⟨rfl, V, hV, rfl⟩
  have hb2 := Lib.hid (((But.of_below (p := w.heap.size + 1 + 1) ((Below.refl W.heap.size W).alloc (Nat.le_refl _) (.cells #[.bool false] 4))).trans hV))
  have hR2 := Lib.hid ((hb2.out.blk hR.out (by omega)).far (p := ⟨W.heap.size, 0, none⟩) (by show w.heap.size + 1 ≠ W.heap.size; omega) (.bool false))
  have hN2 := Lib.hid ((hb2.out.blk hN.out (by omega)).far (p := ⟨W.heap.size, 0, none⟩) (by show w.heap.size + 1 + 1 + 1 + 1 + 1 ≠ W.heap.size; omega) (.bool false))
  have hB2 := Lib.hid ((hb2.out.below hB.out (by omega) (Nat.le_refl _)).setCell (p := ⟨W.heap.size, 0, none⟩) (by show w.heap.size ≤ W.heap.size; omega) (.bool false))
  generalize V.setCell ⟨W.heap.size, 0, none⟩ (.bool false) = U at *
  clear HT hV hb2
  have z1 : (Tryz.prog.info? 149).map (·.size) = some cmdZ.size := size149
  have z3 : cmdZ.all (·.oneCell') = true := by kernel_rfl
  have HS := Lib.hid (hR2.out.setRow_same cmdZ)
  have HW := Lib.hid (below_setRow hB2.out (g := w.heap.size + 1) (by omega) cmdZ)
  go_wp2_with (first
    | (with_reducible refine ldB 149 (.tmp 8) (w.heap.size + 1 + 1 + 1 + 1 + 1) cmdZ hN2 Tryz.underlying149 rfl z1 rfl rfl rfl ?_)
    | (with_reducible refine stB 149 (.tmp 4) (.tmp 24) (w.heap.size + 1) cmdZ _ hR2 z1 (Eq.refl _) z3 rfl rfl rfl rfl ?_))
  exact bodyPost_ret (results_cell2 rfl _ _ (w.heap.size + 1) 149 _ _ rfl HS.out Tryz.underlying149 rfl z1) rfl ⟨rfl, HW.out⟩
set_option maxRecDepth 100000 in
set_option maxHeartbeats 1000000 in
/-- engine.Decode of a one-byte text: an error -/
theorem decode1 (w : World) (s : ByteArray) (n : Int) (hs : s.size = 1) (hi : ∀ w, Calls Tryz.prog 214 #[.string s, .int .i64 0] w fun e w' => e = .returned (.tuple #[.int .i64 n, .int .i64 1, .int .i64 0]) ∧ w' = w) :
    Calls Tryz.prog 95 #[.string s] w fun e w' => e = .returned (.tuple #[.agg cmdZ, .int .i64 300]) ∧ Below w.heap.size w w' := by
  have HI := Lib.hid hi
  clear hi
  go_enter Tryz.func95, Tryz.ntmps95
  go_wp2_with fail
  refine (whole0 _ s n hs HI.out).mono ?_
  rintro e w1 ⟨rfl, h1⟩
  have hR2 := Lib.hid ((Blk.new w 149 cmdZ).below h1 (by simp))
  have hB2 := Lib.hid (((Below.refl w.heap.size w).alloc (Nat.le_refl _) (.cells cmdZ 149)).trans (h1.mono (by simp)))
  have z1 : (Tryz.prog.info? 149).map (·.size) = some cmdZ.size := size149
  have z3 : cmdZ.all (·.oneCell') = true := by kernel_rfl
  have HS := Lib.hid (hR2.out.setRow_same cmdZ)
  have HW := Lib.hid (below_setRow hB2.out (g := w.heap.size) (by omega) cmdZ)
  clear h1
  go_wp2_with (with_reducible refine stB 149 (.tmp 2) (.tmp 6) w.heap.size cmdZ _ hR2 z1 (Eq.refl _) z3 rfl rfl rfl rfl ?_)
  exact bodyPost_ret (results_cell2 rfl _ _ w.heap.size 149 _ _ rfl HS.out Tryz.underlying149 rfl z1) rfl ⟨rfl, HW.out⟩
theorem decodeA (w : World) : Calls Tryz.prog 95 #[.string sA] w fun e w' => e = .returned (.tuple #[.agg cmdZ, .int .i64 300]) ∧ Below w.heap.size w w' := decode1 w sA _ rfl intA
theorem decodeC (w : World) : Calls Tryz.prog 95 #[.string sC] w fun e w' => e = .returned (.tuple #[.agg cmdZ, .int .i64 300]) ∧ Below w.heap.size w w' := decode1 w sC _ rfl intC
end Go.Proofs.YtnehgpeelgjjhaaGreatDoor.Tw
namespace Go.Proofs.YtnehgpeelgjjhaaGreatDoor.Tw
open Go.RowKit
abbrev nil8 : Array Value := #[nilS, nilS, nilS, nilS, nilS, nilS, nilS, nilS]
/-- the certificate without labels -/
abbrev cert0 : Value := .agg nil8
theorem nil8_at (k : Nat) (h : k < 8) : nil8[k]? = some nilS := by
  match k, h with
  | 0, _ => rfl
  | 1, _ => rfl
  | 2, _ => rfl
  | 3, _ => rfl
  | 4, _ => rfl
  | 5, _ => rfl
  | 6, _ => rfl
  | 7, _ => rfl
set_option maxRecDepth 100000 in
/-- cert.Valid of the certificate without labels -/
theorem certValid0 (w : World) : Calls Tryz.prog 201 #[cert0] w fun e w' => e = .returned (.bool true) ∧ Below w.heap.size w w' := by
  go_enter Tryz.func201, Tryz.ntmps201
  go_wp2_with fail
  have HB := Lib.hid (Blk.new w 167 nil8)
  have HW := Lib.hid ((Below.refl w.heap.size w).alloc (Nat.le_refl _) (.cells nil8 167))
  obtain ⟨W, hW⟩ : ∃ W, W = w.alloc (.cells nil8 167) := ⟨_, rfl⟩
  have e : W = w.alloc (.cells #[.slice none 0 0, .slice none 0 0, .slice none 0 0, .slice none 0 0, .slice none 0 0, .slice none 0 0, .slice none 0 0, .slice none 0 0] 167) := hW
  rw [← hW] at HB HW
  rw [← e]
  clear hW e
  have c0 := HB.out.cell 0
  go_loopw [10] (fun i wr => ∃ k : Nat, k ≤ 7 ∧ i = .int .i64 k ∧ wr = W) (fun i _ => 7 - (intOf i).toNat)
  case atStart => exact ⟨0, by omega, rfl, rfl⟩
  case round =>
    obtain ⟨k, hk, rfl, rfl⟩ := hrel
    by_cases hlt : k < 7
    · have ck := (HB.out.cell (1 + k)).trans (nil8_at (1 + k) (by omega))
      go_wp2_with fail
      refine wp_loop_rounds 1 ?_
      rw [rounds_succ]
      go_wp2_with fail
      go_roundw
      case rel => exact ⟨k + 1, by omega, by go_num, trivial⟩
      case measure => simp [intOf]; omega
    · go_wp2_with fail
      go_ret
      exact ⟨rfl, HW.out⟩
set_option maxRecDepth 100000 in
/-- cert.Entries of the certificate without labels -/
theorem certEntries0 (w : World) (n : Nat) (h1 : 1 ≤ n) (h7 : n ≤ 7) : Calls Tryz.prog 202 #[cert0, .int .i64 n] w fun e w' => e = .returned (.tuple #[nilS, .int .i64 0]) ∧ Below w.heap.size w w' := by
  have hc : Hid (Blk (w.alloc (.cells nil8 167)) w.heap.size 167 nil8) := Lib.hid (Blk.new w 167 nil8)
  have hz : (Tryz.prog.info? 167).map (·.size) = some nil8.size := by kernel_rfl
  have n1 : ¬ (n : Int) < 1 := by omega
  have n2 : ¬ (7 : Int) < n := by omega
  go_enter Tryz.func202, Tryz.ntmps202
  go_wp2_with (with_reducible refine ldB 167 (.tmp 2) w.heap.size nil8 hc Tryz.underlying167 rfl hz rfl rfl rfl ?_)
  refine (certValid0 _).mono ?_
  rintro e w1 ⟨rfl, h1⟩
  have HB := Lib.hid (hc.out.below h1 (by simp))
  have HW := Lib.hid (((Below.refl w.heap.size w).alloc (Nat.le_refl _) (.cells nil8 167)).trans (h1.mono (by simp)))
  have ck := (HB.out.cell n).trans (nil8_at n (by omega))
  clear h1 hc
  go_wp2_with fail
  refine wp_loop_rounds 1 ?_
  rw [rounds_succ]
  go_wp2_with fail
  go_ret2
  exact ⟨rfl, HW.out⟩
end Go.Proofs.YtnehgpeelgjjhaaGreatDoor.Tw
namespace Go.Proofs.YtnehgpeelgjjhaaGreatDoor.Tw
open Go.RowKit Go.Shelf
attribute [local irreducible] rootF
def em8 : Array Value := #[.string ⟨#[]⟩, .string ⟨#[]⟩, .string ⟨#[]⟩, .string ⟨#[]⟩, .string ⟨#[]⟩, .string ⟨#[]⟩, .string ⟨#[]⟩, .string ⟨#[]⟩]
theorem em8_one : em8.all (·.oneCell') = true := by kernel_rfl
def rr (r : ByteArray) : Nat → Array Value
  | 0 => em8
  | k + 1 => (rr r k).setIfInBounds (k + 1) (.string r)
theorem rr_size (r : ByteArray) : ∀ k, (rr r k).size = 8
  | 0 => rfl
  | k + 1 => by rw [rr, Array.size_setIfInBounds]; exact rr_size r k
theorem rr_one (r : ByteArray) : ∀ k, (rr r k).all (·.oneCell') = true
  | 0 => em8_one
  | k + 1 => by rw [rr]; exact all_set (rr_one r k) rfl _
theorem size121 : (Tryz.prog.info? 121).map (·.size) = some 8 := by kernel_rfl
set_option maxRecDepth 100000 in
set_option maxHeartbeats 1000000 in
/-- cert.Roots of the certificate without labels -/
theorem roots0 (w : World) (tab : Array Value) (hT : Tab w tab) : Calls Tryz.prog 144 #[cert0] w fun e w' => e = .returned (.tuple #[.agg (rr (rootF tab []) 7), .int .i64 0]) ∧ Below w.heap.size w w' := by
  have HT := Lib.hid hT
  have ht0 := hT.1.lt
  clear hT
  obtain ⟨r, hr⟩ : ∃ r, r = rootF tab [] := ⟨_, rfl⟩
  have HR := Lib.hid hr
  rw [← hr]
  clear hr
  have hc : Hid (Blk (((w.alloc (.cells nil8 167)).alloc (.cells em8 121)).alloc (.cells em8 121)) w.heap.size 167 nil8) := Lib.hid (((Blk.new w 167 nil8).alloc _).alloc _)
  have hz : (Tryz.prog.info? 167).map (·.size) = some nil8.size := by kernel_rfl
  go_enter Tryz.func144, Tryz.ntmps144
  go_wp2_with (with_reducible refine ldB 167 (.tmp 1) w.heap.size nil8 hc Tryz.underlying167 rfl hz rfl rfl rfl ?_)
  refine (certValid0 _).mono ?_
  rintro e w1 ⟨rfl, h1⟩
  have hA := Lib.hid (hc.out.below h1 (by simp; omega))
  have hB : Hid (Blk w1 (w.heap.size + 1) 121 em8) := Lib.hid (((Blk.new' _ 121 em8 (by simp)).alloc _).below h1 (by simp))
  have hC : Hid (Blk w1 (w.heap.size + 2) 121 em8) := Lib.hid ((Blk.new' _ 121 em8 (by simp)).below h1 (by simp))
  have hW : Hid (Below w.heap.size w w1) := Lib.hid (((((Below.refl _ w).alloc (Nat.le_refl _) _).alloc (by simp) _).alloc (by simp; omega) _).trans (h1.mono (by simp; omega)))
  clear h1 hc
  go_wp2_with fail
  go_loopw [5] (fun i wr => ∃ (k : Nat) (cs : Array Value), k ≤ 7 ∧ i = .int .i64 ((k + 1 : Nat) : Int) ∧ Hid (cs = rr r k) ∧ Hid (Blk wr w.heap.size 167 nil8) ∧ Hid (Blk wr (w.heap.size + 1) 121 em8) ∧ Hid (Blk wr (w.heap.size + 2) 121 cs) ∧ Hid (Below w.heap.size w wr)) (fun i _ => 8 - (intOf i).toNat)
  case atStart => exact ⟨0, em8, by omega, rfl, Lib.hid rfl, hA, hB, hC, hW⟩
  case round =>
    clear hA hB hC hW
    obtain ⟨k, cs, hk, rfl, hE, hA, hB, hC, hW⟩ := hrel
    have hzc : cs.size = 8 := by rw [hE.out]; exact rr_size r k
    by_cases hlt : k < 7
    · go_wp2_with (with_reducible refine ldB 167 (.tmp 1) w.heap.size nil8 hA Tryz.underlying167 rfl hz rfl rfl rfl ?_)
      have he : (k : Int) + 1 = ((k + 1 : Nat) : Int) := by omega
      rw [he]
      clear he
      refine (certEntries0 wr (k + 1) (by omega) (by omega)).mono ?_
      rintro e w2 ⟨rfl, h2⟩
      have hs2 := h2.size
      have hsW := hW.out.size
      go_wp2_with fail
      refine (sroot0 w2 tab ((HT.out.below hW.out ht0).below h2 (by omega))).mono ?_
      rintro e w3 ⟨rfl, h3⟩
      rw [← HR.out]
      have h23 := h2.trans (h3.mono hs2)
      have HA := Lib.hid (hA.out.below h23 hA.out.lt)
      have HB := Lib.hid (hB.out.below h23 hB.out.lt)
      have HC := Lib.hid (hC.out.below h23 hC.out.lt)
      have HW := Lib.hid (hW.out.trans (h23.mono hW.out.size))
      have ck : ∃ u, w3.cell? ⟨w.heap.size + 2, k + 1, none⟩ = some u := ⟨cs[k + 1], (HC.out.cell (k + 1)).trans (Array.getElem?_eq_getElem (by omega))⟩
      obtain ⟨u, ck⟩ := ck
      have fz := HC.out.frozen (k + 1)
      have S1 := Lib.hid (HC.out.set_ (k + 1) (.string r))
      have S2 := Lib.hid (HW.out.setCell (p := ⟨w.heap.size + 2, k + 1, none⟩) (by show w.heap.size ≤ w.heap.size + 2; omega) (.string r))
      clear h2 h3 h23 hA hB hC hW
      go_wp2_with fail
      go_roundw
      case rel => exact ⟨k + 1, _, by omega, by go_num, Lib.hid (by rw [hE.out]; rfl), Lib.hid (HA.out.far (by show w.heap.size ≠ w.heap.size + 1 + 1; omega) _), Lib.hid (HB.out.far (by show w.heap.size + 1 ≠ w.heap.size + 1 + 1; omega) _), S1, S2⟩
      case measure => simp [intOf]; omega
    · have hk7 : k = 7 := by omega
      subst hk7
      have z1 : (Tryz.prog.info? 121).map (·.size) = some cs.size := by rw [hzc]; exact size121
      have z2 : em8.size = cs.size := by rw [hzc]; rfl
      have z3 : cs.all (·.oneCell') = true := by rw [hE.out]; exact rr_one r 7
      clear hzc
      have HS := Lib.hid (hB.out.setRow_same cs)
      have HW := Lib.hid (below_setRow hW.out (g := w.heap.size + 1) (by omega) cs)
      go_wp2_with (first
        | (with_reducible refine ldB 121 (.tmp 4) (w.heap.size + 2) cs hC Tryz.underlying121 rfl z1 rfl rfl rfl ?_)
        | (with_reducible refine stB 121 (.tmp 2) (.tmp 29) (w.heap.size + 1) cs _ hB z1 z2 z3 rfl rfl rfl rfl ?_))
      exact bodyPost_ret (results_cell2 rfl _ _ (w.heap.size + 1) 121 _ _ rfl HS.out Tryz.underlying121 rfl z1) rfl ⟨by rw [hE.out]; rfl, HW.out⟩
end Go.Proofs.YtnehgpeelgjjhaaGreatDoor.Tw
namespace Go.Proofs.YtnehgpeelgjjhaaGreatDoor.Tw
open Go.RowKit
set_option maxRecDepth 100000 in
set_option maxHeartbeats 400000 in
theorem witnesses0 (w : World) (p : Nat) (hF : Blk w p 497 fin0) : Calls Tryz.prog 376 #[.pointer (some ⟨p, 0, none⟩)] w fun e w' => e = .returned nilS ∧ Below w.heap.size w w' := by
  have hp := hF.lt
  refine calls_of_marks Tryz.func376 rfl ?_
  simp only [Tryz.ntmps376, List.size_toArray, List.length_cons, List.length_nil, Nat.reduceAdd, Nat.reduceSub, Array.replicate_succ, Array.replicate_zero, List.push_toArray, List.append_toArray, List.nil_append, List.cons_append]
  obtain ⟨W0, hW0⟩ : ∃ W0, W0 = (w.alloc (.cells #[.pointer (some ⟨p, 0, none⟩)] 492)).alloc (.cells #[nilS] 24) := ⟨_, rfl⟩
  have hA0 : Blk W0 w.heap.size 492 #[.pointer (some ⟨p, 0, none⟩)] := by rw [hW0]; exact (Blk.new _ _ _).alloc _
  have hB0 : Blk W0 (w.heap.size + 1) 24 #[nilS] := by rw [hW0]; exact Blk.new2 _ _ _ _
  have hb0 : Below w.heap.size w W0 := by rw [hW0]; go_grown
  have hF0 : Blk W0 p 497 fin0 := hF.below hb0 hp
  have hs0 : w.heap.size + 2 ≤ W0.heap.size := by rw [hW0]; simp
  go_upto_region 1 with (fail)
  rw [← hW0]
  have a0 : W0.cell? ⟨w.heap.size, 0, none⟩ = some (.pointer (some ⟨p, 0, none⟩)) := hA0.cell 0
  have f1 := (hF0.cell 1).trans fin0_1
  have HA := Lib.hid hA0
  have HB := Lib.hid hB0
  have HF := Lib.hid hF0
  clear hA0 hB0 hF0 hF hW0
  go_wp2_with fail
  refine (arcs0 _).mono ?_
  rintro e w1 ⟨b, rfl, hb, hlb, h1⟩
  go_wp2_with fail
  refine wp_range_never rfl enters506 (fun l W hW => arcsIter0 W _ b (hb.below hW hb.lt)) ?_
  intro D W hD h2 hK
  have hlt1 := hb.lt
  have hs1 := h1.size
  have hX : Below W0.heap.size W0 W := h1.trans (h2.mono (by omega))
  have HA2 := HA.out.below hX (by omega)
  have HB2 := HB.out.below hX (by omega)
  have HF2 := HF.out.below hX (by omega)
  have k0 : W.cell? ⟨w.heap.size, 0, none⟩ = some (.pointer (some ⟨p, 0, none⟩)) := HA2.cell 0
  have g0 := (HF2.cell 0).trans fin0_0
  have r0 : W.cell? ⟨w.heap.size + 1, 0, none⟩ = some nilS := HB2.cell 0
  have q0 := HB2.frozen 0
  have HW := Lib.hid ((hb0.trans (hX.mono hb0.size)).setCell (p := ⟨w.heap.size + 1, 0, none⟩) (by simp) nilS)
  have HK := Lib.hid ((Below.heap_setCell W ⟨w.heap.size + 1, 0, none⟩ nilS D (by simp; omega)).trans hK)
  have HS := Lib.hid ((HB2.set_ 0 nilS).putObj (r := D) (by omega) (.deferred none))
  clear hX h1 h2 hK hb a0 f1 HA2 HB2 HF2
  go_wp2_with fail
  refine wp_loop_rounds 1 ?_
  rw [rounds_succ]
  go_wp2_with fail
  exact leaves_mark HK.out (by have h0 := HS.out.cell 0; simp at h0; simp [results, Tryz.results376, go_sem, h0]) ⟨rfl, below_putObj HW.out (by omega) _⟩
theorem neq24 : ∀ w, (binOp .neq 494 (.agg z24) (.agg z24)).run Tryz.prog w = .ok (.bool false) w := fun _ => by kernel_rfl
set_option maxRecDepth 100000 in
set_option maxHeartbeats 800000 in
theorem strongBegin0 (w : World) : Calls Tryz.prog 372 #[g0] w fun e w' => ∃ p, e = .returned (.pointer (some ⟨p, 0, none⟩)) ∧ w.heap.size ≤ p ∧ Blk w' p 497 fin0 ∧ Below w.heap.size w w' := by
  refine calls_of_marks Tryz.func372 rfl ?_
  simp only [Tryz.ntmps372, List.size_toArray, List.length_cons, List.length_nil, Nat.reduceAdd, Nat.reduceSub, Array.replicate_succ, Array.replicate_zero, List.push_toArray, List.append_toArray, List.nil_append, List.cons_append]
  go_upto_region 2 with (fail)
  obtain ⟨W0, hW0⟩ : ∃ W0, W0 = ((w.alloc (.cells #[nilS, nilS, nilS] 79)).alloc (.cells fin0 497)).alloc (.cells #[.pointer (some ⟨w.heap.size + 1, 0, none⟩)] 492) := ⟨_, rfl⟩
  have hA0 : Blk W0 w.heap.size 79 #[nilS, nilS, nilS] := by rw [hW0]; exact ((Blk.new _ _ _).alloc _).alloc _
  have hB0 : Blk W0 (w.heap.size + 1) 497 fin0 := by rw [hW0]; exact (Blk.new2 _ _ _ _).alloc _
  have hC0 : Blk W0 (w.heap.size + 1 + 1) 492 #[.pointer (some ⟨w.heap.size + 1, 0, none⟩)] := by rw [hW0]; exact heap_new' _ _ (by simp)
  have hb0 : Below w.heap.size w W0 := by rw [hW0]; go_grown
  rw [← hW0]
  clear hW0
  obtain ⟨a0, a1, a2⟩ := hA0.three
  have hs0 := hC0.lt
  go_wp2_with fail
  refine (reaches0 _).mono ?_
  rintro e w1 ⟨rfl, h1⟩
  have hb1 := hb0.trans (h1.mono hb0.size)
  have hA1 := hA0.below h1 hA0.lt
  have hB1 := hB0.below h1 hB0.lt
  have hC1 := hC0.below h1 hC0.lt
  have hz1 := h1.size
  have hA2 := hA1.alloc (.cells zu24 632)
  have hB2 := hB1.alloc (.cells zu24 632)
  have hC2 := hC1.alloc (.cells zu24 632)
  have hb2 : Below w.heap.size w (w1.alloc (.cells zu24 632)) := hb1.alloc hb1.size _
  clear a0 a1 a2
  obtain ⟨a0, a1, a2⟩ := hA2.three
  have c0 := hC2.cell 0
  simp only [List.getElem?_toArray, List.getElem?_cons_zero] at c0
  obtain ⟨W2, hW2⟩ : ∃ W2, W2 = w1.alloc (.cells zu24 632) := ⟨_, rfl⟩
  have hz2 : W0.heap.size ≤ W2.heap.size := by rw [hW2]; simp; omega
  have HW2 := Lib.hid hW2
  rw [← hW2] at hA2 hB2 hC2 hb2 a0 a1 a2 c0
  clear hW2
  go_upto_region 3 with (with_reducible refine wpList_store_last rfl 632 (.tmp 4) (.tmp 16) rfl zu24 _ rfl rfl rfl sizeu24 rfl oneu24 ?_)
  rw [← HW2.out]
  go_wp2_with fail
  refine wp_loop_rounds 1 ?_
  rw [rounds_succ]
  go_wp2_with fail
  refine (arcs0 _).mono ?_
  rintro e w3 ⟨b, rfl, hb, hlb, h3⟩
  go_wp2_with fail
  refine wp_range_never rfl enters506 (fun l W hW => arcsIter0 W _ b (hb.below hW hb.lt)) ?_
  intro D W hD h4 hK
  have hz3 := h3.size
  have hX : Below W2.heap.size W2 W := h3.trans (h4.mono hz3)
  have hb5 := hb2.trans (hX.mono hb2.size)
  have HB := Lib.hid (hB2.below hX hB2.lt)
  have HC := hC2.below hX hC2.lt
  have c5 : W.cell? ⟨w.heap.size + 1 + 1, 0, none⟩ = some (.pointer (some ⟨w.heap.size + 1, 0, none⟩)) := HC.cell 0
  have L5 := Later.of c5
  clear hX h3 h4 a0 a1 a2 c0 hA0 hA1 hA2 hB0 hB1 hB2 hC0 hC1 hC2 hb h1 HW2 hb2 hb1
  go_wp2_with fail
  refine Loose.wp_region_later [(3, .is (.agg z24)), (5, .is (.agg z24)), (6, .var W.heap.size 494 z24), (7, .var W.heap.size 494 z24)] 8 (by kernel_rfl) (by kernel_rfl) ?_
  simp only [List.take_succ_cons, List.take_zero, List.drop_succ_cons, List.drop_zero]
  repeat (first | refine Loose.walk_skip rfl ?_ | (refine Loose.walk_plain rfl rfl rfl (fun K hK => ?_); go_big_quiet_op; refine hK _ ?_; clear hK K))
  refine Loose.walk_loose rfl rfl (fun W' hW' _ => Loose.loose_loadA 494 (.tmp 104) rfl (w.heap.size + 1) 27 rfl z24 (fin_range (HB.out.below hW' HB.out.lt)) Tryz.underlying494 rfl size24) ?_
  rintro _ _ _ rfl
  simp only [Act.put, List.setIfInBounds_toArray, List.set_cons_succ, List.set_cons_zero]
  repeat (first | refine Loose.walk_skip rfl ?_ | (refine Loose.walk_plain rfl rfl rfl (fun K hK => ?_); go_big_quiet_op; refine hK _ ?_; clear hK K))
  refine Loose.walk_loose rfl rfl (fun W' hW' _ => Loose.loose_call (f := 505) (args := #[.pointer (some ⟨w.heap.size + 1, 0, none⟩)]) (by kernel_rfl) ((ranks0 W' _ (HB.out.below hW' HB.out.lt)).mono fun e w' ⟨he, hb⟩ => ⟨_, he, hb, rfl⟩)) ?_
  rintro _ _ _ rfl
  simp only [Act.put, List.setIfInBounds_toArray, List.set_cons_succ, List.set_cons_zero]
  refine Loose.walk_loose rfl rfl (fun W' hW' _ => Loose.loose_val (u := .pointer (some ⟨W'.heap.size, 0, none⟩)) (W' := W'.alloc (.cells z24 494)) (by kernel_rfl) ((Below.refl _ _).alloc (Nat.le_refl _) _) ⟨_, rfl, hW'.size, Blk.new _ _ _⟩) ?_
  rintro _ _ _ ⟨x, rfl, hx, _⟩
  simp only [Act.put, List.setIfInBounds_toArray, List.set_cons_succ, List.set_cons_zero]
  refine Loose.walk_loose rfl rfl (fun W' hW' _ => Loose.loose_val (u := .pointer (some ⟨W'.heap.size, 0, none⟩)) (W' := W'.alloc (.cells z24 494)) (by kernel_rfl) ((Below.refl _ _).alloc (Nat.le_refl _) _) ⟨_, rfl, hW'.size, Blk.new _ _ _⟩) ?_
  rintro _ _ _ ⟨y, rfl, hy, _⟩
  simp only [Act.put, List.setIfInBounds_toArray, List.set_cons_succ, List.set_cons_zero]
  refine Loose.walk_nil ?_
  rintro U hU ⟨⟨⟨⟨_, _⟩, _⟩, hFx⟩, hFy⟩
  obtain ⟨hx, hBx⟩ := Loose.Pred.var_at hFx
  obtain ⟨hy, hBy⟩ := Loose.Pred.var_at hFy
  have hb6 := hb5.trans (hU.mono hb5.size)
  have HBU := Lib.hid (HB.out.below hU HB.out.lt)
  have hKlt := (Array.getElem?_eq_some_iff.1 hK).1
  have HKU := Lib.hid ((hU.block D hKlt).trans hK)
  have cU := (hU.cell (p := ⟨w.heap.size + 1 + 1, 0, none⟩) HC.lt).trans c5
  have HX := Lib.hid hBx
  have HY := Lib.hid hBy
  have hne := neq24
  have hse := setRow_self U x z24 494 (0, 0) hBx
  have hse2 := setRow_self U y z24 494 (0, 0) hBy
  clear hFx hFy hBx hBy L5 c5
  go_wp2_with (first
    | (with_reducible refine wpList_store_row rfl 494 (.tmp 10) (.tmp 105) rfl x z24 rfl rfl 494 z24 HX.out.heap size24 rfl one24 ?_; rw [hse])
    | (with_reducible refine wpList_store_row rfl 494 (.tmp 11) (.tmp 107) rfl y z24 rfl rfl 494 z24 HY.out.heap size24 rfl one24 ?_; rw [hse2]))
  refine wp_loop_rounds 1 ?_
  rw [rounds_succ]
  go_wp2_with (first
    | (with_reducible refine wpList_load_row rfl 494 (.tmp 10) rfl x rfl 494 z24 (0, 0) _ HX.out.heap Tryz.underlying494 rfl size24 ?_)
    | (with_reducible refine wpList_load_row rfl 494 (.tmp 11) rfl y rfl 494 z24 (0, 0) _ HY.out.heap Tryz.underlying494 rfl size24 ?_))
  exact leaves_mark HKU.out (results_tmp rfl _ _ _) ⟨_, rfl, by omega, HBU.out.putObj (by omega) _, below_putObj hb6 (by omega) _⟩
end Go.Proofs.YtnehgpeelgjjhaaGreatDoor.Tw
namespace Go.Proofs.YtnehgpeelgjjhaaGreatDoor.Tw
open Go.RowKit
def rowP : Loose.Pred := ⟨fun u _ => ∃ cs, u = .agg cs ∧ Row24 cs, fun _ _ _ h _ => h⟩
theorem row_after {U : World} {x y : Nat} {c cs d : Array Value} (hx : Blk U x 494 d) (hy : Blk U y 494 c) (hc : Row24 c) (hcs : Row24 cs) : ∃ e, Blk (U.setRow x cs) y 494 e ∧ Row24 e := by
  by_cases h : y = x
  · subst h; exact ⟨cs, hx.setRow_same cs, hcs⟩
  · exact ⟨c, hy.setRow h cs, hc⟩
theorem Row24.same {c d : Array Value} (h : Row24 c) (k : Row24 d) : c.size = d.size := h.1.trans k.1.symm
set_option maxRecDepth 100000 in
set_option maxHeartbeats 800000 in
theorem strong0 (w : World) : Calls Tryz.prog 303 #[g0] w fun e w' => e = .returned (.tuple #[nilS, .int .i64 0]) ∧ Below w.heap.size w w' := by
  obtain ⟨W0, hW0⟩ : ∃ W0, W0 = w.alloc (.cells #[nilS, nilS, nilS] 79) := ⟨_, rfl⟩
  have hb0 : Below w.heap.size w W0 := by rw [hW0]; go_grown
  have hB0 : Blk W0 w.heap.size 79 #[nilS, nilS, nilS] := by rw [hW0]; exact Blk.new _ _ _
  have HW0 := Lib.hid hW0
  clear hW0
  obtain ⟨b0, b1, b2⟩ := hB0.three
  go_enter Tryz.func303, Tryz.ntmps303
  go_wp2_with fail
  rw [← HW0.out]
  refine (valid0 _).mono ?_
  rintro e w1 ⟨rfl, h1⟩
  have hB1 := hB0.below h1 hB0.lt
  have hb1 := hb0.trans (h1.mono hb0.size)
  clear b0 b1 b2
  obtain ⟨b0, b1, b2⟩ := hB1.three
  go_wp2_with fail
  refine (strongBegin0 _).mono ?_
  rintro e w2 ⟨p, rfl, hp, hF, h2⟩
  have hB2 := hB1.below h2 hB1.lt
  have hb2 := hb1.trans (h2.mono hb1.size)
  have hB3 := hB2.alloc (.cells #[.pointer (some ⟨p, 0, none⟩)] 492)
  have hF3 := hF.alloc (.cells #[.pointer (some ⟨p, 0, none⟩)] 492)
  have hP3 : Blk (w2.alloc (.cells #[.pointer (some ⟨p, 0, none⟩)] 492)) w2.heap.size 492 #[.pointer (some ⟨p, 0, none⟩)] := Blk.new _ _ _
  have hb3 : Below w.heap.size w (w2.alloc (.cells #[.pointer (some ⟨p, 0, none⟩)] 492)) := hb2.alloc hb2.size _
  obtain ⟨W3, hW3⟩ : ∃ W3, W3 = w2.alloc (.cells #[.pointer (some ⟨p, 0, none⟩)] 492) := ⟨_, rfl⟩
  have HW3 := Lib.hid hW3
  rw [← hW3] at hB3 hF3 hP3 hb3
  have hz3 : w2.heap.size ≤ W3.heap.size := by rw [hW3]; simp
  clear b0 b1 b2 hW3
  obtain ⟨b0, b1, b2⟩ := hB3.three
  have c0 : W3.cell? ⟨w2.heap.size, 0, none⟩ = some (.pointer (some ⟨p, 0, none⟩)) := hP3.cell 0
  have hmf := mkf
  go_upto_region 4 with (fail)
  rw [← HW3.out]
  go_wp2_with fail
  refine wp_loop_rounds 1 ?_
  rw [rounds_succ]
  go_wp2_with fail
  go_quiet (fail)
  have HF := Lib.hid (hF3.drewN nq)
  have HB := Lib.hid (hB3.drewN nq)
  have hb4 := belowN (n := nq) hb3
  obtain ⟨W, hW⟩ : ∃ W, W = W3.drewN nq := ⟨_, rfl⟩
  have c1 : W.cell? ⟨w2.heap.size, 0, none⟩ = some (.pointer (some ⟨p, 0, none⟩)) := by rw [hW]; exact c0
  rw [← hW] at HF HB hb4
  have HW := Lib.hid hW
  clear hW b0 b1 b2 c0 hB0 hB1 hB2 hB3 hF hF3 hP3 hb0 hb1 hb2 hb3 h1 h2 HW0
  go_upto_region 12 with (fail)
  rw [← HW.out]
  have L1 := Later.of c1
  refine Loose.wp_region_later [(2, rowP), (5, rowP), (7, .is nilS), (9, rowP), (10, .var W.heap.size 494 z24), (11, .var W.heap.size 494 z24), (12, .var W.heap.size 494 z24)] 13 (by kernel_rfl) (by kernel_rfl) ?_
  simp only [List.take_succ_cons, List.take_zero, List.drop_succ_cons, List.drop_zero]
  repeat (first | refine Loose.walk_skip rfl ?_ | (refine Loose.walk_plain rfl rfl rfl (fun K hK => ?_); go_big_quiet_op; refine hK _ ?_; clear hK K))
  refine Loose.walk_loose rfl rfl (fun W' hW' _ => Loose.loose_call (f := 375) (args := #[nilS, .func (.func 373) #[.pointer (some ⟨p, 0, none⟩)] #[]]) (by kernel_rfl) ((search0 W' _).mono fun e w' ⟨cs, he, hr, hb⟩ => ⟨_, he, hb, _, rfl, hr⟩)) ?_
  rintro _ _ _ ⟨cs1, rfl, r1⟩
  simp only [Act.put, List.setIfInBounds_toArray, List.set_cons_succ, List.set_cons_zero]
  repeat (first | refine Loose.walk_skip rfl ?_ | (refine Loose.walk_plain rfl rfl rfl (fun K hK => ?_); go_big_quiet_op; refine hK _ ?_; clear hK K))
  refine Loose.walk_loose rfl rfl (fun W' hW' _ => Loose.loose_call (f := 375) (args := #[nilS, .func (.func 374) #[.pointer (some ⟨p, 0, none⟩)] #[]]) (by kernel_rfl) ((search0 W' _).mono fun e w' ⟨cs, he, hr, hb⟩ => ⟨_, he, hb, _, rfl, hr⟩)) ?_
  rintro _ _ _ ⟨cs2, rfl, r2⟩
  simp only [Act.put, List.setIfInBounds_toArray, List.set_cons_succ, List.set_cons_zero]
  repeat (first | refine Loose.walk_skip rfl ?_ | (refine Loose.walk_plain rfl rfl rfl (fun K hK => ?_); go_big_quiet_op; refine hK _ ?_; clear hK K))
  refine Loose.walk_loose rfl rfl (fun W' hW' _ => Loose.loose_call (f := 376) (args := #[.pointer (some ⟨p, 0, none⟩)]) (by kernel_rfl) ((witnesses0 W' _ (HF.out.below hW' HF.out.lt)).mono fun e w' ⟨he, hb⟩ => ⟨_, he, hb, rfl⟩)) ?_
  rintro _ _ _ rfl
  simp only [Act.put, List.setIfInBounds_toArray, List.set_cons_succ, List.set_cons_zero]
  repeat (first | refine Loose.walk_skip rfl ?_ | (refine Loose.walk_plain rfl rfl rfl (fun K hK => ?_); go_big_quiet_op; refine hK _ ?_; clear hK K))
  refine Loose.walk_loose rfl rfl (fun W' hW' _ => Loose.loose_call (f := 375) (args := #[nilS, .func (.func 373) #[.pointer (some ⟨p, 0, none⟩)] #[]]) (by kernel_rfl) ((search0 W' _).mono fun e w' ⟨cs, he, hr, hb⟩ => ⟨_, he, hb, _, rfl, hr⟩)) ?_
  rintro _ _ _ ⟨cs3, rfl, r3⟩
  simp only [Act.put, List.setIfInBounds_toArray, List.set_cons_succ, List.set_cons_zero]
  refine Loose.walk_loose rfl rfl (fun W' hW' _ => Loose.loose_val (u := .pointer (some ⟨W'.heap.size, 0, none⟩)) (W' := W'.alloc (.cells z24 494)) (by kernel_rfl) ((Below.refl _ _).alloc (Nat.le_refl _) _) ⟨_, rfl, hW'.size, Blk.new _ _ _⟩) ?_
  rintro _ _ _ ⟨x, rfl, _, _⟩
  simp only [Act.put, List.setIfInBounds_toArray, List.set_cons_succ, List.set_cons_zero]
  refine Loose.walk_loose rfl rfl (fun W' hW' _ => Loose.loose_val (u := .pointer (some ⟨W'.heap.size, 0, none⟩)) (W' := W'.alloc (.cells z24 494)) (by kernel_rfl) ((Below.refl _ _).alloc (Nat.le_refl _) _) ⟨_, rfl, hW'.size, Blk.new _ _ _⟩) ?_
  rintro _ _ _ ⟨y, rfl, _, _⟩
  simp only [Act.put, List.setIfInBounds_toArray, List.set_cons_succ, List.set_cons_zero]
  refine Loose.walk_loose rfl rfl (fun W' hW' _ => Loose.loose_val (u := .pointer (some ⟨W'.heap.size, 0, none⟩)) (W' := W'.alloc (.cells z24 494)) (by kernel_rfl) ((Below.refl _ _).alloc (Nat.le_refl _) _) ⟨_, rfl, hW'.size, Blk.new _ _ _⟩) ?_
  rintro _ _ _ ⟨z, rfl, _, _⟩
  simp only [Act.put, List.setIfInBounds_toArray, List.set_cons_succ, List.set_cons_zero]
  refine Loose.walk_nil ?_
  rintro U hU ⟨⟨⟨_, hFx⟩, hFy⟩, hFz⟩
  obtain ⟨hx, hBx⟩ := Loose.Pred.var_at hFx
  obtain ⟨hy, hBy⟩ := Loose.Pred.var_at hFy
  obtain ⟨hz, hBz⟩ := Loose.Pred.var_at hFz
  have hb5 := hb4.trans (hU.mono hb4.size)
  have hU0 := hU.size
  have hW0 := HB.out.lt
  obtain ⟨e2, hBy2, q2⟩ := row_after hBx hBy row24_z r1
  obtain ⟨e3, hBz2, q3⟩ := row_after hBx hBz row24_z r1
  obtain ⟨e4, hBz3, q4⟩ := row_after hBy2 hBz2 q3 r2
  have HX := Lib.hid hBx
  have HY := Lib.hid hBy2
  have HZ := Lib.hid hBz3
  have hE := below_setRow (below_setRow (below_setRow hU (g := x) (by omega) cs1) (g := y) (by omega) cs2) (g := z) (by omega) cs3
  have HB9 := HB.out.below hE HB.out.lt
  have HE := Lib.hid (hb4.trans (hE.mono hb4.size))
  obtain ⟨b0, b1, b2⟩ := HB9.three
  have R1 := Lib.hid r1
  have R2 := Lib.hid r2
  have R3 := Lib.hid r3
  have Q2 := Lib.hid q2
  have Q4 := Lib.hid q4
  clear hFx hFy hFz hBx hBy hBz hBy2 hBz2 hBz3 r1 r2 r3 q2 q3 q4 L1 c1 hE
  go_wp2_with (first
    | (with_reducible refine wpList_store_row rfl 494 (.tmp 10) (.tmp 56) rfl x cs1 rfl rfl 494 z24 HX.out.heap R1.out.size (row24_z.same R1.out) R1.out.one ?_)
    | (with_reducible refine wpList_store_row rfl 494 (.tmp 11) (.tmp 59) rfl y cs2 rfl rfl 494 e2 HY.out.heap R2.out.size (Q2.out.same R2.out) R2.out.one ?_)
    | (with_reducible refine wpList_store_row rfl 494 (.tmp 12) (.tmp 63) rfl z cs3 rfl rfl 494 e4 HZ.out.heap R3.out.size (Q4.out.same R3.out) R3.out.one ?_))
  refine wp_loop_rounds 1 ?_
  rw [rounds_succ]
  go_wp2_with fail
  go_outline
  go_ret2
  exact ⟨rfl, HE.out⟩
end Go.Proofs.YtnehgpeelgjjhaaGreatDoor.Tw
namespace Go.Proofs.YtnehgpeelgjjhaaGreatDoor.Tw
open Go.RowKit
set_option maxRecDepth 100000 in
set_option maxHeartbeats 400000 in
theorem sides0 (w : World) : Calls Tryz.prog 401 #[g0] w fun e w' => e = .returned (.agg z24) ∧ Below w.heap.size w w' := by
  obtain ⟨W0, hW0⟩ : ∃ W0, W0 = (w.alloc (.cells #[nilS, nilS, nilS] 79)).alloc (.cells z24 494) := ⟨_, rfl⟩
  have hA0 : Blk W0 w.heap.size 79 #[nilS, nilS, nilS] := by rw [hW0]; exact (Blk.new _ _ _).alloc _
  have hB0 : Blk W0 (w.heap.size + 1) 494 z24 := by rw [hW0]; exact Blk.new2 _ _ _ _
  have hb0 : Below w.heap.size w W0 := by rw [hW0]; go_grown
  obtain ⟨b0, b1, b2⟩ := hA0.three
  have hse := setRow_self W0 (w.heap.size + 1) z24 494 (0, 0) hB0
  have HB := Lib.hid hB0
  have HW0 := Lib.hid hW0
  clear hW0
  go_enter Tryz.func401, Tryz.ntmps401
  go_upto_region 1 with (fail)
  rw [← HW0.out]
  clear HW0 hB0 hA0
  go_wp2_with fail
  refine wp_loop_rounds 1 ?_
  rw [rounds_succ]
  go_wp2_with (first
    | (with_reducible refine wpList_load_row rfl 494 (.tmp 2) rfl (w.heap.size + 1) rfl 494 z24 (0, 0) _ HB.out.heap Tryz.underlying494 rfl size24 ?_)
    | (with_reducible refine wpList_store_row rfl 494 (.tmp 2) (.tmp 26) rfl (w.heap.size + 1) z24 rfl rfl 494 z24 HB.out.heap size24 rfl one24 ?_; rw [hse]))
  exact bodyPost_ret (results_cell_row rfl _ _ (w.heap.size + 1) 494 z24 (0, 0) _ rfl HB.out.heap Tryz.underlying494 rfl size24) rfl ⟨rfl, hb0⟩
set_option maxRecDepth 100000 in
set_option maxHeartbeats 400000 in
theorem eligible0 (w : World) : Calls Tryz.prog 399 #[g0] w fun e w' => ∃ b c, e = .returned (.func (.func 531) #[] #[.pointer (some ⟨b, 0, none⟩), .pointer (some ⟨c, 0, none⟩)]) ∧ Blk w' b 79 #[nilS, nilS, nilS] ∧ w.heap.size ≤ b ∧ Below w.heap.size w w' := by
  have hmf := mkf
  obtain ⟨W0, hW0⟩ : ∃ W0, W0 = w.alloc (.cells #[nilS, nilS, nilS] 79) := ⟨_, rfl⟩
  have hb0 : Below w.heap.size w W0 := by rw [hW0]; go_grown
  have hB0 : Blk W0 w.heap.size 79 #[nilS, nilS, nilS] := by rw [hW0]; exact Blk.new _ _ _
  have HW0 := Lib.hid hW0
  clear hW0
  obtain ⟨b0, b1, b2⟩ := hB0.three
  go_enter Tryz.func399, Tryz.ntmps399
  go_upto_region 1 with (fail)
  rw [← HW0.out]
  go_wp2_with fail
  refine (sides0 _).mono ?_
  rintro e w1 ⟨rfl, h1⟩
  have hB1 := (hB0.below h1 hB0.lt).alloc (.cells z24 494)
  have hb1 := (hb0.trans (h1.mono hb0.size)).alloc (hb0.trans (h1.mono hb0.size)).size (.cells z24 494)
  go_wp2_with (with_reducible refine wpList_store_last rfl 494 (.tmp 3) (.tmp 5) rfl z24 _ rfl rfl rfl size24 rfl one24 ?_)
  go_ret
  exact ⟨_, _, rfl, hB1, by omega, hb1⟩
theorem enters531 : ∀ args w, (callFunc 531 args).run Tryz.prog w = .ok (.enter 531 args) w := Go.Proofs.enters_of Tryz.func531 (by kernel_rfl) rfl
set_option maxRecDepth 100000 in
set_option maxHeartbeats 400000 in
theorem eligIter0 (w : World) (y : Value) (b c : Nat) (hB : Blk w b 79 #[nilS, nilS, nilS]) : Calls Tryz.prog 531 #[y, .pointer (some ⟨b, 0, none⟩), .pointer (some ⟨c, 0, none⟩)] w fun e w' => (∃ v, e = .returned v) ∧ Below w.heap.size w w' := by
  obtain ⟨b0, b1, b2⟩ := hB.three
  go_enter Tryz.func531, Tryz.ntmps531
  go_wp2
  go_rounds 1
  go_returns
  exact ⟨⟨_, rfl⟩, by go_grown⟩
theorem mk1 : ∀ w, (Instr.makeSlice 24 (.int .i64 1) (.int .i64 1)).run Tryz.prog w = .ok (.slice (some ⟨w.heap.size, 0, none⟩) 1 1) (w.alloc (.cells #[.int .i64 0] 3)) := fun _ => by kernel_rfl
set_option maxRecDepth 100000 in
set_option maxHeartbeats 400000 in
theorem sortInt0 (w : World) : Calls Tryz.prog 260 #[nilS] w fun e w' => e = .returned (.tuple #[]) ∧ w = w' := by
  go_enter Tryz.func260, Tryz.ntmps260
  go_wp2_with (first | (go_at_call 335; refine (len0 _).mono ?_; rintro e w1 ⟨rfl, rfl⟩) | go_in)
  repeat (go_rounds 1)
  go_returns
  exact ⟨rfl, rfl⟩
set_option maxRecDepth 100000 in
set_option maxHeartbeats 400000 in
theorem pairSolve0 (w : World) (p : Nat) (h1 : w.cell? ⟨p, 2450, none⟩ = some nilS) (h2 : w.cell? ⟨p, 2451, none⟩ = some nilS) : Calls Tryz.prog 530 #[.pointer (some ⟨p, 0, none⟩)] w fun e w' => e = .returned nilS ∧ Below w.heap.size w w' := by
  go_enter Tryz.func530, Tryz.ntmps530
  go_wp2_with fail
  go_quiet (fail)
  obtain ⟨W0, hW0⟩ : ∃ W0, W0 = w.drewN nq := ⟨_, rfl⟩
  have hb0 : Below w.heap.size w W0 := by rw [hW0]; exact belowN (Below.refl _ _)
  rw [← hW0]
  clear hW0
  go_wp2_with fail
  refine Loose.wp_region_later [(2, .row W0.heap.size 3 1 #[.int .i64 0]), (5, .row W0.heap.size 3 1 #[.int .i64 0])] 8 (by kernel_rfl) (by kernel_rfl) ?_
  simp only [List.take_succ_cons, List.take_zero, List.drop_succ_cons, List.drop_zero]
  repeat (first | refine Loose.walk_skip rfl ?_ | (refine Loose.walk_plain rfl rfl rfl (fun K hK => ?_); go_big_quiet_op; refine hK _ ?_; clear hK K))
  refine Loose.walk_loose rfl rfl (fun W' hW' _ => Loose.loose_val (u := .slice (some ⟨W'.heap.size, 0, none⟩) 1 1) (W' := W'.alloc (.cells #[.int .i64 0] 3)) (by kernel_rfl) ((Below.refl _ _).alloc (Nat.le_refl _) _) ⟨_, rfl, hW'.size, Blk.new _ _ _⟩) ?_
  rintro _ _ _ ⟨x1, rfl, _, _⟩
  simp only [Act.put, List.setIfInBounds_toArray, List.set_cons_succ, List.set_cons_zero]
  repeat (first | refine Loose.walk_skip rfl ?_ | (refine Loose.walk_plain rfl rfl rfl (fun K hK => ?_); go_big_quiet_op; refine hK _ ?_; clear hK K))
  refine Loose.walk_loose rfl rfl (fun W' hW' _ => Loose.loose_val (u := .slice (some ⟨W'.heap.size, 0, none⟩) 1 1) (W' := W'.alloc (.cells #[.int .i64 0] 3)) (by kernel_rfl) ((Below.refl _ _).alloc (Nat.le_refl _) _) ⟨_, rfl, hW'.size, Blk.new _ _ _⟩) ?_
  rintro _ _ _ ⟨x2, rfl, _, _⟩
  simp only [Act.put, List.setIfInBounds_toArray, List.set_cons_succ, List.set_cons_zero]
  repeat (first | refine Loose.walk_skip rfl ?_ | (refine Loose.walk_plain rfl rfl rfl (fun K hK => ?_); go_big_quiet_op; refine hK _ ?_; clear hK K))
  refine Loose.walk_nil ?_
  rintro U1 hU1 ⟨⟨_, hFx⟩, hFy⟩
  have hb1 := hb0.trans (hU1.mono hb0.size)
  clear hFx hFy
  go_wp2_with fail
  refine Loose.wp_region_later [(2, .row U1.heap.size 3 1 #[.int .i64 0]), (5, .row U1.heap.size 3 1 #[.int .i64 0])] 8 (by kernel_rfl) (by kernel_rfl) ?_
  simp only [List.take_succ_cons, List.take_zero, List.drop_succ_cons, List.drop_zero]
  repeat (first | refine Loose.walk_skip rfl ?_ | (refine Loose.walk_plain rfl rfl rfl (fun K hK => ?_); go_big_quiet_op; refine hK _ ?_; clear hK K))
  refine Loose.walk_loose rfl rfl (fun W' hW' _ => Loose.loose_val (u := .slice (some ⟨W'.heap.size, 0, none⟩) 1 1) (W' := W'.alloc (.cells #[.int .i64 0] 3)) (by kernel_rfl) ((Below.refl _ _).alloc (Nat.le_refl _) _) ⟨_, rfl, hW'.size, Blk.new _ _ _⟩) ?_
  rintro _ _ _ ⟨x3, rfl, _, _⟩
  simp only [Act.put, List.setIfInBounds_toArray, List.set_cons_succ, List.set_cons_zero]
  repeat (first | refine Loose.walk_skip rfl ?_ | (refine Loose.walk_plain rfl rfl rfl (fun K hK => ?_); go_big_quiet_op; refine hK _ ?_; clear hK K))
  refine Loose.walk_loose rfl rfl (fun W' hW' _ => Loose.loose_val (u := .slice (some ⟨W'.heap.size, 0, none⟩) 1 1) (W' := W'.alloc (.cells #[.int .i64 0] 3)) (by kernel_rfl) ((Below.refl _ _).alloc (Nat.le_refl _) _) ⟨_, rfl, hW'.size, Blk.new _ _ _⟩) ?_
  rintro _ _ _ ⟨x4, rfl, _, _⟩
  simp only [Act.put, List.setIfInBounds_toArray, List.set_cons_succ, List.set_cons_zero]
  repeat (first | refine Loose.walk_skip rfl ?_ | (refine Loose.walk_plain rfl rfl rfl (fun K hK => ?_); go_big_quiet_op; refine hK _ ?_; clear hK K))
  refine Loose.walk_nil ?_
  rintro U2 hU2 ⟨⟨_, hFx⟩, hFy⟩
  have hb2 := hb1.trans (hU2.mono hb1.size)
  clear hFx hFy
  go_wp2_with fail
  refine wp_loop_rounds 1 ?_
  rw [rounds_succ]
  go_wp2_with fail
  refine wp_loop_rounds 1 ?_
  rw [rounds_succ]
  go_wp2_with fail
  refine (sortInt0 _).mono ?_
  rintro e w2 ⟨rfl, rfl⟩
  go_wp2_with fail
  go_ret
  exact ⟨rfl, hb2⟩
theorem index24 : ∀ (k : Nat), k < 24 → ∀ w, (Instr.index 494 (.agg z24) (.int .i64 k)).run Tryz.prog w = .ok (.int .i64 0) w
  | 0, _, _ => by kernel_rfl
  | 1, _, _ => by kernel_rfl
  | 2, _, _ => by kernel_rfl
  | 3, _, _ => by kernel_rfl
  | 4, _, _ => by kernel_rfl
  | 5, _, _ => by kernel_rfl
  | 6, _, _ => by kernel_rfl
  | 7, _, _ => by kernel_rfl
  | 8, _, _ => by kernel_rfl
  | 9, _, _ => by kernel_rfl
  | 10, _, _ => by kernel_rfl
  | 11, _, _ => by kernel_rfl
  | 12, _, _ => by kernel_rfl
  | 13, _, _ => by kernel_rfl
  | 14, _, _ => by kernel_rfl
  | 15, _, _ => by kernel_rfl
  | 16, _, _ => by kernel_rfl
  | 17, _, _ => by kernel_rfl
  | 18, _, _ => by kernel_rfl
  | 19, _, _ => by kernel_rfl
  | 20, _, _ => by kernel_rfl
  | 21, _, _ => by kernel_rfl
  | 22, _, _ => by kernel_rfl
  | 23, _, _ => by kernel_rfl
  | n + 24, h, _ => by omega
set_option maxRecDepth 100000 in
set_option maxHeartbeats 800000 in
theorem pairBegin0 (w : World) : Calls Tryz.prog 529 #[g0] w fun e w' => ∃ p, e = .returned (.pointer (some ⟨p, 0, none⟩)) ∧ w'.cell? ⟨p, 2450, none⟩ = some nilS ∧ w'.cell? ⟨p, 2451, none⟩ = some nilS ∧ Below w.heap.size w w' := by
  have hmm := @run_makeMap Tryz.prog
  refine calls_of_marks Tryz.func529 rfl ?_
  simp only [Tryz.ntmps529, List.size_toArray, List.length_cons, List.length_nil, Nat.reduceAdd, Nat.reduceSub, Array.replicate_succ, Array.replicate_zero, List.push_toArray, List.append_toArray, List.nil_append, List.cons_append]
  go_wp2_with fail
  obtain ⟨W0, hW0⟩ : ∃ W0, W0 = ((((w.alloc (.cells #[nilS, nilS, nilS] 79)).alloc (.cells Tryz.zeroCells713 713)).alloc (.cells #[.pointer (some ⟨w.heap.size + 1, 0, none⟩)] 668)).alloc (.map #[] 0)).alloc (.cells #[.map (some (w.heap.size + 1 + 1 + 1))] 714) := ⟨_, rfl⟩
  have hA0 : Blk W0 w.heap.size 79 #[nilS, nilS, nilS] := by rw [hW0]; exact ((((Blk.new _ _ _).alloc _).alloc _).alloc _).alloc _
  have hT0 : Blk W0 (w.heap.size + 1) 713 Tryz.zeroCells713 := by rw [hW0]; exact (((Blk.new2 _ _ _ _).alloc _).alloc _).alloc _
  have hP0 : Blk W0 (w.heap.size + 1 + 1) 668 #[.pointer (some ⟨w.heap.size + 1, 0, none⟩)] := by rw [hW0]; exact Blk.alloc (Blk.alloc (heap_new' _ _ (by simp)) _) _
  have hb0 : Below w.heap.size w W0 := by rw [hW0]; go_grown
  rw [← hW0]
  clear hW0
  refine (sides0 _).mono ?_
  rintro e w1 ⟨rfl, h1⟩
  have hA1 := hA0.below h1 hA0.lt
  have hT1 := hT0.below h1 hT0.lt
  have hP1 := hP0.below h1 hP0.lt
  have hb1 := hb0.trans (h1.mono hb0.size)
  clear hA0 hT0 hP0 hb0 h1
  go_wp2_with fail
  go_loopw [19] (fun i wr => ∃ k : Nat, k ≤ 24 ∧ i = .int .i64 k ∧ w1 = wr) (fun i _ => 24 - (intOf i).toNat)
  case atStart => exact ⟨0, by omega, rfl, rfl⟩
  case round =>
    obtain ⟨k, hk, rfl, rfl⟩ := hrel
    by_cases hlt : k < 24
    · have hix := index24 k hlt
      go_wp2_with fail
      go_roundw
      case rel => exact ⟨k + 1, by omega, by go_num, trivial⟩
      case measure => simp [intOf]; omega
    · go_wp2_with fail
      have hc0 : Tryz.zeroCells713.size = 2452 ∧ Tryz.zeroCells713[2450]? = some nilS ∧ Tryz.zeroCells713[2451]? = some nilS := ⟨by kernel_rfl, by kernel_rfl, by kernel_rfl⟩
      have HT1 := Lib.hid hT1
      have HP1 := Lib.hid hP1
      have HA1 := Lib.hid hA1
      have HC := Lib.hid hc0
      clear hT1 hP1 hA1 hc0
      go_loopw [63] (fun i wr => ∃ (k : Nat) (cs : Array Value), k ≤ 25 ∧ i = .int .i64 k ∧ Hid (Blk wr (w.heap.size + 1) 713 cs) ∧ Hid (Blk wr (w.heap.size + 1 + 1) 668 #[.pointer (some ⟨w.heap.size + 1, 0, none⟩)]) ∧ Hid (Blk wr w.heap.size 79 #[nilS, nilS, nilS]) ∧ Hid (cs.size = 2452 ∧ cs[2450]? = some nilS ∧ cs[2451]? = some nilS) ∧ Hid (Below w.heap.size w wr)) (fun i _ => 25 - (intOf i).toNat)
      case atStart => exact ⟨0, _, by omega, rfl, HT1, HP1, HA1, HC, Lib.hid hb1⟩
      case round =>
        obtain ⟨i, cs, hi, rfl, hT, hP, hA, hC, hb⟩ := hrel
        by_cases hlt2 : i < 25
        · go_wp2_with fail
          go_loopw [66] (fun i ws => ∃ (k : Nat) (cs : Array Value), k ≤ 49 ∧ i = .int .i64 k ∧ Hid (Blk ws (w.heap.size + 1) 713 cs) ∧ Hid (Blk ws (w.heap.size + 1 + 1) 668 #[.pointer (some ⟨w.heap.size + 1, 0, none⟩)]) ∧ Hid (Blk ws w.heap.size 79 #[nilS, nilS, nilS]) ∧ Hid (cs.size = 2452 ∧ cs[2450]? = some nilS ∧ cs[2451]? = some nilS) ∧ Hid (Below w.heap.size w ws)) (fun i _ => 49 - (intOf i).toNat)
          case atStart => exact ⟨0, _, by omega, rfl, hT, hP, hA, hC, hb⟩
          case round =>
            obtain ⟨j, ds, hj, rfl, hT, hP, hA, hC, hb⟩ := hrel
            by_cases hlt3 : j < 49
            · have p0 : wr.cell? ⟨w.heap.size + 1 + 1, 0, none⟩ = some (.pointer (some ⟨w.heap.size + 1, 0, none⟩)) := hP.out.cell 0
              obtain ⟨v, hv⟩ : ∃ v, wr.cell? ⟨w.heap.size + 1, 1225 + i * 49 + j, none⟩ = some v := ⟨ds[1225 + i * 49 + j]'(by have := hC.out.1; omega), by rw [hT.out.cell]; exact Array.getElem?_eq_getElem _⟩
              have hf := hT.out.frozen (1225 + i * 49 + j)
              have S1 := Lib.hid (hT.out.set_ (1225 + i * 49 + j) (.int .i64 (-1)))
              have S2 := Lib.hid (hb.out.setCell (p := ⟨w.heap.size + 1, 1225 + i * 49 + j, none⟩) (by simp) (.int .i64 (-1)))
              have S3 := Lib.hid (hP.out.far (p := ⟨w.heap.size + 1, 1225 + i * 49 + j, none⟩) (by simp) (.int .i64 (-1)))
              have S4 := Lib.hid (hA.out.far (p := ⟨w.heap.size + 1, 1225 + i * 49 + j, none⟩) (by simp) (.int .i64 (-1)))
              have S5 : Hid ((ds.setIfInBounds (1225 + i * 49 + j) (.int .i64 (-1))).size = 2452 ∧ (ds.setIfInBounds (1225 + i * 49 + j) (.int .i64 (-1)))[2450]? = some nilS ∧ (ds.setIfInBounds (1225 + i * 49 + j) (.int .i64 (-1)))[2451]? = some nilS) := Lib.hid ⟨by rw [Array.size_setIfInBounds]; exact hC.out.1, by rw [Array.getElem?_setIfInBounds_ne (by omega)]; exact hC.out.2.1, by rw [Array.getElem?_setIfInBounds_ne (by omega)]; exact hC.out.2.2⟩
              go_wp2_with fail
              go_roundw
              case rel => exact ⟨j + 1, _, by omega, by go_num, S1, S3, S4, S5, S2⟩
              case measure => simp [intOf]; omega
            · go_wp2_with fail
              go_roundw
              case rel => exact ⟨i + 1, _, by omega, by go_num, hT, hP, hA, hC, hb⟩
              case measure => simp [intOf]; omega
        · obtain ⟨b0, b1, b2⟩ := hA.out.three
          have p0 : wr.cell? ⟨w.heap.size + 1 + 1, 0, none⟩ = some (.pointer (some ⟨w.heap.size + 1, 0, none⟩)) := hP.out.cell 0
          go_wp2_with fail
          refine (eligible0 _).mono ?_
          rintro e w4 ⟨b, c, rfl, hB, hlb, h4⟩
          go_wp2_with fail
          refine wp_range_never rfl enters531 (fun l W hW => eligIter0 W _ b c (hB.below hW hB.lt)) ?_
          intro D W hD h5 hK
          have hX := h4.trans (h5.mono h4.size)
          have HT := Lib.hid (hT.out.below hX hT.out.lt)
          have q0 : W.cell? ⟨w.heap.size + 1 + 1, 0, none⟩ = some (.pointer (some ⟨w.heap.size + 1, 0, none⟩)) := (hP.out.below hX hP.out.lt).cell 0
          have hW := Lib.hid (hb.out.trans (hX.mono hb.out.size))
          have hlt4 := hP.out.lt
          have hz4 := h4.size
          have HK := Lib.hid hK
          clear hX h4 h5 hK hB b0 b1 b2 p0
          go_wp2_with fail
          go_outline
          exact leaves_mark HK.out (results_tmp rfl _ _ _) ⟨_, rfl, ((HT.out.putObj (by omega) _).cell 2450).trans hC.out.2.1, ((HT.out.putObj (by omega) _).cell 2451).trans hC.out.2.2, below_putObj hW.out (by omega) _⟩
end Go.Proofs.YtnehgpeelgjjhaaGreatDoor.Tw
namespace Go.Proofs.YtnehgpeelgjjhaaGreatDoor.Tw
open Go.RowKit
set_option maxRecDepth 100000 in
set_option maxHeartbeats 800000 in
theorem pairMatching0 (w : World) : Calls Tryz.prog 398 #[g0] w fun e w' => e = .returned (.tuple #[nilS, .int .i64 0, .int .i64 0]) ∧ Below w.heap.size w w' := by
  obtain ⟨W0, hW0⟩ : ∃ W0, W0 = w.alloc (.cells #[nilS, nilS, nilS] 79) := ⟨_, rfl⟩
  have hb0 : Below w.heap.size w W0 := by rw [hW0]; go_grown
  have hB0 : Blk W0 w.heap.size 79 #[nilS, nilS, nilS] := by rw [hW0]; exact Blk.new _ _ _
  have HW0 := Lib.hid hW0
  clear hW0
  obtain ⟨b0, b1, b2⟩ := hB0.three
  go_enter Tryz.func398, Tryz.ntmps398
  go_wp2_with fail
  rw [← HW0.out]
  refine (valid0 _).mono ?_
  rintro e w1 ⟨rfl, h1⟩
  have hB1 := hB0.below h1 hB0.lt
  have hb1 := hb0.trans (h1.mono hb0.size)
  clear b0 b1 b2
  obtain ⟨b0, b1, b2⟩ := hB1.three
  go_wp2_with fail
  refine (pairBegin0 _).mono ?_
  rintro e w2 ⟨p, rfl, k1, k2, h2⟩
  have hb2 := hb1.trans (h2.mono hb1.size)
  go_wp2_with fail
  refine (pairSolve0 _ p k1 k2).mono ?_
  rintro e w3 ⟨rfl, h3⟩
  have hB3 := (hB1.below h2 hB1.lt).below h3 (Nat.lt_of_lt_of_le hB1.lt h2.size)
  have hb3 := hb2.trans (h3.mono hb2.size)
  clear b0 b1 b2 k1 k2
  obtain ⟨b0, b1, b2⟩ := hB3.three
  go_wp2_with fail
  refine wp_loop_rounds 1 ?_
  rw [rounds_succ]
  go_wp2_with fail
  go_ret3
  exact ⟨rfl, hb3⟩
set_option maxRecDepth 100000 in
set_option maxHeartbeats 800000 in
theorem pair0 (w : World) : Calls Tryz.prog 312 #[g0] w fun e w' => e = .returned (.tuple #[nilS, .int .i64 0]) ∧ Below w.heap.size w w' := by
  obtain ⟨W0, hW0⟩ : ∃ W0, W0 = w.alloc (.cells #[nilS, nilS, nilS] 79) := ⟨_, rfl⟩
  have hb0 : Below w.heap.size w W0 := by rw [hW0]; go_grown
  have hB0 : Blk W0 w.heap.size 79 #[nilS, nilS, nilS] := by rw [hW0]; exact Blk.new _ _ _
  have HW0 := Lib.hid hW0
  clear hW0
  obtain ⟨b0, b1, b2⟩ := hB0.three
  refine calls_of_marks Tryz.func312 rfl ?_
  simp only [Tryz.ntmps312, List.size_toArray, List.length_cons, List.length_nil, Nat.reduceAdd, Nat.reduceSub, Array.replicate_succ, Array.replicate_zero, List.push_toArray, List.append_toArray, List.nil_append, List.cons_append]
  go_wp2_with fail
  rw [← HW0.out]
  refine (pairMatching0 _).mono ?_
  rintro e w1 ⟨rfl, h1⟩
  have hB1 := hB0.below h1 hB0.lt
  have hb1 := hb0.trans (h1.mono hb0.size)
  clear b0 b1 b2
  obtain ⟨b0, b1, b2⟩ := hB1.three
  obtain ⟨W2, hW2⟩ : ∃ W2, W2 = (((w1.alloc (.cells #[nilS] 24)).alloc (.cells z24 494)).alloc (.cells z24 494)).alloc (.cells z24 494) := ⟨_, rfl⟩
  have hb2 : Below w.heap.size w W2 := by rw [hW2]; exact (((hb1.alloc hb1.size _).alloc (by simp; have := hb1.size; omega) _).alloc (by simp; have := hb1.size; omega) _).alloc (by simp; have := hb1.size; omega) _
  have hB2 : Blk W2 w.heap.size 79 #[nilS, nilS, nilS] := by rw [hW2]; exact (((hB1.alloc _).alloc _).alloc _).alloc _
  have hR2 : Blk W2 (w1.heap.size + 1 + 1) 494 z24 := by rw [hW2]; exact Blk.alloc (heap_new' _ _ (by simp)) _
  have hM2 : Blk W2 (w1.heap.size + 1 + 1 + 1) 494 z24 := by rw [hW2]; exact heap_new' _ _ (by simp)
  have hlw : w.heap.size < w1.heap.size := hB1.lt
  go_wp2_with (with_reducible refine wpList_store_last rfl 494 (.tmp 9) (.tmp 31) rfl z24 _ rfl rfl (by simp) size24 rfl one24 ?_)
  rw [← hW2]
  have HB2 := Lib.hid hB2
  have HR2 := Lib.hid hR2
  have HM2 := Lib.hid hM2
  clear hW2 hB2 hR2 hM2 b0 b1 b2 HW0 hB0 hB1 hb0 h1
  go_loopw [32] (fun i wr => ∃ (k : Nat) (cs ds : Array Value), k ≤ 24 ∧ i = .int .i64 k ∧ Hid (Blk wr (w1.heap.size + 1 + 1) 494 cs) ∧ Hid (Row24 cs) ∧ Hid (Blk wr (w1.heap.size + 1 + 1 + 1) 494 ds) ∧ Hid (Row24 ds) ∧ Hid (Blk wr w.heap.size 79 #[nilS, nilS, nilS]) ∧ Hid (Below w.heap.size w wr)) (fun i _ => 24 - (intOf i).toNat)
  case atStart => exact ⟨0, _, _, by omega, rfl, HR2, Lib.hid row24_z, HM2, Lib.hid row24_z, HB2, Lib.hid hb2⟩
  case round =>
    obtain ⟨k, cs, ds, hk, rfl, hR, r1, hM, r2, hB, hb⟩ := hrel
    by_cases hlt : k < 24
    · obtain ⟨v, hv⟩ : ∃ v, wr.cell? ⟨w1.heap.size + 1 + 1, k, none⟩ = some v := ⟨cs[k]'(by have := r1.out.1; omega), by rw [hR.out.cell]; exact Array.getElem?_eq_getElem _⟩
      obtain ⟨u, hu⟩ : ∃ v, wr.cell? ⟨w1.heap.size + 1 + 1 + 1, k, none⟩ = some v := ⟨ds[k]'(by have := r2.out.1; omega), by rw [hM.out.cell]; exact Array.getElem?_eq_getElem _⟩
      have hf := hR.out.frozen k
      have hg := hM.out.frozen k
      have S1 := Lib.hid ((hR.out.far (p := ⟨w1.heap.size + 1 + 1 + 1, k, none⟩) (by simp) (.int .i64 (-1))).set_ k (.int .i64 (-1)))
      have S2 := Lib.hid ((hM.out.set_ k (.int .i64 (-1))).far (p := ⟨w1.heap.size + 1 + 1, k, none⟩) (by simp) (.int .i64 (-1)))
      have S3 := Lib.hid ((hB.out.far (p := ⟨w1.heap.size + 1 + 1 + 1, k, none⟩) (by simp; omega) (.int .i64 (-1))).far (p := ⟨w1.heap.size + 1 + 1, k, none⟩) (by simp; omega) (.int .i64 (-1)))
      have S4 := Lib.hid ((hb.out.setCell (p := ⟨w1.heap.size + 1 + 1 + 1, k, none⟩) (by simp; omega) (.int .i64 (-1))).setCell (p := ⟨w1.heap.size + 1 + 1, k, none⟩) (by simp; omega) (.int .i64 (-1)))
      go_wp2_with fail
      go_roundw
      case rel => exact ⟨k + 1, _, _, by omega, by go_num, S1, Lib.hid (r1.out.set _ _), S2, Lib.hid (r2.out.set _ _), S3, S4⟩
      case measure => simp [intOf]; omega
    · obtain ⟨b0, b1, b2⟩ := hB.out.three
      have hltB := hB.out.lt
      go_wp2_with fail
      refine (eligible0 _).mono ?_
      rintro e w4 ⟨b, c, rfl, hE, hlb, h4⟩
      go_wp2_with fail
      refine wp_range_never rfl enters531 (fun l W hW => eligIter0 W _ b c (hE.below hW hE.lt)) ?_
      intro D W hD h5 hK
      have hX := h4.trans (h5.mono h4.size)
      have HB5 := hB.out.below hX hltB
      have hb5 := hb.out.trans (hX.mono hb.out.size)
      have hz4 := h4.size
      have hDW := (Array.getElem?_eq_some_iff.1 hK).1
      have HK := Lib.hid hK
      clear hX h4 h5 hK hE b0 b1 b2
      go_wp2_with fail
      refine wp_loop_rounds 2 ?_
      rw [rounds_succ]
      obtain ⟨W6, hW6⟩ : ∃ W6, W6 = W.alloc (.cells #[.bool false] 4) := ⟨_, rfl⟩
      have HW6 := Lib.hid hW6
      have hb6 : Below w.heap.size w W6 := by rw [hW6]; exact hb5.alloc hb5.size _
      have hB6 : Blk W6 w.heap.size 79 #[nilS, nilS, nilS] := by rw [hW6]; exact HB5.alloc _
      have hT6 : Blk W6 W.heap.size 4 #[.bool false] := by rw [hW6]; exact Blk.new _ _ _
      have HK6 : Hid (W6.heap[D]? = some (.deferred (some []))) := Lib.hid (by rw [hW6]; exact heap_old _ HK.out)
      have hz6 : W.heap.size + 1 = W6.heap.size := by rw [hW6]; simp
      have hz6' : W.heap.size < W6.heap.size := by omega
      clear hz6 hW6
      obtain ⟨b0, b1, b2⟩ := hB6.three
      go_upto_region 20 with (fail)
      rw [← HW6.out]
      go_wp2_with fail
      refine (eligible0 _).mono ?_
      rintro e w7 ⟨b', c', rfl, hE, hlb', h7⟩
      go_wp2_with fail
      refine wp_range_never rfl enters531 (fun l W hW => eligIter0 W _ b' c' (hE.below hW hE.lt)) ?_
      intro D2 W8 hD2 h8 hK2
      have hX := h7.trans (h8.mono h7.size)
      have HB8 := hB6.below hX hB6.lt
      have hb8 := hb6.trans (hX.mono hb6.size)
      have t8 : W8.cell? ⟨W.heap.size, 0, none⟩ = some (.bool false) := (hT6.below hX hT6.lt).cell 0
      have HK8 : Hid (W8.heap[D]? = some (.deferred (some []))) := Lib.hid ((hX.block D (Nat.lt_trans hDW hz6')).trans HK6.out)
      have HK82 := Lib.hid hK2
      have hz7 := h7.size
      clear hX h7 h8 hK2 hE b0 b1 b2
      go_wp2_with fail
      rw [rounds_succ]
      obtain ⟨W9, hW9⟩ : ∃ W9, W9 = W8.alloc (.cells #[.bool false] 4) := ⟨_, rfl⟩
      have HW9 := Lib.hid hW9
      have hb9 : Below w.heap.size w W9 := by rw [hW9]; exact hb8.alloc hb8.size _
      have hB9 : Blk W9 w.heap.size 79 #[nilS, nilS, nilS] := by rw [hW9]; exact HB8.alloc _
      have HK9 : Hid (W9.heap[D]? = some (.deferred (some []))) := Lib.hid (by rw [hW9]; exact heap_old _ HK8.out)
      have HK92 : Hid (W9.heap[D2]? = some (.deferred (some []))) := Lib.hid (by rw [hW9]; exact heap_old _ HK82.out)
      clear hW9
      obtain ⟨b0, b1, b2⟩ := hB9.three
      go_upto_region 30 with (fail)
      rw [← HW9.out]
      go_wp2_with fail
      refine (sides0 _).mono ?_
      rintro e w10 ⟨rfl, h10⟩
      have hB10 := (hB9.below h10 hB9.lt).alloc (.cells z24 494)
      have hb10 := hb9.trans (h10.mono hb9.size)
      have hb11 := hb10.alloc hb10.size (.cells z24 494)
      have hD9 := (Array.getElem?_eq_some_iff.1 HK9.out).1
      have hD92 := (Array.getElem?_eq_some_iff.1 HK92.out).1
      have HK11 := Lib.hid (heap_old (.cells z24 494) ((h10.block D hD9).trans HK9.out))
      have HK112 := Lib.hid (heap_old (.cells z24 494) ((h10.block D2 hD92).trans HK92.out))
      clear b0 b1 b2 h10
      obtain ⟨b0, b1, b2⟩ := hB10.three
      obtain ⟨W11, hW11⟩ : ∃ W11, W11 = w10.alloc (.cells z24 494) := ⟨_, rfl⟩
      have HW11 := Lib.hid hW11
      rw [← hW11] at hB10 hb11 HK11 HK112 b0 b1 b2
      clear hW11
      go_upto_region 31 with (with_reducible refine wpList_store_last rfl 494 (.tmp 18) (.tmp 113) rfl z24 _ rfl rfl rfl size24 rfl one24 ?_)
      rw [← HW11.out]
      go_wp2_with fail
      refine wp_loop_rounds 1 ?_
      rw [rounds_succ]
      go_wp2_with fail

      exact leaves_marks HK112.out HK11.out (by omega) (results_tmp2 rfl _ _ _) ⟨rfl, below_putObj (below_putObj hb11 (by omega) _) (by omega) _⟩
end Go.Proofs.YtnehgpeelgjjhaaGreatDoor.Tw
