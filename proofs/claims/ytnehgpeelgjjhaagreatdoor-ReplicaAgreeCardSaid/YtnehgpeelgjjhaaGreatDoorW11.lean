/- Contracts of functions of the program, and plain laws, towards the laws of replicas. Joined of the texts: D11, V12, V15, V15b, V16, AllM, Pick. -/
import Derived.Test.YtnehgpeelgjjhaaGreatDoorW10
import Derived.Test.YtnehgpeelgjjhaaGreatDoorW08
import Derived.Test.YtnehgpeelgjjhaaGreatDoorW00
import Derived.Test.YtnehgpeelgjjhaaGreatDoorW07
import Derived.Test.YtnehgpeelgjjhaaGreatDoorW03
import Derived.Handy
import Derived.OwnWalk
import Derived.IntWalk
set_option linter.all false
namespace Go.Proofs.YtnehgpeelgjjhaaGreatDoor.Tw
open Go.RowKit Go.Shelf
attribute [local irreducible] sumF markF leafF nodeF
attribute [local go_sem] Oper.semAt_some
/-- what holds between the rounds of the last loop -/
structure BI (w w4 : World) (p : Nat) (W : World) : Prop where
  out : ∃ d : ByteArray, d.size = 32 ∧ Blk W p 9 #[.string d]
  keep : KeepB w4.heap.size p w4 W
  low : Below w.heap.size w W
theorem BI.own {w w4 : World} {p : Nat} {β : Type} (hw : w.heap.size ≤ w4.heap.size) : OwnFrom w4.heap.size (fun (_ : β) W => BI w w4 p W) := by
  rintro s A C row ⟨⟨d, h1, h2⟩, h6, h7⟩ hg hr
  refine ⟨⟨d, h1, blk_own w4.heap.size _ _ _ () A C row h2 hg hr⟩, h6.grown hg (fun r e => (hr r e).1) (Nat.le_refl _), ?_⟩
  refine ⟨hg.os.trans h7.os, hg.tape.trans h7.tape, hg.output.trans h7.output, Nat.le_trans h7.size hg.size, fun k hk => ?_⟩
  have hnk : (Option.some k : Option Nat) ≠ row := fun e => by have := (hr k e.symm).1; omega
  exact (hg.block k (Nat.lt_of_lt_of_le hk h7.size) hnk).trans (h7.block k hk)
theorem Vs.cap {w : World} {B : Nat} {g n c : Nat} {xs : List Value} (h : Vs w B (.slice (.some ⟨g, 0, none⟩) n c) xs) : xs.length ≤ c := by
  rcases h with ⟨h, _⟩ | ⟨g', cap, hv, h1, h2, h3, _⟩
  · cases h
  · injection hv with _ _ e
    subst e
    exact h3
set_option maxRecDepth 100000 in
set_option maxHeartbeats 2000000 in
theorem root_any (w : World) (bk c n : Nat) (xs : List ByteArray) (tab : Array Value) (hT : Tab w tab) (hX : ∀ (j : Nat) x, xs[j]? = some x → w.cell? ⟨bk, j, none⟩ = some (.string x)) (hbk : bk < w.heap.size) (hn0 : 0 < n) (hn : n ≤ 1000) (hn' : xs.length = n) (hc : n ≤ c) (hs : ∀ x ∈ xs, x.size ≤ 900000000) :
    Calls Tryz.prog 51 #[.slice (some ⟨bk, 0, none⟩) n c] w fun e w' => ∃ d : ByteArray, e = .returned (.string d) ∧ d.size = 32 ∧ Below w.heap.size w w' := by
  have HT := Lib.hid hT
  have HX := Lib.hid hX
  have HS := Lib.hid hs
  have HN := Lib.hid hn'
  have h0 : 0 < w.heap.size := HT.out.1.lt
  clear hT hX hs hn'
  refine calls_of_marks Tryz.func51 rfl ?_
  simp only [Tryz.ntmps51, List.size_toArray, List.length_cons, List.length_nil, Nat.reduceAdd, Nat.reduceSub, Array.replicate_succ, Array.replicate_zero, List.push_toArray, List.append_toArray, List.nil_append, List.cons_append]
  go_wp2_with fail
  go_loopw [3, 4, 13] (fun v u i wr => ∃ (k : Nat) (l : List ByteArray) (ns : List Int) (A A' : Option Addr) (m c1 c2 : Nat), k ≤ n ∧ i = .int .i64 k ∧ v = .slice A m c1 ∧ u = .slice A' m c2 ∧ m ≤ k ∧ (0 < k → 0 < m) ∧ Hid (l.length = m ∧ ns.length = m ∧ ∀ d ∈ l, d.size = 32) ∧ Hid (Stk wr w.heap.size (.slice A m c1) (.slice A' m c2) l ns) ∧ Hid (Below w.heap.size w wr)) (fun _ _ i _ => n - (intOf i).toNat)
  case atStart => exact ⟨0, [], [], none, none, 0, 0, 0, by omega, rfl, rfl, rfl, by omega, by omega, Lib.hid ⟨rfl, rfl, by simp⟩, Lib.hid ⟨Vs.nil _ _, Vs.nil _ _, .inl rfl⟩, Lib.hid (Below.refl _ _)⟩
  case round =>
    obtain ⟨k, l, ns, A, A', m, c1, c2, hk, rfl, rfl, rfl, hmk, hm0, hL, hS, hW⟩ := hrel
    by_cases hlt : k < n
    · obtain ⟨x, hx⟩ : ∃ x, xs[k]? = some x := by
        have hlt' : k < xs.length := by rw [HN.out]; exact hlt
        exact ⟨xs[k], List.getElem?_eq_getElem hlt'⟩
      have hcx := (hW.out.cell (p := ⟨bk, k, none⟩) hbk).trans (HX.out k x hx)
      have hxs := HS.out x (List.mem_of_getElem? hx)
      have HXX := Lib.hid hx
      clear hx
      go_wp2_with fail
      refine (leaf_any wr x tab ⟨HT.out.1.below hW.out h0, HT.out.2⟩ hxs).mono ?_
      rintro e w1 ⟨rfl, h1⟩
      obtain ⟨d, hd⟩ : ∃ d, d = leafF tab x := ⟨_, rfl⟩
      have hd32 : Hid (d.size = 32) := Lib.hid (by rw [hd]; exact leafF_size _ _)
      rw [← hd]
      clear hd
      have hzw := hW.out.size
      have hz1 := h1.size
      have HS1 := Lib.hid ((hS.out.below h1).below ((Below.refl _ w1).alloc (Nat.le_refl _) (.cells #[.string d] 9)))
      have HW1 := Lib.hid ((hW.out.trans (h1.mono hzw)).alloc (by omega) (.cells #[.string d] 9))
      have hk1 : (w1.alloc (.cells #[.string d] 9)).cell? ⟨w1.heap.size, 0, none⟩ = some (.string d) := (Blk.new w1 9 #[.string d]).cell 0
      have hzb1 : w.heap.size ≤ (w1.alloc (.cells #[.string d] 9)).heap.size := by simp; omega
      have hl1 : (strs l).length + 1 ≤ 1099511627776 := by simp [strs, hL.out.1]; omega
      have hl2 : (ints ns).length + 1 ≤ 1099511627776 := by simp [ints, hL.out.2.1]; omega
      go_wp2_with (first
        | (at_builtin; refine wpList_appendV Tryz.underlying86 info9 rfl (by decide) rfl (.tmp 17) (.tmp 20) rfl w.heap.size (.slice A m c1) (strs l) rfl HS1.out.whole hzb1 hl1 ⟨w1.heap.size, 0, none⟩ (.string d) rfl 1 rfl hk1 ?_; intro v2 w2 hV2 hg2 ho2; obtain ⟨A2, c3, rfl⟩ := hV2.len (n := m + 1) (by simp [strs, hL.out.1]); have HS2 := Lib.hid ((HS1.out.pushW hV2 hg2 ho2).below ((Below.refl _ w2).alloc (Nat.le_refl _) (.cells #[.int .i64 1] 3))); have HW2 := Lib.hid ((HW1.out.trans (grown_base HS1.out.whole hg2 hzb1)).alloc (by have := hg2.size; omega) (.cells #[.int .i64 1] 3)); have hk2 : (w2.alloc (.cells #[.int .i64 1] 3)).cell? ⟨w2.heap.size, 0, none⟩ = some (.int .i64 1) := (Blk.new w2 3 #[.int .i64 1]).cell 0; have hzb2 : w.heap.size ≤ (w2.alloc (.cells #[.int .i64 1] 3)).heap.size := HW2.out.size; clear hV2 hg2 ho2)
        | (at_builtin; refine wpList_appendV Tryz.underlying24 infoI3 rfl (by decide) rfl (.tmp 22) (.tmp 23) rfl w.heap.size (.slice A' m c2) (ints ns) rfl HS2.out.sizes hzb2 hl2 ⟨w2.heap.size, 0, none⟩ (.int .i64 1) rfl 1 rfl hk2 ?_; intro v3 w3 hV3 hg3 ho3; obtain ⟨A3, c4, rfl⟩ := hV3.len (n := m + 1) (by simp [ints, hL.out.2.1]); have HS3 := Lib.hid (HS2.out.pushS hV3 hg3 ho3); have HW3 := Lib.hid (HW2.out.trans (grown_base HS2.out.sizes hg3 hzb2)); clear hV3 hg3 ho3))
      obtain ⟨g, rfl⟩ := HS3.out.whole.some (by omega)
      obtain ⟨g', rfl⟩ := HS3.out.sizes.some (by omega)
      have HB3 : Hid (Both w3 w.heap.size g g' (m + 1) c3 c4) := Lib.hid ⟨_, _, by simp [hL.out.1], by simp [hL.out.2.1], (fun y hy => by
        rcases List.mem_append.1 hy with h | h
        · exact hL.out.2.2 y h
        · simp at h; subst h; exact hd32.out), HS3.out⟩
      have hb1 := HW1.out.size
      clear HS1 HS2 HS3 HW1 HW2 hk1 hk2 hzb1 hzb2 hl1 hl2 h1 hcx hS hW
      go_loopw [3, 4, 7] (fun v u i wr => ∃ (p : Nat) (g g' c c' : Nat), 1 ≤ p ∧ p ≤ m + 1 ∧ i = .int .i64 p ∧ v = .slice (some ⟨g, 0, none⟩) p c ∧ u = .slice (some ⟨g', 0, none⟩) p c' ∧ Hid (Both wr w.heap.size g g' p c c') ∧ Hid (Below w.heap.size w wr)) (fun _ _ i _ => (intOf i).toNat)
      case atStart => exact ⟨m + 1, g, g', c3, c4, by omega, by omega, by go_num, rfl, rfl, HB3, HW3⟩
      case round =>
        clear HB3 HW3
        obtain ⟨p, g, g', c3, c4, hp1, hp2, rfl, rfl, rfl, hB, hW⟩ := hrel
        obtain ⟨l, ns, hll, hnl, hgood, hS⟩ := hB.out
        by_cases h1p : 1 < p
        · obtain ⟨y1, hy1⟩ := hS.n (p - 2) (by omega)
          obtain ⟨y2, hy2⟩ := hS.n (p - 1) (by omega)
          have L1 := Later.of hy1
          have L2 := Later.of hy2
          have hgd : decide ((1 : Int) < (p : Int)) = true := by simp; omega
          have HG := Lib.hid hgd
          clear hgd
          go_wp2_with fail
          refine Loose.wp_region_later [] 15 (by kernel_rfl) (by kernel_rfl) ?_
          (simp only [List.take_succ_cons, List.take_zero, List.drop_succ_cons, List.drop_zero])
          iterate 3 (refine Loose.walk_plain rfl rfl rfl (fun K hK => ?_); go_big_quiet_op; refine hK _ ?_; clear hK K)
          rw [HG.out]
          iterate 12 (refine Loose.walk_plain rfl rfl rfl (fun K hK => ?_); go_big_quiet_op; refine hK _ ?_; clear hK K)
          refine Loose.walk_nil ?_
          rintro U hU -
          have HWU := Lib.hid (hW.out.trans (hU.mono hW.out.size))
          have HSU := Lib.hid (hS.below hU)
          clear L1 L2 hy1 hy2
          by_cases hyy : y1 = y2
          · subst hyy
            have hcp := HSU.out.whole.cap
            have hcp' := HSU.out.sizes.cap
            simp only [strs, ints, List.length_map, hll, hnl] at hcp hcp'
            obtain ⟨d1, hd1, hc1⟩ := HSU.out.d (p - 2) (by omega)
            obtain ⟨d2, hd2, hc2⟩ := HSU.out.d (p - 1) (by omega)
            obtain ⟨y2, hy2⟩ := HSU.out.n (p - 1) (by omega)
            have hs1 := hgood d1 (List.mem_of_getElem? hd1)
            have hs2 := hgood d2 (List.mem_of_getElem? hd2)
            have HG1 := Lib.hid (And.intro hs1 hs2)
            clear hs1 hs2 hd1 hd2
            have L1 := Later.of hc1
            have L2 := Later.of hc2
            go_wp2_with fail
            refine Loose.wp_region_later [(14, .is (.string (nodeF tab d1 d2))), (15, .row U.heap.size 9 1 #[.string (nodeF tab d1 d2)])] 16 (by kernel_rfl) (by kernel_rfl) ?_
            (simp only [List.take_succ_cons, List.take_zero, List.drop_succ_cons, List.drop_zero])
            (repeat (first | refine Loose.walk_skip rfl ?_ | (refine Loose.walk_plain rfl rfl rfl (fun K hK => ?_); go_big_quiet_op; refine hK _ ?_; clear hK K)))
            refine Loose.walk_loose rfl rfl (fun W' hW' hF => Loose.loose_call (f := 76) (args := #[.string d1, .string d2]) (by kernel_rfl) ((node_any W' d1 d2 tab ⟨(HT.out.1.below HWU.out h0).below hW' (by have := HWU.out.size; omega), HT.out.2⟩ (by have := HG1.out.1; omega) (by have := HG1.out.2; omega)).mono fun e w' ⟨he, hb⟩ => ⟨_, he, hb, rfl⟩)) ?_
            rintro _ _ _ rfl
            (simp only [Act.put, List.setIfInBounds_toArray, List.set_cons_succ, List.set_cons_zero])
            (repeat (first | refine Loose.walk_skip rfl ?_ | (refine Loose.walk_plain rfl rfl rfl (fun K hK => ?_); go_big_quiet_op; refine hK _ ?_; clear hK K)))
            refine Loose.walk_loose rfl rfl (fun W' hW' _ => Loose.loose_val (u := .slice (.some ⟨W'.heap.size, 0, none⟩) 1 1) (W' := W'.alloc (.cells #[.string (nodeF tab d1 d2)] 9)) (by kernel_rfl) ((Below.refl _ _).alloc (Nat.le_refl _) _) ⟨_, rfl, hW'.size, Blk.new _ _ _⟩) ?_
            rintro _ _ _ ⟨q, rfl, hq, _⟩
            (simp only [Act.put, List.setIfInBounds_toArray, List.set_cons_succ, List.set_cons_zero])
            (repeat (first | refine Loose.walk_skip rfl ?_ | (refine Loose.walk_plain rfl rfl rfl (fun K hK => ?_); go_big_quiet_op; refine hK _ ?_; clear hK K)))
            refine Loose.walk_nil ?_
            rintro V hVb hVF
            have hqb := (Loose.Pred.row_at (B := U.heap.size) (t := 9) (n := 1) (cs := #[.string (nodeF tab d1 d2)]) (x := q) (W := V) hVF.2).2
            have hkq := hqb.cell 0
            have HSV := HSU.out.below hVb
            have hWV := Lib.hid (HWU.out.trans (hVb.mono HWU.out.size))
            have hgg : (Option.some g : Option Nat) ≠ Option.some g' := by
              rcases HSV.apart with h | h
              · cases h
              · simpa [Value.ownBlock] using h
            have hT1 := Lib.hid (HSV.whole.take (p - 2) (by simp [strs, hll]))
            have hS1 := Lib.hid HSV.sizes
            have hzV : w.heap.size ≤ V.heap.size := hWV.out.size
            have hl1 : (List.take (p - 2) (strs l)).length + 1 ≤ 1099511627776 := by simp [strs, hll]; omega
            have hl3 : (List.take (p - 2) (strs l)).length = p - 2 := by simp [strs, hll]
            have hn32 := nodeF_size tab d1 d2
            obtain ⟨nd, hnd⟩ : ∃ nd, nd = nodeF tab d1 d2 := ⟨_, rfl⟩
            rw [← hnd] at hkq hn32 ⊢
            clear L1 L2 hc1 hc2 hcp hVF hqb hVb HSU HWU hnd hy2 HSV
            go_wp2_with (at_builtin; refine wpList_appendV Tryz.underlying86 info9 rfl (by decide) rfl (.tmp 47) (.tmp 59) rfl w.heap.size (.slice (.some ⟨g, 0, none⟩) (p - 2) c3) (List.take (p - 2) (strs l)) rfl hT1.out hzV hl1 ⟨q, 0, none⟩ (.string nd) rfl 1 rfl hkq ?_; intro v5 w5 hV5 hg5 ho5; obtain ⟨A5, c5, rfl⟩ := hV5.len (n := p - 1) (by simp [hl3]; omega); have HV5 := Lib.hid hV5; have HG5 := Lib.hid hg5; have HO5 := Lib.hid ho5; clear hV5 hg5 ho5)
            have hS5 := hS1.out.kept HG5.out (.inr (by simpa [Value.ownBlock] using Ne.symm hgg))
            obtain ⟨y3, hy3⟩ : ∃ y, w5.cell? ⟨g', p - 1, none⟩ = .some (.int .i64 y) := by
              refine ⟨ns[p - 1]'(by omega), ?_⟩
              have := hS5.at_ (p - 1) (by simp [ints, hnl]; omega)
              simpa [ints] using this
            have hW5 := Lib.hid (hWV.out.trans (grown_base hT1.out HG5.out hzV))
            have L3 := Later.of hy3
            have HS5 := Lib.hid hS5
            clear hkq hS5 hl1 hzV
            refine Loose.wp_region_later [(10, .row w5.heap.size 3 1 #[.int .i64 (wrap64 (2 * y3))])] 11 (by kernel_rfl) (by kernel_rfl) ?_
            (simp only [List.take_succ_cons, List.take_zero, List.drop_succ_cons, List.drop_zero])
            (repeat (first | refine Loose.walk_skip rfl ?_ | (refine Loose.walk_plain rfl rfl rfl (fun K hK => ?_); go_big_quiet_op; refine hK _ ?_; clear hK K)))
            refine Loose.walk_loose rfl rfl (fun W' hW' _ => Loose.loose_val (u := .slice (.some ⟨W'.heap.size, 0, none⟩) 1 1) (W' := W'.alloc (.cells #[.int .i64 (wrap64 (2 * y3))] 3)) (by kernel_rfl) ((Below.refl _ _).alloc (Nat.le_refl _) _) ⟨_, rfl, hW'.size, Blk.new _ _ _⟩) ?_
            rintro _ _ _ ⟨q6, rfl, hq6, _⟩
            (simp only [Act.put, List.setIfInBounds_toArray, List.set_cons_succ, List.set_cons_zero])
            (repeat (first | refine Loose.walk_skip rfl ?_ | (refine Loose.walk_plain rfl rfl rfl (fun K hK => ?_); go_big_quiet_op; refine hK _ ?_; clear hK K)))
            refine Loose.walk_nil ?_
            rintro V6 hVb6 hVF6
            have hqb6 := (Loose.Pred.row_at (B := w5.heap.size) (t := 3) (n := 1) (cs := #[.int .i64 (wrap64 (2 * y3))]) (x := q6) (W := V6) hVF6.2).2
            have hkq6 := hqb6.cell 0
            have hT6 := Lib.hid ((HS5.out.below hVb6).take (p - 2) (by simp [ints, hnl]))
            have hA6 := Lib.hid (HV5.out.below hVb6)
            have hW6 := Lib.hid (hW5.out.trans (hVb6.mono hW5.out.size))
            have hz6 : w.heap.size ≤ V6.heap.size := hW6.out.size
            have hl6 : (List.take (p - 2) (ints ns)).length + 1 ≤ 1099511627776 := by simp [ints, hnl]; omega
            have hl7 : (List.take (p - 2) (ints ns)).length = p - 2 := by simp [ints, hnl]
            generalize wrap64 (2 * y3) = yy at *
            clear L3 hy3 hVF6 hqb6 hVb6
            go_wp2_with (at_builtin; refine wpList_appendV Tryz.underlying24 infoI3 rfl (by decide) rfl (.tmp 64) (.tmp 71) rfl w.heap.size (.slice (.some ⟨g', 0, none⟩) (p - 2) c4) (List.take (p - 2) (ints ns)) rfl hT6.out hz6 hl6 ⟨q6, 0, none⟩ (.int .i64 yy) rfl 1 rfl hkq6 ?_; intro v7 w7 hV7 hg7 ho7; obtain ⟨A7, c7, rfl⟩ := hV7.len (n := p - 1) (by simp [hl7]; omega); have HV7 := Lib.hid hV7; have HG7 := Lib.hid hg7; have HO7 := Lib.hid ho7; clear hV7 hg7 ho7)
            have hlg' : g' < V.heap.size := (hS1.out.own g' rfl).2
            have hz5 := HG5.out.size
            have hzv6 := HG7.out.size
            have hA5own := hA6.out.own
            have hne5 : (Value.slice A5 (p - 1) c5).ownBlock ≠ Option.some g' := by
              rcases HO5.out with e | ⟨k', e, hk'⟩
              · rw [e]; exact hgg
              · rw [e]
                intro e'
                injection e' with e'
                omega
            have hX7 := hA6.out.kept HG7.out (.inr hne5)
            have hap : (Value.slice A5 (p - 1) c5).ownBlock ≠ (Value.slice A7 (p - 1) c7).ownBlock := by
              rcases HO7.out with e | ⟨k', e, hk'⟩
              · rw [e]; exact hne5
              · rw [e]
                intro e'
                have := (hA5own k' e').2
                omega
            obtain ⟨g5, rfl⟩ := hX7.some (by omega)
            obtain ⟨g7, rfl⟩ := HV7.out.some (by omega)
            have hB7 : Hid (Both w7 w.heap.size g5 g7 (p - 1) c5 c7) := Lib.hid ⟨l.take (p - 2) ++ [nd], ns.take (p - 2) ++ [yy], by simp [hll]; omega, by simp [hnl]; omega, (fun y hy => by
              rcases List.mem_append.1 hy with h | h
              · exact hgood y (List.mem_of_mem_take h)
              · simp at h; subst h; exact hn32), ⟨by simpa [strs, List.map_take] using hX7, by simpa [ints, List.map_take] using HV7.out, .inr hap⟩⟩
            have hW7 := Lib.hid (hW6.out.trans (grown_base hT6.out HG7.out hz6))
            exact ⟨⟨p - 1, g5, g7, c5, c7, by omega, by omega, by congr 1; omega, rfl, rfl, hB7, hW7⟩, by simp [intOf]; omega⟩
          · go_wp2_with fail
            go_roundw
            case rel => exact ⟨k + 1, l, ns, some ⟨g, 0, none⟩, some ⟨g', 0, none⟩, p, c3, c4, by omega, by go_num, rfl, rfl, by omega, by omega, Lib.hid ⟨hll, hnl, hgood⟩, Lib.hid (hS.below hU), HWU⟩
            case measure => simp [intOf]; omega
        · obtain rfl : p = 1 := by omega
          go_wp2_with fail
          refine wp_region_later (by kernel_rfl) (by kernel_rfl) ?_
          repeat (go_big_quiet_step (fail))
          refine wpQuiet_nil ?_
          rintro U ⟨⟨_, hU⟩, rfl⟩
          have HWU := Lib.hid (hW.out.trans (hU.mono hW.out.size))
          go_wp2_with fail
          go_roundw
          case rel => exact ⟨k + 1, l, ns, some ⟨g, 0, none⟩, some ⟨g', 0, none⟩, 1, c3, c4, by omega, by go_num, rfl, rfl, by omega, by omega, Lib.hid ⟨hll, hnl, hgood⟩, Lib.hid (hS.below hU), HWU⟩
          case measure => simp [intOf]; omega
    · have hkn : k = n := by omega
      have hmp := hm0 (by omega)
      obtain ⟨g, rfl⟩ := hS.out.whole.some hmp
      have hll := hL.out.1
      have hgood := hL.out.2.2
      obtain ⟨d0, hd0, hc0⟩ := hS.out.d (m - 1) (by omega)
      have hs0 := hgood d0 (List.mem_of_getElem? hd0)
      have hcap := hS.out.whole.cap
      simp only [strs, List.length_map, hll] at hcap
      have hgl : g < wr.heap.size := (hS.out.whole.own g rfl).2
      have HWh := Lib.hid hS.out.whole
      have HG := Lib.hid hgood
      have HLL := Lib.hid hll
      clear hL hS hd0 hgood hll
      go_wp2_with fail
      refine (backward_any _ _ _ _).mono ?_
      rintro e w4 ⟨b1, rfl, hb1, hlb, h4⟩
      have hz4 := h4.size
      simp only [World.size_alloc] at hz4 hlb
      have HP : Hid (Blk w4 wr.heap.size 9 #[.string d0]) := Lib.hid ((Blk.new wr 9 #[.string d0]).below h4 (by simp))
      have hWw := hW.out.size
      have HW4 : Hid (Below w.heap.size w w4) := Lib.hid ((hW.out.alloc hW.out.size (.cells #[.string d0] 9)).trans (h4.mono (by simp; omega)))
      have HCE : Hid (∀ i, i < m → w4.cell? ⟨g, i, none⟩ = .some (.string (l[i]?.getD ⟨#[]⟩))) := Lib.hid (fun i hi => by
        rw [h4.cell (p := ⟨g, i, none⟩) (by simp; omega), World.cell?_alloc_some wr ⟨g, i, none⟩ _ (by rw [HWh.out.at_ i (by simp [strs, HLL.out]; omega)]; rfl), HWh.out.at_ i (by simp [strs, HLL.out]; omega)]
        have hil : i < l.length := by rw [HLL.out]; exact hi
        simp [strs, List.getElem?_eq_getElem hil])
      have H32 : Hid (∀ i, i < m → (l[i]?.getD ⟨#[]⟩ : ByteArray).size = 32) := Lib.hid (fun i hi => by
        have hil : i < l.length := by rw [HLL.out]; exact hi
        rw [List.getElem?_eq_getElem hil]
        exact HG.out _ (List.getElem_mem hil))
      have HB1 := Lib.hid hb1
      have HS0 := Lib.hid hs0
      clear h4 hb1 hs0 hc0 hW HWh
      go_wp2_with fail
      refine with_act ?_
      intro b hb
      refine wpIn_wide (n := 9).1 ?_
      obtain ⟨S, hS⟩ : ∃ S : Nat → ByteArray, S = fun i => l[i]?.getD ⟨#[]⟩ := ⟨_, rfl⟩
      have HC2 : Hid (∀ i, i < m - 1 → w4.cell? ⟨g, i, none⟩ = .some (.string (S i))) := Lib.hid (by rw [hS]; exact fun i hi => HCE.out i (by omega))
      have H33 : Hid (∀ i, i < m → (S i).size = 32) := Lib.hid (by rw [hS]; exact H32.out)
      clear HCE H32 hS
      refine wpIn_rangeFunc_ownF (α := Fin (m - 1)) (F := Fence.wide) rfl (by omega) (gf := 111) (lb := #[.pointer (.some ⟨b1, 0, none⟩)]) (by rw [hb]; rfl) trivial (enters_of Tryz.func111 (by kernel_rfl) rfl)
        (back_stops 8 (by omega) b1 g (m - 1) c1 w4.heap.size wr.heap.size S w4 HB1.out HC2.out (by omega) HB1.out.lt (by omega) (by omega) (by omega) (by omega)) (fun h k => h.trans k) (fun W l o o' hl _ _ _ => KeepB.putObj hl o') (Below.refl _ _) (fun _ => rfl)
        (fun _ W => BI w w4 wr.heap.size W) (fun _ _ _ => False) (BI.own HW4.out.size) (fun _ _ _ _ _ hs _ _ => hs) ⟨⟨d0, HS0.out, HP.out⟩, KeepB.refl _ _ _, HW4.out⟩
        (fun x => { tmps := ((b.tmps.setIfInBounds 90 (.int .i64 ((m - 1 - 1 - x.val : Nat) : Int))).setIfInBounds 91 (.string (S (m - 1 - 1 - x.val)))).setIfInBounds 10 (.string (S (m - 1 - 1 - x.val))), defers := [] }) ?assign ?body ?done ?stop
      case assign =>
        subst hb
        intro l x W K hK
        simp only [List.setIfInBounds_toArray, List.set_cons_succ, List.set_cons_zero] at hK
        gi_wp2
        exact hK
      case body =>
        subst hb
        rintro l pre x W ⟨⟨d, hd, hP⟩, hI2, hI3⟩ hlen
        have cp := hP.cell 0
        have hx := x.isLt
        have hSx := H33.out (m - 1 - 1 - x.val) (by omega)
        obtain ⟨r, hr⟩ : ∃ r, r = S (m - 1 - 1 - x.val) := ⟨_, rfl⟩
        rw [← hr] at hSx ⊢
        obtain ⟨ix, hix⟩ : ∃ ix : Int, ix = ((m - 1 - 1 - x.val : Nat) : Int) := ⟨_, rfl⟩
        rw [← hix]
        clear hr hix
        simp only [List.setIfInBounds_toArray, List.set_cons_succ, List.set_cons_zero]
        gi_wp2
        refine ⟨trivial, ?_⟩
        refine (CallsIn.inRound _ (callsIn_wide.2 (node_any W r d tab ⟨HT.out.1.below hI3 h0, HT.out.2⟩ (by omega) (by omega)))).mono ?_
        rintro e W' ⟨rfl, hb'⟩
        have hP' := hP.below hb' hP.lt
        have cp' := hP'.cell 0
        have fp' := hP'.frozen 0
        have hn32 := nodeF_size tab r d
        obtain ⟨nd, hnd⟩ : ∃ nd, nd = nodeF tab r d := ⟨_, rfl⟩
        rw [← hnd] at hn32 ⊢
        have hBut := Lib.hid ((But.of_below (p := wr.heap.size) hb').setCell 0 (.string nd))
        have HPn := Lib.hid (hP'.set_ 0 (.string nd))
        clear hnd hb' hP'
        gi_wp2
        exact ⟨KeepsOthers.of_but hBut.out hP, KeepB.of_but hBut.out hI2.1, ⟨⟨nd, hn32, HPn.out⟩, hI2.trans (KeepB.of_but hBut.out hI2.1), hBut.out.below hI3 (by omega) (Nat.le_refl _)⟩⟩
      case done =>
        subst hb
        rintro D xs W hD rfl ⟨⟨d, hd, hP⟩, hI2, hI3⟩ hK
        have cp := hP.cell 0
        go_wp2_with fail
        exact leaves_mark hK (results_tmp rfl _ _ _) ⟨d, rfl, hd, below_putObj hI3 (by have := HW4.out.size; omega) _⟩
      case stop => intro D c' pre W _ _ h; exact h.elim
end Go.Proofs.YtnehgpeelgjjhaaGreatDoor.Tw
namespace Go.Proofs.YtnehgpeelgjjhaaGreatDoor.Tw
open Go.RowKit Go.Shelf
attribute [local irreducible] enc1
set_option maxRecDepth 100000 in
theorem putStr (w : World) (s : ByteArray) (hs : s.size < 64) : Calls Tryz.prog 50 #[.string s] w fun e w' => e = .returned (.tuple #[.string (enc1 s.size ++ s), .int .i64 0]) ∧ Below w.heap.size w w' := by
  have h1 : ¬ (65536 : Int) < s.size := by omega
  have h2 : ¬ 9223372036854775807 < (enc1 s.size).size + s.size := by rw [enc1_size]; omega
  go_enter Tryz.func50, Tryz.ntmps50
  go_wp2_with fail
  refine (putInt' w s.size hs).mono ?_
  rintro e w1 ⟨rfl, hb⟩
  go_wp2_with fail
  go_ret2
  exact ⟨rfl, hb⟩
/-- a post of small numbers and a short text -/
def SmallP (p : Rp.Post) : Prop := (0 ≤ p.epoch ∧ p.epoch < 64) ∧ (0 ≤ p.origin ∧ p.origin < 64) ∧ (0 ≤ p.number ∧ p.number < 64) ∧ p.text.size < 64
set_option maxRecDepth 100000 in
set_option maxHeartbeats 2000000 in
/-- replica.Digest of a log of small posts -/
theorem digest0 (w : World) (tab : Array Value) (hT : Tab w tab) (r : Rp.Rep) (A : Option Addr) (n c : Nat) (A' : Option Addr) (n' c' : Nat) (h : RepR w w.heap.size r A n A' n') (hv : Rp.valid r = true) (hn0 : 0 < n) (hn : n ≤ 1000) (hp : ∀ x ∈ r.posts, SmallP x) :
    Calls Tryz.prog 18 #[repV r A n c A' n' c'] w fun e w' => ∃ d : ByteArray, e = .returned (.tuple #[.string d, .int .i64 0]) ∧ d.size = 32 ∧ Below w.heap.size w w' := by
  have HT := Lib.hid hT
  have ht0 := hT.1.lt
  have HR := Lib.hid h
  have HV := Lib.hid hv
  have HP := Lib.hid hp
  clear hT h hv hp
  obtain ⟨me, many, clock, posts, heard⟩ := r
  unfold repV
  simp only
  have hX := Lib.hid (Blk.new w 26 #[.int .i64 me, .int .i64 many, .int .i64 clock, .slice A n c, .slice A' n' c'])
  have hW := Lib.hid ((Below.refl w.heap.size w).alloc (Nat.le_refl _) (.cells #[.int .i64 me, .int .i64 many, .int .i64 clock, .slice A n c, .slice A' n' c'] 26))
  obtain ⟨d0, d1, d2, d3, d4⟩ := hX.out.cells5
  go_enter Tryz.func18, Tryz.ntmps18
  go_wp2_with fail
  refine (valid_any _ ⟨me, many, clock, posts, heard⟩ A n c A' n' c' ((HR.out.below hW.out).more hW.out.size)).mono ?_
  rw [HV.out]
  rintro e w1 ⟨rfl, h1⟩
  have hX1 := Lib.hid (hX.out.below h1 hX.out.lt)
  have hW1 := Lib.hid (hW.out.trans (h1.mono hW.out.size))
  clear d0 d1 d2 d3 d4 h1 hX hW
  obtain ⟨d0, d1, d2, d3, d4⟩ := hX1.out.cells5
  go_wp2_with fail
  go_loopw [4, 20] (fun v i wr => ∃ (k : Nat) (xs : List ByteArray) (B : Option Addr) (cc : Nat), k ≤ n ∧ i = .int .i64 k ∧ v = .slice B k cc ∧ Hid (xs.length = k ∧ ∀ x ∈ xs, x.size ≤ 100) ∧ Hid (Vs wr w.heap.size (.slice B k cc) (strs xs)) ∧ Hid (Below w.heap.size w wr)) (fun _ i _ => n - (intOf i).toNat)
  case atStart => exact ⟨0, [], none, 0, by omega, rfl, rfl, Lib.hid ⟨rfl, by simp⟩, Lib.hid (Vs.nil _ _), hW1⟩
  case round =>
    clear hW1
    obtain ⟨k, xs, B, cc, hk, rfl, rfl, hxs, hV, hW⟩ := hrel
    by_cases hlt : k < n
    · obtain ⟨g, off, x, rfl, hbl, hq, e0, e1, e2, e3⟩ := (HR.out.posts.below hW.out).post HR.out.len hlt
      have HPx := Lib.hid (HP.out x (List.mem_of_getElem? hq))
      clear hq
      obtain ⟨ep, og, nu, tx⟩ := x
      simp only [SmallP] at HPx
      obtain ⟨⟨p1, p2⟩, ⟨p3, p4⟩, ⟨p5, p6⟩, p7⟩ := HPx.out
      obtain ⟨ne, rfl⟩ := Int.eq_ofNat_of_zero_le p1
      obtain ⟨no, rfl⟩ := Int.eq_ofNat_of_zero_le p3
      obtain ⟨nn, rfl⟩ := Int.eq_ofNat_of_zero_le p5
      simp only at e0 e1 e2 e3
      have q1 : ne < 64 := by omega
      have q2 : no < 64 := by omega
      have q3 : nn < 64 := by omega
      have q4 : tx.size < 64 := p7
      clear HPx p1 p2 p3 p4 p5 p6 p7
      have g1 := enc1_size ne
      have g2 := enc1_size no
      have g3 := enc1_size nn
      have g4 := enc1_size tx.size
      obtain ⟨E1, hE1⟩ : ∃ E, E = enc1 ne := ⟨_, rfl⟩
      obtain ⟨E2, hE2⟩ : ∃ E, E = enc1 no := ⟨_, rfl⟩
      obtain ⟨E3, hE3⟩ : ∃ E, E = enc1 nn := ⟨_, rfl⟩
      obtain ⟨E4, hE4⟩ : ∃ E, E = enc1 tx.size := ⟨_, rfl⟩
      have HE1 := Lib.hid hE1
      have HE2 := Lib.hid hE2
      have HE3 := Lib.hid hE3
      have HE4 := Lib.hid hE4
      rw [← hE1] at g1
      rw [← hE2] at g2
      rw [← hE3] at g3
      rw [← hE4] at g4
      have z1 : ¬ 9223372036854775807 < E1.size := by omega
      have z2 : ¬ 9223372036854775807 < E1.size + E2.size := by omega
      have z3 : ¬ 9223372036854775807 < E1.size + E2.size + E3.size := by omega
      have z4 : ¬ 9223372036854775807 < E1.size + E2.size + E3.size + (E4.size + tx.size) := by omega
      have HSZ : Hid (((⟨#[]⟩ : ByteArray) ++ E1 ++ E2 ++ E3 ++ (E4 ++ tx)).size ≤ 100) := Lib.hid (by simp only [ByteArray.size_append]; show 0 + E1.size + E2.size + E3.size + (E4.size + tx.size) ≤ 100; omega)
      clear hE1 hE2 hE3 hE4 g1 g2 g3 g4
      obtain ⟨Ws, hWs⟩ : ∃ Ws, Ws = (wr.alloc (.cells #[.int .i64 ne, .int .i64 no, .int .i64 nn, .string tx] 57)).alloc (.cells #[.int .i64 ne, .int .i64 no, .int .i64 nn] 3) := ⟨_, rfl⟩
      have hR := Lib.hid (show Blk Ws (wr.heap.size + 1) 3 #[.int .i64 ne, .int .i64 no, .int .i64 nn] by rw [hWs]; exact Blk.new2 _ _ _ _)
      have hQ := Lib.hid (show Blk Ws wr.heap.size 57 #[.int .i64 ne, .int .i64 no, .int .i64 nn, .string tx] by rw [hWs]; exact (Blk.new _ _ _).alloc _)
      have hb : Below wr.heap.size wr Ws := by rw [hWs]; exact ((Below.refl _ wr).alloc (Nat.le_refl _) _).alloc (by simp) _
      have hB := Lib.hid (hW.out.trans (hb.mono hW.out.size))
      have hVs := Lib.hid (hV.out.below hb)
      have hsz := hB.out.size
      go_wp2_with fail
      rw [← hWs]
      clear hWs hb hV hW e0 e1 e2 e3
      obtain ⟨r0, r1, r2⟩ := hR.out.three
      refine wp_loop_rounds 4 ?_
      rw [rounds_succ]
      go_wp2_with fail
      refine (putInt' Ws ne q1).mono ?_
      rw [← HE1.out]
      rintro e v1 ⟨rfl, f1⟩
      have hR1 := Lib.hid (hR.out.below f1 hR.out.lt)
      have hQ1 := Lib.hid (hQ.out.below f1 hQ.out.lt)
      have hB1 := Lib.hid (hB.out.trans (f1.mono hB.out.size))
      have hV1 := Lib.hid (hVs.out.below f1)
      clear f1 hR hQ hB hVs r0 r1 r2
      obtain ⟨r0, r1, r2⟩ := hR1.out.three
      go_wp2_with fail
      rw [rounds_succ]
      go_wp2_with fail
      refine (putInt' v1 no q2).mono ?_
      rw [← HE2.out]
      rintro e v2 ⟨rfl, f2⟩
      have hR2 := Lib.hid (hR1.out.below f2 hR1.out.lt)
      have hQ2 := Lib.hid (hQ1.out.below f2 hQ1.out.lt)
      have hB2 := Lib.hid (hB1.out.trans (f2.mono hB1.out.size))
      have hV2 := Lib.hid (hV1.out.below f2)
      clear f2 hR1 hQ1 hB1 hV1 r0 r1 r2
      obtain ⟨r0, r1, r2⟩ := hR2.out.three
      go_wp2_with fail
      rw [rounds_succ]
      go_wp2_with fail
      refine (putInt' v2 nn q3).mono ?_
      rw [← HE3.out]
      rintro e v3 ⟨rfl, f3⟩
      have hQ3 := Lib.hid (hQ2.out.below f3 hQ2.out.lt)
      have hB3 := Lib.hid (hB2.out.trans (f3.mono hB2.out.size))
      have hV3 := Lib.hid (hV2.out.below f3)
      clear f3 hR2 hQ2 hB2 hV2 r0 r1 r2
      have t3 : v3.cell? ⟨wr.heap.size, 3, none⟩ = some (.string tx) := hQ3.out.cell 3
      go_wp2_with fail
      rw [rounds_succ]
      go_wp2_with fail
      refine (putStr v3 tx q4).mono ?_
      rw [← HE4.out]
      rintro e v4 ⟨rfl, f4⟩
      have hB4 := Lib.hid (hB3.out.trans (f4.mono hB3.out.size))
      have hV4 := Lib.hid (hV3.out.below f4)
      have hz4 := hB4.out.size
      clear f4 hQ3 hB3 hV3 t3
      obtain ⟨Q, hQe⟩ : ∃ Q, Q = (⟨#[]⟩ : ByteArray) ++ E1 ++ E2 ++ E3 ++ (E4 ++ tx) := ⟨_, rfl⟩
      have HQ := Lib.hid hQe
      have hk0 : (v4.alloc (.cells #[.string ((⟨#[]⟩ : ByteArray) ++ E1 ++ E2 ++ E3 ++ (E4 ++ tx))] 9)).cell? ⟨v4.heap.size, 0, none⟩ = some (.string Q) := by rw [hQe]; exact (Blk.new v4 9 _).cell 0
      have HVx := Lib.hid (hV4.out.below ((Below.refl _ v4).alloc (Nat.le_refl _) (.cells #[.string ((⟨#[]⟩ : ByteArray) ++ E1 ++ E2 ++ E3 ++ (E4 ++ tx))] 9)))
      have hBx := Lib.hid (hB4.out.alloc hz4 (.cells #[.string ((⟨#[]⟩ : ByteArray) ++ E1 ++ E2 ++ E3 ++ (E4 ++ tx))] 9))
      have hzx := hBx.out.size
      have hlx : (strs xs).length + 1 ≤ 1099511627776 := by simp [strs, hxs.out.1]; omega
      have hlx' : (strs xs).length = k := by simp [strs, hxs.out.1]
      clear hQe hV4 hB4
      go_wp2_with (at_builtin; refine wpList_appendV Tryz.underlying86 info9 rfl (by decide) rfl (.tmp 51) (.tmp 55) rfl w.heap.size (.slice B k cc) (strs xs) rfl HVx.out hzx hlx ⟨v4.heap.size, 0, none⟩ (.string Q) rfl 1 rfl hk0 ?_; intro v5 w5 hV5 hg5 ho5; obtain ⟨A5, c5, rfl⟩ := hV5.len (n := k + 1) (by simp [hlx']); have HV5 := Lib.hid hV5; have HB5 := Lib.hid (hBx.out.trans (grown_base HVx.out hg5 hzx)); clear hV5 hg5 ho5)
      go_roundw
      case rel => exact ⟨k + 1, xs ++ [Q], A5, c5, by omega, by go_num, rfl, Lib.hid ⟨by simp [hxs.out.1], fun y hy => by
        rcases List.mem_append.1 hy with h | h
        · exact hxs.out.2 y h
        · simp at h; subst h; rw [HQ.out]; exact HSZ.out⟩, Lib.hid (by simpa [strs] using HV5.out), HB5⟩
      case measure => simp [intOf]; omega
    · obtain rfl : k = n := by omega
      obtain ⟨g, rfl⟩ := hV.out.some hn0
      go_wp2_with fail
      have hsW := hW.out.size
      refine (root_any wr g cc k xs tab (HT.out.below hW.out ht0) (fun j x hx => by
        have hj : j < xs.length := (List.getElem?_eq_some_iff.1 hx).1
        have := hV.out.at_ j (by simpa [strs] using hj)
        rw [this]
        have e := (List.getElem?_eq_some_iff.1 hx).2
        simp [strs, e]) (hV.out.own g rfl).2 hn0 hn hxs.out.1 (by have := hV.out.cap; simpa [strs, hxs.out.1] using this) (fun x hx => Nat.le_trans (hxs.out.2 x hx) (by omega))).mono ?_
      rintro e w2 ⟨d, rfl, hd, h2⟩
      go_wp2_with fail
      go_ret2
      exact ⟨d, rfl, hd, hW.out.trans (h2.mono hsW)⟩
end Go.Proofs.YtnehgpeelgjjhaaGreatDoor.Tw
namespace Go.Proofs.YtnehgpeelgjjhaaGreatDoor.Tw
open Go.RowKit Go.Shelf
theorem Reads.on {w w' : World} {lo hi size n : Nat} {A : Option Addr} {xs : List Value} (h : Reads w hi size A n xs) (hf : Fresh lo A) (hk : ∀ b i, lo ≤ b → b < hi → w'.cell? ⟨b, i, none⟩ = w.cell? ⟨b, i, none⟩) : Reads w' hi size A n xs :=
  ⟨h.1, fun hn => by
    obtain ⟨b, off, e, hb, hc⟩ := h.2 hn
    exact ⟨b, off, e, hb, fun j u hu => (hk b _ (hf _ e) hb).trans (hc j u hu)⟩⟩
/-- the cells V are those of the replica r; its lists lie in the blocks from lo on, below hi -/
def RepAt (W : World) (V : Array Value) (r : Rp.Rep) (lo hi : Nat) : Prop :=
  ∃ A n c A' n' c', V = #[.int .i64 r.me, .int .i64 r.many, .int .i64 r.clock, .slice A n c, .slice A' n' c'] ∧ RepR W hi r A n A' n' ∧ Fresh lo A ∧ Fresh lo A'
def MsgAt (W : World) (V : Array Value) (m : Rp.Msg) (lo hi : Nat) : Prop :=
  ∃ M N C M' N' C', V = #[.int .i64 m.src, .slice M N C, .slice M' N' C'] ∧ MsgR W hi m M N M' N' ∧ N ≤ C ∧ Fresh lo M ∧ Fresh lo M'
theorem RepAt.on {w w' : World} {V : Array Value} {r : Rp.Rep} {lo hi : Nat} (h : RepAt w V r lo hi) (hk : ∀ b i, lo ≤ b → b < hi → w'.cell? ⟨b, i, none⟩ = w.cell? ⟨b, i, none⟩) : RepAt w' V r lo hi := by
  obtain ⟨A, n, c, A', n', c', e, hr, h1, h2⟩ := h
  exact ⟨A, n, c, A', n', c', e, ⟨hr.posts.on h1 hk, hr.len, hr.heard.on h2 hk, hr.len', hr.few, hr.few'⟩, h1, h2⟩
theorem MsgAt.on {w w' : World} {V : Array Value} {r : Rp.Msg} {lo hi : Nat} (h : MsgAt w V r lo hi) (hk : ∀ b i, lo ≤ b → b < hi → w'.cell? ⟨b, i, none⟩ = w.cell? ⟨b, i, none⟩) : MsgAt w' V r lo hi := by
  obtain ⟨A, n, c, A', n', c', e, hr, hc, h1, h2⟩ := h
  exact ⟨A, n, c, A', n', c', e, ⟨hr.posts.on h1 hk, hr.len, hr.heard.on h2 hk, hr.len', hr.few, hr.few'⟩, hc, h1, h2⟩
theorem RepAt.below {w w' : World} {V : Array Value} {r : Rp.Rep} {lo hi B : Nat} (h : RepAt w V r lo hi) (hb : Below B w w') (hB : hi ≤ B) : RepAt w' V r lo hi := h.on fun b i _ hh => hb.cell (p := ⟨b, i, none⟩) (by show b < B; omega)
theorem MsgAt.below {w w' : World} {V : Array Value} {r : Rp.Msg} {lo hi B : Nat} (h : MsgAt w V r lo hi) (hb : Below B w w') (hB : hi ≤ B) : MsgAt w' V r lo hi := h.on fun b i _ hh => hb.cell (p := ⟨b, i, none⟩) (by show b < B; omega)
theorem cell_setRow {w : World} {p b i : Nat} (cs : Array Value) (h : b ≠ p) : (w.setRow p cs).cell? ⟨b, i, none⟩ = w.cell? ⟨b, i, none⟩ := World.cell?_of_block (setRow_other w p b cs h)
theorem RepAt.row {w : World} {V : Array Value} {r : Rp.Rep} {lo hi p : Nat} (h : RepAt w V r lo hi) (cs : Array Value) (hp : p < lo ∨ hi ≤ p) : RepAt (w.setRow p cs) V r lo hi := h.on fun b i h1 h2 => cell_setRow cs (by omega)
theorem MsgAt.row {w : World} {V : Array Value} {r : Rp.Msg} {lo hi p : Nat} (h : MsgAt w V r lo hi) (cs : Array Value) (hp : p < lo ∨ hi ≤ p) : MsgAt (w.setRow p cs) V r lo hi := h.on fun b i h1 h2 => cell_setRow cs (by omega)
theorem RepAt.size {w : World} {V : Array Value} {r : Rp.Rep} {lo hi : Nat} (h : RepAt w V r lo hi) : V.size = 5 := by obtain ⟨_, _, _, _, _, _, rfl, _⟩ := h; rfl
theorem RepAt.one {w : World} {V : Array Value} {r : Rp.Rep} {lo hi : Nat} (h : RepAt w V r lo hi) : V.all (·.oneCell') = true := by obtain ⟨_, _, _, _, _, _, rfl, _⟩ := h; simp [Value.oneCell']
theorem MsgAt.size {w : World} {V : Array Value} {r : Rp.Msg} {lo hi : Nat} (h : MsgAt w V r lo hi) : V.size = 3 := by obtain ⟨_, _, _, _, _, _, rfl, _⟩ := h; rfl
theorem MsgAt.one {w : World} {V : Array Value} {r : Rp.Msg} {lo hi : Nat} (h : MsgAt w V r lo hi) : V.all (·.oneCell') = true := by obtain ⟨_, _, _, _, _, _, rfl, _⟩ := h; simp [Value.oneCell']
theorem newC (w : World) (i k : Int) {r : Rp.Rep} (h : Rp.newRep i k = some r) : Calls Tryz.prog 27 #[.int .i64 i, .int .i64 k] w fun e w' => ∃ V, e = .returned (.tuple #[.agg V, .int .i64 0]) ∧ RepAt w' V r w.heap.size w'.heap.size ∧ Below w.heap.size w w' := by
  refine (new_any w i k).mono fun e w' hg => ?_
  rw [h] at hg
  obtain ⟨hb, A, n, c, A', n', c', e1, h1, h2, h3, _⟩ := hg
  exact ⟨_, e1, ⟨A, n, c, A', n', c', rfl, h1, h2, h3⟩, hb⟩
theorem newC0 (w : World) (i k : Int) (h : Rp.newRep i k = none) : Calls Tryz.prog 27 #[.int .i64 i, .int .i64 k] w fun e w' => e = .returned (.tuple #[zeroRep, .int .i64 310]) ∧ Below w.heap.size w w' := by
  refine (new_any w i k).mono fun e w' hg => ?_
  rw [h] at hg
  exact ⟨hg.2, hg.1⟩
theorem writeC (w : World) {V : Array Value} {r r' : Rp.Rep} {lo hi : Nat} (t : ByteArray) (h : RepAt w V r lo hi) (hh : hi ≤ w.heap.size) (hw : Rp.write r t = some r') : Calls Tryz.prog 13 #[.agg V, .string t] w fun e w' => ∃ V', e = .returned (.tuple #[.agg V', .int .i64 0]) ∧ RepAt w' V' r' w.heap.size w'.heap.size ∧ Below w.heap.size w w' := by
  obtain ⟨A, n, c, A', n', c', rfl, hr, _, _⟩ := h
  refine (write_any w r A n c A' n' c' t (hr.more hh)).mono fun e w' hg => ?_
  rw [hw] at hg
  obtain ⟨hb, A, n, c, A', n', c', e1, h1, h2, h3, _⟩ := hg
  exact ⟨_, e1, ⟨A, n, c, A', n', c', rfl, h1, h2, h3⟩, hb⟩
theorem tellC (w : World) {V : Array Value} {r r' : Rp.Rep} {m : Rp.Msg} {lo hi : Nat} (h : RepAt w V r lo hi) (hh : hi ≤ w.heap.size) (hw : Rp.tell r = some (r', m)) : Calls Tryz.prog 15 #[.agg V] w fun e w' => ∃ V' M', e = .returned (.tuple #[.agg V', .agg M', .int .i64 0]) ∧ RepAt w' V' r' w.heap.size w'.heap.size ∧ MsgAt w' M' m w.heap.size w'.heap.size ∧ Below w.heap.size w w' := by
  obtain ⟨A, n, c, A', n', c', rfl, hr, _, _⟩ := h
  refine (tell_any w r A n c A' n' c' (hr.more hh)).mono fun e w' hg => ?_
  rw [hw] at hg
  obtain ⟨hb, A, n, c, A', n', c', M, N, C, M', N', C', e1, h1, h2, h3, ⟨⟨h4, h5⟩, _⟩, h6, h7⟩ := hg
  exact ⟨_, _, e1, ⟨A, n, c, A', n', c', rfl, h1, h4, h5⟩, ⟨M, N, C, M', N', C', rfl, h2, h3, h6, h7⟩, hb⟩
theorem hearC (w : World) {V M : Array Value} {r r' : Rp.Rep} {m : Rp.Msg} {lo hi lo' hi' : Nat} (h : RepAt w V r lo hi) (hh : hi ≤ w.heap.size) (hm : MsgAt w M m lo' hi') (hh' : hi' ≤ w.heap.size) (hw : Rp.hear r m = some r') : Calls Tryz.prog 25 #[.agg V, .agg M] w fun e w' => ∃ V', e = .returned (.tuple #[.agg V', .int .i64 0]) ∧ RepAt w' V' r' w.heap.size w'.heap.size ∧ Below w.heap.size w w' := by
  obtain ⟨A, n, c, A', n', c', rfl, hr, _, _⟩ := h
  obtain ⟨M, N, C, M', N', C', rfl, hm, hc, _, _⟩ := hm
  refine (hear_any w r A n c A' n' c' m M N C M' N' C' (hr.more hh) ⟨hm.posts.more hh', hm.len, hm.heard.more hh', hm.len', hm.few, hm.few'⟩ hc).mono fun e w' hg => ?_
  rw [hw] at hg
  obtain ⟨hb, A, n, c, A', n', c', e1, h1, h2, h3, _⟩ := hg
  exact ⟨_, e1, ⟨A, n, c, A', n', c', rfl, h1, h2, h3⟩, hb⟩
theorem stableC (w : World) {V : Array Value} {r : Rp.Rep} {lo hi : Nat} (h : RepAt w V r lo hi) (hh : hi ≤ w.heap.size) (hv : Rp.valid r = true) : Calls Tryz.prog 16 #[.agg V] w fun e w' => e = .returned (.tuple #[.int .i64 (Rp.stableN r), .int .i64 0]) ∧ Below w.heap.size w w' := by
  obtain ⟨A, n, c, A', n', c', rfl, hr, _, _⟩ := h
  refine (stable_any w r A n c A' n' c' (hr.more hh)).mono fun e w' hg => ?_
  rw [hv] at hg
  exact hg
theorem validC (w : World) {V : Array Value} {r : Rp.Rep} {lo hi : Nat} (h : RepAt w V r lo hi) (hh : hi ≤ w.heap.size) : Calls Tryz.prog 22 #[.agg V] w fun e w' => e = .returned (.bool (Rp.valid r)) ∧ Below w.heap.size w w' := by
  obtain ⟨A, n, c, A', n', c', rfl, hr, _, _⟩ := h
  exact valid_any w r A n c A' n' c' (hr.more hh)
theorem sameC (w : World) {V V2 : Array Value} {r r2 : Rp.Rep} {lo hi lo' hi' : Nat} (h : RepAt w V r lo hi) (hh : hi ≤ w.heap.size) (h2 : RepAt w V2 r2 lo' hi') (hh' : hi' ≤ w.heap.size) : Calls Tryz.prog 24 #[.agg V, .agg V2] w fun e w' => e = .returned (.bool (decide (r = r2))) ∧ Below w.heap.size w w' := by
  obtain ⟨A, n, c, A', n', c', rfl, hr, _, _⟩ := h
  obtain ⟨B, m, d, B', m', d', rfl, hr2, _, _⟩ := h2
  exact same_any w r A n c A' n' c' r2 B m d B' m' d' (hr.more hh) (hr2.more hh')
theorem digestC (w : World) (tab : Array Value) (hT : Tab w tab) {V : Array Value} {r : Rp.Rep} {lo hi : Nat} (h : RepAt w V r lo hi) (hh : hi ≤ w.heap.size) (hv : Rp.valid r = true) (hn0 : 0 < r.posts.length) (hn : r.posts.length ≤ 1000) (hp : ∀ x ∈ r.posts, SmallP x) :
    Calls Tryz.prog 18 #[.agg V] w fun e w' => ∃ d : ByteArray, e = .returned (.tuple #[.string d, .int .i64 0]) ∧ d.size = 32 ∧ Below w.heap.size w w' := by
  obtain ⟨A, n, c, A', n', c', rfl, hr, _, _⟩ := h
  exact digest0 w tab hT r A n c A' n' c' (hr.more hh) hv (by rw [← hr.len]; exact hn0) (by rw [← hr.len]; exact hn) hp
theorem stateC (w : World) (tab : Array Value) (hT : Tab w tab) {V : Array Value} {r : Rp.Rep} {lo hi : Nat} (h : RepAt w V r lo hi) (hh : hi ≤ w.heap.size) (hv : Rp.valid r = true) (hc : ∀ x ∈ r.posts, NoCmd x.text) :
    Calls Tryz.prog 34 #[.agg V, g0] w fun e w' => (∃ a b d D cD, e = .returned (.tuple #[.agg (eng0 a b d), .slice D r.posts.length cD, .int .i64 0]) ∧ EngAt w' tab a b d ∧ Vs w' w.heap.size (.slice D r.posts.length cD) (List.replicate r.posts.length (.bool false))) ∧ Below w.heap.size w w' := by
  obtain ⟨A, n, c, A', n', c', rfl, hr, _, _⟩ := h
  have hl := hr.len
  subst hl
  exact state0 w tab hT r A _ c A' n' c' (hr.more hh) hv hc
theorem size26 : (Tryz.prog.info? 26).map (·.size) = some 5 := by kernel_rfl
theorem size28 : (Tryz.prog.info? 28).map (·.size) = some 3 := by kernel_rfl
end Go.Proofs.YtnehgpeelgjjhaaGreatDoor.Tw
namespace Go.Proofs.YtnehgpeelgjjhaaGreatDoor.Tw
open Go.RowKit Go.Shelf
theorem Blk.reads {w : World} {b t : Nat} {cs : Array Value} (h : Blk w b t cs) (size n : Nat) (hs : cs.size = n * size) : Reads w w.heap.size size (some ⟨b, 0, none⟩) n cs.toList :=
  ⟨by simp [hs], fun _ => ⟨b, 0, rfl, h.lt, fun j u hu => by rw [Nat.zero_add, h.cell, ← Array.getElem?_toList]; exact hu⟩⟩
theorem small_rC : ∀ x ∈ rC.posts, SmallP x := by
  intro x hx
  simp only [List.mem_cons, List.not_mem_nil, or_false] at hx
  rcases hx with rfl | rfl | rfl <;> (refine ⟨?_, ?_, ?_, ?_⟩ <;> decide)
theorem nocmd_rB3 : ∀ x ∈ rB3.posts, NoCmd x.text := by
  intro x hx
  simp only [List.mem_cons, List.not_mem_nil, or_false] at hx
  rcases hx with rfl | rfl
  · exact decodeA
  · exact decodeC
/-- the run's value is a slice of two replicas, the second of which has one post -/
def RunF (W : World) (va : Value) : Prop := ∃ g c C A, va = .slice (some ⟨g, 0, none⟩) 2 c ∧ g < W.heap.size ∧ W.cell? ⟨g, 8, none⟩ = some (.slice A 1 C)
theorem RunF.below {W W' : World} {va : Value} (h : RunF W va) (hb : Below W.heap.size W W') : RunF W' va := by
  obtain ⟨g, c, C, A, h1, h2, h3⟩ := h
  exact ⟨g, c, C, A, h1, Nat.lt_of_lt_of_le h2 hb.size, (hb.cell (p := ⟨g, 8, none⟩) h2).trans h3⟩
theorem RunF.of {B x : Nat} {W : World} {va vb : Value} {rl : List RV} {ml : List MV} (h : RunR B W x va rl vb ml) (hr : [rA2, rD] = rl.map (·.r)) : RunF W va := by
  match rl, hr with
  | [], hr => simp at hr
  | [_], hr => simp at hr
  | _ :: _ :: _ :: _, hr => simp at hr
  | [u, v], hr =>
    simp only [List.map_cons, List.map_nil, List.cons.injEq, and_true] at hr
    obtain ⟨hu, hv⟩ := hr
    have hn := (h.rep v (by simp)).1.len
    rw [← hv] at hn
    obtain ⟨_, h2⟩ := h.reps
    rcases h2 with ⟨_, h0⟩ | ⟨g, cap, cur, e1, _, hg, _, _, _, ht⟩
    · cases h0
    · have hbl : Blk W g 26 cur := hg
      refine ⟨g, cap, v.c, v.A, e1, hbl.lt, ?_⟩
      rw [hbl.cell, ← Array.getElem?_toList]
      have h8 : (cur.toList.take 10)[8]? = (encRs [u, v])[8]? := by
        have : [u, v].length * 5 = 10 := rfl
        rw [this] at ht
        rw [ht]
      rw [List.getElem?_take_of_lt (by omega)] at h8
      rw [h8]
      show some (Value.slice v.A v.n v.c) = _
      rw [← hn]
      rfl
theorem one26 : (#[.int .i64 0, .int .i64 0, .int .i64 0, .slice none 0 0, .slice none 0 0] : Array Value).all (·.oneCell') = true := by simp [Value.oneCell']
theorem one72 (a b c : Nat) : (eng0 a b c).all (·.oneCell') = true := by simp [Value.oneCell']
theorem zz72 (a b c : Nat) : (Tryz.prog.info? 72).map (·.size) = some (eng0 a b c).size := size72
/-- two flags, both false -/
def DoneF (W : World) (g : Nat) : Prop := W.cell? ⟨g, 0, none⟩ = some (.bool false) ∧ W.cell? ⟨g, 1, none⟩ = some (.bool false)
theorem DoneF.below {W W' : World} {g : Nat} (h : DoneF W g) (hb : Below W.heap.size W W') : DoneF W' g :=
  ⟨(hb.cell (p := ⟨g, 0, none⟩) (lt_of_cell h.1)).trans h.1, (hb.cell (p := ⟨g, 1, none⟩) (lt_of_cell h.1)).trans h.2⟩
theorem vs_two {W : World} {B : Nat} {D : Option Addr} {c : Nat} (h : Vs W B (.slice D 2 c) (List.replicate 2 (.bool false))) : ∃ g, D = some ⟨g, 0, none⟩ ∧ DoneF W g := by
  rcases h with ⟨h, _⟩ | ⟨g, cap, e, _, _, _, _, h5⟩
  · cases h
  · cases e
    exact ⟨g, rfl, h5 0 _ rfl, h5 1 _ rfl⟩
theorem rep_rC {W : World} {V : Array Value} {lo hi : Nat} (h : RepAt W V rC lo hi) : ∃ A c a oa c', V = #[.int .i64 0, .int .i64 2, .int .i64 2, .slice A 3 c, .slice (some ⟨a, oa, none⟩) 2 c'] ∧ Reads W hi 4 A 3 (encPs [pA, pC, pB]) ∧ W.cell? ⟨a, oa, none⟩ = some (.int .i64 1) ∧ W.cell? ⟨a, oa + 1, none⟩ = some (.int .i64 1) := by
  obtain ⟨A, n, c, A', n', c', rfl, hr, _, _⟩ := h
  have h1 := hr.len
  have h2 := hr.len'
  simp only [List.length_cons, List.length_nil] at h1 h2
  subst h1 h2
  obtain ⟨b, off, rfl, _, hc⟩ := hr.heard.2 (by omega)
  exact ⟨A, c, b, off, c', rfl, hr.posts, hc 0 _ rfl, hc 1 _ rfl⟩
theorem valid_nil (w : World) : Calls Tryz.prog 22 #[.agg #[.int .i64 0, .int .i64 0, .int .i64 0, .slice none 0 0, .slice none 0 0]] w fun e w' => e = .returned (.bool false) ∧ Below w.heap.size w w' := by
  have h := valid_any w ⟨0, 0, 0, [], []⟩ none 0 0 none 0 0 ⟨⟨rfl, fun h => absurd h (by decide)⟩, rfl, ⟨rfl, fun h => absurd h (by decide)⟩, rfl, by decide, by decide⟩
  rw [sn15] at h
  exact h
theorem sn19 : decide (rC = rC) = true := decide_eq_true rfl
theorem sn20 : decide (rA3 = rC) = false := decide_eq_false sn14
theorem sn21 : decide (([pA, pC, pB] : List Rp.Post) = [pA, pC, pB]) = true := decide_eq_true rfl
theorem wantR {w : World} {b : Nat} (h : Blk w b 57 #[.int .i64 1, .int .i64 0, .int .i64 0, .string ⟨#[97]⟩, .int .i64 1, .int .i64 1, .int .i64 0, .string ⟨#[99]⟩, .int .i64 2, .int .i64 0, .int .i64 1, .string ⟨#[98]⟩]) : Reads w w.heap.size 4 (some ⟨b, 0, none⟩) 3 (encPs [pA, pC, pB]) := h.reads 4 3 rfl
theorem rep_five {W : World} {V : Array Value} {r : Rp.Rep} {lo hi : Nat} (h : RepAt W V r lo hi) : ∃ a b c d e, V = #[a, b, c, d, e] := by
  obtain ⟨A, n, c, A', n', c', rfl, _⟩ := h
  exact ⟨_, _, _, _, _, rfl⟩
end Go.Proofs.YtnehgpeelgjjhaaGreatDoor.Tw
namespace Go.Proofs.YtnehgpeelgjjhaaGreatDoor.Tw
open Go.RowKit Go.Shelf
attribute [local irreducible] rootF rr trust0 digG RepAt MsgAt
abbrev z26 : Array Value := #[.int .i64 0, .int .i64 0, .int .i64 0, .slice none 0 0, .slice none 0 0]
abbrev z28 : Array Value := #[.int .i64 0, .slice none 0 0, .slice none 0 0]
set_option maxRecDepth 100000 in
set_option maxHeartbeats 4000000 in
theorem sane_any (w : World) (tab : Array Value) (hT : Tab w tab) : Calls Tryz.prog 6 #[] w fun e w' => e = .returned (.bool true) ∧ Below w.heap.size w w' := by
  have HT := Lib.hid hT
  have ht0 := hT.1.lt
  clear hT
  refine calls_of_wp Tryz.func6 rfl ?_
  simp only [Tryz.ntmps6, List.size_toArray, List.length_cons, List.length_nil, Nat.reduceAdd, Nat.reduceSub, Array.replicate_succ, Array.replicate_zero, List.push_toArray, List.append_toArray, List.nil_append, List.cons_append]
  have HW : Hid (Below w.heap.size w w) := Lib.hid (Below.refl _ _)
  go_wp2_with fail
  refine (newC w 0 2 sn1).mono ?_
  rintro e w1 ⟨VA, rfl, hrep, hb⟩
  have zVA : (Tryz.prog.info? 26).map (·.size) = some VA.size := by rw [hrep.size]; exact size26
  have oneVA : VA.all (·.oneCell') = true := hrep.one
  have szVA : VA.size = 5 := hrep.size
  have hz_w1 := hb.size
  replace HW := Lib.hid (show Below w.heap.size w w1 from HW.out.trans (hb.mono HW.out.size))
  have RVA := Lib.hid (show RepAt w1 VA rA0 w.heap.size w1.heap.size from hrep)
  clear hrep hb
  have hal1 : Below w1.heap.size w1 (w1.alloc (.cells VA 26)) := (Below.refl _ _).alloc (Nat.le_refl _) _
  replace HW := Lib.hid (show Below w.heap.size w (w1.alloc (.cells VA 26)) from HW.out.trans (hal1.mono HW.out.size))
  replace RVA := Lib.hid (show RepAt (w1.alloc (.cells VA 26)) VA rA0 w.heap.size w1.heap.size from RVA.out.below hal1 (by first | omega | (simp only [World.size_alloc, setRow_size]; omega)))
  clear hal1
  have PA := Lib.hid (show Blk (w1.alloc (.cells VA 26)) w1.heap.size 26 VA from Blk.new w1 26 VA)
  have oldVA : z26.size = VA.size := by rw [szVA]; rfl
  have hsz_W1 : w1.heap.size + 1 ≤ (w1.alloc (.cells VA 26)).heap.size := Nat.le_of_eq (by first | rfl | simp only [World.size_alloc, setRow_size, Nat.add_zero])
  go_upto_region 2 with (first
    | (with_reducible refine wpList_store_last rfl 26 (.tmp 1) (.tmp 33) rfl VA _ rfl rfl rfl zVA oldVA oneVA ?_))
  generalize w1.alloc (.cells VA 26) = W1 at *
  go_wp2_with fail
  refine (newC W1 1 2 sn2).mono ?_
  rintro e w2 ⟨VB, rfl, hrep, hb⟩
  have zVB : (Tryz.prog.info? 26).map (·.size) = some VB.size := by rw [hrep.size]; exact size26
  have oneVB : VB.all (·.oneCell') = true := hrep.one
  have szVB : VB.size = 5 := hrep.size
  have hz_w2 := hb.size
  replace HW := Lib.hid (show Below w.heap.size w w2 from HW.out.trans (hb.mono HW.out.size))
  replace RVA := Lib.hid (show RepAt w2 VA rA0 w.heap.size w1.heap.size from RVA.out.below hb (by omega))
  replace PA := Lib.hid (show Blk w2 w1.heap.size 26 VA from PA.out.below hb PA.out.lt)
  have RVB := Lib.hid (show RepAt w2 VB rB0 W1.heap.size w2.heap.size from hrep)
  clear hrep hb
  have hal2 : Below w2.heap.size w2 (w2.alloc (.cells VB 26)) := (Below.refl _ _).alloc (Nat.le_refl _) _
  replace HW := Lib.hid (show Below w.heap.size w (w2.alloc (.cells VB 26)) from HW.out.trans (hal2.mono HW.out.size))
  replace RVA := Lib.hid (show RepAt (w2.alloc (.cells VB 26)) VA rA0 w.heap.size w1.heap.size from RVA.out.below hal2 (by first | omega | (simp only [World.size_alloc, setRow_size]; omega)))
  replace PA := Lib.hid (show Blk (w2.alloc (.cells VB 26)) w1.heap.size 26 VA from PA.out.alloc _)
  replace RVB := Lib.hid (show RepAt (w2.alloc (.cells VB 26)) VB rB0 W1.heap.size w2.heap.size from RVB.out.below hal2 (by first | omega | (simp only [World.size_alloc, setRow_size]; omega)))
  clear hal2
  have PB := Lib.hid (show Blk (w2.alloc (.cells VB 26)) w2.heap.size 26 VB from Blk.new w2 26 VB)
  have oldVB : z26.size = VB.size := by rw [szVB]; rfl
  have hsz_W2 : w2.heap.size + 1 ≤ (w2.alloc (.cells VB 26)).heap.size := Nat.le_of_eq (by first | rfl | simp only [World.size_alloc, setRow_size, Nat.add_zero])
  go_upto_region 3 with (first
    | (with_reducible refine wpList_store_last rfl 26 (.tmp 3) (.tmp 37) rfl VB _ rfl rfl rfl zVB oldVB oneVB ?_))
  generalize w2.alloc (.cells VB 26) = W2 at *
  go_wp2_with (with_reducible refine ldB 26 (.tmp 1) w1.heap.size VA PA Tryz.underlying26 rfl zVA rfl rfl rfl ?_)
  refine (writeC W2 ⟨#[97]⟩ RVA.out (by omega) sn3).mono ?_
  rintro e w3 ⟨VA1, rfl, hrep, hb⟩
  have zVA1 : (Tryz.prog.info? 26).map (·.size) = some VA1.size := by rw [hrep.size]; exact size26
  have oneVA1 : VA1.all (·.oneCell') = true := hrep.one
  have szVA1 : VA1.size = 5 := hrep.size
  have hz_w3 := hb.size
  replace HW := Lib.hid (show Below w.heap.size w w3 from HW.out.trans (hb.mono HW.out.size))
  replace RVA := Lib.hid (show RepAt w3 VA rA0 w.heap.size w1.heap.size from RVA.out.below hb (by omega))
  replace PA := Lib.hid (show Blk w3 w1.heap.size 26 VA from PA.out.below hb PA.out.lt)
  replace RVB := Lib.hid (show RepAt w3 VB rB0 W1.heap.size w2.heap.size from RVB.out.below hb (by omega))
  replace PB := Lib.hid (show Blk w3 w2.heap.size 26 VB from PB.out.below hb PB.out.lt)
  have RVA1 := Lib.hid (show RepAt w3 VA1 rA1 W2.heap.size w3.heap.size from hrep)
  clear hrep hb
  have oldVA1 : VA.size = VA1.size := by rw [szVA1, szVA]
  have PA0 := PA
  replace HW := Lib.hid (show Below w.heap.size w (w3.setRow w1.heap.size VA1) from below_setRow HW.out (by omega) _)
  replace RVA := Lib.hid (show RepAt (w3.setRow w1.heap.size VA1) VA rA0 w.heap.size w1.heap.size from RVA.out.row _ (by omega))
  replace PA := Lib.hid (show Blk (w3.setRow w1.heap.size VA1) w1.heap.size 26 VA1 from PA.out.setRow_same _)
  replace RVB := Lib.hid (show RepAt (w3.setRow w1.heap.size VA1) VB rB0 W1.heap.size w2.heap.size from RVB.out.row _ (by omega))
  replace PB := Lib.hid (show Blk (w3.setRow w1.heap.size VA1) w2.heap.size 26 VB from PB.out.setRow (by omega) _)
  replace RVA1 := Lib.hid (show RepAt (w3.setRow w1.heap.size VA1) VA1 rA1 W2.heap.size w3.heap.size from RVA1.out.row _ (by omega))
  have hsz_W3 : w3.heap.size + 0 ≤ (w3.setRow w1.heap.size VA1).heap.size := Nat.le_of_eq (by first | rfl | simp only [World.size_alloc, setRow_size, Nat.add_zero])
  go_upto_region 4 with (first
    | (with_reducible refine stB 26 (.tmp 1) (.tmp 42) w1.heap.size VA1 _ PA0 zVA1 oldVA1 oneVA1 rfl rfl rfl rfl ?_))
  generalize w3.setRow w1.heap.size VA1 = W3 at *
  clear PA0
  clear RVA
  go_wp2_with (with_reducible refine ldB 26 (.tmp 1) w1.heap.size VA1 PA Tryz.underlying26 rfl zVA1 rfl rfl rfl ?_)
  refine (tellC W3 RVA1.out (by omega) sn4).mono ?_
  rintro e w4 ⟨VA2, MM, rfl, hrep, hmsg, hb⟩
  have zVA2 : (Tryz.prog.info? 26).map (·.size) = some VA2.size := by rw [hrep.size]; exact size26
  have oneVA2 : VA2.all (·.oneCell') = true := hrep.one
  have szVA2 : VA2.size = 5 := hrep.size
  have zMM : (Tryz.prog.info? 28).map (·.size) = some MM.size := by rw [hmsg.size]; exact size28
  have oneMM : MM.all (·.oneCell') = true := hmsg.one
  have szMM : MM.size = 3 := hmsg.size
  have hz_w4 := hb.size
  replace HW := Lib.hid (show Below w.heap.size w w4 from HW.out.trans (hb.mono HW.out.size))
  replace PA := Lib.hid (show Blk w4 w1.heap.size 26 VA1 from PA.out.below hb PA.out.lt)
  replace RVB := Lib.hid (show RepAt w4 VB rB0 W1.heap.size w2.heap.size from RVB.out.below hb (by omega))
  replace PB := Lib.hid (show Blk w4 w2.heap.size 26 VB from PB.out.below hb PB.out.lt)
  replace RVA1 := Lib.hid (show RepAt w4 VA1 rA1 W2.heap.size w3.heap.size from RVA1.out.below hb (by omega))
  have RVA2 := Lib.hid (show RepAt w4 VA2 rA2 W3.heap.size w4.heap.size from hrep)
  have RMM := Lib.hid (show MsgAt w4 MM mM W3.heap.size w4.heap.size from hmsg)
  clear hrep hmsg hb
  have oldVA2 : VA1.size = VA2.size := by rw [szVA2, szVA1]
  have oldMM : z28.size = MM.size := by rw [szMM]; rfl
  have hal3 : Below w4.heap.size w4 (w4.alloc (.cells z28 28)) := (Below.refl _ _).alloc (Nat.le_refl _) _
  replace HW := Lib.hid (show Below w.heap.size w (w4.alloc (.cells z28 28)) from HW.out.trans (hal3.mono HW.out.size))
  replace PA := Lib.hid (show Blk (w4.alloc (.cells z28 28)) w1.heap.size 26 VA1 from PA.out.alloc _)
  replace RVB := Lib.hid (show RepAt (w4.alloc (.cells z28 28)) VB rB0 W1.heap.size w2.heap.size from RVB.out.below hal3 (by first | omega | (simp only [World.size_alloc, setRow_size]; omega)))
  replace PB := Lib.hid (show Blk (w4.alloc (.cells z28 28)) w2.heap.size 26 VB from PB.out.alloc _)
  replace RVA1 := Lib.hid (show RepAt (w4.alloc (.cells z28 28)) VA1 rA1 W2.heap.size w3.heap.size from RVA1.out.below hal3 (by first | omega | (simp only [World.size_alloc, setRow_size]; omega)))
  replace RVA2 := Lib.hid (show RepAt (w4.alloc (.cells z28 28)) VA2 rA2 W3.heap.size w4.heap.size from RVA2.out.below hal3 (by first | omega | (simp only [World.size_alloc, setRow_size]; omega)))
  replace RMM := Lib.hid (show MsgAt (w4.alloc (.cells z28 28)) MM mM W3.heap.size w4.heap.size from RMM.out.below hal3 (by first | omega | (simp only [World.size_alloc, setRow_size]; omega)))
  clear hal3
  have PM := Lib.hid (show Blk (w4.alloc (.cells z28 28)) w4.heap.size 28 z28 from Blk.new w4 28 z28)
  have PA0 := PA
  replace HW := Lib.hid (show Below w.heap.size w ((w4.alloc (.cells z28 28)).setRow w1.heap.size VA2) from below_setRow HW.out (by omega) _)
  replace PA := Lib.hid (show Blk ((w4.alloc (.cells z28 28)).setRow w1.heap.size VA2) w1.heap.size 26 VA2 from PA.out.setRow_same _)
  replace RVB := Lib.hid (show RepAt ((w4.alloc (.cells z28 28)).setRow w1.heap.size VA2) VB rB0 W1.heap.size w2.heap.size from RVB.out.row _ (by omega))
  replace PB := Lib.hid (show Blk ((w4.alloc (.cells z28 28)).setRow w1.heap.size VA2) w2.heap.size 26 VB from PB.out.setRow (by omega) _)
  replace RVA1 := Lib.hid (show RepAt ((w4.alloc (.cells z28 28)).setRow w1.heap.size VA2) VA1 rA1 W2.heap.size w3.heap.size from RVA1.out.row _ (by omega))
  replace RVA2 := Lib.hid (show RepAt ((w4.alloc (.cells z28 28)).setRow w1.heap.size VA2) VA2 rA2 W3.heap.size w4.heap.size from RVA2.out.row _ (by omega))
  replace RMM := Lib.hid (show MsgAt ((w4.alloc (.cells z28 28)).setRow w1.heap.size VA2) MM mM W3.heap.size w4.heap.size from RMM.out.row _ (by omega))
  replace PM := Lib.hid (show Blk ((w4.alloc (.cells z28 28)).setRow w1.heap.size VA2) w4.heap.size 28 z28 from PM.out.setRow (by omega) _)
  have PM0 := PM
  replace HW := Lib.hid (show Below w.heap.size w (((w4.alloc (.cells z28 28)).setRow w1.heap.size VA2).setRow w4.heap.size MM) from below_setRow HW.out (by omega) _)
  replace PA := Lib.hid (show Blk (((w4.alloc (.cells z28 28)).setRow w1.heap.size VA2).setRow w4.heap.size MM) w1.heap.size 26 VA2 from PA.out.setRow (by omega) _)
  replace RVB := Lib.hid (show RepAt (((w4.alloc (.cells z28 28)).setRow w1.heap.size VA2).setRow w4.heap.size MM) VB rB0 W1.heap.size w2.heap.size from RVB.out.row _ (by omega))
  replace PB := Lib.hid (show Blk (((w4.alloc (.cells z28 28)).setRow w1.heap.size VA2).setRow w4.heap.size MM) w2.heap.size 26 VB from PB.out.setRow (by omega) _)
  replace RVA1 := Lib.hid (show RepAt (((w4.alloc (.cells z28 28)).setRow w1.heap.size VA2).setRow w4.heap.size MM) VA1 rA1 W2.heap.size w3.heap.size from RVA1.out.row _ (by omega))
  replace RVA2 := Lib.hid (show RepAt (((w4.alloc (.cells z28 28)).setRow w1.heap.size VA2).setRow w4.heap.size MM) VA2 rA2 W3.heap.size w4.heap.size from RVA2.out.row _ (by omega))
  replace RMM := Lib.hid (show MsgAt (((w4.alloc (.cells z28 28)).setRow w1.heap.size VA2).setRow w4.heap.size MM) MM mM W3.heap.size w4.heap.size from RMM.out.row _ (by omega))
  replace PM := Lib.hid (show Blk (((w4.alloc (.cells z28 28)).setRow w1.heap.size VA2).setRow w4.heap.size MM) w4.heap.size 28 MM from PM.out.setRow_same _)
  have hsz_W4 : w4.heap.size + 1 ≤ (((w4.alloc (.cells z28 28)).setRow w1.heap.size VA2).setRow w4.heap.size MM).heap.size := Nat.le_of_eq (by first | rfl | simp only [World.size_alloc, setRow_size, Nat.add_zero])
  go_upto_region 5 with (first
    | (with_reducible refine stB 26 (.tmp 1) (.tmp 47) w1.heap.size VA2 _ PA0 zVA2 oldVA2 oneVA2 rfl rfl rfl rfl ?_)
    | (with_reducible refine stB 28 (.tmp 6) (.tmp 48) w4.heap.size MM _ PM0 zMM oldMM oneMM rfl rfl rfl rfl ?_))
  generalize ((w4.alloc (.cells z28 28)).setRow w1.heap.size VA2).setRow w4.heap.size MM = W4 at *
  clear PA0 PM0
  clear RVA1
  go_wp2_with (with_reducible refine ldB 26 (.tmp 1) w1.heap.size VA2 PA Tryz.underlying26 rfl zVA2 rfl rfl rfl ?_)
  refine (writeC W4 ⟨#[98]⟩ RVA2.out (by omega) sn5).mono ?_
  rintro e w5 ⟨VA3, rfl, hrep, hb⟩
  have zVA3 : (Tryz.prog.info? 26).map (·.size) = some VA3.size := by rw [hrep.size]; exact size26
  have oneVA3 : VA3.all (·.oneCell') = true := hrep.one
  have szVA3 : VA3.size = 5 := hrep.size
  have hz_w5 := hb.size
  replace HW := Lib.hid (show Below w.heap.size w w5 from HW.out.trans (hb.mono HW.out.size))
  replace PA := Lib.hid (show Blk w5 w1.heap.size 26 VA2 from PA.out.below hb PA.out.lt)
  replace RVB := Lib.hid (show RepAt w5 VB rB0 W1.heap.size w2.heap.size from RVB.out.below hb (by omega))
  replace PB := Lib.hid (show Blk w5 w2.heap.size 26 VB from PB.out.below hb PB.out.lt)
  replace RVA2 := Lib.hid (show RepAt w5 VA2 rA2 W3.heap.size w4.heap.size from RVA2.out.below hb (by omega))
  replace RMM := Lib.hid (show MsgAt w5 MM mM W3.heap.size w4.heap.size from RMM.out.below hb (by omega))
  replace PM := Lib.hid (show Blk w5 w4.heap.size 28 MM from PM.out.below hb PM.out.lt)
  have RVA3 := Lib.hid (show RepAt w5 VA3 rA3 W4.heap.size w5.heap.size from hrep)
  clear hrep hb
  have oldVA3 : VA2.size = VA3.size := by rw [szVA3, szVA2]
  have PA0 := PA
  replace HW := Lib.hid (show Below w.heap.size w (w5.setRow w1.heap.size VA3) from below_setRow HW.out (by omega) _)
  replace PA := Lib.hid (show Blk (w5.setRow w1.heap.size VA3) w1.heap.size 26 VA3 from PA.out.setRow_same _)
  replace RVB := Lib.hid (show RepAt (w5.setRow w1.heap.size VA3) VB rB0 W1.heap.size w2.heap.size from RVB.out.row _ (by omega))
  replace PB := Lib.hid (show Blk (w5.setRow w1.heap.size VA3) w2.heap.size 26 VB from PB.out.setRow (by omega) _)
  replace RVA2 := Lib.hid (show RepAt (w5.setRow w1.heap.size VA3) VA2 rA2 W3.heap.size w4.heap.size from RVA2.out.row _ (by omega))
  replace RMM := Lib.hid (show MsgAt (w5.setRow w1.heap.size VA3) MM mM W3.heap.size w4.heap.size from RMM.out.row _ (by omega))
  replace PM := Lib.hid (show Blk (w5.setRow w1.heap.size VA3) w4.heap.size 28 MM from PM.out.setRow (by omega) _)
  replace RVA3 := Lib.hid (show RepAt (w5.setRow w1.heap.size VA3) VA3 rA3 W4.heap.size w5.heap.size from RVA3.out.row _ (by omega))
  have hsz_W5 : w5.heap.size + 0 ≤ (w5.setRow w1.heap.size VA3).heap.size := Nat.le_of_eq (by first | rfl | simp only [World.size_alloc, setRow_size, Nat.add_zero])
  go_upto_region 6 with (first
    | (with_reducible refine stB 26 (.tmp 1) (.tmp 53) w1.heap.size VA3 _ PA0 zVA3 oldVA3 oneVA3 rfl rfl rfl rfl ?_))
  generalize w5.setRow w1.heap.size VA3 = W5 at *
  clear PA0
  clear RVA2
  go_wp2_with (with_reducible refine ldB 26 (.tmp 3) w2.heap.size VB PB Tryz.underlying26 rfl zVB rfl rfl rfl ?_)
  refine (writeC W5 ⟨#[99]⟩ RVB.out (by omega) sn6).mono ?_
  rintro e w6 ⟨VB1, rfl, hrep, hb⟩
  have zVB1 : (Tryz.prog.info? 26).map (·.size) = some VB1.size := by rw [hrep.size]; exact size26
  have oneVB1 : VB1.all (·.oneCell') = true := hrep.one
  have szVB1 : VB1.size = 5 := hrep.size
  have hz_w6 := hb.size
  replace HW := Lib.hid (show Below w.heap.size w w6 from HW.out.trans (hb.mono HW.out.size))
  replace PA := Lib.hid (show Blk w6 w1.heap.size 26 VA3 from PA.out.below hb PA.out.lt)
  replace RVB := Lib.hid (show RepAt w6 VB rB0 W1.heap.size w2.heap.size from RVB.out.below hb (by omega))
  replace PB := Lib.hid (show Blk w6 w2.heap.size 26 VB from PB.out.below hb PB.out.lt)
  replace RMM := Lib.hid (show MsgAt w6 MM mM W3.heap.size w4.heap.size from RMM.out.below hb (by omega))
  replace PM := Lib.hid (show Blk w6 w4.heap.size 28 MM from PM.out.below hb PM.out.lt)
  replace RVA3 := Lib.hid (show RepAt w6 VA3 rA3 W4.heap.size w5.heap.size from RVA3.out.below hb (by omega))
  have RVB1 := Lib.hid (show RepAt w6 VB1 rB1 W5.heap.size w6.heap.size from hrep)
  clear hrep hb
  have oldVB1 : VB.size = VB1.size := by rw [szVB1, szVB]
  have PB0 := PB
  replace HW := Lib.hid (show Below w.heap.size w (w6.setRow w2.heap.size VB1) from below_setRow HW.out (by omega) _)
  replace PA := Lib.hid (show Blk (w6.setRow w2.heap.size VB1) w1.heap.size 26 VA3 from PA.out.setRow (by omega) _)
  replace RVB := Lib.hid (show RepAt (w6.setRow w2.heap.size VB1) VB rB0 W1.heap.size w2.heap.size from RVB.out.row _ (by omega))
  replace PB := Lib.hid (show Blk (w6.setRow w2.heap.size VB1) w2.heap.size 26 VB1 from PB.out.setRow_same _)
  replace RMM := Lib.hid (show MsgAt (w6.setRow w2.heap.size VB1) MM mM W3.heap.size w4.heap.size from RMM.out.row _ (by omega))
  replace PM := Lib.hid (show Blk (w6.setRow w2.heap.size VB1) w4.heap.size 28 MM from PM.out.setRow (by omega) _)
  replace RVA3 := Lib.hid (show RepAt (w6.setRow w2.heap.size VB1) VA3 rA3 W4.heap.size w5.heap.size from RVA3.out.row _ (by omega))
  replace RVB1 := Lib.hid (show RepAt (w6.setRow w2.heap.size VB1) VB1 rB1 W5.heap.size w6.heap.size from RVB1.out.row _ (by omega))
  have hsz_W6 : w6.heap.size + 0 ≤ (w6.setRow w2.heap.size VB1).heap.size := Nat.le_of_eq (by first | rfl | simp only [World.size_alloc, setRow_size, Nat.add_zero])
  go_upto_region 7 with (first
    | (with_reducible refine stB 26 (.tmp 3) (.tmp 58) w2.heap.size VB1 _ PB0 zVB1 oldVB1 oneVB1 rfl rfl rfl rfl ?_))
  generalize w6.setRow w2.heap.size VB1 = W6 at *
  clear PB0
  clear RVB
  go_wp2_with (first
    | (with_reducible refine ldB 26 (.tmp 3) w2.heap.size VB1 PB Tryz.underlying26 rfl zVB1 rfl rfl rfl ?_)
    | (with_reducible refine ldB 28 (.tmp 6) w4.heap.size MM PM Tryz.underlying28 rfl zMM rfl rfl rfl ?_))
  refine (hearC W6 RVB1.out (by omega) RMM.out (by omega) sn7).mono ?_
  rintro e w7 ⟨VB2, rfl, hrep, hb⟩
  have zVB2 : (Tryz.prog.info? 26).map (·.size) = some VB2.size := by rw [hrep.size]; exact size26
  have oneVB2 : VB2.all (·.oneCell') = true := hrep.one
  have szVB2 : VB2.size = 5 := hrep.size
  have hz_w7 := hb.size
  replace HW := Lib.hid (show Below w.heap.size w w7 from HW.out.trans (hb.mono HW.out.size))
  replace PA := Lib.hid (show Blk w7 w1.heap.size 26 VA3 from PA.out.below hb PA.out.lt)
  replace PB := Lib.hid (show Blk w7 w2.heap.size 26 VB1 from PB.out.below hb PB.out.lt)
  replace RMM := Lib.hid (show MsgAt w7 MM mM W3.heap.size w4.heap.size from RMM.out.below hb (by omega))
  replace PM := Lib.hid (show Blk w7 w4.heap.size 28 MM from PM.out.below hb PM.out.lt)
  replace RVA3 := Lib.hid (show RepAt w7 VA3 rA3 W4.heap.size w5.heap.size from RVA3.out.below hb (by omega))
  replace RVB1 := Lib.hid (show RepAt w7 VB1 rB1 W5.heap.size w6.heap.size from RVB1.out.below hb (by omega))
  have RVB2 := Lib.hid (show RepAt w7 VB2 rB2 W6.heap.size w7.heap.size from hrep)
  clear hrep hb
  have oldVB2 : VB1.size = VB2.size := by rw [szVB2, szVB1]
  have PB0 := PB
  replace HW := Lib.hid (show Below w.heap.size w (w7.setRow w2.heap.size VB2) from below_setRow HW.out (by omega) _)
  replace PA := Lib.hid (show Blk (w7.setRow w2.heap.size VB2) w1.heap.size 26 VA3 from PA.out.setRow (by omega) _)
  replace PB := Lib.hid (show Blk (w7.setRow w2.heap.size VB2) w2.heap.size 26 VB2 from PB.out.setRow_same _)
  replace RMM := Lib.hid (show MsgAt (w7.setRow w2.heap.size VB2) MM mM W3.heap.size w4.heap.size from RMM.out.row _ (by omega))
  replace PM := Lib.hid (show Blk (w7.setRow w2.heap.size VB2) w4.heap.size 28 MM from PM.out.setRow (by omega) _)
  replace RVA3 := Lib.hid (show RepAt (w7.setRow w2.heap.size VB2) VA3 rA3 W4.heap.size w5.heap.size from RVA3.out.row _ (by omega))
  replace RVB1 := Lib.hid (show RepAt (w7.setRow w2.heap.size VB2) VB1 rB1 W5.heap.size w6.heap.size from RVB1.out.row _ (by omega))
  replace RVB2 := Lib.hid (show RepAt (w7.setRow w2.heap.size VB2) VB2 rB2 W6.heap.size w7.heap.size from RVB2.out.row _ (by omega))
  have hsz_W7 : w7.heap.size + 0 ≤ (w7.setRow w2.heap.size VB2).heap.size := Nat.le_of_eq (by first | rfl | simp only [World.size_alloc, setRow_size, Nat.add_zero])
  go_upto_region 8 with (first
    | (with_reducible refine stB 26 (.tmp 3) (.tmp 64) w2.heap.size VB2 _ PB0 zVB2 oldVB2 oneVB2 rfl rfl rfl rfl ?_))
  generalize w7.setRow w2.heap.size VB2 = W7 at *
  clear PB0
  clear RVB1
  clear RMM
  clear PM
  go_wp2_with (with_reducible refine ldB 26 (.tmp 3) w2.heap.size VB2 PB Tryz.underlying26 rfl zVB2 rfl rfl rfl ?_)
  refine (tellC W7 RVB2.out (by omega) sn8).mono ?_
  rintro e w8 ⟨VB3, MN, rfl, hrep, hmsg, hb⟩
  have zVB3 : (Tryz.prog.info? 26).map (·.size) = some VB3.size := by rw [hrep.size]; exact size26
  have oneVB3 : VB3.all (·.oneCell') = true := hrep.one
  have szVB3 : VB3.size = 5 := hrep.size
  have zMN : (Tryz.prog.info? 28).map (·.size) = some MN.size := by rw [hmsg.size]; exact size28
  have oneMN : MN.all (·.oneCell') = true := hmsg.one
  have szMN : MN.size = 3 := hmsg.size
  have hz_w8 := hb.size
  replace HW := Lib.hid (show Below w.heap.size w w8 from HW.out.trans (hb.mono HW.out.size))
  replace PA := Lib.hid (show Blk w8 w1.heap.size 26 VA3 from PA.out.below hb PA.out.lt)
  replace PB := Lib.hid (show Blk w8 w2.heap.size 26 VB2 from PB.out.below hb PB.out.lt)
  replace RVA3 := Lib.hid (show RepAt w8 VA3 rA3 W4.heap.size w5.heap.size from RVA3.out.below hb (by omega))
  replace RVB2 := Lib.hid (show RepAt w8 VB2 rB2 W6.heap.size w7.heap.size from RVB2.out.below hb (by omega))
  have RVB3 := Lib.hid (show RepAt w8 VB3 rB3 W7.heap.size w8.heap.size from hrep)
  have RMN := Lib.hid (show MsgAt w8 MN mN W7.heap.size w8.heap.size from hmsg)
  clear hrep hmsg hb
  have oldVB3 : VB2.size = VB3.size := by rw [szVB3, szVB2]
  have oldMN : z28.size = MN.size := by rw [szMN]; rfl
  have hal4 : Below w8.heap.size w8 (w8.alloc (.cells z28 28)) := (Below.refl _ _).alloc (Nat.le_refl _) _
  replace HW := Lib.hid (show Below w.heap.size w (w8.alloc (.cells z28 28)) from HW.out.trans (hal4.mono HW.out.size))
  replace PA := Lib.hid (show Blk (w8.alloc (.cells z28 28)) w1.heap.size 26 VA3 from PA.out.alloc _)
  replace PB := Lib.hid (show Blk (w8.alloc (.cells z28 28)) w2.heap.size 26 VB2 from PB.out.alloc _)
  replace RVA3 := Lib.hid (show RepAt (w8.alloc (.cells z28 28)) VA3 rA3 W4.heap.size w5.heap.size from RVA3.out.below hal4 (by first | omega | (simp only [World.size_alloc, setRow_size]; omega)))
  replace RVB2 := Lib.hid (show RepAt (w8.alloc (.cells z28 28)) VB2 rB2 W6.heap.size w7.heap.size from RVB2.out.below hal4 (by first | omega | (simp only [World.size_alloc, setRow_size]; omega)))
  replace RVB3 := Lib.hid (show RepAt (w8.alloc (.cells z28 28)) VB3 rB3 W7.heap.size w8.heap.size from RVB3.out.below hal4 (by first | omega | (simp only [World.size_alloc, setRow_size]; omega)))
  replace RMN := Lib.hid (show MsgAt (w8.alloc (.cells z28 28)) MN mN W7.heap.size w8.heap.size from RMN.out.below hal4 (by first | omega | (simp only [World.size_alloc, setRow_size]; omega)))
  clear hal4
  have PN := Lib.hid (show Blk (w8.alloc (.cells z28 28)) w8.heap.size 28 z28 from Blk.new w8 28 z28)
  have PB0 := PB
  replace HW := Lib.hid (show Below w.heap.size w ((w8.alloc (.cells z28 28)).setRow w2.heap.size VB3) from below_setRow HW.out (by omega) _)
  replace PA := Lib.hid (show Blk ((w8.alloc (.cells z28 28)).setRow w2.heap.size VB3) w1.heap.size 26 VA3 from PA.out.setRow (by omega) _)
  replace PB := Lib.hid (show Blk ((w8.alloc (.cells z28 28)).setRow w2.heap.size VB3) w2.heap.size 26 VB3 from PB.out.setRow_same _)
  replace RVA3 := Lib.hid (show RepAt ((w8.alloc (.cells z28 28)).setRow w2.heap.size VB3) VA3 rA3 W4.heap.size w5.heap.size from RVA3.out.row _ (by omega))
  replace RVB2 := Lib.hid (show RepAt ((w8.alloc (.cells z28 28)).setRow w2.heap.size VB3) VB2 rB2 W6.heap.size w7.heap.size from RVB2.out.row _ (by omega))
  replace RVB3 := Lib.hid (show RepAt ((w8.alloc (.cells z28 28)).setRow w2.heap.size VB3) VB3 rB3 W7.heap.size w8.heap.size from RVB3.out.row _ (by omega))
  replace RMN := Lib.hid (show MsgAt ((w8.alloc (.cells z28 28)).setRow w2.heap.size VB3) MN mN W7.heap.size w8.heap.size from RMN.out.row _ (by omega))
  replace PN := Lib.hid (show Blk ((w8.alloc (.cells z28 28)).setRow w2.heap.size VB3) w8.heap.size 28 z28 from PN.out.setRow (by omega) _)
  have PN0 := PN
  replace HW := Lib.hid (show Below w.heap.size w (((w8.alloc (.cells z28 28)).setRow w2.heap.size VB3).setRow w8.heap.size MN) from below_setRow HW.out (by omega) _)
  replace PA := Lib.hid (show Blk (((w8.alloc (.cells z28 28)).setRow w2.heap.size VB3).setRow w8.heap.size MN) w1.heap.size 26 VA3 from PA.out.setRow (by omega) _)
  replace PB := Lib.hid (show Blk (((w8.alloc (.cells z28 28)).setRow w2.heap.size VB3).setRow w8.heap.size MN) w2.heap.size 26 VB3 from PB.out.setRow (by omega) _)
  replace RVA3 := Lib.hid (show RepAt (((w8.alloc (.cells z28 28)).setRow w2.heap.size VB3).setRow w8.heap.size MN) VA3 rA3 W4.heap.size w5.heap.size from RVA3.out.row _ (by omega))
  replace RVB2 := Lib.hid (show RepAt (((w8.alloc (.cells z28 28)).setRow w2.heap.size VB3).setRow w8.heap.size MN) VB2 rB2 W6.heap.size w7.heap.size from RVB2.out.row _ (by omega))
  replace RVB3 := Lib.hid (show RepAt (((w8.alloc (.cells z28 28)).setRow w2.heap.size VB3).setRow w8.heap.size MN) VB3 rB3 W7.heap.size w8.heap.size from RVB3.out.row _ (by omega))
  replace RMN := Lib.hid (show MsgAt (((w8.alloc (.cells z28 28)).setRow w2.heap.size VB3).setRow w8.heap.size MN) MN mN W7.heap.size w8.heap.size from RMN.out.row _ (by omega))
  replace PN := Lib.hid (show Blk (((w8.alloc (.cells z28 28)).setRow w2.heap.size VB3).setRow w8.heap.size MN) w8.heap.size 28 MN from PN.out.setRow_same _)
  have hsz_W8 : w8.heap.size + 1 ≤ (((w8.alloc (.cells z28 28)).setRow w2.heap.size VB3).setRow w8.heap.size MN).heap.size := Nat.le_of_eq (by first | rfl | simp only [World.size_alloc, setRow_size, Nat.add_zero])
  go_upto_region 9 with (first
    | (with_reducible refine stB 26 (.tmp 3) (.tmp 69) w2.heap.size VB3 _ PB0 zVB3 oldVB3 oneVB3 rfl rfl rfl rfl ?_)
    | (with_reducible refine stB 28 (.tmp 11) (.tmp 70) w8.heap.size MN _ PN0 zMN oldMN oneMN rfl rfl rfl rfl ?_))
  generalize ((w8.alloc (.cells z28 28)).setRow w2.heap.size VB3).setRow w8.heap.size MN = W8 at *
  clear PB0 PN0
  clear RVB2
  go_wp2_with (first
    | (with_reducible refine ldB 26 (.tmp 1) w1.heap.size VA3 PA Tryz.underlying26 rfl zVA3 rfl rfl rfl ?_)
    | (with_reducible refine ldB 28 (.tmp 11) w8.heap.size MN PN Tryz.underlying28 rfl zMN rfl rfl rfl ?_))
  refine (hearC W8 RVA3.out (by omega) RMN.out (by omega) sn9).mono ?_
  rintro e w9 ⟨VC, rfl, hrep, hb⟩
  have zVC : (Tryz.prog.info? 26).map (·.size) = some VC.size := by rw [hrep.size]; exact size26
  have oneVC : VC.all (·.oneCell') = true := hrep.one
  have szVC : VC.size = 5 := hrep.size
  have hz_w9 := hb.size
  replace HW := Lib.hid (show Below w.heap.size w w9 from HW.out.trans (hb.mono HW.out.size))
  replace PA := Lib.hid (show Blk w9 w1.heap.size 26 VA3 from PA.out.below hb PA.out.lt)
  replace PB := Lib.hid (show Blk w9 w2.heap.size 26 VB3 from PB.out.below hb PB.out.lt)
  replace RVA3 := Lib.hid (show RepAt w9 VA3 rA3 W4.heap.size w5.heap.size from RVA3.out.below hb (by omega))
  replace RVB3 := Lib.hid (show RepAt w9 VB3 rB3 W7.heap.size w8.heap.size from RVB3.out.below hb (by omega))
  replace RMN := Lib.hid (show MsgAt w9 MN mN W7.heap.size w8.heap.size from RMN.out.below hb (by omega))
  replace PN := Lib.hid (show Blk w9 w8.heap.size 28 MN from PN.out.below hb PN.out.lt)
  have RVC := Lib.hid (show RepAt w9 VC rC W8.heap.size w9.heap.size from hrep)
  clear hrep hb
  have hal5 : Below w9.heap.size w9 (w9.alloc (.cells VC 26)) := (Below.refl _ _).alloc (Nat.le_refl _) _
  replace HW := Lib.hid (show Below w.heap.size w (w9.alloc (.cells VC 26)) from HW.out.trans (hal5.mono HW.out.size))
  replace PA := Lib.hid (show Blk (w9.alloc (.cells VC 26)) w1.heap.size 26 VA3 from PA.out.alloc _)
  replace PB := Lib.hid (show Blk (w9.alloc (.cells VC 26)) w2.heap.size 26 VB3 from PB.out.alloc _)
  replace RVA3 := Lib.hid (show RepAt (w9.alloc (.cells VC 26)) VA3 rA3 W4.heap.size w5.heap.size from RVA3.out.below hal5 (by first | omega | (simp only [World.size_alloc, setRow_size]; omega)))
  replace RVB3 := Lib.hid (show RepAt (w9.alloc (.cells VC 26)) VB3 rB3 W7.heap.size w8.heap.size from RVB3.out.below hal5 (by first | omega | (simp only [World.size_alloc, setRow_size]; omega)))
  replace RMN := Lib.hid (show MsgAt (w9.alloc (.cells VC 26)) MN mN W7.heap.size w8.heap.size from RMN.out.below hal5 (by first | omega | (simp only [World.size_alloc, setRow_size]; omega)))
  replace PN := Lib.hid (show Blk (w9.alloc (.cells VC 26)) w8.heap.size 28 MN from PN.out.alloc _)
  replace RVC := Lib.hid (show RepAt (w9.alloc (.cells VC 26)) VC rC W8.heap.size w9.heap.size from RVC.out.below hal5 (by first | omega | (simp only [World.size_alloc, setRow_size]; omega)))
  clear hal5
  have PC := Lib.hid (show Blk (w9.alloc (.cells VC 26)) w9.heap.size 26 VC from Blk.new w9 26 VC)
  have oldVC : z26.size = VC.size := by rw [szVC]; rfl
  have hsz_W9 : w9.heap.size + 1 ≤ (w9.alloc (.cells VC 26)).heap.size := Nat.le_of_eq (by first | rfl | simp only [World.size_alloc, setRow_size, Nat.add_zero])
  go_upto_region 10 with (first
    | (with_reducible refine wpList_store_last rfl 26 (.tmp 13) (.tmp 76) rfl VC _ rfl rfl rfl zVC oldVC oneVC ?_))
  generalize w9.alloc (.cells VC 26) = W9 at *
  clear RMN
  clear PN
  go_upto_region 12 with (fail)
  have hal6 : Below W9.heap.size W9 (W9.alloc (.cells #[.int .i64 1, .int .i64 0, .int .i64 0, .string ⟨#[97]⟩, .int .i64 1, .int .i64 1, .int .i64 0, .string ⟨#[99]⟩, .int .i64 2, .int .i64 0, .int .i64 1, .string ⟨#[98]⟩] 57)) := (Below.refl _ _).alloc (Nat.le_refl _) _
  replace HW := Lib.hid (show Below w.heap.size w (W9.alloc (.cells #[.int .i64 1, .int .i64 0, .int .i64 0, .string ⟨#[97]⟩, .int .i64 1, .int .i64 1, .int .i64 0, .string ⟨#[99]⟩, .int .i64 2, .int .i64 0, .int .i64 1, .string ⟨#[98]⟩] 57)) from HW.out.trans (hal6.mono HW.out.size))
  replace PA := Lib.hid (show Blk (W9.alloc (.cells #[.int .i64 1, .int .i64 0, .int .i64 0, .string ⟨#[97]⟩, .int .i64 1, .int .i64 1, .int .i64 0, .string ⟨#[99]⟩, .int .i64 2, .int .i64 0, .int .i64 1, .string ⟨#[98]⟩] 57)) w1.heap.size 26 VA3 from PA.out.alloc _)
  replace PB := Lib.hid (show Blk (W9.alloc (.cells #[.int .i64 1, .int .i64 0, .int .i64 0, .string ⟨#[97]⟩, .int .i64 1, .int .i64 1, .int .i64 0, .string ⟨#[99]⟩, .int .i64 2, .int .i64 0, .int .i64 1, .string ⟨#[98]⟩] 57)) w2.heap.size 26 VB3 from PB.out.alloc _)
  replace RVA3 := Lib.hid (show RepAt (W9.alloc (.cells #[.int .i64 1, .int .i64 0, .int .i64 0, .string ⟨#[97]⟩, .int .i64 1, .int .i64 1, .int .i64 0, .string ⟨#[99]⟩, .int .i64 2, .int .i64 0, .int .i64 1, .string ⟨#[98]⟩] 57)) VA3 rA3 W4.heap.size w5.heap.size from RVA3.out.below hal6 (by first | omega | (simp only [World.size_alloc, setRow_size]; omega)))
  replace RVB3 := Lib.hid (show RepAt (W9.alloc (.cells #[.int .i64 1, .int .i64 0, .int .i64 0, .string ⟨#[97]⟩, .int .i64 1, .int .i64 1, .int .i64 0, .string ⟨#[99]⟩, .int .i64 2, .int .i64 0, .int .i64 1, .string ⟨#[98]⟩] 57)) VB3 rB3 W7.heap.size w8.heap.size from RVB3.out.below hal6 (by first | omega | (simp only [World.size_alloc, setRow_size]; omega)))
  replace RVC := Lib.hid (show RepAt (W9.alloc (.cells #[.int .i64 1, .int .i64 0, .int .i64 0, .string ⟨#[97]⟩, .int .i64 1, .int .i64 1, .int .i64 0, .string ⟨#[99]⟩, .int .i64 2, .int .i64 0, .int .i64 1, .string ⟨#[98]⟩] 57)) VC rC W8.heap.size w9.heap.size from RVC.out.below hal6 (by first | omega | (simp only [World.size_alloc, setRow_size]; omega)))
  replace PC := Lib.hid (show Blk (W9.alloc (.cells #[.int .i64 1, .int .i64 0, .int .i64 0, .string ⟨#[97]⟩, .int .i64 1, .int .i64 1, .int .i64 0, .string ⟨#[99]⟩, .int .i64 2, .int .i64 0, .int .i64 1, .string ⟨#[98]⟩] 57)) w9.heap.size 26 VC from PC.out.alloc _)
  clear hal6
  have PW := Lib.hid (show Blk (W9.alloc (.cells #[.int .i64 1, .int .i64 0, .int .i64 0, .string ⟨#[97]⟩, .int .i64 1, .int .i64 1, .int .i64 0, .string ⟨#[99]⟩, .int .i64 2, .int .i64 0, .int .i64 1, .string ⟨#[98]⟩] 57)) W9.heap.size 57 #[.int .i64 1, .int .i64 0, .int .i64 0, .string ⟨#[97]⟩, .int .i64 1, .int .i64 1, .int .i64 0, .string ⟨#[99]⟩, .int .i64 2, .int .i64 0, .int .i64 1, .string ⟨#[98]⟩] from Blk.new W9 57 _)
  have hsz_W10 : W9.heap.size + 1 ≤ (W9.alloc (.cells #[.int .i64 1, .int .i64 0, .int .i64 0, .string ⟨#[97]⟩, .int .i64 1, .int .i64 1, .int .i64 0, .string ⟨#[99]⟩, .int .i64 2, .int .i64 0, .int .i64 1, .string ⟨#[98]⟩] 57)).heap.size := Nat.le_of_eq (by first | rfl | simp only [World.size_alloc, setRow_size, Nat.add_zero])
  go_upto_region 13 with (fail)
  generalize W9.alloc (.cells #[.int .i64 1, .int .i64 0, .int .i64 0, .string ⟨#[97]⟩, .int .i64 1, .int .i64 1, .int .i64 0, .string ⟨#[99]⟩, .int .i64 2, .int .i64 0, .int .i64 1, .string ⟨#[98]⟩] 57) = W10 at *
  go_wp2_with (with_reducible refine ldB 26 (.tmp 13) w9.heap.size VC PC Tryz.underlying26 rfl zVC rfl rfl rfl ?_)
  refine (stableC W10 RVC.out (by omega) sn10).mono ?_
  rw [sn11]
  rintro e W11 ⟨rfl, hb⟩
  have hz_W11 := hb.size
  replace HW := Lib.hid (show Below w.heap.size w W11 from HW.out.trans (hb.mono HW.out.size))
  replace PA := Lib.hid (show Blk W11 w1.heap.size 26 VA3 from PA.out.below hb PA.out.lt)
  replace PB := Lib.hid (show Blk W11 w2.heap.size 26 VB3 from PB.out.below hb PB.out.lt)
  replace RVA3 := Lib.hid (show RepAt W11 VA3 rA3 W4.heap.size w5.heap.size from RVA3.out.below hb (by omega))
  replace RVB3 := Lib.hid (show RepAt W11 VB3 rB3 W7.heap.size w8.heap.size from RVB3.out.below hb (by omega))
  replace RVC := Lib.hid (show RepAt W11 VC rC W8.heap.size w9.heap.size from RVC.out.below hb (by omega))
  replace PC := Lib.hid (show Blk W11 w9.heap.size 26 VC from PC.out.below hb PC.out.lt)
  replace PW := Lib.hid (show Blk W11 W9.heap.size 57 #[.int .i64 1, .int .i64 0, .int .i64 0, .string ⟨#[97]⟩, .int .i64 1, .int .i64 1, .int .i64 0, .string ⟨#[99]⟩, .int .i64 2, .int .i64 0, .int .i64 1, .string ⟨#[98]⟩] from PW.out.below hb PW.out.lt)
  clear hb
  go_upto_region 14 with (fail)
  go_wp2_with (with_reducible refine ldB 26 (.tmp 13) w9.heap.size VC PC Tryz.underlying26 rfl zVC rfl rfl rfl ?_)
  refine (digestC W11 tab (HT.out.below HW.out ht0) RVC.out (by omega) sn10 (by decide) (by decide) small_rC).mono ?_
  rintro e W12 ⟨dd, rfl, hdd, hb⟩
  have HDD := Lib.hid hdd
  clear hdd
  have hz_W12 := hb.size
  replace HW := Lib.hid (show Below w.heap.size w W12 from HW.out.trans (hb.mono HW.out.size))
  replace PA := Lib.hid (show Blk W12 w1.heap.size 26 VA3 from PA.out.below hb PA.out.lt)
  replace PB := Lib.hid (show Blk W12 w2.heap.size 26 VB3 from PB.out.below hb PB.out.lt)
  replace RVA3 := Lib.hid (show RepAt W12 VA3 rA3 W4.heap.size w5.heap.size from RVA3.out.below hb (by omega))
  replace RVB3 := Lib.hid (show RepAt W12 VB3 rB3 W7.heap.size w8.heap.size from RVB3.out.below hb (by omega))
  replace RVC := Lib.hid (show RepAt W12 VC rC W8.heap.size w9.heap.size from RVC.out.below hb (by omega))
  replace PC := Lib.hid (show Blk W12 w9.heap.size 26 VC from PC.out.below hb PC.out.lt)
  replace PW := Lib.hid (show Blk W12 W9.heap.size 57 #[.int .i64 1, .int .i64 0, .int .i64 0, .string ⟨#[97]⟩, .int .i64 1, .int .i64 1, .int .i64 0, .string ⟨#[99]⟩, .int .i64 2, .int .i64 0, .int .i64 1, .string ⟨#[98]⟩] from PW.out.below hb PW.out.lt)
  clear hb
  go_upto_region 15 with (fail)
  have hal7 : Below W12.heap.size W12 (W12.alloc (.cells #[.int .i64 3, .int .i64 0, .int .i64 0, .string ⟨#[]⟩] 64)) := (Below.refl _ _).alloc (Nat.le_refl _) _
  replace HW := Lib.hid (show Below w.heap.size w (W12.alloc (.cells #[.int .i64 3, .int .i64 0, .int .i64 0, .string ⟨#[]⟩] 64)) from HW.out.trans (hal7.mono HW.out.size))
  replace PA := Lib.hid (show Blk (W12.alloc (.cells #[.int .i64 3, .int .i64 0, .int .i64 0, .string ⟨#[]⟩] 64)) w1.heap.size 26 VA3 from PA.out.alloc _)
  replace PB := Lib.hid (show Blk (W12.alloc (.cells #[.int .i64 3, .int .i64 0, .int .i64 0, .string ⟨#[]⟩] 64)) w2.heap.size 26 VB3 from PB.out.alloc _)
  replace RVA3 := Lib.hid (show RepAt (W12.alloc (.cells #[.int .i64 3, .int .i64 0, .int .i64 0, .string ⟨#[]⟩] 64)) VA3 rA3 W4.heap.size w5.heap.size from RVA3.out.below hal7 (by first | omega | (simp only [World.size_alloc, setRow_size]; omega)))
  replace RVB3 := Lib.hid (show RepAt (W12.alloc (.cells #[.int .i64 3, .int .i64 0, .int .i64 0, .string ⟨#[]⟩] 64)) VB3 rB3 W7.heap.size w8.heap.size from RVB3.out.below hal7 (by first | omega | (simp only [World.size_alloc, setRow_size]; omega)))
  replace RVC := Lib.hid (show RepAt (W12.alloc (.cells #[.int .i64 3, .int .i64 0, .int .i64 0, .string ⟨#[]⟩] 64)) VC rC W8.heap.size w9.heap.size from RVC.out.below hal7 (by first | omega | (simp only [World.size_alloc, setRow_size]; omega)))
  replace PC := Lib.hid (show Blk (W12.alloc (.cells #[.int .i64 3, .int .i64 0, .int .i64 0, .string ⟨#[]⟩] 64)) w9.heap.size 26 VC from PC.out.alloc _)
  replace PW := Lib.hid (show Blk (W12.alloc (.cells #[.int .i64 3, .int .i64 0, .int .i64 0, .string ⟨#[]⟩] 64)) W9.heap.size 57 #[.int .i64 1, .int .i64 0, .int .i64 0, .string ⟨#[97]⟩, .int .i64 1, .int .i64 1, .int .i64 0, .string ⟨#[99]⟩, .int .i64 2, .int .i64 0, .int .i64 1, .string ⟨#[98]⟩] from PW.out.alloc _)
  clear hal7
  have PBad := Lib.hid (show Blk (W12.alloc (.cells #[.int .i64 3, .int .i64 0, .int .i64 0, .string ⟨#[]⟩] 64)) W12.heap.size 64 #[.int .i64 3, .int .i64 0, .int .i64 0, .string ⟨#[]⟩] from Blk.new W12 64 _)
  go_wp2_with fail
  have hsz_X15 : W12.heap.size + 1 ≤ (W12.alloc (.cells #[.int .i64 3, .int .i64 0, .int .i64 0, .string ⟨#[]⟩] 64)).heap.size := Nat.le_of_eq (by first | rfl | simp only [World.size_alloc, setRow_size, Nat.add_zero])
  generalize W12.alloc (.cells #[.int .i64 3, .int .i64 0, .int .i64 0, .string ⟨#[]⟩] 64) = X15 at *
  refine (runBad X15 _ _ (PBad.out.cell 0) (PBad.out.cell 1) (PBad.out.cell 2) (PBad.out.cell 3)).mono ?_
  rintro e W13 ⟨rfl, hb⟩
  clear PBad
  have hz_W13 := hb.size
  replace HW := Lib.hid (show Below w.heap.size w W13 from HW.out.trans (hb.mono HW.out.size))
  replace PA := Lib.hid (show Blk W13 w1.heap.size 26 VA3 from PA.out.below hb PA.out.lt)
  replace PB := Lib.hid (show Blk W13 w2.heap.size 26 VB3 from PB.out.below hb PB.out.lt)
  replace RVA3 := Lib.hid (show RepAt W13 VA3 rA3 W4.heap.size w5.heap.size from RVA3.out.below hb (by omega))
  replace RVB3 := Lib.hid (show RepAt W13 VB3 rB3 W7.heap.size w8.heap.size from RVB3.out.below hb (by omega))
  replace RVC := Lib.hid (show RepAt W13 VC rC W8.heap.size w9.heap.size from RVC.out.below hb (by omega))
  replace PC := Lib.hid (show Blk W13 w9.heap.size 26 VC from PC.out.below hb PC.out.lt)
  replace PW := Lib.hid (show Blk W13 W9.heap.size 57 #[.int .i64 1, .int .i64 0, .int .i64 0, .string ⟨#[97]⟩, .int .i64 1, .int .i64 1, .int .i64 0, .string ⟨#[99]⟩, .int .i64 2, .int .i64 0, .int .i64 1, .string ⟨#[98]⟩] from PW.out.below hb PW.out.lt)
  clear hb
  go_upto_region 16 with (fail)
  have hal8 : Below W13.heap.size W13 (W13.alloc (.cells #[.int .i64 1, .int .i64 0, .int .i64 0, .string ⟨#[97]⟩, .int .i64 2, .int .i64 0, .int .i64 0, .string ⟨#[]⟩, .int .i64 3, .int .i64 1, .int .i64 0, .string ⟨#[]⟩] 64)) := (Below.refl _ _).alloc (Nat.le_refl _) _
  replace HW := Lib.hid (show Below w.heap.size w (W13.alloc (.cells #[.int .i64 1, .int .i64 0, .int .i64 0, .string ⟨#[97]⟩, .int .i64 2, .int .i64 0, .int .i64 0, .string ⟨#[]⟩, .int .i64 3, .int .i64 1, .int .i64 0, .string ⟨#[]⟩] 64)) from HW.out.trans (hal8.mono HW.out.size))
  replace PA := Lib.hid (show Blk (W13.alloc (.cells #[.int .i64 1, .int .i64 0, .int .i64 0, .string ⟨#[97]⟩, .int .i64 2, .int .i64 0, .int .i64 0, .string ⟨#[]⟩, .int .i64 3, .int .i64 1, .int .i64 0, .string ⟨#[]⟩] 64)) w1.heap.size 26 VA3 from PA.out.alloc _)
  replace PB := Lib.hid (show Blk (W13.alloc (.cells #[.int .i64 1, .int .i64 0, .int .i64 0, .string ⟨#[97]⟩, .int .i64 2, .int .i64 0, .int .i64 0, .string ⟨#[]⟩, .int .i64 3, .int .i64 1, .int .i64 0, .string ⟨#[]⟩] 64)) w2.heap.size 26 VB3 from PB.out.alloc _)
  replace RVA3 := Lib.hid (show RepAt (W13.alloc (.cells #[.int .i64 1, .int .i64 0, .int .i64 0, .string ⟨#[97]⟩, .int .i64 2, .int .i64 0, .int .i64 0, .string ⟨#[]⟩, .int .i64 3, .int .i64 1, .int .i64 0, .string ⟨#[]⟩] 64)) VA3 rA3 W4.heap.size w5.heap.size from RVA3.out.below hal8 (by first | omega | (simp only [World.size_alloc, setRow_size]; omega)))
  replace RVB3 := Lib.hid (show RepAt (W13.alloc (.cells #[.int .i64 1, .int .i64 0, .int .i64 0, .string ⟨#[97]⟩, .int .i64 2, .int .i64 0, .int .i64 0, .string ⟨#[]⟩, .int .i64 3, .int .i64 1, .int .i64 0, .string ⟨#[]⟩] 64)) VB3 rB3 W7.heap.size w8.heap.size from RVB3.out.below hal8 (by first | omega | (simp only [World.size_alloc, setRow_size]; omega)))
  replace RVC := Lib.hid (show RepAt (W13.alloc (.cells #[.int .i64 1, .int .i64 0, .int .i64 0, .string ⟨#[97]⟩, .int .i64 2, .int .i64 0, .int .i64 0, .string ⟨#[]⟩, .int .i64 3, .int .i64 1, .int .i64 0, .string ⟨#[]⟩] 64)) VC rC W8.heap.size w9.heap.size from RVC.out.below hal8 (by first | omega | (simp only [World.size_alloc, setRow_size]; omega)))
  replace PC := Lib.hid (show Blk (W13.alloc (.cells #[.int .i64 1, .int .i64 0, .int .i64 0, .string ⟨#[97]⟩, .int .i64 2, .int .i64 0, .int .i64 0, .string ⟨#[]⟩, .int .i64 3, .int .i64 1, .int .i64 0, .string ⟨#[]⟩] 64)) w9.heap.size 26 VC from PC.out.alloc _)
  replace PW := Lib.hid (show Blk (W13.alloc (.cells #[.int .i64 1, .int .i64 0, .int .i64 0, .string ⟨#[97]⟩, .int .i64 2, .int .i64 0, .int .i64 0, .string ⟨#[]⟩, .int .i64 3, .int .i64 1, .int .i64 0, .string ⟨#[]⟩] 64)) W9.heap.size 57 #[.int .i64 1, .int .i64 0, .int .i64 0, .string ⟨#[97]⟩, .int .i64 1, .int .i64 1, .int .i64 0, .string ⟨#[99]⟩, .int .i64 2, .int .i64 0, .int .i64 1, .string ⟨#[98]⟩] from PW.out.alloc _)
  clear hal8
  have PMo := Lib.hid (show Blk (W13.alloc (.cells #[.int .i64 1, .int .i64 0, .int .i64 0, .string ⟨#[97]⟩, .int .i64 2, .int .i64 0, .int .i64 0, .string ⟨#[]⟩, .int .i64 3, .int .i64 1, .int .i64 0, .string ⟨#[]⟩] 64)) W13.heap.size 64 #[.int .i64 1, .int .i64 0, .int .i64 0, .string ⟨#[97]⟩, .int .i64 2, .int .i64 0, .int .i64 0, .string ⟨#[]⟩, .int .i64 3, .int .i64 1, .int .i64 0, .string ⟨#[]⟩] from Blk.new W13 64 _)
  go_wp2_with fail
  have hsz_X16 : W13.heap.size + 1 ≤ (W13.alloc (.cells #[.int .i64 1, .int .i64 0, .int .i64 0, .string ⟨#[97]⟩, .int .i64 2, .int .i64 0, .int .i64 0, .string ⟨#[]⟩, .int .i64 3, .int .i64 1, .int .i64 0, .string ⟨#[]⟩] 64)).heap.size := Nat.le_of_eq (by first | rfl | simp only [World.size_alloc, setRow_size, Nat.add_zero])
  generalize W13.alloc (.cells #[.int .i64 1, .int .i64 0, .int .i64 0, .string ⟨#[97]⟩, .int .i64 2, .int .i64 0, .int .i64 0, .string ⟨#[]⟩, .int .i64 3, .int .i64 1, .int .i64 0, .string ⟨#[]⟩] 64) = X16 at *
  refine (run_any X16 (some ⟨W13.heap.size, 0, none⟩) 3 3 2 moL (PMo.out.reads 4 3 rfl) rfl (by omega) (by omega) (by omega) sn16 (by rw [sn17]; omega)).mono ?_
  rintro e W14 ⟨va, rl, vb, ml, rfl, hR, hreps, hb⟩
  clear PMo
  have hz_W14 := hb.size
  replace HW := Lib.hid (show Below w.heap.size w W14 from HW.out.trans (hb.mono HW.out.size))
  replace PA := Lib.hid (show Blk W14 w1.heap.size 26 VA3 from PA.out.below hb PA.out.lt)
  replace PB := Lib.hid (show Blk W14 w2.heap.size 26 VB3 from PB.out.below hb PB.out.lt)
  replace RVA3 := Lib.hid (show RepAt W14 VA3 rA3 W4.heap.size w5.heap.size from RVA3.out.below hb (by omega))
  replace RVB3 := Lib.hid (show RepAt W14 VB3 rB3 W7.heap.size w8.heap.size from RVB3.out.below hb (by omega))
  replace RVC := Lib.hid (show RepAt W14 VC rC W8.heap.size w9.heap.size from RVC.out.below hb (by omega))
  replace PC := Lib.hid (show Blk W14 w9.heap.size 26 VC from PC.out.below hb PC.out.lt)
  replace PW := Lib.hid (show Blk W14 W9.heap.size 57 #[.int .i64 1, .int .i64 0, .int .i64 0, .string ⟨#[97]⟩, .int .i64 1, .int .i64 1, .int .i64 0, .string ⟨#[99]⟩, .int .i64 2, .int .i64 0, .int .i64 1, .string ⟨#[98]⟩] from PW.out.below hb PW.out.lt)
  have RN := Lib.hid (show RunF W14 va from RunF.of hR (sn18.symm.trans hreps))
  clear hb hR hreps
  go_upto_region 17 with (fail)
  go_wp2_with fail
  refine (newC0 W14 2 2 sn12).mono ?_
  unfold zeroRep
  rintro e w15 ⟨rfl, hb⟩
  have hz_w15 := hb.size
  replace HW := Lib.hid (show Below w.heap.size w w15 from HW.out.trans (hb.mono HW.out.size))
  replace PA := Lib.hid (show Blk w15 w1.heap.size 26 VA3 from PA.out.below hb PA.out.lt)
  replace PB := Lib.hid (show Blk w15 w2.heap.size 26 VB3 from PB.out.below hb PB.out.lt)
  replace RVA3 := Lib.hid (show RepAt w15 VA3 rA3 W4.heap.size w5.heap.size from RVA3.out.below hb (by omega))
  replace RVB3 := Lib.hid (show RepAt w15 VB3 rB3 W7.heap.size w8.heap.size from RVB3.out.below hb (by omega))
  replace RVC := Lib.hid (show RepAt w15 VC rC W8.heap.size w9.heap.size from RVC.out.below hb (by omega))
  replace PC := Lib.hid (show Blk w15 w9.heap.size 26 VC from PC.out.below hb PC.out.lt)
  replace PW := Lib.hid (show Blk w15 W9.heap.size 57 #[.int .i64 1, .int .i64 0, .int .i64 0, .string ⟨#[97]⟩, .int .i64 1, .int .i64 1, .int .i64 0, .string ⟨#[99]⟩, .int .i64 2, .int .i64 0, .int .i64 1, .string ⟨#[98]⟩] from PW.out.below hb PW.out.lt)
  replace RN := Lib.hid (show RunF w15 va from RN.out.below hb)
  clear hb
  have hal9 : Below w15.heap.size w15 (w15.alloc (.cells #[.int .i64 0, .int .i64 0, .int .i64 0, .slice none 0 0, .slice none 0 0] 26)) := (Below.refl _ _).alloc (Nat.le_refl _) _
  replace HW := Lib.hid (show Below w.heap.size w (w15.alloc (.cells #[.int .i64 0, .int .i64 0, .int .i64 0, .slice none 0 0, .slice none 0 0] 26)) from HW.out.trans (hal9.mono HW.out.size))
  replace PA := Lib.hid (show Blk (w15.alloc (.cells #[.int .i64 0, .int .i64 0, .int .i64 0, .slice none 0 0, .slice none 0 0] 26)) w1.heap.size 26 VA3 from PA.out.alloc _)
  replace PB := Lib.hid (show Blk (w15.alloc (.cells #[.int .i64 0, .int .i64 0, .int .i64 0, .slice none 0 0, .slice none 0 0] 26)) w2.heap.size 26 VB3 from PB.out.alloc _)
  replace RVA3 := Lib.hid (show RepAt (w15.alloc (.cells #[.int .i64 0, .int .i64 0, .int .i64 0, .slice none 0 0, .slice none 0 0] 26)) VA3 rA3 W4.heap.size w5.heap.size from RVA3.out.below hal9 (by first | omega | (simp only [World.size_alloc, setRow_size]; omega)))
  replace RVB3 := Lib.hid (show RepAt (w15.alloc (.cells #[.int .i64 0, .int .i64 0, .int .i64 0, .slice none 0 0, .slice none 0 0] 26)) VB3 rB3 W7.heap.size w8.heap.size from RVB3.out.below hal9 (by first | omega | (simp only [World.size_alloc, setRow_size]; omega)))
  replace RVC := Lib.hid (show RepAt (w15.alloc (.cells #[.int .i64 0, .int .i64 0, .int .i64 0, .slice none 0 0, .slice none 0 0] 26)) VC rC W8.heap.size w9.heap.size from RVC.out.below hal9 (by first | omega | (simp only [World.size_alloc, setRow_size]; omega)))
  replace PC := Lib.hid (show Blk (w15.alloc (.cells #[.int .i64 0, .int .i64 0, .int .i64 0, .slice none 0 0, .slice none 0 0] 26)) w9.heap.size 26 VC from PC.out.alloc _)
  replace PW := Lib.hid (show Blk (w15.alloc (.cells #[.int .i64 0, .int .i64 0, .int .i64 0, .slice none 0 0, .slice none 0 0] 26)) W9.heap.size 57 #[.int .i64 1, .int .i64 0, .int .i64 0, .string ⟨#[97]⟩, .int .i64 1, .int .i64 1, .int .i64 0, .string ⟨#[99]⟩, .int .i64 2, .int .i64 0, .int .i64 1, .string ⟨#[98]⟩] from PW.out.alloc _)
  replace RN := Lib.hid (show RunF (w15.alloc (.cells #[.int .i64 0, .int .i64 0, .int .i64 0, .slice none 0 0, .slice none 0 0] 26)) va from RN.out.below hal9)
  clear hal9
  have hsz_W15 : w15.heap.size + 1 ≤ (w15.alloc (.cells #[.int .i64 0, .int .i64 0, .int .i64 0, .slice none 0 0, .slice none 0 0] 26)).heap.size := Nat.le_of_eq (by first | rfl | simp only [World.size_alloc, setRow_size, Nat.add_zero])
  go_upto_region 18 with (first
    | (with_reducible refine wpList_store_last rfl 26 (.tmp 24) (.tmp 142) rfl #[.int .i64 0, .int .i64 0, .int .i64 0, .slice none 0 0, .slice none 0 0] _ rfl rfl rfl size26 rfl one26 ?_))
  generalize w15.alloc (.cells #[.int .i64 0, .int .i64 0, .int .i64 0, .slice none 0 0, .slice none 0 0] 26) = W15 at *
  go_wp2_with (with_reducible refine ldB 26 (.tmp 3) w2.heap.size VB3 PB Tryz.underlying26 rfl zVB3 rfl rfl rfl ?_)
  refine (stateC W15 tab (HT.out.below HW.out ht0) RVB3.out (by omega) sn13 nocmd_rB3).mono ?_
  have hl2 : rB3.posts.length = 2 := rfl
  rw [hl2]
  clear hl2
  rintro e w16 ⟨⟨ea, eb, ed, D, cD, rfl, hE, hV⟩, hb⟩
  obtain ⟨gD, rfl, hD⟩ := vs_two hV
  clear hV
  have hz_w16 := hb.size
  replace HW := Lib.hid (show Below w.heap.size w w16 from HW.out.trans (hb.mono HW.out.size))
  replace PA := Lib.hid (show Blk w16 w1.heap.size 26 VA3 from PA.out.below hb PA.out.lt)
  replace PB := Lib.hid (show Blk w16 w2.heap.size 26 VB3 from PB.out.below hb PB.out.lt)
  replace RVA3 := Lib.hid (show RepAt w16 VA3 rA3 W4.heap.size w5.heap.size from RVA3.out.below hb (by omega))
  replace RVB3 := Lib.hid (show RepAt w16 VB3 rB3 W7.heap.size w8.heap.size from RVB3.out.below hb (by omega))
  replace RVC := Lib.hid (show RepAt w16 VC rC W8.heap.size w9.heap.size from RVC.out.below hb (by omega))
  replace PC := Lib.hid (show Blk w16 w9.heap.size 26 VC from PC.out.below hb PC.out.lt)
  replace PW := Lib.hid (show Blk w16 W9.heap.size 57 #[.int .i64 1, .int .i64 0, .int .i64 0, .string ⟨#[97]⟩, .int .i64 1, .int .i64 1, .int .i64 0, .string ⟨#[99]⟩, .int .i64 2, .int .i64 0, .int .i64 1, .string ⟨#[98]⟩] from PW.out.below hb PW.out.lt)
  replace RN := Lib.hid (show RunF w16 va from RN.out.below hb)
  have EE := Lib.hid (show EngAt w16 tab ea eb ed from hE)
  have DD := Lib.hid (show DoneF w16 gD from hD)
  clear hE hD hb
  have hal10 : Below w16.heap.size w16 (w16.alloc (.cells (eng0 ea eb ed) 72)) := (Below.refl _ _).alloc (Nat.le_refl _) _
  replace HW := Lib.hid (show Below w.heap.size w (w16.alloc (.cells (eng0 ea eb ed) 72)) from HW.out.trans (hal10.mono HW.out.size))
  replace PA := Lib.hid (show Blk (w16.alloc (.cells (eng0 ea eb ed) 72)) w1.heap.size 26 VA3 from PA.out.alloc _)
  replace PB := Lib.hid (show Blk (w16.alloc (.cells (eng0 ea eb ed) 72)) w2.heap.size 26 VB3 from PB.out.alloc _)
  replace RVA3 := Lib.hid (show RepAt (w16.alloc (.cells (eng0 ea eb ed) 72)) VA3 rA3 W4.heap.size w5.heap.size from RVA3.out.below hal10 (by first | omega | (simp only [World.size_alloc, setRow_size]; omega)))
  replace RVB3 := Lib.hid (show RepAt (w16.alloc (.cells (eng0 ea eb ed) 72)) VB3 rB3 W7.heap.size w8.heap.size from RVB3.out.below hal10 (by first | omega | (simp only [World.size_alloc, setRow_size]; omega)))
  replace RVC := Lib.hid (show RepAt (w16.alloc (.cells (eng0 ea eb ed) 72)) VC rC W8.heap.size w9.heap.size from RVC.out.below hal10 (by first | omega | (simp only [World.size_alloc, setRow_size]; omega)))
  replace PC := Lib.hid (show Blk (w16.alloc (.cells (eng0 ea eb ed) 72)) w9.heap.size 26 VC from PC.out.alloc _)
  replace PW := Lib.hid (show Blk (w16.alloc (.cells (eng0 ea eb ed) 72)) W9.heap.size 57 #[.int .i64 1, .int .i64 0, .int .i64 0, .string ⟨#[97]⟩, .int .i64 1, .int .i64 1, .int .i64 0, .string ⟨#[99]⟩, .int .i64 2, .int .i64 0, .int .i64 1, .string ⟨#[98]⟩] from PW.out.alloc _)
  replace RN := Lib.hid (show RunF (w16.alloc (.cells (eng0 ea eb ed) 72)) va from RN.out.below hal10)
  replace EE := Lib.hid (show EngAt (w16.alloc (.cells (eng0 ea eb ed) 72)) tab ea eb ed from EE.out.below hal10 (Nat.le_refl _))
  replace DD := Lib.hid (show DoneF (w16.alloc (.cells (eng0 ea eb ed) 72)) gD from DD.out.below hal10)
  clear hal10
  have PE := Lib.hid (show Blk (w16.alloc (.cells (eng0 ea eb ed) 72)) w16.heap.size 72 (eng0 ea eb ed) from Blk.new w16 72 _)
  have hsz_W16 : w16.heap.size + 1 ≤ (w16.alloc (.cells (eng0 ea eb ed) 72)).heap.size := Nat.le_of_eq (by first | rfl | simp only [World.size_alloc, setRow_size, Nat.add_zero])
  go_upto_region 19 with (first
    | (with_reducible refine wpList_store_last rfl 72 (.tmp 26) (.tmp 148) rfl (eng0 ea eb ed) _ rfl rfl rfl (zz72 ea eb ed) rfl (one72 ea eb ed) ?_))
  generalize w16.alloc (.cells (eng0 ea eb ed) 72) = W16 at *
  go_wp2_with fail
  refine (engNew0 W16 tab (HT.out.below HW.out ht0)).mono ?_
  rintro e w17 ⟨⟨fa, fb, fd, rfl, hE, _, _, _⟩, hb⟩
  have hz_w17 := hb.size
  replace HW := Lib.hid (show Below w.heap.size w w17 from HW.out.trans (hb.mono HW.out.size))
  replace PA := Lib.hid (show Blk w17 w1.heap.size 26 VA3 from PA.out.below hb PA.out.lt)
  replace PB := Lib.hid (show Blk w17 w2.heap.size 26 VB3 from PB.out.below hb PB.out.lt)
  replace RVA3 := Lib.hid (show RepAt w17 VA3 rA3 W4.heap.size w5.heap.size from RVA3.out.below hb (by omega))
  replace RVB3 := Lib.hid (show RepAt w17 VB3 rB3 W7.heap.size w8.heap.size from RVB3.out.below hb (by omega))
  replace RVC := Lib.hid (show RepAt w17 VC rC W8.heap.size w9.heap.size from RVC.out.below hb (by omega))
  replace PC := Lib.hid (show Blk w17 w9.heap.size 26 VC from PC.out.below hb PC.out.lt)
  replace PW := Lib.hid (show Blk w17 W9.heap.size 57 #[.int .i64 1, .int .i64 0, .int .i64 0, .string ⟨#[97]⟩, .int .i64 1, .int .i64 1, .int .i64 0, .string ⟨#[99]⟩, .int .i64 2, .int .i64 0, .int .i64 1, .string ⟨#[98]⟩] from PW.out.below hb PW.out.lt)
  replace RN := Lib.hid (show RunF w17 va from RN.out.below hb)
  replace EE := Lib.hid (show EngAt w17 tab ea eb ed from EE.out.below hb (Nat.le_refl _))
  replace DD := Lib.hid (show DoneF w17 gD from DD.out.below hb)
  replace PE := Lib.hid (show Blk w17 w16.heap.size 72 (eng0 ea eb ed) from PE.out.below hb PE.out.lt)
  have EF := Lib.hid (show EngAt w17 tab fa fb fd from hE)
  clear hE hb
  have hal11 : Below w17.heap.size w17 (w17.alloc (.cells (eng0 fa fb fd) 72)) := (Below.refl _ _).alloc (Nat.le_refl _) _
  replace HW := Lib.hid (show Below w.heap.size w (w17.alloc (.cells (eng0 fa fb fd) 72)) from HW.out.trans (hal11.mono HW.out.size))
  replace PA := Lib.hid (show Blk (w17.alloc (.cells (eng0 fa fb fd) 72)) w1.heap.size 26 VA3 from PA.out.alloc _)
  replace PB := Lib.hid (show Blk (w17.alloc (.cells (eng0 fa fb fd) 72)) w2.heap.size 26 VB3 from PB.out.alloc _)
  replace RVA3 := Lib.hid (show RepAt (w17.alloc (.cells (eng0 fa fb fd) 72)) VA3 rA3 W4.heap.size w5.heap.size from RVA3.out.below hal11 (by first | omega | (simp only [World.size_alloc, setRow_size]; omega)))
  replace RVB3 := Lib.hid (show RepAt (w17.alloc (.cells (eng0 fa fb fd) 72)) VB3 rB3 W7.heap.size w8.heap.size from RVB3.out.below hal11 (by first | omega | (simp only [World.size_alloc, setRow_size]; omega)))
  replace RVC := Lib.hid (show RepAt (w17.alloc (.cells (eng0 fa fb fd) 72)) VC rC W8.heap.size w9.heap.size from RVC.out.below hal11 (by first | omega | (simp only [World.size_alloc, setRow_size]; omega)))
  replace PC := Lib.hid (show Blk (w17.alloc (.cells (eng0 fa fb fd) 72)) w9.heap.size 26 VC from PC.out.alloc _)
  replace PW := Lib.hid (show Blk (w17.alloc (.cells (eng0 fa fb fd) 72)) W9.heap.size 57 #[.int .i64 1, .int .i64 0, .int .i64 0, .string ⟨#[97]⟩, .int .i64 1, .int .i64 1, .int .i64 0, .string ⟨#[99]⟩, .int .i64 2, .int .i64 0, .int .i64 1, .string ⟨#[98]⟩] from PW.out.alloc _)
  replace RN := Lib.hid (show RunF (w17.alloc (.cells (eng0 fa fb fd) 72)) va from RN.out.below hal11)
  replace EE := Lib.hid (show EngAt (w17.alloc (.cells (eng0 fa fb fd) 72)) tab ea eb ed from EE.out.below hal11 (Nat.le_refl _))
  replace DD := Lib.hid (show DoneF (w17.alloc (.cells (eng0 fa fb fd) 72)) gD from DD.out.below hal11)
  replace PE := Lib.hid (show Blk (w17.alloc (.cells (eng0 fa fb fd) 72)) w16.heap.size 72 (eng0 ea eb ed) from PE.out.alloc _)
  replace EF := Lib.hid (show EngAt (w17.alloc (.cells (eng0 fa fb fd) 72)) tab fa fb fd from EF.out.below hal11 (Nat.le_refl _))
  clear hal11
  have PF := Lib.hid (show Blk (w17.alloc (.cells (eng0 fa fb fd) 72)) w17.heap.size 72 (eng0 fa fb fd) from Blk.new w17 72 _)
  have hsz_W17 : w17.heap.size + 1 ≤ (w17.alloc (.cells (eng0 fa fb fd) 72)).heap.size := Nat.le_of_eq (by first | rfl | simp only [World.size_alloc, setRow_size, Nat.add_zero])
  go_upto_region 20 with (first
    | (with_reducible refine wpList_store_last rfl 72 (.tmp 29) (.tmp 154) rfl (eng0 fa fb fd) _ rfl rfl rfl (zz72 fa fb fd) rfl (one72 fa fb fd) ?_))
  generalize w17.alloc (.cells (eng0 fa fb fd) 72) = W17 at *
  have d0 := DD.out.1
  have d1 := DD.out.2
  obtain ⟨gR, cR, CR, AR, rfl, hRl, r8⟩ := RN.out
  obtain ⟨x0, x1, x2⟩ := PE.out.three
  obtain ⟨y0, y1, y2⟩ := PF.out.three
  go_wp2_with fail
  refine (engSame0 W17 tab ea eb ed fa fb fd EE.out EF.out).mono ?_
  rintro e W18 ⟨rfl, hb⟩
  clear PE
  clear PF
  clear DD
  clear EE
  clear EF
  clear x0 x1 x2 y0 y1 y2 d0 d1
  have R8 := Lib.hid r8
  clear r8 RN
  have hz_W18 := hb.size
  replace HW := Lib.hid (show Below w.heap.size w W18 from HW.out.trans (hb.mono HW.out.size))
  replace PA := Lib.hid (show Blk W18 w1.heap.size 26 VA3 from PA.out.below hb PA.out.lt)
  replace PB := Lib.hid (show Blk W18 w2.heap.size 26 VB3 from PB.out.below hb PB.out.lt)
  replace RVA3 := Lib.hid (show RepAt W18 VA3 rA3 W4.heap.size w5.heap.size from RVA3.out.below hb (by omega))
  replace RVB3 := Lib.hid (show RepAt W18 VB3 rB3 W7.heap.size w8.heap.size from RVB3.out.below hb (by omega))
  replace RVC := Lib.hid (show RepAt W18 VC rC W8.heap.size w9.heap.size from RVC.out.below hb (by omega))
  replace PC := Lib.hid (show Blk W18 w9.heap.size 26 VC from PC.out.below hb PC.out.lt)
  replace PW := Lib.hid (show Blk W18 W9.heap.size 57 #[.int .i64 1, .int .i64 0, .int .i64 0, .string ⟨#[97]⟩, .int .i64 1, .int .i64 1, .int .i64 0, .string ⟨#[99]⟩, .int .i64 2, .int .i64 0, .int .i64 1, .string ⟨#[98]⟩] from PW.out.below hb PW.out.lt)
  replace R8 := Lib.hid (show W18.cell? ⟨gR, 8, none⟩ = some (.slice AR 1 CR) from (hb.cell (lt_of_cell R8.out)).trans R8.out)
  clear hb
  go_upto_region 22 with (fail)
  clear PB
  clear RVB3
  obtain ⟨AC, cC, hA, hO, cC', rfl, hRd, k0, k1⟩ := rep_rC RVC.out
  obtain ⟨f0, f1, f2, f3, f4, rfl⟩ := rep_five RVA3.out
  have K0 := Lib.hid k0
  have K1 := Lib.hid k1
  have RD := Lib.hid hRd
  clear k0 k1 hRd
  obtain ⟨c0, c1, c2, c3, c4⟩ := PC.out.cells5
  go_wp2_with fail
  refine (samePosts_any W18 AC 3 cC [pA, pC, pB] _ 3 3 [pA, pC, pB] (RD.out.more (by omega)) rfl (wantR PW.out) rfl (by omega) (by omega)).mono ?_
  rw [sn21]
  rintro e W19 ⟨rfl, hb⟩
  clear c0 c1 c2 c3 c4
  clear PW
  clear RD
  have hz_W19 := hb.size
  replace HW := Lib.hid (show Below w.heap.size w W19 from HW.out.trans (hb.mono HW.out.size))
  replace PA := Lib.hid (show Blk W19 w1.heap.size 26 #[f0, f1, f2, f3, f4] from PA.out.below hb PA.out.lt)
  replace RVA3 := Lib.hid (show RepAt W19 #[f0, f1, f2, f3, f4] rA3 W4.heap.size w5.heap.size from RVA3.out.below hb (by omega))
  replace RVC := Lib.hid (show RepAt W19 #[.int .i64 0, .int .i64 2, .int .i64 2, .slice AC 3 cC, .slice (some ⟨hA, hO, none⟩) 2 cC'] rC W8.heap.size w9.heap.size from RVC.out.below hb (by omega))
  replace PC := Lib.hid (show Blk W19 w9.heap.size 26 #[.int .i64 0, .int .i64 2, .int .i64 2, .slice AC 3 cC, .slice (some ⟨hA, hO, none⟩) 2 cC'] from PC.out.below hb PC.out.lt)
  replace R8 := Lib.hid (show W19.cell? ⟨gR, 8, none⟩ = some (.slice AR 1 CR) from (hb.cell (lt_of_cell R8.out)).trans R8.out)
  replace K0 := Lib.hid (show W19.cell? ⟨hA, hO, none⟩ = some (.int .i64 1) from (hb.cell (lt_of_cell K0.out)).trans K0.out)
  replace K1 := Lib.hid (show W19.cell? ⟨hA, hO + 1, none⟩ = some (.int .i64 1) from (hb.cell (lt_of_cell K1.out)).trans K1.out)
  clear hb
  obtain ⟨c0, c1, c2, c3, c4⟩ := PC.out.cells5
  go_wp2_with fail
  clear c0 c1 c2 c3 c4
  have hal12 : Below W19.heap.size W19 (W19.alloc (.cells #[.int .i64 1, .int .i64 1] 3)) := (Below.refl _ _).alloc (Nat.le_refl _) _
  replace HW := Lib.hid (show Below w.heap.size w (W19.alloc (.cells #[.int .i64 1, .int .i64 1] 3)) from HW.out.trans (hal12.mono HW.out.size))
  replace PA := Lib.hid (show Blk (W19.alloc (.cells #[.int .i64 1, .int .i64 1] 3)) w1.heap.size 26 #[f0, f1, f2, f3, f4] from PA.out.alloc _)
  replace RVA3 := Lib.hid (show RepAt (W19.alloc (.cells #[.int .i64 1, .int .i64 1] 3)) #[f0, f1, f2, f3, f4] rA3 W4.heap.size w5.heap.size from RVA3.out.below hal12 (by first | omega | (simp only [World.size_alloc, setRow_size]; omega)))
  replace RVC := Lib.hid (show RepAt (W19.alloc (.cells #[.int .i64 1, .int .i64 1] 3)) #[.int .i64 0, .int .i64 2, .int .i64 2, .slice AC 3 cC, .slice (some ⟨hA, hO, none⟩) 2 cC'] rC W8.heap.size w9.heap.size from RVC.out.below hal12 (by first | omega | (simp only [World.size_alloc, setRow_size]; omega)))
  replace PC := Lib.hid (show Blk (W19.alloc (.cells #[.int .i64 1, .int .i64 1] 3)) w9.heap.size 26 #[.int .i64 0, .int .i64 2, .int .i64 2, .slice AC 3 cC, .slice (some ⟨hA, hO, none⟩) 2 cC'] from PC.out.alloc _)
  replace R8 := Lib.hid (show (W19.alloc (.cells #[.int .i64 1, .int .i64 1] 3)).cell? ⟨gR, 8, none⟩ = some (.slice AR 1 CR) from (hal12.cell (lt_of_cell R8.out)).trans R8.out)
  replace K0 := Lib.hid (show (W19.alloc (.cells #[.int .i64 1, .int .i64 1] 3)).cell? ⟨hA, hO, none⟩ = some (.int .i64 1) from (hal12.cell (lt_of_cell K0.out)).trans K0.out)
  replace K1 := Lib.hid (show (W19.alloc (.cells #[.int .i64 1, .int .i64 1] 3)).cell? ⟨hA, hO + 1, none⟩ = some (.int .i64 1) from (hal12.cell (lt_of_cell K1.out)).trans K1.out)
  clear hal12
  have PI := Lib.hid (show Blk (W19.alloc (.cells #[.int .i64 1, .int .i64 1] 3)) W19.heap.size 3 #[.int .i64 1, .int .i64 1] from Blk.new W19 3 _)
  have hsz_X19 : W19.heap.size + 1 ≤ (W19.alloc (.cells #[.int .i64 1, .int .i64 1] 3)).heap.size := Nat.le_of_eq (by first | rfl | simp only [World.size_alloc, setRow_size, Nat.add_zero])
  generalize W19.alloc (.cells #[.int .i64 1, .int .i64 1] 3) = X19 at *
  have hI : X19.cell? ⟨W19.heap.size, 0 + 1, none⟩ = some (.int .i64 1) := PI.out.cell 1
  refine (ints2 X19 hA hO cC' W19.heap.size 0 2 1 1 K0.out K1.out (PI.out.cell 0) hI).mono ?_
  clear hI
  rintro e W20 ⟨rfl, hb⟩
  clear PI
  clear K0
  clear K1
  have hz_W20 := hb.size
  replace HW := Lib.hid (show Below w.heap.size w W20 from HW.out.trans (hb.mono HW.out.size))
  replace PA := Lib.hid (show Blk W20 w1.heap.size 26 #[f0, f1, f2, f3, f4] from PA.out.below hb PA.out.lt)
  replace RVA3 := Lib.hid (show RepAt W20 #[f0, f1, f2, f3, f4] rA3 W4.heap.size w5.heap.size from RVA3.out.below hb (by omega))
  replace RVC := Lib.hid (show RepAt W20 #[.int .i64 0, .int .i64 2, .int .i64 2, .slice AC 3 cC, .slice (some ⟨hA, hO, none⟩) 2 cC'] rC W8.heap.size w9.heap.size from RVC.out.below hb (by omega))
  replace PC := Lib.hid (show Blk W20 w9.heap.size 26 #[.int .i64 0, .int .i64 2, .int .i64 2, .slice AC 3 cC, .slice (some ⟨hA, hO, none⟩) 2 cC'] from PC.out.below hb PC.out.lt)
  replace R8 := Lib.hid (show W20.cell? ⟨gR, 8, none⟩ = some (.slice AR 1 CR) from (hb.cell (lt_of_cell R8.out)).trans R8.out)
  clear hb
  obtain ⟨c0, c1, c2, c3, c4⟩ := PC.out.cells5
  obtain ⟨a0, a1, a2, a3, a4⟩ := PA.out.cells5
  have r8 := R8.out
  have hdd := HDD.out
  go_wp2_with fail
  refine (validC W20 RVC.out (by omega)).mono ?_
  rw [sn10]
  rintro e W21 ⟨rfl, hb⟩
  clear r8 hdd
  clear c0 c1 c2 c3 c4
  clear a0 a1 a2 a3 a4
  clear R8
  have hz_W21 := hb.size
  replace HW := Lib.hid (show Below w.heap.size w W21 from HW.out.trans (hb.mono HW.out.size))
  replace PA := Lib.hid (show Blk W21 w1.heap.size 26 #[f0, f1, f2, f3, f4] from PA.out.below hb PA.out.lt)
  replace RVA3 := Lib.hid (show RepAt W21 #[f0, f1, f2, f3, f4] rA3 W4.heap.size w5.heap.size from RVA3.out.below hb (by omega))
  replace RVC := Lib.hid (show RepAt W21 #[.int .i64 0, .int .i64 2, .int .i64 2, .slice AC 3 cC, .slice (some ⟨hA, hO, none⟩) 2 cC'] rC W8.heap.size w9.heap.size from RVC.out.below hb (by omega))
  replace PC := Lib.hid (show Blk W21 w9.heap.size 26 #[.int .i64 0, .int .i64 2, .int .i64 2, .slice AC 3 cC, .slice (some ⟨hA, hO, none⟩) 2 cC'] from PC.out.below hb PC.out.lt)
  clear hb
  obtain ⟨c0, c1, c2, c3, c4⟩ := PC.out.cells5
  obtain ⟨a0, a1, a2, a3, a4⟩ := PA.out.cells5
  go_wp2_with fail
  refine (sameC W21 RVC.out (by omega) RVC.out (by omega)).mono ?_
  rw [sn19]
  rintro e W22 ⟨rfl, hb⟩
  clear c0 c1 c2 c3 c4
  clear a0 a1 a2 a3 a4
  have hz_W22 := hb.size
  replace HW := Lib.hid (show Below w.heap.size w W22 from HW.out.trans (hb.mono HW.out.size))
  replace PA := Lib.hid (show Blk W22 w1.heap.size 26 #[f0, f1, f2, f3, f4] from PA.out.below hb PA.out.lt)
  replace RVA3 := Lib.hid (show RepAt W22 #[f0, f1, f2, f3, f4] rA3 W4.heap.size w5.heap.size from RVA3.out.below hb (by omega))
  replace RVC := Lib.hid (show RepAt W22 #[.int .i64 0, .int .i64 2, .int .i64 2, .slice AC 3 cC, .slice (some ⟨hA, hO, none⟩) 2 cC'] rC W8.heap.size w9.heap.size from RVC.out.below hb (by omega))
  replace PC := Lib.hid (show Blk W22 w9.heap.size 26 #[.int .i64 0, .int .i64 2, .int .i64 2, .slice AC 3 cC, .slice (some ⟨hA, hO, none⟩) 2 cC'] from PC.out.below hb PC.out.lt)
  clear hb
  obtain ⟨c0, c1, c2, c3, c4⟩ := PC.out.cells5
  obtain ⟨a0, a1, a2, a3, a4⟩ := PA.out.cells5
  go_wp2_with fail
  refine (sameC W22 RVA3.out (by omega) RVC.out (by omega)).mono ?_
  rw [sn20]
  rintro e W23 ⟨rfl, hb⟩
  clear c0 c1 c2 c3 c4
  clear a0 a1 a2 a3 a4
  have hz_W23 := hb.size
  replace HW := Lib.hid (show Below w.heap.size w W23 from HW.out.trans (hb.mono HW.out.size))
  replace PA := Lib.hid (show Blk W23 w1.heap.size 26 #[f0, f1, f2, f3, f4] from PA.out.below hb PA.out.lt)
  replace RVA3 := Lib.hid (show RepAt W23 #[f0, f1, f2, f3, f4] rA3 W4.heap.size w5.heap.size from RVA3.out.below hb (by omega))
  replace RVC := Lib.hid (show RepAt W23 #[.int .i64 0, .int .i64 2, .int .i64 2, .slice AC 3 cC, .slice (some ⟨hA, hO, none⟩) 2 cC'] rC W8.heap.size w9.heap.size from RVC.out.below hb (by omega))
  replace PC := Lib.hid (show Blk W23 w9.heap.size 26 #[.int .i64 0, .int .i64 2, .int .i64 2, .slice AC 3 cC, .slice (some ⟨hA, hO, none⟩) 2 cC'] from PC.out.below hb PC.out.lt)
  clear hb
  go_wp2_with fail
  refine (valid_nil W23).mono ?_
  rintro e W24 ⟨rfl, hb⟩
  go_wp2_with fail
  go_ret
  exact ⟨rfl, HW.out.trans (hb.mono HW.out.size)⟩
end Go.Proofs.YtnehgpeelgjjhaaGreatDoor.Tw
namespace Go.Proofs.YtnehgpeelgjjhaaGreatDoor.Tw
open Go.RowKit

theorem info64 : (Tryz.prog.info? 64).map (fun i => (i.zero, i.size, i.bytes)) = some (some (.agg #[.int .i64 0, .int .i64 0, .int .i64 0, .string ⟨#[]⟩]), 4, 40) := by kernel_rfl
theorem encMo_snoc (l : List Rp.Motion) (m : Rp.Motion) : encMo (l ++ [m]) = encMo l ++ moE m := by simp [encMo]
def allTo (k sent i : Nat) : List Rp.Motion := (List.range i).flatMap fun i => Rp.blockOf k (sent + i) i
def blkTo (sent i j : Nat) : List Rp.Motion := .send i :: (List.range j).map fun j => .deliver j (sent + i)
theorem blkTo_succ (sent i j : Nat) : blkTo sent i (j + 1) = blkTo sent i j ++ [.deliver j (sent + i)] := by simp [blkTo, List.range_succ]
theorem allTo_succ (k sent i : Nat) : allTo k sent (i + 1) = allTo k sent i ++ blkTo sent i k := by
  unfold allTo; rw [List.range_succ, List.flatMap_append]; simp [Rp.blockOf, blkTo]
theorem allTo_len (k sent : Nat) : ∀ i, (allTo k sent i).length = i * (k + 1)
  | 0 => by simp [allTo]
  | i + 1 => by rw [allTo_succ, List.length_append, allTo_len k sent i]; simp [blkTo, Nat.succ_mul]

set_option maxRecDepth 100000 in
set_option maxHeartbeats 3200000 in
theorem all_any (w : World) (k sent : Nat) (hk : k ≤ 5) (hs : sent ≤ 1000) :
    Calls Tryz.prog 31 #[.int .i64 k, .int .i64 sent] w fun e w' => ∃ A n c, e = .returned (.slice A n c) ∧ w'.ownsRow w.heap.size 64 4 (.slice A n c) n (encMo (Rp.allM k sent)) ∧ (Rp.allM k sent).length = n ∧ Below w.heap.size w w' := by
  obtain ⟨i0, hi0, hz0, hz1, hz2⟩ := info_parts info64
  go_enter Tryz.func31, Tryz.ntmps31
  go_wp2
  go_loopw [5, 6] (fun s q wr => ∃ (i : Nat) (A : Option Addr) (n c : Nat), i ≤ k ∧ q = .int .i64 i ∧ s = .slice A n c ∧ Hid (wr.ownsRow w.heap.size 64 4 (.slice A n c) n (encMo (allTo k sent i))) ∧ n = i * (k + 1) ∧ Below w.heap.size w wr) (fun _ q _ => k - (intOf q).toNat)
  case atStart => exact ⟨0, none, 0, 0, by omega, rfl, rfl, Lib.hid (World.ownsRow_nil _ _ _ _), by omega, Below.refl _ _⟩
  case round =>
    obtain ⟨i, A, n, c, hi, rfl, rfl, hown, hn, hb⟩ := hrel
    by_cases hlt : i < k
    · have hnk : n ≤ 30 := by
        rw [hn]
        have h1 : i * (k + 1) ≤ 5 * 6 := Nat.mul_le_mul (by omega) (by omega)
        omega
      have hbs := hb.size
      have HN := Lib.hid hn
      clear hn
      go_wp2_with (first
        | (at_builtin
           refine wpList_append_lies _ (by rfl) _ _ 36 (by rfl) w.heap.size 64 i0 _ 4 40 Tryz.underlying36 hi0 hz0 hz1 hz2 rfl (by omega) (.slice A n c) n (encMo (allTo k sent i)) (by rfl) (hown.out.alloc _) ⟨wr.heap.size, 0, none⟩ 1 1 [.int .i64 2, .int .i64 i, .int .i64 0, .string ⟨#[]⟩] (by rfl) (by rfl) (World.news_of_block (cs := #[.int .i64 2, .int .i64 i, .int .i64 0, .string ⟨#[]⟩]) (t := 64) (fr := (0, 0)) (heap_alloc_new wr _)) (by simp [Value.oneCell']) (by omega) (by simp only [maxLen]; omega) (by omega) (by simp; omega) (wr.heap.size + 1) (by simp) ?_
           intro g cap w5 hown5 hgrow hat hlt5))
      have hb5 : Below w.heap.size w w5 := (hb.alloc hbs _).grown hgrow (by simp; omega) (fun j hj => (hown.out.lt j hj).1)
      have HO5 : Hid (w5.ownsRow w.heap.size 64 4 (.slice (some ⟨g, 0, none⟩) (n + 1) cap) (n + 1) (encMo (allTo k sent i ++ blkTo sent i 0))) := Lib.hid (by
        rw [show blkTo sent i 0 = [.send i] from rfl, encMo_snoc]; exact hown5)
      have HB5 := Lib.hid hb5
      clear hown5 hgrow hat hown hb hb5
      go_wp2
      go_loopw [5, 7] (fun s q wr => ∃ (j : Nat) (A : Option Addr) (n' c : Nat), j ≤ k ∧ q = .int .i64 j ∧ s = .slice A n' c ∧ Hid (wr.ownsRow w.heap.size 64 4 (.slice A n' c) n' (encMo (allTo k sent i ++ blkTo sent i j))) ∧ n' = n + 1 + j ∧ Below w.heap.size w wr) (fun _ q _ => k - (intOf q).toNat)
      case atStart => exact ⟨0, some ⟨g, 0, none⟩, n + 1, cap, by omega, rfl, rfl, HO5, by omega, HB5.out⟩
      case round =>
        obtain ⟨j, A, n', c, hj, rfl, rfl, hown, hn', hb⟩ := hrel
        by_cases hlt2 : j < k
        · have hnk' : n' ≤ 40 := by omega
          have hbs := hb.size
          have HN' := Lib.hid hn'
          clear hn'
          go_wp2_with (first
            | (at_builtin
               refine wpList_append_lies _ (by rfl) _ _ 36 (by rfl) w.heap.size 64 i0 _ 4 40 Tryz.underlying36 hi0 hz0 hz1 hz2 rfl (by omega) (.slice A n' c) n' (encMo (allTo k sent i ++ blkTo sent i j)) (by rfl) (hown.out.alloc _) ⟨wr.heap.size, 0, none⟩ 1 1 [.int .i64 3, .int .i64 j, .int .i64 ((sent : Int) + i), .string ⟨#[]⟩] (by rfl) (by rfl) (World.news_of_block (cs := #[.int .i64 3, .int .i64 j, .int .i64 ((sent : Int) + i), .string ⟨#[]⟩]) (t := 64) (fr := (0, 0)) (heap_alloc_new wr _)) (by simp [Value.oneCell']) (by omega) (by simp only [maxLen]; omega) (by omega) (by simp; omega) (wr.heap.size + 1) (by simp) ?_
               intro g cap w5 hown5 hgrow hat hlt5))
          have hb5 : Below w.heap.size w w5 := (hb.alloc hbs _).grown hgrow (by simp; omega) (fun j hj => (hown.out.lt j hj).1)
          have HO5 : Hid (w5.ownsRow w.heap.size 64 4 (.slice (some ⟨g, 0, none⟩) (n' + 1) cap) (n' + 1) (encMo (allTo k sent i ++ blkTo sent i (j + 1)))) := Lib.hid (by
            rw [blkTo_succ, ← List.append_assoc, encMo_snoc]
            have e : moE (.deliver j (sent + i)) = [.int .i64 3, .int .i64 j, .int .i64 ((sent : Int) + i), .string ⟨#[]⟩] := by simp [moE, moK, moW, moA, moT]
            rw [e]; exact hown5)
          have HB5 := Lib.hid hb5
          clear hown5 hgrow hat hown hb hb5
          go_wp2
          go_roundw
          case rel => exact ⟨j + 1, some ⟨g, 0, none⟩, n' + 1, cap, by omega, by go_num, rfl, HO5, by have := HN'.out; omega, HB5.out⟩
          case measure => simp [intOf]; omega
        · have hjk : j = k := by omega
          subst hjk
          have HN' := Lib.hid hn'
          have HB' := Lib.hid hb
          clear hn' hb
          go_wp2
          go_roundw
          case rel => exact ⟨i + 1, A, n', c, by omega, by go_num, rfl, by rw [allTo_succ]; exact hown, by rw [HN'.out, HN.out, Nat.succ_mul]; omega, HB'.out⟩
          case measure => simp [intOf]; omega
    · have hik : i = k := by omega
      subst hik
      have HN := Lib.hid hn
      have HB := Lib.hid hb
      clear hn hb
      go_wp2
      go_ret
      exact ⟨A, n, c, rfl, hown.out, by rw [HN.out]; exact allTo_len i sent i, HB.out⟩
end Go.Proofs.YtnehgpeelgjjhaaGreatDoor.Tw
namespace Go.Proofs.YtnehgpeelgjjhaaGreatDoor.Tw
open Go.RowKit

theorem pick_pos {c : Int} {n : Nat} (h : 0 ≤ c) (hn : 0 < n) : c.tmod (n : Int) = (Rp.pick c n : Int) := by
  unfold Rp.pick
  rw [if_neg (by omega), Int.tmod_eq_emod_of_nonneg h]
  have := Int.emod_nonneg c (show (n : Int) ≠ 0 by omega)
  omega
theorem pick_neg {c : Int} {n : Nat} (h : c < 0) (hn : 0 < n) : (-(c + 1)).tmod (n : Int) = (Rp.pick c n : Int) := by
  unfold Rp.pick
  rw [if_pos h, Int.tmod_eq_emod_of_nonneg (by omega)]
  have := Int.emod_nonneg (-(c + 1)) (show (n : Int) ≠ 0 by omega)
  omega

set_option maxRecDepth 100000 in
theorem pick_any (c : Int) (n : Nat) (w : World) (h0 : 0 < n) (hn : n ≤ 1000) (hc : Hid (IntKind.i64.wrap (c + 1) = c + 1 ∧ IntKind.i64.wrap (-(c + 1)) = -(c + 1) ∨ 0 ≤ c)) :
    Calls Tryz.prog 40 #[.int .i64 c, .int .i64 n] w fun e w' => e = .returned (.int .i64 (Rp.pick c n)) ∧ w = w' := by
  have hz : ¬ (n : Int) = 0 := by omega
  have HZ := hz
  go_enter Tryz.func40, Tryz.ntmps40
  by_cases hlt : c < 0
  · have HP := Lib.hid (pick_neg hlt h0)
    obtain ⟨w1, w2⟩ : IntKind.i64.wrap (c + 1) = c + 1 ∧ IntKind.i64.wrap (-(c + 1)) = -(c + 1) := by
      rcases hc.out with h | h
      · exact h
      · omega
    go_wp2
    go_ret
    exact ⟨ret_int (by rw [← HP.out, Int.neg_tmod]), rfl⟩
  · have HP := Lib.hid (pick_pos (c := c) (n := n) (by omega) h0)
    go_wp2
    go_ret
    exact ⟨ret_int (by rw [← HP.out, Int.tmod_eq_emod_of_nonneg (by omega)]), rfl⟩
set_option maxRecDepth 100000 in
theorem pickL_any (c : Int) (n : Nat) (w : World) (h0 : 0 < n) (hn : n ≤ 1000) (hc : Hid (IntKind.i64.wrap (c + 1) = c + 1 ∧ IntKind.i64.wrap (-(c + 1)) = -(c + 1) ∨ 0 ≤ c)) :
    Calls Tryz.prog 8 #[.int .i64 c, .int .i64 n] w fun e w' => e = .returned (.int .i64 (Rp.pick c n)) ∧ w = w' := by
  have hz : ¬ (n : Int) = 0 := by omega
  have HZ := hz
  go_enter Tryz.func8, Tryz.ntmps8
  by_cases hlt : c < 0
  · have HP := Lib.hid (pick_neg hlt h0)
    obtain ⟨w1, w2⟩ : IntKind.i64.wrap (c + 1) = c + 1 ∧ IntKind.i64.wrap (-(c + 1)) = -(c + 1) := by
      rcases hc.out with h | h
      · exact h
      · omega
    go_wp2
    go_ret
    exact ⟨ret_int (by rw [← HP.out, Int.neg_tmod]), rfl⟩
  · have HP := Lib.hid (pick_pos (c := c) (n := n) (by omega) h0)
    go_wp2
    go_ret
    exact ⟨ret_int (by rw [← HP.out, Int.tmod_eq_emod_of_nonneg (by omega)]), rfl⟩

/-- what an integer that came in may be picked by -/
theorem pick_wrap {c : Int} (h : -9223372036854775808 ≤ c ∧ c ≤ 9223372036854775807) : Hid (IntKind.i64.wrap (c + 1) = c + 1 ∧ IntKind.i64.wrap (-(c + 1)) = -(c + 1) ∨ 0 ≤ c) := by
  refine Lib.hid ?_
  by_cases h0 : 0 ≤ c
  · exact .inr h0
  · exact .inl ⟨IntWalk.i64_in _ (by omega), IntWalk.i64_in _ (by omega)⟩
end Go.Proofs.YtnehgpeelgjjhaaGreatDoor.Tw
