/- Contracts of functions of the program, and plain laws, towards the laws of replicas. Joined of the texts: D7, Sh, D8, D9, D10, F1, D11a, F2, F3, F4, F5, V8, K1, G1, G2, G3, G4, F6. -/
import Derived.Test.YtnehgpeelgjjhaaGreatDoorW07
import Derived.Test.YtnehgpeelgjjhaaGreatDoorProg
import Derived.Shelf.Strings.OnBuilder
import Derived.Handy
import Derived.Shelf.Strings.BuilderK
import Derived.Defers
import Derived.Recover
set_option linter.all false
namespace Go.Proofs.YtnehgpeelgjjhaaGreatDoor.Tw
open Go.RowKit Go.Shelf
attribute [local go_sem] Oper.semAt_some
attribute [local irreducible] addF
theorem chunk_stops (n : Nat) (hn : 1 ≤ n) (b1 b2 b cap m n₀ p : Nat) (w : World) (h1 : w.cell? ⟨b1, 0, none⟩ = some (.slice (some ⟨b, 0, none⟩) (64 * m) cap)) (h2 : w.cell? ⟨b2, 0, none⟩ = some (.int .i64 64))
    (hb1 : b1 < n₀) (hb2 : b2 < n₀) (hp1 : b1 ≠ p) (hp2 : b2 ≠ p) (hn₀ : n₀ ≤ w.heap.size) (hcap : 64 * m ≤ cap) (hm : m ≤ 1099511627776) :
    SeqStopsK Fence.wide n Tryz.prog 152 #[.pointer (some ⟨b1, 0, none⟩), .pointer (some ⟨b2, 0, none⟩)] (fun x : Fin m => #[Value.slice (some ⟨b, 64 * x.val, none⟩) 64 64]) (KeepB n₀ p) (fun ys => ys = List.finRange m) (fun _ => True) m w :=
  fun l J Jx W hW hJ _ hY h0 => chunk_iter n hn l b1 b2 b cap m n₀ p J Jx (fun s A B hs hg => hJ s A B none hs hg (fun r e => by cases e)) hY W ((hW.cell (lt_of_cell h1)).trans h1) ((hW.cell (lt_of_cell h2)).trans h2) hb1 hb2 hp1 (Nat.le_trans hn₀ hW.size) hp2 hcap hm h0
set_option maxRecDepth 100000 in
set_option maxHeartbeats 1000000 in
theorem chunk_any (w : World) (A : Option Addr) (n c : Nat) : Calls Tryz.prog 108 #[.slice A n c, .int .i64 64] w fun e w' => ∃ b1 b2, e = .returned (.func (.func 152) #[] #[.pointer (some ⟨b1, 0, none⟩), .pointer (some ⟨b2, 0, none⟩)]) ∧ w.heap.size ≤ b1 ∧ w.heap.size ≤ b2 ∧ b1 < w'.heap.size ∧ b2 < w'.heap.size ∧
    w'.cell? ⟨b1, 0, none⟩ = some (.slice A n c) ∧ w'.cell? ⟨b2, 0, none⟩ = some (.int .i64 64) ∧ Below w.heap.size w w' := by
  go_enter Tryz.func108, Tryz.ntmps108
  go_wp2
  go_ret
  have hX := heap_alloc_new (w.alloc (.cells #[.slice A n c] 129)) (.cells #[.int .i64 64] 3)
  have hA : Blk ((w.alloc (.cells #[.slice A n c] 129)).alloc (.cells #[.int .i64 64] 3)) w.heap.size 129 #[.slice A n c] := (Blk.new _ _ _).alloc _
  have hB : Blk ((w.alloc (.cells #[.slice A n c] 129)).alloc (.cells #[.int .i64 64] 3)) (w.heap.size + 1) 3 #[.int .i64 64] := Blk.new2 _ _ _ _
  exact ⟨_, _, rfl, by omega, by omega, by simp; omega, by simp, hA.cell 0, hB.cell 0, ((Below.refl _ _).alloc (Nat.le_refl _) _).alloc (by simp) _⟩
def iv : W8 := ⟨1779033703, 3144134277, 1013904242, 2773480762, 1359893119, 2600822924, 528734635, 1541459225⟩
def lenV : Value → Nat
  | .slice _ n _ => n
  | _ => 0
theorem Bs.len {w : World} {B : Nat} {v : Value} {xs : List Int} (h : Bs w B v xs) : ∃ A c, v = .slice A xs.length c := by
  obtain ⟨g, cap, rfl, _⟩ := h
  exact ⟨_, _, rfl⟩
theorem Bs.len' {w : World} {B : Nat} {v : Value} {xs : List Int} (h : Bs w B v xs) {n : Nat} (hn : xs.length = n) : ∃ A c, v = .slice A n c := by
  subst hn
  exact h.len
theorem with_act {P : Program} {c : Code} {Q : Exit → Act → World → Prop} {a : Act} {w : World} (h : ∀ b, b = a → c.wp P Q b w) : c.wp P Q a w := h a rfl
theorem KeepB.putObj {n p l : Nat} {W : World} (h : n ≤ l) (o : Obj) : KeepB n p W (W.putObj l o) := ⟨by simp, fun k hk _ => World.putObj_heap_other (by omega)⟩
theorem KeepB.grown {n p : Nat} {w A B : World} {row : Option Nat} (h : KeepB n p w A) (hg : A.grownBy B row) (hr : ∀ r, row = some r → n ≤ r) (hn : n ≤ w.heap.size) : KeepB n p w B :=
  ⟨Nat.le_trans h.1 hg.size, fun k hk hp => (hg.block k (by have := h.1; omega) (fun e => by have := hr k e.symm; omega)).trans (h.2 k hk hp)⟩
theorem nums_fold {m : Nat} (tab : Array Value) (f : Fin m → Nat → Int) (pre : List (Fin m)) {hs : Array Value} (h : Nums 8 hs) : Nums 8 (pre.foldl (fun hs x => addF tab (f x) hs) hs) := by
  induction pre generalizing hs with
  | nil => exact h
  | cons x pre ih =>
    rw [List.foldl_cons]
    exact ih (nums_addF tab (f x) h)
/-- byte j of the length's eight, the greatest first -/
def lenB1 (n j : Nat) : Int := (8 * (n : Int)) / 2 ^ (8 * (7 - j)) % 256
def lenB (n j : Nat) : List Int := (List.range j).map (lenB1 n)
theorem lenB_succ (n j : Nat) : lenB n j ++ [lenB1 n j] = lenB n (j + 1) := by simp [lenB, List.range_succ]
/-- the bytes that are digested -/
def padB (s : ByteArray) : List Int := bytesI s ++ [128] ++ List.replicate ((120 - ((bytesI s).length + 1) % 64) % 64) 0 ++ lenB s.size 8
/-- the bytes of the digest -/
def sumF (tab : Array Value) (s : ByteArray) : List Int :=
  outB ((List.finRange ((padB s).length / 64)).foldl (fun hs x => addF tab (fun i => (padB s).getD (64 * x.val + i) 0) hs) iv.cells) 8
theorem sumF_len (tab : Array Value) (s : ByteArray) : (sumF tab s).length = 32 := outB_len _ 8
theorem sumF_eq (tab : Array Value) (s : ByteArray) (zs : List Int) (m : Nat) (h1 : zs = padB s) (h2 : zs.length = 64 * m) :
    outB ((List.finRange m).foldl (fun hs x => addF tab (fun i => zs.getD (64 * x.val + i) 0) hs) iv.cells) 8 = sumF tab s := by
  subst h1
  obtain rfl : m = (padB s).length / 64 := by omega
  rfl
theorem own_sum {β : Type} {n p : Nat} {w4 w : World} (F : β → Array Value) (hp : p < n) (hn : n ≤ w4.heap.size) (hB : w.heap.size ≤ n) : OwnFrom n (fun s W => Blk W p 181 (F s) ∧ KeepB n p w4 W ∧ Below w.heap.size w W) := by
  rintro s A B row ⟨h1, h2, h3⟩ hg hr
  have hne : some p ≠ row := fun e => by have := (hr p e.symm).1; omega
  refine ⟨(hg.block p h1.lt hne).trans h1, h2.grown hg (fun r e => (hr r e).1) hn, ?_⟩
  refine ⟨hg.os.trans h3.os, hg.tape.trans h3.tape, hg.output.trans h3.output, Nat.le_trans h3.size hg.size, fun k hk => ?_⟩
  have hnk : some k ≠ row := fun e => by have := (hr k e.symm).1; omega
  exact (hg.block k (Nat.lt_of_lt_of_le hk h3.size) hnk).trans (h3.block k hk)
theorem KeepsOthers.of_but {p : Nat} {w w' : World} (h : But p w w') {t : TypeId} {cs : Array Value} (hp : Blk w p t cs) : KeepsOthers w w' :=
  ⟨h.size, fun k o hk ho => (h.block k (Array.getElem?_eq_some_iff.1 hk).1 (fun e => by subst e; rw [hp.heap] at hk; cases hk; cases ho)).trans hk⟩
theorem wpList_append1 {ops : Array Oper} {rest : List Oper} {o : Oper} {a : Act} {w : World} {Q : Exit → Act → World → Prop} (hgd : o.guard = none) (s x : Operand)
    (ho : o.op = .call { callee := .builtin .append, args := #[s, x], argTypes := #[129, 129] }) (base : Nat) (v : Value) (xs : List Int) (hs : a.eval s = v) (hB : Bs w base v xs) (hbase : base ≤ w.heap.size) (hl : xs.length + 1 ≤ 1099511627776)
    (ad : Addr) (c : Int) (cc : Nat) (hx : a.eval x = .slice (some ad) 1 cc) (hc : w.cell? ad = some (.int .u8 c))
    (h : ∀ v' w', Bs w' base v' (xs ++ [c]) → Below base w w' → wpList Tryz.prog ops Q rest (a.put o.dst v') w') : wpList Tryz.prog ops Q (o :: rest) a w := by
  refine wpList_plain hgd fun K hK => ?_
  obtain ⟨v', w', hr, h2, h3⟩ := hB.append1 hbase hl ad c cc hc o.type
  unfold Oper.wp execOp
  simp only [ho, resolve, invoke, builtin, Sem.run_bind, Sem.run_pure, Result.andThen_ok, List.map_toArray, List.map_cons, List.map_nil, hs, hx, hr]
  exact hK _ _ (h v' w' h2 h3)
set_option maxRecDepth 100000 in
set_option maxHeartbeats 1000000 in
theorem sum_any (w : World) (s : ByteArray) (tab : Array Value) (hT : Tab w tab) (hs : s.size ≤ 1000000000) :
    Calls Tryz.prog 77 #[.string s] w fun e w' => e = .returned (.string (strOfNums (sumF tab s))) ∧ Below w.heap.size w w' := by
  have HT := Lib.hid hT
  clear hT
  refine calls_of_marks Tryz.func77 rfl ?_
  simp only [Tryz.ntmps77, List.size_toArray, List.length_cons, List.length_nil, Nat.reduceAdd, Nat.reduceSub, Array.replicate_succ, Array.replicate_zero, List.push_toArray, List.append_toArray, List.nil_append, List.cons_append]
  go_upto_region 2 with (fail)
  obtain ⟨W0, hW0⟩ : ∃ W0, W0 = w.alloc (.cells iv.cells 181) := ⟨_, rfl⟩
  have hH0 : Blk W0 w.heap.size 181 iv.cells := by rw [hW0]; exact Blk.new _ _ _
  have hb0 : Below w.heap.size w W0 := by rw [hW0]; exact (Below.refl _ _).alloc (Nat.le_refl _) _
  have hz0 : W0.heap.size = w.heap.size + 1 := by rw [hW0]; simp
  have e0 : (W0 = w.alloc (.cells #[.int .u32 1779033703, .int .u32 3144134277, .int .u32 1013904242, .int .u32 2773480762, .int .u32 1359893119, .int .u32 2600822924, .int .u32 528734635, .int .u32 1541459225] 181)) := hW0
  rw [← e0]
  clear hW0 e0
  obtain ⟨v0, w1, hcv, hB0, h1⟩ := Bs.of_string W0 s
  obtain ⟨A0, c0, rfl⟩ := hB0.len
  have hk0 : (w1.alloc (.cells #[.int .u8 128] 5)).cell? ⟨w1.heap.size, 0, none⟩ = some (.int .u8 128) := (Blk.new w1 5 #[.int .u8 128]).cell 0
  have HB0 := Lib.hid (hB0.below ((Below.refl _ w1).alloc (Nat.le_refl _) (.cells #[.int .u8 128] 5)))
  have hz1 := h1.size
  have hz1' : W0.heap.size ≤ (w1.alloc (.cells #[.int .u8 128] 5)).heap.size := by simp; omega
  have hl0 : (bytesI s).length + 1 ≤ 1099511627776 := by rw [bytesI_len]; omega
  clear hB0
  go_wp2_with (at_builtin; refine wpList_append1 rfl (.tmp 9) (.tmp 10) rfl W0.heap.size (.slice A0 (bytesI s).length c0) (bytesI s) rfl HB0.out hz1' hl0 ⟨w1.heap.size, 0, none⟩ 128 1 rfl hk0 ?_; intro v2 w2 hB2 h2; have HB2 := Lib.hid hB2; obtain ⟨A2, c2, rfl⟩ := hB2.len; clear hB2)
  have hbb2 : Below W0.heap.size W0 w2 := ((h1.alloc h1.size _).trans h2)
  obtain ⟨L, hL⟩ : ∃ L, L = (bytesI s).length + 1 := ⟨_, rfl⟩
  have HL := Lib.hid hL
  have hL' : L ≤ 1000000001 := by rw [hL, bytesI_len]; omega
  have hxl : (bytesI s ++ [128]).length = L := by simp [hL]
  rw [← hL]
  obtain ⟨xs0, hxs0⟩ : ∃ xs0, xs0 = bytesI s ++ [128] := ⟨_, rfl⟩
  have HX0 := Lib.hid hxs0
  rw [← hxs0] at HB2 hxl
  rw [hxl] at HB2
  have hxl := Lib.hid hxl
  have HBB := Lib.hid hbb2
  clear hL hxs0 hk0 HB0 hcv h2 hbb2
  rename_i hxl'
  clear hxl'
  go_loopw [4] (fun v wr => ∃ (k : Nat) (A : Option Addr) (c : Nat), k ≤ (120 - L % 64) % 64 ∧ v = .slice A (L + k) c ∧ Hid (Bs wr W0.heap.size (.slice A (L + k) c) (xs0 ++ List.replicate k 0)) ∧ Hid (Below W0.heap.size W0 wr)) (fun v _ => L + 64 - lenV v)
  case atStart => exact ⟨0, A2, c2, by omega, rfl, Lib.hid (by simpa using HB2.out), HBB⟩
  case round =>
    clear HB2 HBB
    obtain ⟨k, A, c, hk, rfl, hB, hb⟩ := hrel
    by_cases h56 : (L + k) % 64 = 56
    · have hkk : Hid (k = (120 - L % 64) % 64) := Lib.hid (by omega)
      go_wp2_with fail
      obtain ⟨ys, hys⟩ : ∃ ys, ys = xs0 ++ List.replicate k 0 := ⟨_, rfl⟩
      have HYS := Lib.hid hys
      obtain ⟨N, hN⟩ : ∃ N, N = L + k := ⟨_, rfl⟩
      have HN := Lib.hid (show N % 64 = 56 by omega)
      clear h56
      have hNl : N ≤ 1000000100 := by omega
      have hyl : ys.length = N := by rw [hys, hN]; simp [hxl.out]
      have hy := Lib.hid hyl
      rw [← hys, ← hN] at hB
      rw [← hN]
      clear hN hys hyl
      generalize (((L : Int) + (k : Int)) % 64 != 56) = bb
      go_loopw [4, 5] (fun v i wr => ∃ (j : Nat) (A : Option Addr) (c : Nat), j ≤ 8 ∧ i = .int .i64 (7 - (j : Int)) ∧ v = .slice A (N + j) c ∧ Hid (Bs wr W0.heap.size (.slice A (N + j) c) (ys ++ lenB s.size j)) ∧ Hid (Below W0.heap.size W0 wr)) (fun _ i _ => (intOf i + 1).toNat)
      case atStart => exact ⟨0, A, c, by omega, rfl, rfl, Lib.hid (by simpa [lenB] using hB.out), hb⟩
      case round =>
        clear hB hb
        obtain ⟨j, A, c, hj, rfl, rfl, hB, hb⟩ := hrel
        by_cases hlt : j < 8
        · have hlk : (ys ++ lenB s.size j).length + 1 ≤ 1099511627776 := by simp [hy.out, lenB]; omega
          have hzr := hb.out.size
          have hl3 : ((ys ++ lenB s.size j) ++ [lenB1 s.size j]).length = N + (j + 1) := by simp [hy.out, lenB]; try omega
          have he3 : ((ys ++ lenB s.size j) ++ [lenB1 s.size j]) = ys ++ lenB s.size (j + 1) := by rw [List.append_assoc, lenB_succ]
          have hkj : (wr.alloc (.cells #[.int .u8 (8 * (s.size : Int) / 2 ^ (8 * (7 - j)) % 256)] 5)).cell? ⟨wr.heap.size, 0, none⟩ = some (.int .u8 (lenB1 s.size j)) := (Blk.new wr 5 #[.int .u8 (8 * (s.size : Int) / 2 ^ (8 * (7 - j)) % 256)]).cell 0
          have HB1 := Lib.hid (hB.out.below ((Below.refl _ wr).alloc (Nat.le_refl _) (.cells #[.int .u8 (8 * (s.size : Int) / 2 ^ (8 * (7 - j)) % 256)] 5)))
          have hzr' : W0.heap.size ≤ (wr.alloc (.cells #[.int .u8 (8 * (s.size : Int) / 2 ^ (8 * (7 - j)) % 256)] 5)).heap.size := by simp; omega
          go_wp2_with (at_builtin; refine wpList_append1 rfl (.tmp 23) (.tmp 31) rfl W0.heap.size (.slice A (N + j) c) (ys ++ lenB s.size j) rfl HB1.out hzr' hlk ⟨wr.heap.size, 0, none⟩ (lenB1 s.size j) 1 rfl hkj ?_; intro v3 w3 hB3 h3; have HB3 := Lib.hid (he3 ▸ hB3); have HW3 := Lib.hid ((hb.out.alloc hb.out.size (.cells #[.int .u8 (8 * (s.size : Int) / 2 ^ (8 * (7 - j)) % 256)] 5)).trans h3); obtain ⟨A3, c3, rfl⟩ := hB3.len' hl3; clear hB3 h3)
          go_roundw
          case rel => exact ⟨j + 1, A3, c3, by omega, by go_num, rfl, HB3, HW3⟩
          case measure => simp [intOf]; omega
        · have hj8 : j = 8 := by omega
          subst hj8
          obtain ⟨m, hm⟩ : ∃ m, N + 8 = 64 * m := ⟨(N + 8) / 64, by have := HN.out; omega⟩
          have hzs : ((ys ++ lenB s.size 8).length = 64 * m) := by simp [hy.out, lenB, hm]
          obtain ⟨zs, hzse⟩ : ∃ zs, zs = ys ++ lenB s.size 8 := ⟨_, rfl⟩
          have HZ := Lib.hid hzse
          rw [← hzse] at hB hzs
          rw [hm] at hB
          have hzl := Lib.hid hzs
          clear hzse hzs
          go_wp2_with fail
          rw [hm]
          refine (chunk_any _ _ _ _).mono ?_
          rintro e w4 ⟨b1, b2, rfl, hl1, hl2, hlt1, hlt2, hc1, hc2, h4⟩
          go_wp2_with fail
          obtain ⟨g, cap, hv, hg1, hg2, hg3, hg4, hg5⟩ := hB.out
          injection hv with hv1 hv2 hv3
          subst hv1
          subst hv3
          clear hv2
          have hbw := hb.out
          have hzw := hb.out.size
          have hz4 := h4.size
          obtain ⟨n₀, hn₀⟩ : ∃ n₀, n₀ = w4.heap.size := ⟨_, rfl⟩
          have HN0 := Lib.hid hn₀
          have HP : Hid (Blk w4 w.heap.size 181 iv.cells) := Lib.hid ((hH0.below hbw (by omega)).below h4 (by omega))
          have HW4 : Hid (Below w.heap.size w w4) := Lib.hid ((hb0.trans (hbw.mono (by omega))).trans (h4.mono (by omega)))
          have HBy : Hid (∀ (x : Fin m) (i : Nat), i < 64 → w4.cell? ⟨g, 64 * x.val + i, none⟩ = some (.int .u8 (zs.getD (64 * x.val + i) 0))) := Lib.hid (fun x i hi => by
            have hx := x.isLt
            rw [h4.cell (p := ⟨g, 64 * x.val + i, none⟩) hg2]
            refine hg5 _ _ ?_
            rw [List.getD_eq_getElem?_getD]
            have hlt : 64 * x.val + i < zs.length := by rw [hzl.out]; omega
            rw [List.getElem?_eq_getElem hlt]
            rfl)
          refine with_act ?_
          intro b hb
          refine wpIn_wide (n := 9).1 ?_
          refine wpIn_rangeFunc_ownF (α := Fin m) (F := Fence.wide) rfl (by omega) (gf := 152) (lb := #[.pointer (some ⟨b1, 0, none⟩), .pointer (some ⟨b2, 0, none⟩)]) (by rw [hb]; rfl) trivial (enters_of Tryz.func152 (by kernel_rfl) rfl)
            (chunk_stops 8 (by omega) b1 b2 g c m w4.heap.size w.heap.size w4 hc1 hc2 hlt1 hlt2 (by omega) (by omega) (Nat.le_refl _) (by have := hzl.out; omega) (by omega)) (fun h k => h.trans k) (fun W l o o' hl _ _ _ => KeepB.putObj hl o') (Below.refl _ _) (fun _ => rfl)
            (fun pre W => Blk W w.heap.size 181 (pre.foldl (fun hs x => addF tab (fun i => zs.getD (64 * x.val + i) 0) hs) iv.cells) ∧ KeepB w4.heap.size w.heap.size w4 W ∧ Below w.heap.size w W)
            (fun _ _ _ => False)
            (own_sum _ (by omega) (Nat.le_refl _) (by omega))
            (fun _ _ _ _ _ hs _ _ => hs) ⟨HP.out, KeepB.refl _ _ _, HW4.out⟩ (fun x => { tmps := (b.tmps.setIfInBounds 35 (.slice (some ⟨g, 64 * x.val, none⟩) 64 64)).setIfInBounds 6 (.slice (some ⟨g, 64 * x.val, none⟩) 64 64), defers := [] }) ?assign ?body ?done ?stop
          case assign =>
            subst hb
            intro l x W K hK
            simp only [List.setIfInBounds_toArray, List.set_cons_succ, List.set_cons_zero] at hK
            gi_wp2
            exact hK
          case body =>
            subst hb
            rintro l pre x W ⟨hI1, hI2, hI3⟩ hlen
            simp only [List.setIfInBounds_toArray, List.set_cons_succ, List.set_cons_zero]
            gi_wp2
            refine ⟨trivial, ?_⟩
            have hg4 : g < w4.heap.size := by omega
            have hgW : g < W.heap.size := by have := hI2.1; omega
            have h0w : 0 < w.heap.size := HT.out.1.lt
            refine (CallsIn.inRound l (callsIn_wide.2 (add_any W w.heap.size g (64 * x.val) (fun i => zs.getD (64 * x.val + i) 0) _ tab ⟨HT.out.1.below hI3 h0w, HT.out.2⟩ hI1 (nums_fold tab (fun (x : Fin m) i => zs.getD (64 * x.val + i) 0) pre iv.nums) (fun i hi => (hI2.cell hg4 (by omega)).trans (HBy.out x i hi)) hgW))).mono ?_
            rintro e W' ⟨rfl, hB', hBut⟩
            gi_wp2
            refine ⟨KeepsOthers.of_but hBut hI1, KeepB.of_but hBut hI2.1, ?_, hI2.trans (KeepB.of_but hBut hI2.1), ?_⟩
            · rw [List.foldl_append, List.foldl_cons, List.foldl_nil]
              exact hB'
            · exact ⟨hBut.os.trans hI3.os, hBut.tape.trans hI3.tape, hBut.output.trans hI3.output, Nat.le_trans hI3.size hBut.size, fun k hk => (hBut.block k (Nat.lt_of_lt_of_le hk hI3.size) (by omega)).trans (hI3.block k hk)⟩
          case done =>
            subst hb
            rintro D xs W hD rfl ⟨hI1, hI2, hI3⟩ hK
            have hNf := nums_fold tab (fun (x : Fin m) i => zs.getD (64 * x.val + i) 0) (List.finRange m) iv.nums
            obtain ⟨hs, hhs⟩ : ∃ hs, hs = (List.finRange m).foldl (fun hs x => addF tab (fun i => zs.getD (64 * x.val + i) 0) hs) iv.cells := ⟨_, rfl⟩
            rw [← hhs] at hI1 hNf
            have HH := Lib.hid hhs
            clear hhs
            have HI1 := Lib.hid hI1
            have hs8 := hNf.size8
            clear hI1
            go_wp2_with (with_reducible refine wpList_load_row rfl 181 (.tmp 3) rfl w.heap.size rfl 181 hs (0, 0) _ HI1.out.heap Tryz.underlying181 rfl hs8 ?_)
            refine (digest_any W hs hNf).mono ?_
            rintro e w5 ⟨rfl, h5⟩
            have hD5 : D < W.heap.size := (Array.getElem?_eq_some_iff.1 hK).1
            have hK5 : w5.heap[D]? = some (.deferred (some [])) := (h5.block D hD5).trans hK
            have hz5 := h5.size
            have hzz := hI3.size
            have HB5 := Lib.hid (below_putObj (hI3.trans (h5.mono hzz)) (g := D) (by omega) (.deferred none))
            go_wp2_with fail
            refine leaves_mark hK5 (results_tmp rfl _ _ _) ⟨?_, HB5.out⟩
            have hpad : zs = padB s := by rw [HZ.out, HYS.out, hkk.out, HX0.out, HL.out]; rfl
            rw [← sumF_eq tab s zs m hpad hzl.out, ← HH.out]
            rfl
          case stop => intro D c' pre W _ _ h; exact h.elim
    · have hlk : (xs0 ++ List.replicate k 0).length + 1 ≤ 1099511627776 := by simp [hxl.out]; omega
      have hzr := hb.out.size
      have hl3 : ((xs0 ++ List.replicate k 0) ++ [0]).length = L + (k + 1) := by simp [hxl.out]; try omega
      have he3 : ((xs0 ++ List.replicate k 0) ++ [0]) = xs0 ++ List.replicate (k + 1) 0 := by rw [List.append_assoc, ← List.replicate_succ']
      have hk0 : (wr.alloc (.cells #[.int .u8 0] 5)).cell? ⟨wr.heap.size, 0, none⟩ = some (.int .u8 0) := (Blk.new wr 5 #[.int .u8 0]).cell 0
      have HB1 := Lib.hid (hB.out.below ((Below.refl _ wr).alloc (Nat.le_refl _) (.cells #[.int .u8 0] 5)))
      have hzr' : W0.heap.size ≤ (wr.alloc (.cells #[.int .u8 0] 5)).heap.size := by simp; omega
      go_wp2_with (at_builtin; refine wpList_append1 rfl (.tmp 16) (.tmp 17) rfl W0.heap.size (.slice A (L + k) c) (xs0 ++ List.replicate k 0) rfl HB1.out hzr' hlk ⟨wr.heap.size, 0, none⟩ 0 1 rfl hk0 ?_; intro v3 w3 hB3 h3; have HB3 := Lib.hid (he3 ▸ hB3); have HW3 := Lib.hid ((hb.out.alloc hb.out.size (.cells #[.int .u8 0] 5)).trans h3); obtain ⟨A3, c3, rfl⟩ := hB3.len' hl3; clear hB3 h3)
      go_roundw
      case rel => exact ⟨k + 1, A3, c3, by omega, rfl, HB3, HW3⟩
      case measure => simp [lenV]; omega
end Go.Proofs.YtnehgpeelgjjhaaGreatDoor.Tw
namespace Go.Proofs
open Go.Shelf Go.RowKit
def Tryz.lays156_ren : Go.Shelf.Ren := ⟨fun | 156 => 151 | 165 => 209 | 166 => 210 | 169 => 211 | 240 => 265 | 241 => 266 | 276 => 336 | 277 => 337 | n => n, fun | 31 => 86 | 9 => 9 | 3 => 3 | 4 => 4 | 0 => 0 | 20 => 20 | 72 => 315 | 76 => 319 | 70 => 289 | 37 => 129 | 75 => 318 | 127 => 386 | 164 => 452 | 5 => 5 | 80 => 186 | n => n, fun | n => n⟩
theorem Tryz.lays156 : Go.Proofs.Lays.n156 Tryz.prog Tryz.lays156_ren := {
  mixed := by kernel_rfl
  f156 := Tryz.func151.trans (congrArg some (by kernel_rfl))
  f165 := Tryz.func209.trans (congrArg some (by kernel_rfl))
  f166 := Tryz.func210.trans (congrArg some (by kernel_rfl))
  f169 := Tryz.func211.trans (congrArg some (by kernel_rfl))
  f240 := Tryz.func265.trans (congrArg some (by kernel_rfl))
  f241 := Tryz.func266.trans (congrArg some (by kernel_rfl))
  f276 := Tryz.func336.trans (congrArg some (by kernel_rfl))
  f277 := Tryz.func337.trans (congrArg some (by kernel_rfl))
  t0 := Tryz.underlying0
  a0 := Tryz.isAgg0
  z0 := Tryz.sizeOf0
  v0 := Tryz.zeroValue0
  t3 := Tryz.underlying3
  a3 := Tryz.isAgg3
  z3 := Tryz.sizeOf3
  v3 := Tryz.zeroValue3
  t4 := Tryz.underlying4
  a4 := Tryz.isAgg4
  z4 := Tryz.sizeOf4
  v4 := Tryz.zeroValue4
  t9 := Tryz.underlying9
  a9 := Tryz.isAgg9
  z9 := Tryz.sizeOf9
  v9 := Tryz.zeroValue9
  t20 := Tryz.underlying20
  a20 := Tryz.isAgg20
  z20 := Tryz.sizeOf20
  v20 := Tryz.zeroValue20
  t31 := Tryz.underlying86
  a31 := Tryz.isAgg86
  z31 := Tryz.sizeOf86
  v31 := Tryz.zeroValue86
  t37 := Tryz.underlying129
  a37 := Tryz.isAgg129
  z37 := Tryz.sizeOf129
  v37 := Tryz.zeroValue129
  t70 := Tryz.underlying289
  a70 := Tryz.isAgg289
  z70 := Tryz.sizeOf289
  v70 := Tryz.zeroValue289
  t72 := Tryz.underlying315
  a72 := Tryz.isAgg315
  z72 := Tryz.sizeOf315
  v72 := Tryz.zeroValue315
  t75 := Tryz.underlying318
  a75 := Tryz.isAgg318
  z75 := Tryz.sizeOf318
  v75 := Tryz.zeroValue318
  t76 := Tryz.underlying319
  a76 := Tryz.isAgg319
  z76 := Tryz.sizeOf319
  v76 := Tryz.zeroValue319
  t127 := Tryz.underlying386
  a127 := Tryz.isAgg386
  z127 := Tryz.sizeOf386
  v127 := Tryz.zeroValue386
  t164 := Tryz.underlying452
  a164 := Tryz.isAgg452
  z164 := Tryz.sizeOf452
  v164 := Tryz.zeroValue452 }
theorem Tryz.Builder_Extra_156 : Builder.Extra Tryz.prog Tryz.lays156_ren where
  sizeBuilder := by kernel_rfl
  liesBuilder := by kernel_rfl
  t5 := Tryz.underlying5
  a5 := Tryz.isAgg5
  z5 := Tryz.sizeOf5
  v5 := Tryz.zeroValue5
  infoByte := by kernel_rfl
  cellsByte := by kernel_rfl
  sizeByte := by kernel_rfl
  neB5 := by decide
theorem Tryz.strings_Join (bk o c : Nat) (xs : List ByteArray) (sep : ByteArray) (w : World) (hcells : ∀ (j : Nat) x, xs[j]? = some x → w.cell? ⟨bk, o + j, none⟩ = some (.string x)) (hbk : bk < w.heap.size) (hN : xs.length ≤ 140737488355328) (hcap : xs.length ≤ c) (hlen : (Lib.join (xs.map (·.data.toList)) sep.data.toList).length ≤ 140737488355328) :
    Calls Tryz.prog 151 #[.slice (some ⟨bk, o, none⟩) xs.length c, .string sep] w fun e w' => e = .returned (.string ⟨(Lib.join (xs.map (·.data.toList)) sep.data.toList).toArray⟩) ∧ Below w.heap.size w w' := Any.strings_Join Tryz.lays156 Tryz.Builder_Extra_156 bk o c xs sep w hcells hbk hN hcap hlen
end Go.Proofs
namespace Go.Proofs.YtnehgpeelgjjhaaGreatDoor.Tw
open Go.RowKit Go.Shelf
attribute [local irreducible] sumF
/-- strings joined without a separator -/
def cat (xs : List ByteArray) : ByteArray := ⟨(Lib.join (xs.map (·.data.toList)) []).toArray⟩
/-- the digest of a mark and strings -/
def markF (tab : Array Value) (mark : ByteArray) (xs : List ByteArray) : ByteArray := strOfNums (sumF tab (mark ++ cat xs))
theorem markF_size (tab : Array Value) (mark : ByteArray) (xs : List ByteArray) : (markF tab mark xs).size = 32 := by
  unfold markF
  rw [strOfNums_size, sumF_len]
set_option maxRecDepth 100000 in
set_option maxHeartbeats 1000000 in
theorem marked1_any (w : World) (bk c bx : Nat) (xs : List ByteArray) (mark : ByteArray) (tab : Array Value) (hT : Tab w tab) (hM : w.cell? ⟨bx, 0, none⟩ = some (.string mark))
    (hX : ∀ (j : Nat) x, xs[j]? = some x → w.cell? ⟨bk, 0 + j, none⟩ = some (.string x)) (hbk : bk < w.heap.size) (hc : xs.length ≤ c) (hn : xs.length ≤ 1000000) (hs : (mark ++ cat xs).size ≤ 1000000000) :
    Calls Tryz.prog 150 #[.slice (some ⟨bk, 0, none⟩) xs.length c, .pointer (some ⟨bx, 0, none⟩)] w fun e w' => e = .returned (.string (markF tab mark xs)) ∧ Below w.heap.size w w' := by
  have HT := Lib.hid hT
  have HX := Lib.hid hX
  clear hT hX
  have hcs : Hid ((Lib.join (xs.map (·.data.toList)) []).length ≤ 140737488355328) := Lib.hid (by
    have h1 : (mark ++ cat xs).size = mark.size + (cat xs).size := by simp
    have h2 : (cat xs).size = (Lib.join (xs.map (·.data.toList)) []).length := rfl
    omega)
  have hsz : ¬ 9223372036854775807 < mark.size + (cat xs).size := by
    have h1 : (mark ++ cat xs).size = mark.size + (cat xs).size := by simp
    omega
  have h0 : 0 < w.heap.size := HT.out.1.lt
  have L0 := Later.of hM
  go_enter Tryz.func150, Tryz.ntmps150
  go_wp2_with fail
  refine Loose.wp_region_later [(2, .is (.string (cat xs))), (4, .is (.string (markF tab mark xs)))] 6 (by kernel_rfl) (by kernel_rfl) ?_
  (simp only [List.take_succ_cons, List.take_zero, List.drop_succ_cons, List.drop_zero])
  (repeat (first | refine Loose.walk_skip rfl ?_ | (refine Loose.walk_plain rfl rfl rfl (fun K hK => ?_); go_big_quiet_op; refine hK _ ?_; clear hK K)))
  refine Loose.walk_loose rfl rfl (fun W' hW' hF => Loose.loose_call (f := 151) (args := #[.slice (some ⟨bk, 0, none⟩) xs.length c, .string ⟨#[]⟩]) (by kernel_rfl) ((Tryz.strings_Join bk 0 c xs ⟨#[]⟩ W' (fun j x hj => (hW'.cell hbk).trans (HX.out j x hj)) (Nat.lt_of_lt_of_le hbk hW'.size) (by omega) hc hcs.out).mono fun e w' ⟨he, hb⟩ => ⟨_, he, hb, rfl⟩)) ?_
  rintro _ _ _ rfl
  (simp only [Act.put, List.setIfInBounds_toArray, List.set_cons_succ, List.set_cons_zero])
  (repeat (first | refine Loose.walk_skip rfl ?_ | (refine Loose.walk_plain rfl rfl rfl (fun K hK => ?_); go_big_quiet_op; refine hK _ ?_; clear hK K)))
  refine Loose.walk_loose rfl rfl (fun W' hW' hF => Loose.loose_call (f := 77) (args := #[.string (mark ++ cat xs)]) (by kernel_rfl) ((sum_any W' (mark ++ cat xs) tab ⟨HT.out.1.below hW' h0, HT.out.2⟩ hs).mono fun e w' ⟨he, hb⟩ => ⟨.string (markF tab mark xs), he, hb, rfl⟩)) ?_
  rintro _ _ _ rfl
  (simp only [Act.put, List.setIfInBounds_toArray, List.set_cons_succ, List.set_cons_zero])
  (repeat (first | refine Loose.walk_skip rfl ?_ | (refine Loose.walk_plain rfl rfl rfl (fun K hK => ?_); go_big_quiet_op; refine hK _ ?_; clear hK K)))
  refine Loose.walk_nil ?_
  rintro U hU -
  go_wp2_with fail
  go_ret
  exact ⟨rfl, hU⟩
end Go.Proofs.YtnehgpeelgjjhaaGreatDoor.Tw
namespace Go.Proofs.YtnehgpeelgjjhaaGreatDoor.Tw
open Go.RowKit Go.Shelf
attribute [local irreducible] sumF markF
set_option maxRecDepth 100000 in
theorem marked_any (w : World) (mark : ByteArray) : Calls Tryz.prog 107 #[.string mark] w fun e w' => ∃ bx, e = .returned (.func (.func 150) #[] #[.pointer (some ⟨bx, 0, none⟩)]) ∧ w'.cell? ⟨bx, 0, none⟩ = some (.string mark) ∧ Below w.heap.size w w' := by
  go_enter Tryz.func107, Tryz.ntmps107
  go_wp2
  go_ret
  exact ⟨_, rfl, (Blk.new w 9 #[.string mark]).cell 0, (Below.refl _ _).alloc (Nat.le_refl _) _⟩
def leafF (tab : Array Value) (s : ByteArray) : ByteArray := markF tab ⟨#[0]⟩ [s]
def nodeF (tab : Array Value) (a b : ByteArray) : ByteArray := markF tab ⟨#[1]⟩ [a, b]
theorem leafF_size (tab : Array Value) (s : ByteArray) : (leafF tab s).size = 32 := markF_size _ _ _
theorem nodeF_size (tab : Array Value) (a b : ByteArray) : (nodeF tab a b).size = 32 := markF_size _ _ _
theorem cat1 (s : ByteArray) : (cat [s]).size = s.size := by
  show (Lib.join [s.data.toList] []).toArray.size = s.size
  simp [Lib.join]
theorem cat2 (a b : ByteArray) : (cat [a, b]).size = a.size + b.size := by
  show (Lib.join [a.data.toList, b.data.toList] []).toArray.size = _
  simp [Lib.join]
set_option maxRecDepth 100000 in
set_option maxHeartbeats 1000000 in
theorem leaf_any (w : World) (s : ByteArray) (tab : Array Value) (hT : Tab w tab) (hs : s.size ≤ 900000000) : Calls Tryz.prog 75 #[.string s] w fun e w' => e = .returned (.string (leafF tab s)) ∧ Below w.heap.size w w' := by
  have HT := Lib.hid hT
  clear hT
  have h0 : 0 < w.heap.size := HT.out.1.lt
  have hc1 := cat1 s
  have hz : ((⟨#[0]⟩ : ByteArray) ++ cat [s]).size ≤ 1000000000 := by simp only [ByteArray.size_append, hc1]; show 1 + s.size ≤ _; omega
  have HZ := Lib.hid hz
  clear hz hc1
  go_enter Tryz.func75, Tryz.ntmps75
  go_wp2_with fail
  refine (marked_any _ _).mono ?_
  rintro e w1 ⟨bx, rfl, hm, h1⟩
  have hmx := World.cell?_alloc_some w1 ⟨bx, 0, none⟩ (.cells #[.string s] 9) (by rw [hm]; rfl)
  have hk := (Blk.new w1 9 #[.string s])
  have hsz1 := h1.size
  go_wp2_with fail
  refine (marked1_any _ w1.heap.size 1 bx [s] ⟨#[0]⟩ tab ⟨(HT.out.1.below h1 h0).alloc _, HT.out.2⟩ (hmx.trans hm) (fun j x hj => by
    match j with
    | 0 => simp at hj; subst hj; exact hk.cell 0
    | j + 1 => simp at hj) (by simp) (by simp) (by simp) HZ.out).mono ?_
  rintro e w2 ⟨rfl, h2⟩
  go_wp2_with fail
  go_ret
  exact ⟨rfl, (h1.alloc hsz1 _).trans (h2.mono (by simp; omega))⟩
set_option maxRecDepth 100000 in
set_option maxHeartbeats 1000000 in
theorem node_any (w : World) (a b : ByteArray) (tab : Array Value) (hT : Tab w tab) (ha : a.size ≤ 900000) (hb : b.size ≤ 900000) : Calls Tryz.prog 76 #[.string a, .string b] w fun e w' => e = .returned (.string (nodeF tab a b)) ∧ Below w.heap.size w w' := by
  have HT := Lib.hid hT
  clear hT
  have h0 : 0 < w.heap.size := HT.out.1.lt
  have hc1 := cat2 a b
  have hz : ((⟨#[1]⟩ : ByteArray) ++ cat [a, b]).size ≤ 1000000000 := by simp only [ByteArray.size_append, hc1]; show 1 + (a.size + b.size) ≤ _; omega
  have HZ := Lib.hid hz
  clear hz hc1
  go_enter Tryz.func76, Tryz.ntmps76
  go_wp2_with fail
  refine (marked_any _ _).mono ?_
  rintro e w1 ⟨bx, rfl, hm, h1⟩
  have hmx := World.cell?_alloc_some w1 ⟨bx, 0, none⟩ (.cells #[.string a, .string b] 9) (by rw [hm]; rfl)
  have hk := (Blk.new w1 9 #[.string a, .string b])
  have hsz1 := h1.size
  go_wp2_with fail
  refine (marked1_any _ w1.heap.size 2 bx [a, b] ⟨#[1]⟩ tab ⟨(HT.out.1.below h1 h0).alloc _, HT.out.2⟩ (hmx.trans hm) (fun j x hj => by
    match j with
    | 0 => simp at hj; subst hj; exact hk.cell 0
    | 1 => simp at hj; subst hj; exact hk.cell 1
    | j + 2 => simp at hj) (by simp) (by simp) (by simp) HZ.out).mono ?_
  rintro e w2 ⟨rfl, h2⟩
  go_wp2_with fail
  go_ret
  exact ⟨rfl, (h1.alloc hsz1 _).trans (h2.mono (by simp; omega))⟩
end Go.Proofs.YtnehgpeelgjjhaaGreatDoor.Tw
namespace Go.Proofs.YtnehgpeelgjjhaaGreatDoor.Tw
open Go.RowKit Go.Shelf
/-- a slice that the call has made, of elements of one cell: its cells, all of them free to be written; or nil -/
def Vs (w : World) (base : Nat) (v : Value) (xs : List Value) : Prop :=
  (v = .slice none 0 0 ∧ xs = []) ∨
  ∃ g cap, v = .slice (some ⟨g, 0, none⟩) xs.length cap ∧ base ≤ g ∧ g < w.heap.size ∧ xs.length ≤ cap ∧ (∀ i, i < cap → (∃ u, w.cell? ⟨g, i, none⟩ = some u) ∧ w.frozen? ⟨g, i, none⟩ = false) ∧
    ∀ i x, xs[i]? = some x → w.cell? ⟨g, i, none⟩ = some x
theorem Vs.nil (w : World) (base : Nat) : Vs w base (.slice none 0 0) [] := .inl ⟨rfl, rfl⟩
theorem Vs.below {w w' : World} {base : Nat} {v : Value} {xs : List Value} (h : Vs w base v xs) (hb : Below w.heap.size w w') : Vs w' base v xs := by
  rcases h with h | ⟨g, cap, rfl, h1, h2, h3, h4, h5⟩
  · exact .inl h
  · refine .inr ⟨g, cap, rfl, h1, Nat.lt_of_lt_of_le h2 hb.size, h3, fun i hi => ?_, fun i x hx => (hb.cell h2).trans (h5 i x hx)⟩
    obtain ⟨⟨u, hu⟩, hf⟩ := h4 i hi
    exact ⟨⟨u, (hb.cell h2).trans hu⟩, (hb.frozen h2).trans hf⟩
theorem Vs.len {w : World} {B : Nat} {v : Value} {xs : List Value} (h : Vs w B v xs) {n : Nat} (hn : xs.length = n) : ∃ A c, v = .slice A n c := by
  subst hn
  rcases h with ⟨rfl, rfl⟩ | ⟨g, cap, rfl, _⟩
  · exact ⟨_, _, rfl⟩
  · exact ⟨_, _, rfl⟩
theorem Vs.kept {w w' : World} {base : Nat} {v : Value} {xs : List Value} {row : Option Nat} (h : Vs w base v xs) (hg : w.grownBy w' row) (hne : v.ownBlock = none ∨ v.ownBlock ≠ row) : Vs w' base v xs := by
  rcases h with h | ⟨g, cap, rfl, h1, h2, h3, h4, h5⟩
  · exact .inl h
  · have hb : w'.heap[g]? = w.heap[g]? := hg.block g h2 (by simpa [Value.ownBlock] using hne)
    refine .inr ⟨g, cap, rfl, h1, Nat.lt_of_lt_of_le h2 hg.size, h3, fun i hi => ?_, fun i x hx => (World.cell?_of_block hb).trans (h5 i x hx)⟩
    obtain ⟨⟨u, hu⟩, hf⟩ := h4 i hi
    exact ⟨⟨u, (World.cell?_of_block hb).trans hu⟩, (World.frozen?_of_block hb).trans hf⟩
theorem Vs.own {w : World} {base : Nat} {v : Value} {xs : List Value} (h : Vs w base v xs) : ∀ k, v.ownBlock = some k → base ≤ k ∧ k < w.heap.size := by
  intro k hk
  rcases h with ⟨rfl, _⟩ | ⟨g, cap, rfl, h1, h2, _⟩
  · simp [Value.ownBlock] at hk
  · simp [Value.ownBlock] at hk
    subst hk
    exact ⟨h1, h2⟩
theorem grown_base {w w' : World} {base : Nat} {v : Value} {xs : List Value} (h : Vs w base v xs) (hg : w.grownBy w' v.ownBlock) (hb : base ≤ w.heap.size) : Below base w w' :=
  ⟨hg.os, hg.tape, hg.output, hg.size, fun k hk => hg.block k (by omega) (fun e => by have := h.own k e.symm; omega)⟩
/-- the first k elements -/
theorem Vs.take {w : World} {B : Nat} {g n c : Nat} {xs : List Value} (h : Vs w B (.slice (some ⟨g, 0, none⟩) n c) xs) (k : Nat) (hk : k ≤ xs.length) : Vs w B (.slice (some ⟨g, 0, none⟩) k c) (xs.take k) := by
  rcases h with ⟨h, _⟩ | ⟨g', cap, hv, h1, h2, h3, h4, h5⟩
  · cases h
  · injection hv with e1 e2 e3
    injection e1 with e1
    injection e1 with e1
    subst e1 e3
    refine .inr ⟨g, c, by rw [List.length_take, Nat.min_eq_left hk], h1, h2, by rw [List.length_take]; omega, h4, fun i x hx => ?_⟩
    rw [List.getElem?_take] at hx
    split at hx
    · exact h5 i x hx
    · cases hx
/-- one element more -/
theorem Vs.append1 {P : Program} {t e : TypeId} {z : Value} {by_ : Nat} (hu : P.underlying t = some (.slice e)) (hinfo : (P.info? e).map (fun i => (i.size, i.bytes, i.zero)) = some (1, by_, some z)) (hzc : z.cells.size = 1) (hby : by_ ≤ 16)
    {w : World} {base : Nat} {v : Value} {xs : List Value} (h : Vs w base v xs) (hbase : base ≤ w.heap.size) (hl : xs.length + 1 ≤ 1099511627776) (ad : Addr) (c : Value) (h1c : c.oneCell' = true) (cc : Nat) (hc : w.cell? ad = some c) (ty : TypeId) :
    ∃ v' w', (Builtin.append_ #[t, t] ty #[v, .slice (some ad) 1 cc]).run P w = .ok v' w' ∧ Vs w' base v' (xs ++ [c]) ∧ w.grownBy w' v.ownBlock ∧ (v'.ownBlock = v.ownBlock ∨ ∃ k, v'.ownBlock = some k ∧ w.heap.size ≤ k) := by
  obtain ⟨i5, hi, hs1, hb1, hz⟩ : ∃ i, P.info? e = some i ∧ i.size = 1 ∧ i.bytes = by_ ∧ i.zero = some z := by
    cases hi : P.info? e with
    | none => rw [hi] at hinfo; cases hinfo
    | some i =>
      rw [hi] at hinfo
      simp only [Option.map_some, Option.some.injEq, Prod.mk.injEq] at hinfo
      exact ⟨i, rfl, hinfo.1, hinfo.2.1, hinfo.2.2⟩
  have hnews : ∀ j v, ([c] : List Value)[j]? = some v → w.cell? (ad.add j) = some v := by
    intro j v hj
    match j with
    | 0 =>
      simp at hj
      subst hj
      rw [show ad.add 0 = ad by unfold Addr.add; split <;> simp_all]
      exact hc
    | j + 1 => simp at hj
  rcases h with ⟨rfl, rfl⟩ | ⟨g, cap, rfl, h1, h2, h3, h4, h5⟩
  · obtain ⟨v', w', r1, r2, r3, _⟩ := run_append_own (P := P) w w.heap.size t ty e i5 z 1 by_ hu hi hz hs1 hb1 hzc (by decide) (.slice none 0 0) 0 [] (World.ownsRow_nil w _ e 1) ad 1 cc [c] rfl hnews (by simpa using h1c) (by unfold maxLen; omega) (by omega) (Nat.le_refl _)
    obtain ⟨q1, q2⟩ := r2
    rcases q2 with ⟨_, q2⟩ | ⟨g, cap, cur, rfl, hg1, hg2, hg3, hg4, hg5, hg6⟩
    · cases q2
    · refine ⟨_, w', r1, ?_, r3, .inr ⟨g, rfl, hg1⟩⟩
      have hlt : g < w'.heap.size := (Array.getElem?_eq_some_iff.1 hg2).1
      refine .inr ⟨g, cap, rfl, by omega, hlt, hg3, fun i hi' => ?_, fun i x hx => ?_⟩
      · rw [cell_of_row w' g i cur e (0, 0) hg2]
        refine ⟨⟨_, Array.getElem?_eq_getElem (by omega)⟩, ?_⟩
        simp [World.frozen?, hg2]
      · rw [cell_of_row w' g i cur e (0, 0) hg2]
        have hx' : ([] ++ [c])[i]? = some x := hx
        rw [← hg6, List.getElem?_take] at hx'
        split at hx'
        · simpa using hx'
        · cases hx'
  · by_cases hroom : xs.length + 1 ≤ cap
    · have hst := run_storeCells_cells (P := P) g xs.length [c] 0 w (fun j hj => by
          have : j = 0 := by simpa using hj
          subst this
          obtain ⟨⟨u, hu⟩, _⟩ := h4 xs.length (by omega)
          show (w.cell? ⟨g, xs.length, none⟩).isSome = true
          rw [hu]; rfl) (fun j hj => by
          have : j = 0 := by simpa using hj
          subst this
          exact (h4 xs.length (by omega)).2) (by simpa using h1c)
      have hf := run_firstCells_some (P := P) w 1 1 ad 1 cc [c] rfl hnews
      have hset : w.setCells g (xs.length + 0) [c] = w.setCell ⟨g, xs.length, none⟩ c := rfl
      rw [hset] at hst
      refine ⟨.slice (some ⟨g, 0, none⟩) (xs.length + 1) cap, w.setCell ⟨g, xs.length, none⟩ c, ?_, .inr ⟨g, cap, by simp, h1, ?_, by simp; exact hroom, fun i hi => ?_, fun i x hx => ?_⟩, ?_, .inl rfl⟩
      · simp [Builtin.append_, run_underlying hu, sizeOf, typeInfo, hi, hs1, Builtin.lenOf, hroom, hf, addr_add, hst]
      · exact Nat.lt_of_lt_of_le h2 ((Below.refl base w).setCell (p := ⟨g, xs.length, none⟩) h1 c).size
      · obtain ⟨⟨u, hu⟩, hfz⟩ := h4 i hi
        refine ⟨?_, by rw [World.frozen?_setCell]; exact hfz⟩
        by_cases e : xs.length = i
        · subst e
          exact ⟨_, World.cell?_setCell_same w _ _ hu⟩
        · exact ⟨u, (World.cell?_setCell_other w _ _ _ (by simp)).trans hu⟩
      · by_cases e : xs.length = i
        · subst e
          obtain ⟨⟨u, hu⟩, _⟩ := h4 xs.length (by omega)
          simp at hx
          subst hx
          exact World.cell?_setCell_same w _ _ hu
        · have hlt : i < (xs ++ [c]).length := (List.getElem?_eq_some_iff.1 hx).1
          simp at hlt
          rw [List.getElem?_append_left (by omega)] at hx
          exact (World.cell?_setCell_other w _ _ _ (by simp)).trans (h5 i x hx)
      · have hb := (Below.refl base w).setCell (p := ⟨g, xs.length, none⟩) h1 c
        exact ⟨hb.os, hb.tape, hb.output, hb.size, fun k _ hk => Below.heap_setCell w ⟨g, xs.length, none⟩ c k (fun e => hk (by simp [Value.ownBlock, e]))⟩
    · have holds : ∀ j v, xs[j]? = some v → w.cell? ((⟨g, 0, none⟩ : Addr).add j) = some v := by
        intro j v hj
        rw [addr_add]
        exact h5 j v hj
      have hr := run_append_grow (P := P) w t ty e i5 z hu hi hz ⟨g, 0, none⟩ xs.length cap xs (by simp [hs1]) holds ad 1 cc [c] (by simp [hs1]) hnews (by omega) (by omega)
        (growslice_fits (by omega) (by rw [hb1]; exact Nat.le_trans (Nat.mul_le_mul hl hby) (by decide)))
      obtain ⟨N, hN⟩ : ∃ N, N = grownCap w (xs.length + 1) cap e := ⟨_, rfl⟩
      have hge : xs.length + 1 ≤ N := by rw [hN]; exact grownCap_ge w (xs.length + 1) cap e
      rw [← hN] at hr
      have hsize : (xs.toArray ++ [c].toArray ++ Builtin.zeroCells z.cells (N - (xs.length + 1))).size = N := by
        simp only [Array.size_append, List.size_toArray, size_zeroCells, hzc]
        simp
        omega
      refine ⟨_, _, hr, .inr ⟨w.heap.size, N, by simp, hbase, by simp, by simp; exact hge, fun i hi => ?_, fun i x hx => ?_⟩, ⟨rfl, rfl, rfl, by simp, fun k hk _ => (Below.refl w.heap.size w).drew.block k hk ▸ ((Below.refl w.heap.size w.drew).alloc (Nat.le_refl _) _).block k hk⟩, .inr ⟨w.heap.size, rfl, Nat.le_refl _⟩⟩
      · rw [cell_of_row _ w.heap.size i _ e (0, 0) (heap_alloc_new w.drew _)]
        refine ⟨⟨_, Array.getElem?_eq_getElem (by rw [hsize]; exact hi)⟩, ?_⟩
        have := Blk.new w.drew e (xs.toArray ++ [c].toArray ++ Builtin.zeroCells z.cells (N - (xs.length + 1)))
        exact this.frozen i
      · rw [cell_of_row _ w.heap.size i _ e (0, 0) (heap_alloc_new w.drew _)]
        have hlt : i < (xs ++ [c]).length := (List.getElem?_eq_some_iff.1 hx).1
        have : (xs.toArray ++ [c].toArray) = (xs ++ [c]).toArray := by simp
        rw [this, Array.getElem?_append_left (by simpa using hlt)]
        simpa using hx
theorem info9 : (Tryz.prog.info? 9).map (fun i => (i.size, i.bytes, i.zero)) = some (1, 16, some (.string ⟨#[]⟩)) := by kernel_rfl
theorem infoI3 : (Tryz.prog.info? 3).map (fun i => (i.size, i.bytes, i.zero)) = some (1, 8, some (.int .i64 0)) := by kernel_rfl
end Go.Proofs.YtnehgpeelgjjhaaGreatDoor.Tw
namespace Go.Proofs.YtnehgpeelgjjhaaGreatDoor.Tw
open Go.RowKit Go.Shelf
attribute [local go_sem] Oper.semAt_some
/-- the last seven bits -/
def low7 (z : Nat) : Int := bits BinOp.and IntKind.u64 z 127 % 256
set_option maxRecDepth 100000 in
/-- the iterator over the groups of a number below 128: one round -/
theorem groups_iter (n : Nat) (hn : 1 ≤ n) (l b1 z n₀ p : Nat) (hz : z < 128) (J Jx : List Unit → World → Prop)
    (hY : ∀ pre (x : Unit) W, J pre W → pre.length < 1 → YieldAt Fence.wide (n - 1) Tryz.prog l #[.int .u8 (low7 z), .bool true] W fun e W' =>
      (e = .returned (.bool true) ∧ J (pre ++ [x]) W' ∧ KeepB n₀ p W W') ∨ (e = .returned (.bool false) ∧ Jx (pre ++ [x]) W'))
    (W : World) (h1 : W.cell? ⟨b1, 0, none⟩ = some (.int .u64 z)) (h0 : J [] W) :
    CallsIn Fence.wide n Tryz.prog 106 #[.func (.yield l) #[] #[], .pointer (some ⟨b1, 0, none⟩)] W fun e W' => (∃ v, e = .returned v) ∧
      ((∃ ys, ys = [()] ∧ J ys W') ∨ (∃ pre, True ∧ Jx pre W')) := by
  refine callsIn_of_wp Tryz.func106 rfl trivial ?_ rfl
  simp only [Tryz.ntmps106, List.size_toArray, List.length_cons, List.length_nil, Nat.reduceAdd, Nat.reduceSub, Array.replicate_succ, Array.replicate_zero, List.push_toArray, List.append_toArray, List.nil_append, List.cons_append]
  have hz' : (z : Int) < 128 := by omega
  obtain ⟨fn, tmps, assign, body, hy, hR⟩ := hY [] () W h0 (by simp)
  unfold low7 at hy
  clear hY h0
  gi_wp2
  gi_loopw [3] (fun v wr => v = undef ∧ wr = W) (fun _ _ => 0)
  case atStart => exact ⟨rfl, rfl⟩
  case round =>
    obtain ⟨rfl, rfl⟩ := hrel
    gi_wp2
    refine hR.mono ?_
    rintro e W3 (⟨rfl, hJ3, hk3⟩ | ⟨rfl, hJx3⟩)
    · gi_wp2
      first | go_end0 | refine bodyPost_ret (results_none rfl _ _ _) rfl ?_
      exact ⟨⟨_, rfl⟩, .inl ⟨[()], rfl, hJ3⟩⟩
    · gi_wp2
      first | go_end0 | refine bodyPost_ret (results_none rfl _ _ _) rfl ?_
      exact ⟨⟨_, rfl⟩, .inr ⟨_, trivial, hJx3⟩⟩
theorem groups_stops (n : Nat) (hn : 1 ≤ n) (b1 z n₀ p : Nat) (hz : z < 128) (w : World) (h1 : w.cell? ⟨b1, 0, none⟩ = some (.int .u64 z)) :
    SeqStopsK Fence.wide n Tryz.prog 106 #[.pointer (some ⟨b1, 0, none⟩)] (fun _ : Unit => #[.int .u8 (low7 z), .bool true]) (KeepB n₀ p) (fun ys => ys = [()]) (fun _ => True) 1 w :=
  fun l J Jx W hW hJ _ hY h0 => groups_iter n hn l b1 z n₀ p hz J Jx hY W ((hW.cell (lt_of_cell h1)).trans h1) h0
/-- cells of one's own lie through what the machine lays -/
theorem Vs.ownF {w w' : World} {base : Nat} {v : Value} {xs : List Value} {row : Option Nat} (h : Vs w base v xs) (hx : xs ≠ []) (hg : w.grownBy w' row) (hr : ∀ r, row = some r → ∃ o : Obj, w.heap[r]? = some o ∧ o.isCells = false) : Vs w' base v xs := by
  rcases row with _ | r
  · exact h.kept hg (by cases v.ownBlock <;> simp)
  · refine h.kept hg (.inr fun e => ?_)
    obtain ⟨o, ho, hc⟩ := hr r rfl
    rcases h with ⟨rfl, h2⟩ | ⟨g, cap, rfl, h1, h2, h3, h4, h5⟩
    · exact hx h2
    · have e' : g = r := by simpa [Value.ownBlock] using e
      subst e'
      have hl : 0 < xs.length := List.length_pos_iff.2 hx
      obtain ⟨⟨u, hu⟩, _⟩ := h4 0 (by omega)
      unfold World.cell? at hu
      simp only [ho] at hu
      cases o <;> simp_all [Obj.isCells]
end Go.Proofs.YtnehgpeelgjjhaaGreatDoor.Tw
namespace Go.Proofs.YtnehgpeelgjjhaaGreatDoor.Tw
open Go.RowKit Go.Shelf
attribute [local irreducible] sumF markF leafF nodeF
theorem wpList_appendV {P : Program} {t e : TypeId} {z : Value} {by_ : Nat} (hu : P.underlying t = some (.slice e)) (hinfo : (P.info? e).map (fun i => (i.size, i.bytes, i.zero)) = some (1, by_, some z)) (hzc : z.cells.size = 1) (hby : by_ ≤ 16)
    {ops : Array Oper} {rest : List Oper} {o : Oper} {a : Act} {w : World} {Q : Exit → Act → World → Prop} (hgd : o.guard = none) (s x : Operand)
    (ho : o.op = .call { callee := .builtin .append, args := #[s, x], argTypes := #[t, t] }) (base : Nat) (v : Value) (xs : List Value) (hs : a.eval s = v) (hV : Vs w base v xs) (hbase : base ≤ w.heap.size) (hl : xs.length + 1 ≤ 1099511627776)
    (ad : Addr) (c : Value) (h1c : c.oneCell' = true) (cc : Nat) (hx : a.eval x = .slice (some ad) 1 cc) (hc : w.cell? ad = some c)
    (h : ∀ v' w', Vs w' base v' (xs ++ [c]) → w.grownBy w' v.ownBlock → (v'.ownBlock = v.ownBlock ∨ ∃ k, v'.ownBlock = some k ∧ w.heap.size ≤ k) → wpList P ops Q rest (a.put o.dst v') w') : wpList P ops Q (o :: rest) a w := by
  refine wpList_plain hgd fun K hK => ?_
  obtain ⟨v', w', hr, h2, h3, h4⟩ := hV.append1 hu hinfo hzc hby hbase hl ad c h1c cc hc o.type
  unfold Oper.wp execOp
  simp only [ho, resolve, invoke, builtin, Sem.run_bind, Sem.run_pure, Result.andThen_ok, List.map_toArray, List.map_cons, List.map_nil, hs, hx, hr]
  exact hK _ _ (h v' w' h2 h3 h4)
/-- strings as values, numbers as values -/
def strs (l : List ByteArray) : List Value := l.map Value.string
def ints (l : List Int) : List Value := l.map (Value.int .i64)
/-- the two stacks: as many digests as sizes -/
structure Stk (w : World) (b : Nat) (v u : Value) (l : List ByteArray) (ns : List Int) : Prop where
  whole : Vs w b v (strs l)
  sizes : Vs w b u (ints ns)
  apart : v.ownBlock = none ∨ v.ownBlock ≠ u.ownBlock
theorem Stk.below {w w' : World} {b : Nat} {v u : Value} {l : List ByteArray} {ns : List Int} (h : Stk w b v u l ns) (hb : Below w.heap.size w w') : Stk w' b v u l ns := ⟨h.whole.below hb, h.sizes.below hb, h.apart⟩
theorem Stk.pushW {w w' : World} {b : Nat} {v u v' : Value} {l : List ByteArray} {ns : List Int} {d : ByteArray} (h : Stk w b v u l ns) (h1 : Vs w' b v' (strs l ++ [.string d])) (hg : w.grownBy w' v.ownBlock) (ho : v'.ownBlock = v.ownBlock ∨ ∃ k, v'.ownBlock = some k ∧ w.heap.size ≤ k) :
    Stk w' b v' u (l ++ [d]) ns := by
  refine ⟨by simpa [strs] using h1, h.sizes.kept hg ?_, ?_⟩
  · rcases h.apart with e | e
    · rw [e]
      cases u.ownBlock <;> simp
    · exact .inr (Ne.symm e)
  · rcases ho with e | ⟨k, e, hk⟩
    · rw [e]; exact h.apart
    · rw [e]
      refine .inr fun e' => ?_
      have := (h.sizes.own k e'.symm).2
      omega
theorem Stk.pushS {w w' : World} {b : Nat} {v u u' : Value} {l : List ByteArray} {ns : List Int} {x : Int} (h : Stk w b v u l ns) (h1 : Vs w' b u' (ints ns ++ [.int .i64 x])) (hg : w.grownBy w' u.ownBlock) (ho : u'.ownBlock = u.ownBlock ∨ ∃ k, u'.ownBlock = some k ∧ w.heap.size ≤ k) :
    Stk w' b v u' l (ns ++ [x]) := by
  refine ⟨h.whole.kept hg ?_, by simpa [ints] using h1, ?_⟩
  · exact h.apart
  · rcases ho with e | ⟨k, e, hk⟩
    · rw [e]; exact h.apart
    · rw [e]
      refine .inr fun e' => ?_
      have := (h.whole.own k e').2
      omega
theorem Vs.some {w : World} {B : Nat} {A : Option Addr} {n c : Nat} {xs : List Value} (h : Vs w B (.slice A n c) xs) (hn : 0 < n) : ∃ g, A = .some ⟨g, 0, none⟩ := by
  rcases h with ⟨h, _⟩ | ⟨g, cap, hv, _⟩
  · injection h with _ h _
    omega
  · injection hv with e _ _
    exact ⟨g, e⟩
theorem Vs.at_ {w : World} {B g n c : Nat} {xs : List Value} (h : Vs w B (.slice (.some ⟨g, 0, none⟩) n c) xs) (i : Nat) (hi : i < xs.length) : w.cell? ⟨g, i, none⟩ = .some xs[i] := by
  rcases h with ⟨h, _⟩ | ⟨g', cap, hv, h1, h2, h3, h4, h5⟩
  · cases h
  · injection hv with e _ _
    injection e with e
    injection e with e
    subst e
    exact h5 i _ (List.getElem?_eq_getElem hi)
theorem Stk.d {w : World} {B g n c : Nat} {u : Value} {l : List ByteArray} {ns : List Int} (h : Stk w B (.slice (.some ⟨g, 0, none⟩) n c) u l ns) (i : Nat) (hi : i < l.length) : ∃ d, l[i]? = .some d ∧ w.cell? ⟨g, i, none⟩ = .some (.string d) := by
  refine ⟨l[i], List.getElem?_eq_getElem hi, ?_⟩
  have := h.whole.at_ i (by simpa [strs] using hi)
  simpa [strs] using this
theorem Stk.n {w : World} {B g n c : Nat} {v : Value} {l : List ByteArray} {ns : List Int} (h : Stk w B v (.slice (.some ⟨g, 0, none⟩) n c) l ns) (i : Nat) (hi : i < ns.length) : ∃ y, w.cell? ⟨g, i, none⟩ = .some (.int .i64 y) := by
  refine ⟨ns[i], ?_⟩
  have := h.sizes.at_ i (by simpa [ints] using hi)
  simpa [ints] using this
/-- the two stacks, p of each -/
def Both (w : World) (b g g' p c c' : Nat) : Prop := ∃ l ns, l.length = p ∧ ns.length = p ∧ (∀ d ∈ l, d.size = 32) ∧ Stk w b (.slice (.some ⟨g, 0, none⟩) p c) (.slice (.some ⟨g', 0, none⟩) p c') l ns
end Go.Proofs.YtnehgpeelgjjhaaGreatDoor.Tw
namespace Go.Proofs.YtnehgpeelgjjhaaGreatDoor.Tw
open Go.RowKit Go.Shelf
attribute [local go_sem] Oper.semAt_some
set_option maxRecDepth 100000 in
theorem groups_any (w : World) (z : Nat) : Calls Tryz.prog 74 #[.int .u64 z] w fun e w' => ∃ b1, e = .returned (.func (.func 106) #[] #[.pointer (some ⟨b1, 0, none⟩)]) ∧ w'.cell? ⟨b1, 0, none⟩ = some (.int .u64 z) ∧ Below w.heap.size w w' := by
  go_enter Tryz.func74, Tryz.ntmps74
  go_wp2
  go_ret
  exact ⟨_, rfl, (Blk.new w 133 #[.int .u64 z]).cell 0, (Below.refl _ _).alloc (Nat.le_refl _) _⟩
theorem zig (n : Nat) (hn : n < 64) : bits BinOp.xor IntKind.u64 ((n : Int) * 2) ((n : Int) / 9223372036854775808) = ((2 * n : Nat) : Int) := by
  have h : ∀ n : Fin 64, bits BinOp.xor IntKind.u64 ((n.val : Int) * 2) ((n.val : Int) / 9223372036854775808) = ((2 * n.val : Nat) : Int) := by decide +kernel
  exact h ⟨n, hn⟩
theorem wpListIn_appendV {F : Fence} {m : Nat} {P : Program} {t e : TypeId} {z : Value} {by_ : Nat} (hu : P.underlying t = some (.slice e)) (hinfo : (P.info? e).map (fun i => (i.size, i.bytes, i.zero)) = some (1, by_, some z)) (hzc : z.cells.size = 1) (hby : by_ ≤ 16)
    {ops : Array Oper} {rest : List Oper} {o : Oper} {a : Act} {w : World} {Q : Exit → Act → World → Prop} (hgd : o.guard = none) (s x : Operand)
    (ho : o.op = .call { callee := .builtin .append, args := #[s, x], argTypes := #[t, t] }) (base : Nat) (v : Value) (xs : List Value) (hs : a.eval s = v) (hV : Vs w base v xs) (hbase : base ≤ w.heap.size) (hl : xs.length + 1 ≤ 1099511627776)
    (ad : Addr) (c : Value) (h1c : c.oneCell' = true) (cc : Nat) (hx : a.eval x = .slice (some ad) 1 cc) (hc : w.cell? ad = some c)
    (h : ∀ v' w', Vs w' base v' (xs ++ [c]) → w.grownBy w' v.ownBlock → (v'.ownBlock = v.ownBlock ∨ ∃ k, v'.ownBlock = some k ∧ w.heap.size ≤ k) → wpListIn F m P ops Q rest (a.put o.dst v') w') : wpListIn F m P ops Q (o :: rest) a w := by
  refine wpListIn_plain hgd fun K hK => ?_
  obtain ⟨v', w', hr, h2, h3, h4⟩ := hV.append1 hu hinfo hzc hby hbase hl ad c h1c cc hc o.type
  unfold Oper.wpIn
  refine ⟨by simp [Oper.about, ho, resolve, Target.leads, Sem.run_pure], ?_⟩
  rw [Oper.semAt_plain F _ _ (by rw [ho]; intro c hc'; cases hc')]
  simp [execOp, ho, resolve, invoke, builtin, hs, hx, hr, Result.andThen]
  exact hK _ _ (h v' w' h2 h3 h4)
theorem Blk.grown {w w' : World} {g : Nat} {t : TypeId} {cs : Array Value} {row : Option Nat} (h : Blk w g t cs) (hg : w.grownBy w' row) (hr : ∀ r, row = some r → g < r) : Blk w' g t cs :=
  (hg.block g h.lt (fun e => by have := hr g e.symm; omega)).trans h
set_option maxRecDepth 100000 in
set_option maxHeartbeats 1000000 in
theorem putInt (w : World) (n : Nat) (hn : n < 64) :
    Calls Tryz.prog 49 #[.int .i64 n] w fun e w' => e = .returned (.tuple #[.string (strOfNums [low7 (2 * n)]), .int .i64 0]) ∧ Below w.heap.size w w' := by
  refine calls_of_marks Tryz.func49 rfl ?_
  simp only [Tryz.ntmps49, List.size_toArray, List.length_cons, List.length_nil, Nat.reduceAdd, Nat.reduceSub, Array.replicate_succ, Array.replicate_zero, List.push_toArray, List.append_toArray, List.nil_append, List.cons_append]
  have hn1 : ¬ (n : Int) < -4611686018427387903 := by omega
  have hn2 : ¬ (4611686018427387903 : Int) < n := by omega
  go_wp2_with fail
  rw [zig n hn]
  refine (groups_any _ _).mono ?_
  rintro e w4 ⟨b1, rfl, hc1, h4⟩
  go_wp2_with fail
  have hz4 := h4.size
  simp only [World.size_alloc] at hz4 h4
  have HP : Hid (Blk w4 w.heap.size 129 #[.slice none 0 0]) := Lib.hid ((Blk.new w 129 #[.slice none 0 0]).below h4 (by simp))
  have HW4 : Hid (Below w.heap.size w w4) := Lib.hid (((Below.refl w.heap.size w).alloc (Nat.le_refl _) (.cells #[.slice none 0 0] 129)).trans (h4.mono (by simp)))
  refine with_act ?_
  intro b hb
  refine wpIn_wide (n := 9).1 ?_
  refine wpIn_rangeFunc_ownF (α := Unit) (F := Fence.wide) rfl (by omega) (gf := 106) (lb := #[.pointer (some ⟨b1, 0, none⟩)]) (by rw [hb]; rfl) trivial (enters_of Tryz.func106 (by kernel_rfl) rfl)
    (groups_stops 8 (by omega) b1 (2 * n) w4.heap.size w.heap.size (by omega) w4 hc1) (fun h k => h.trans k) (fun W l o o' hl _ _ _ => KeepB.putObj hl o') (Below.refl _ _) (fun _ => rfl)
    (fun pre W => (if pre.length = 0 then Blk W w.heap.size 129 #[.slice none 0 0] else ∃ g cap, Blk W w.heap.size 129 #[.slice (some ⟨g, 0, none⟩) 1 cap] ∧ W.cell? ⟨g, 0, none⟩ = some (.int .u8 (low7 (2 * n)))) ∧ KeepB w4.heap.size w.heap.size w4 W ∧ Below w.heap.size w W)
    (fun _ _ _ => False)
    ?own
    (fun _ _ _ _ _ hs _ _ => hs) ⟨by simpa using HP.out, KeepB.refl _ _ _, HW4.out⟩ (fun x => { tmps := (((b.tmps.setIfInBounds 21 (.int .u8 (low7 (2 * n)))).setIfInBounds 22 (.bool true)).setIfInBounds 5 (.int .u8 (low7 (2 * n)))).setIfInBounds 6 (.bool true), defers := [] }) ?assign ?body ?done ?stop
  case own =>
    rintro s A B row ⟨h1, h2, h3⟩ hg hr
    have hne : some w.heap.size ≠ row := fun e => by have := (hr _ e.symm).1; omega
    refine ⟨?_, h2.grown hg (fun r e => (hr r e).1) (Nat.le_refl _), ?_⟩
    · split at h1
      · rename_i hs
        rw [if_pos hs]
        exact (hg.block _ h1.lt hne).trans h1
      · rename_i hs
        rw [if_neg hs]
        obtain ⟨g, cap, h4, h5⟩ := h1
        refine ⟨g, cap, (hg.block _ h4.lt hne).trans h4, (World.cell?_of_block (hg.block g (lt_of_cell h5) fun e => ?_)).trans h5⟩
        obtain ⟨_, o, ho, hc⟩ := hr g e.symm
        unfold World.cell? at h5
        simp only [ho] at h5
        cases o <;> simp_all [Obj.isCells]
    · refine ⟨hg.os.trans h3.os, hg.tape.trans h3.tape, hg.output.trans h3.output, Nat.le_trans h3.size hg.size, fun k hk => ?_⟩
      have hnk : some k ≠ row := fun e => by have := (hr k e.symm).1; omega
      exact (hg.block k (Nat.lt_of_lt_of_le hk h3.size) hnk).trans (h3.block k hk)
  case assign =>
    subst hb
    intro l x W K hK
    simp only [List.setIfInBounds_toArray, List.set_cons_succ, List.set_cons_zero] at hK
    gi_wp2
    exact hK
  case body =>
    subst hb
    rintro l pre x W ⟨hI1, hI2, hI3⟩ hlen
    have hp0 : pre.length = 0 := by omega
    simp only [hp0, if_true] at hI1
    simp only [List.setIfInBounds_toArray, List.set_cons_succ, List.set_cons_zero]
    have cv := hI1.cell 0
    have fz := hI1.frozen 0
    have hs := hI3.size
    have hp4 := hI2.1
    have hk0 : (W.alloc (.cells #[.int .u8 (low7 (2 * n))] 5)).cell? ⟨W.heap.size, 0, none⟩ = some (.int .u8 (low7 (2 * n))) := (Blk.new W 5 #[.int .u8 (low7 (2 * n))]).cell 0
    have HV := Lib.hid (Vs.nil (W.alloc (.cells #[.int .u8 (low7 (2 * n))] 5)) w.heap.size)
    have hzb : w.heap.size ≤ (W.alloc (.cells #[.int .u8 (low7 (2 * n))] 5)).heap.size := by have := hI3.size; simp; omega
    have HI1 := Lib.hid (hI1.alloc (.cells #[.int .u8 (low7 (2 * n))] 5))
    gi_wp2_with (first | (gi_at_builtin; refine wpListIn_appendV Tryz.underlying129 info5' rfl (by decide) rfl (.tmp 27) (.tmp 29) rfl w.heap.size (.slice none 0 0) [] rfl HV.out hzb (by simp) ⟨W.heap.size, 0, none⟩ (.int .u8 (low7 (2 * n))) rfl 1 rfl hk0 ?_; intro v2 w2 hV2 hg2 ho2; obtain ⟨A2, c2, rfl⟩ := hV2.len (n := 1) rfl; obtain ⟨g2, rfl⟩ := hV2.some (by omega); have HI2 := Lib.hid (HI1.out.grown hg2 (fun r e => by cases e)); have cv2 := HI2.out.cell 0; have fz2 := HI2.out.frozen 0) | gi_in)
    have hb2 := hg2.size
    have h2a := hV2.at_ 0 (by simp)
    have h2b : W.heap.size + 1 ≤ g2 := by
      rcases ho2 with e | ⟨k, e, hk⟩
      · cases e
      · injection e with e
        subst e
        simpa using hk
    simp only [World.size_alloc] at hb2
    have hg2' : ∀ k, k < W.heap.size → w2.heap[k]? = W.heap[k]? := fun k hk => (hg2.block k (by simp; omega) (fun e => by cases e)).trans (heap_alloc_old W _ hk)
    refine ⟨⟨by simp; omega, fun k o hk ho => ?_⟩, ⟨by simp; omega, fun k hk hkp => ?_⟩, ?_, ⟨by simp; omega, fun k hk hkp => ?_⟩, ?_⟩
    · have hkW : k < W.heap.size := (Array.getElem?_eq_some_iff.1 hk).1
      refine (Below.heap_setCell _ ⟨w.heap.size, 0, none⟩ _ k ?_).trans ((hg2' k hkW).trans hk)
      rintro rfl
      rw [hI1.heap] at hk
      cases hk
      cases ho
    · exact (Below.heap_setCell _ ⟨w.heap.size, 0, none⟩ _ k (by simpa using hkp)).trans (hg2' k (by omega))
    · have hne : ¬ (pre ++ [x]).length = 0 := by simp
      rw [if_neg hne]
      refine ⟨g2, c2, HI2.out.set_ 0 _, (World.cell?_setCell_other w2 _ _ _ (by simp; try omega)).trans h2a⟩
    · exact (Below.heap_setCell _ ⟨w.heap.size, 0, none⟩ _ k (by simpa using hkp)).trans ((hg2' k (by omega)).trans (hI2.2 k hk hkp))
    · refine Below.setCell ⟨hg2.os.trans hI3.os, hg2.tape.trans hI3.tape, hg2.output.trans hI3.output, by omega, fun k hk => (hg2' k (by omega)).trans (hI3.block k hk)⟩ (by simp) _
  case done =>
    subst hb
    rintro D xs W hD rfl ⟨hI1, hI2, hI3⟩ hK
    simp only [List.length_cons, List.length_nil, Nat.zero_add, Nat.one_ne_zero, if_false] at hI1
    obtain ⟨g, cap, hv1, cx⟩ := hI1
    have cv := hv1.cell 0
    have hcv := run_convert_bytes_arg (P := Tryz.prog) W 129 5 Tryz.underlying129 Tryz.underlying5 g 0 1 cap [low7 (2 * n)] rfl (fun i hi => by
      obtain rfl : i = 0 := by omega
      exact cx) 9 Tryz.underlying9
    go_wp2_with fail
    exact leaves_mark hK (results_tmp2 rfl _ _ _) ⟨rfl, below_putObj hI3 (by have := hI2.1; omega) _⟩
  case stop => intro D c' pre W _ _ h; exact h.elim
end Go.Proofs.YtnehgpeelgjjhaaGreatDoor.Tw
namespace Go.Proofs
open Go.Shelf Go.RowKit
theorem Tryz.lays166 : Lays.n166 Tryz.prog Tryz.lays156_ren := { Tryz.lays156 with }
theorem Tryz.lays169 : Lays.n169 Tryz.prog Tryz.lays156_ren := { Tryz.lays156 with }
end Go.Proofs
namespace Go.Proofs.YtnehgpeelgjjhaaGreatDoor.Tw
open Go.Shelf Go.RowKit
/-- the builder at block b has these bytes -/
def IsB (w : World) (b : Nat) (l : List UInt8) : Prop := Lib.IsBuilderF 315 5 b b (Lib.byteCells l) w
theorem IsB.lt {w : World} {b : Nat} {l : List UInt8} (h : IsB w b l) : b < w.heap.size := by
  rcases h with h | h <;> exact h.lt
theorem IsB.new (w : World) : IsB (w.alloc (.cells #[.pointer none, .slice none 0 0] 315)) w.heap.size [] :=
  .inl ⟨Nat.le_refl _, .slice none 0 0, heap_alloc_new w _, by exact World.ownsRowF_of (World.ownsRow_nil _ _ _ _), by simp [Value.ownBlock]⟩
theorem IsB.alloc {w : World} {b : Nat} {l : List UInt8} (h : IsB w b l) (o : Obj) : IsB (w.alloc o) b l := Lib.IsBuilderF.alloc h o
theorem IsB.below {w w' : World} {b B : Nat} {l : List UInt8} (h : IsB w b l) (hb : Below B w w') (hB : w.heap.size ≤ B) : IsB w' b l := by
  have hg : ∀ k, k < w.heap.size → w'.heap[k]? = w.heap[k]? := fun k hk => hb.block k (by omega)
  have hgr : w.grownBy w' none := ⟨hb.os, hb.tape, hb.output, hb.size, fun k hk _ => hg k hk⟩
  rcases h with ⟨h1, v, h2, h3, h4⟩ | ⟨h1, v, h2, h3, h4⟩
  · exact .inl ⟨h1, v, (hg b (Array.getElem?_eq_some_iff.1 h2).1).trans h2, h3.kept hgr (by cases v.ownBlock <;> simp), h4⟩
  · exact .inr ⟨h1, v, (hg b (Array.getElem?_eq_some_iff.1 h2).1).trans h2, h3.kept hgr (by cases v.ownBlock <;> simp), h4⟩
abbrev Oth (b : Nat) (w w' : World) : Prop := Lib.OthersKept 5 (some b) w w'
theorem Oth.below {b B : Nat} {w w' : World} (h : Below B w w') (hB : w.heap.size ≤ B) : Oth b w w' := fun k o ho _ _ => (h.block k (Nat.lt_of_lt_of_le (Array.getElem?_eq_some_iff.1 ho).1 hB)).trans ho
theorem write_str (w : World) (b : Nat) (l : List UInt8) (s : ByteArray) (h : IsB w b l) (hl : l.length ≤ 1000) (hs : s.size ≤ 1000) :
    Calls Tryz.prog 210 #[.pointer (some ⟨b, 0, none⟩), .string s] w fun e w' => e = .returned (.tuple #[.int .i64 s.size, .nilIface]) ∧ IsB w' b (l ++ s.data.toList) ∧ Below b w w' ∧ Oth b w w' :=
  (Any.Builder_WriteString_k Tryz.lays166 Tryz.Builder_Extra_156 b b (Lib.byteCells l) s w h (by simp [Lib.byteCells]; omega) (Nat.le_of_lt h.lt)).mono
    fun e w' ⟨h1, h2, h3, h4⟩ => ⟨h1, .inr (by
      have e : Lib.byteCells (l ++ s.data.toList) = Lib.byteCells l ++ Lib.strCells s := by simp [Lib.byteCells, Lib.strCells]
      rw [e]
      exact h2), h3, h4⟩
theorem builder_string (w : World) (b : Nat) (l : List UInt8) (h : IsB w b l) :
    Calls Tryz.prog 211 #[.pointer (some ⟨b, 0, none⟩)] w fun e w' => e = .returned (.string ⟨l.toArray⟩) ∧ Below b w w' :=
  (Any.Builder_String_any_k Tryz.lays169 Tryz.Builder_Extra_156 b b l w h (Nat.le_of_lt h.lt)).mono fun e w' ⟨h1, _, h3, _⟩ => ⟨h1, h3⟩
end Go.Proofs.YtnehgpeelgjjhaaGreatDoor.Tw
namespace Go.Proofs.YtnehgpeelgjjhaaGreatDoor.Tw
open Go.RowKit Go.Shelf
/-- the encoding of a small number -/
def enc1 (n : Nat) : ByteArray := strOfNums [low7 (2 * n)]
theorem enc1_size (n : Nat) : (enc1 n).size = 1 := by unfold enc1; rw [strOfNums_size]; rfl
theorem putInt' (w : World) (n : Nat) (hn : n < 64) :
    Calls Tryz.prog 49 #[.int .i64 n] w fun e w' => e = .returned (.tuple #[.string (enc1 n), .int .i64 0]) ∧ Below w.heap.size w w' := putInt w n hn
attribute [local irreducible] enc1 IsB
theorem want_true (w : World) : Calls Tryz.prog 251 #[.bool true] w fun e w' => e = .returned (.tuple #[]) ∧ w' = w := by
  go_enter Tryz.func251, Tryz.ntmps251
  go_wp2_with fail
  go_end0
  exact ⟨rfl, rfl⟩
set_option maxRecDepth 100000 in
/-- graph.put of one small number -/
theorem put1 (w : World) (b g c n : Nat) (l : List UInt8) (hn : n < 64) (hB : IsB w b l) (hl : l.length ≤ 900) (hg : w.cell? ⟨g, 0, none⟩ = some (.int .i64 n)) :
    Calls Tryz.prog 196 #[.pointer (some ⟨b, 0, none⟩), .slice (some ⟨g, 0, none⟩) 1 c] w fun e w' => e = .returned (.tuple #[]) ∧ IsB w' b (l ++ (enc1 n).data.toList) ∧ Below b w w' ∧ Oth b w w' := by
  have HB := Lib.hid hB
  have hlt := hB.lt
  have he := enc1_size n
  have HE : Hid ((enc1 n).size ≤ 1000) := Lib.hid (by omega)
  clear hB he
  go_enter Tryz.func196, Tryz.ntmps196
  go_wp2_with fail
  refine wp_loop_rounds 2 ?_
  iterate 1 (rw [rounds_succ]; go_wp2_with fail)
  refine (putInt' w n hn).mono ?_
  rintro e w1 ⟨rfl, h1⟩
  have HB1 := Lib.hid (HB.out.below h1 (Nat.le_refl _))
  go_wp2_with fail
  refine (want_true w1).mono ?_
  rintro e W1 ⟨rfl, rfl⟩
  go_wp2_with fail
  refine (write_str W1 b l (enc1 n) HB1.out (by omega) HE.out).mono ?_
  rintro e w2 ⟨rfl, hb2, h2, h2o⟩
  have HB2 := Lib.hid hb2
  clear hb2
  go_wp2_with fail
  rw [rounds_succ]
  go_wp2_with fail
  go_end0
  exact ⟨rfl, HB2.out, (h1.mono (Nat.le_of_lt hlt)).trans h2, (Oth.below h1 (Nat.le_refl _)).trans h2o⟩
set_option maxRecDepth 100000 in
theorem put0 (w : World) (b : Nat) :
    Calls Tryz.prog 196 #[.pointer (some ⟨b, 0, none⟩), .slice none 0 0] w fun e w' => e = .returned (.tuple #[]) ∧ w' = w := by
  go_enter Tryz.func196, Tryz.ntmps196
  go_wp2_with fail
  refine wp_loop_rounds 1 ?_
  iterate 1 (rw [rounds_succ]; go_wp2_with fail)
  go_end0
  exact ⟨rfl, rfl⟩
set_option maxRecDepth 100000 in
/-- page.ints of one small number, of none -/
theorem ints1 (w : World) (g c n : Nat) (hn : n < 64) (hg : w.cell? ⟨g, 0, none⟩ = some (.int .i64 n)) :
    Calls Tryz.prog 323 #[.slice (some ⟨g, 0, none⟩) 1 c] w fun e w' => e = .returned (.string (enc1 n)) ∧ Below w.heap.size w w' := by
  have he := enc1_size n
  have HE : Hid ((enc1 n).size ≤ 1000) := Lib.hid (by omega)
  clear he
  go_enter Tryz.func323, Tryz.ntmps323
  go_wp2_with fail
  have hg1 := World.cell?_alloc_some w ⟨g, 0, none⟩ (.cells #[.pointer none, .slice none 0 0] 315) (by rw [hg]; rfl)
  have hg2 := hg1.trans hg
  have HB := Lib.hid (IsB.new w)
  have hb0 : Below w.heap.size w (w.alloc (.cells #[.pointer none, .slice none 0 0] 315)) := (Below.refl _ _).alloc (Nat.le_refl _) _
  obtain ⟨W, hW⟩ : ∃ W, W = w.alloc (.cells #[.pointer none, .slice none 0 0] 315) := ⟨_, rfl⟩
  rw [← hW] at HB hg2 hb0 ⊢
  clear hg1 hW
  refine wp_loop_rounds 2 ?_
  iterate 1 (rw [rounds_succ]; go_wp2_with fail)
  refine (putInt' W n hn).mono ?_
  rintro e w1 ⟨rfl, h1⟩
  have HB1 := Lib.hid (HB.out.below h1 (Nat.le_refl _))
  go_wp2_with fail
  refine (write_str w1 w.heap.size [] (enc1 n) HB1.out (by simp) HE.out).mono ?_
  rintro e w2 ⟨rfl, hb2, h2, h2o⟩
  have HB2 := Lib.hid hb2
  clear hb2
  go_wp2_with fail
  rw [rounds_succ]
  go_wp2_with fail
  refine (builder_string w2 w.heap.size _ HB2.out).mono ?_
  rintro e w3 ⟨rfl, h3⟩
  go_wp2_with fail
  go_ret
  exact ⟨rfl, ((hb0.trans (h1.mono hb0.size)).trans h2).trans h3⟩
set_option maxRecDepth 100000 in
theorem ints0 (w : World) : Calls Tryz.prog 323 #[.slice none 0 0] w fun e w' => e = .returned (.string ⟨#[]⟩) ∧ Below w.heap.size w w' := by
  go_enter Tryz.func323, Tryz.ntmps323
  go_wp2_with fail
  have HB := Lib.hid (IsB.new w)
  have hb0 : Below w.heap.size w (w.alloc (.cells #[.pointer none, .slice none 0 0] 315)) := (Below.refl _ _).alloc (Nat.le_refl _) _
  obtain ⟨W, hW⟩ : ∃ W, W = w.alloc (.cells #[.pointer none, .slice none 0 0] 315) := ⟨_, rfl⟩
  rw [← hW] at HB hb0 ⊢
  clear hW
  refine wp_loop_rounds 1 ?_
  rw [rounds_succ]
  go_wp2_with fail
  refine (builder_string W w.heap.size _ HB.out).mono ?_
  rintro e w3 ⟨rfl, h3⟩
  go_wp2_with fail
  go_ret
  exact ⟨rfl, hb0.trans h3⟩
end Go.Proofs.YtnehgpeelgjjhaaGreatDoor.Tw
namespace Go.Proofs.YtnehgpeelgjjhaaGreatDoor.Tw
open Go.RowKit Go.Shelf
theorem ta_nil : ∀ w, (Instr.typeAssert .nilIface 20 32 true).run Tryz.prog w = .ok (.tuple #[.int .i64 0, .bool false]) w := fun _ => by kernel_rfl
theorem ta_err (x : Int) : ∀ w, (Instr.typeAssert (.iface 32 (.int .i64 x)) 20 32 true).run Tryz.prog w = .ok (.tuple #[.int .i64 x, .bool true]) w := fun _ => by kernel_rfl
theorem nn_neq : ∀ w, (binOp BinOp.neq 20 .nilIface .nilIface).run Tryz.prog w = .ok (.bool false) w := fun _ => by kernel_rfl
theorem nn_eql : ∀ w, (binOp BinOp.eql 20 .nilIface .nilIface).run Tryz.prog w = .ok (.bool true) w := fun _ => by kernel_rfl
theorem ne_neq (x : Int) : ∀ w, (binOp BinOp.neq 20 (.iface 32 (.int .i64 x)) .nilIface).run Tryz.prog w = .ok (.bool true) w := fun _ => by kernel_rfl
theorem ne_eql (x : Int) : ∀ w, (binOp BinOp.eql 20 (.iface 32 (.int .i64 x)) .nilIface).run Tryz.prog w = .ok (.bool false) w := fun _ => by kernel_rfl
set_option maxRecDepth 100000 in
/-- the closure of a try, entered by a frame that returns -/
theorem gcatch_idle (g : Nat) (w : World) (hg : Blk w g 4 #[.bool true]) :
    CallsD Tryz.prog 267 #[.pointer (some ⟨g, 0, none⟩)] .returning w fun e u' w' => e = .returned (.tuple #[]) ∧ u' = .returning ∧ w' = w.setCell ⟨g, 0, none⟩ (.bool true) := by
  have h1 := ta_nil
  have h2 := nn_neq
  have h3 := nn_eql
  have hz := hg.frozen 0
  have hc := hg.cell 0
  refine callsD_of_wpS Tryz.func267 rfl fun c₀ cs hu => ?_
  apply wpS_seq
  apply wpS_region
  simp [wpOpsS, go_sem, recoverD, hu, Tryz.ntmps267, Exit.thenS]
  refine wpS_of_wp ?_
  simp only [Array.replicate_succ, Array.replicate_zero, List.push_toArray, List.nil_append, List.cons_append]
  go_wp2_with fail
  clear h1 h2 h3 hz hc hg
  cases c₀
  simp_all [bodyPostS, results, Tryz.results267]
set_option maxRecDepth 100000 in
/-- .. by a frame that panics -/
theorem gcatch_err (g : Nat) (b : Bool) (x : Int) (w : World) (hg : Blk w g 4 #[.bool b]) :
    CallsD Tryz.prog 267 #[.pointer (some ⟨g, 0, none⟩)] (.panicking ({ v := .iface 32 (.int .i64 x), recovered := false } :: [])) w fun e u' w' => e = .returned (.tuple #[]) ∧ u' = .panicking ({ v := .iface 32 (.int .i64 x), recovered := true } :: []) ∧ w' = w.setCell ⟨g, 0, none⟩ (.bool false) := by
  have h1 := ta_err x
  have h2 := ne_neq x
  have h3 := ne_eql x
  have hz := hg.frozen 0
  have hc := hg.cell 0
  refine callsD_of_wpS Tryz.func267 rfl fun c₀ cs hu => ?_
  apply wpS_seq
  apply wpS_region
  simp [wpOpsS, go_sem, recoverD, hu, Tryz.ntmps267, Exit.thenS]
  refine wpS_of_wp ?_
  simp only [Array.replicate_succ, Array.replicate_zero, List.push_toArray, List.nil_append, List.cons_append]
  go_wp2_with fail
  clear h1 h2 h3 hz hc hg
  cases c₀
  simp_all [bodyPostS, results, Tryz.results267]
theorem set_same {w : World} {g : Nat} {b : Bool} (h : Blk w g 4 #[.bool b]) (v : Bool) : Blk (w.setCell ⟨g, 0, none⟩ (.bool v)) g 4 #[.bool v] := h.set_ 0 _
set_option maxRecDepth 100000 in
/-- try of a function that ends -/
theorem gtry_ok (w : World) (k : Nat) (lb : Array Value) (R : World → Prop) (eg : ∀ args w, (callFunc k args).run Tryz.prog w = .ok (.enter k args) w)
    (hf : Calls Tryz.prog k lb (w.alloc (.cells #[.bool false] 4)) fun e w' => e = .returned (.tuple #[]) ∧ R w') (hR : ∀ W, R W → Blk W w.heap.size 4 #[.bool false]) :
    Calls Tryz.prog 217 #[.func (.func k) #[] lb] w fun e w' => e = .returned (.bool true) ∧ ∃ W, R W ∧ w' = (W.setCell ⟨w.heap.size, 0, none⟩ (.bool true)).setCell ⟨w.heap.size, 0, none⟩ (.bool true) := by
  have hmf : ∀ (fn : Fn) (first cap : Array Value) (w : World), (Instr.makeFunc fn first cap).run Tryz.prog w = .ok (.func fn first cap) w := fun _ _ _ _ => rfl
  go_enter_defers Tryz.func217, Tryz.ntmps217
  go_wp2_with fail
  refine hf.mono ?_
  rintro e w1 ⟨rfl, hr⟩
  have hb := hR _ hr
  have hz := hb.frozen 0
  have hc := hb.cell 0
  have hb2 := set_same hb true
  have hc3 := (set_same hb2 true).cell 0
  go_wp2_with fail
  refine leaves_cons (f := 267) (args := #[.pointer (some ⟨w.heap.size, 0, none⟩)]) (by simp) (by simp [go_sem]) ?_
  refine (gcatch_idle _ _ hb2).mono ?_
  rintro e u' w'' ⟨rfl, rfl, rfl⟩
  simp [Leaves, settle, results, Tryz.results217, go_sem]
  rw [hc3]
  exact ⟨_, rfl, rfl, w1, hr, rfl⟩
set_option maxRecDepth 100000 in
/-- try of a function that gives up with an error -/
theorem gtry_err (w : World) (k : Nat) (lb : Array Value) (x : Int) (R : World → Prop) (eg : ∀ args w, (callFunc k args).run Tryz.prog w = .ok (.enter k args) w)
    (hf : Calls Tryz.prog k lb (w.alloc (.cells #[.bool false] 4)) fun e w' => e = .panicked [{ v := .iface 32 (.int .i64 x), recovered := false }] ∧ R w') (hR : ∀ W, R W → Blk W w.heap.size 4 #[.bool false]) :
    Calls Tryz.prog 217 #[.func (.func k) #[] lb] w fun e w' => e = .returned (.bool false) ∧ ∃ W, R W ∧ w' = W.setCell ⟨w.heap.size, 0, none⟩ (.bool false) := by
  have hmf : ∀ (fn : Fn) (first cap : Array Value) (w : World), (Instr.makeFunc fn first cap).run Tryz.prog w = .ok (.func fn first cap) w := fun _ _ _ _ => rfl
  go_enter_defers Tryz.func217, Tryz.ntmps217
  go_wp2_with fail
  refine hf.mono ?_
  rintro e w1 ⟨rfl, hr⟩
  have hb := hR _ hr
  have hz := hb.frozen 0
  have hc := hb.cell 0
  have hc3 := (set_same hb false).cell 0
  go_wp2_with fail
  refine leaves_cons (f := 267) (args := #[.pointer (some ⟨w.heap.size, 0, none⟩)]) (by simp) (by simp [go_sem]) ?_
  refine (gcatch_err _ false x _ hb).mono ?_
  rintro e u' w'' ⟨rfl, rfl, rfl⟩
  simp [Leaves, settle, results, Tryz.results217, go_sem]
  rw [hc3]
  exact ⟨_, rfl, rfl, w1, hr, rfl⟩
set_option maxRecDepth 100000 in
/-- the closure of a try, entered by a frame that returns -/
theorem ecatch_idle (g : Nat) (w : World) (hg : Blk w g 4 #[.bool true]) :
    CallsD Tryz.prog 186 #[.pointer (some ⟨g, 0, none⟩)] .returning w fun e u' w' => e = .returned (.tuple #[]) ∧ u' = .returning ∧ w' = w.setCell ⟨g, 0, none⟩ (.bool true) := by
  have h1 := ta_nil
  have h2 := nn_neq
  have h3 := nn_eql
  have hz := hg.frozen 0
  have hc := hg.cell 0
  refine callsD_of_wpS Tryz.func186 rfl fun c₀ cs hu => ?_
  apply wpS_seq
  apply wpS_region
  simp [wpOpsS, go_sem, recoverD, hu, Tryz.ntmps186, Exit.thenS]
  refine wpS_of_wp ?_
  simp only [Array.replicate_succ, Array.replicate_zero, List.push_toArray, List.nil_append, List.cons_append]
  go_wp2_with fail
  clear h1 h2 h3 hz hc hg
  cases c₀
  simp_all [bodyPostS, results, Tryz.results186]
set_option maxRecDepth 100000 in
/-- .. by a frame that panics -/
theorem ecatch_err (g : Nat) (b : Bool) (x : Int) (w : World) (hg : Blk w g 4 #[.bool b]) :
    CallsD Tryz.prog 186 #[.pointer (some ⟨g, 0, none⟩)] (.panicking ({ v := .iface 32 (.int .i64 x), recovered := false } :: [])) w fun e u' w' => e = .returned (.tuple #[]) ∧ u' = .panicking ({ v := .iface 32 (.int .i64 x), recovered := true } :: []) ∧ w' = w.setCell ⟨g, 0, none⟩ (.bool false) := by
  have h1 := ta_err x
  have h2 := ne_neq x
  have h3 := ne_eql x
  have hz := hg.frozen 0
  have hc := hg.cell 0
  refine callsD_of_wpS Tryz.func186 rfl fun c₀ cs hu => ?_
  apply wpS_seq
  apply wpS_region
  simp [wpOpsS, go_sem, recoverD, hu, Tryz.ntmps186, Exit.thenS]
  refine wpS_of_wp ?_
  simp only [Array.replicate_succ, Array.replicate_zero, List.push_toArray, List.nil_append, List.cons_append]
  go_wp2_with fail
  clear h1 h2 h3 hz hc hg
  cases c₀
  simp_all [bodyPostS, results, Tryz.results186]
set_option maxRecDepth 100000 in
/-- try of a function that ends -/
theorem etry_ok (w : World) (k : Nat) (lb : Array Value) (R : World → Prop) (eg : ∀ args w, (callFunc k args).run Tryz.prog w = .ok (.enter k args) w)
    (hf : Calls Tryz.prog k lb (w.alloc (.cells #[.bool false] 4)) fun e w' => e = .returned (.tuple #[]) ∧ R w') (hR : ∀ W, R W → Blk W w.heap.size 4 #[.bool false]) :
    Calls Tryz.prog 125 #[.func (.func k) #[] lb] w fun e w' => e = .returned (.bool true) ∧ ∃ W, R W ∧ w' = (W.setCell ⟨w.heap.size, 0, none⟩ (.bool true)).setCell ⟨w.heap.size, 0, none⟩ (.bool true) := by
  have hmf : ∀ (fn : Fn) (first cap : Array Value) (w : World), (Instr.makeFunc fn first cap).run Tryz.prog w = .ok (.func fn first cap) w := fun _ _ _ _ => rfl
  go_enter_defers Tryz.func125, Tryz.ntmps125
  go_wp2_with fail
  refine hf.mono ?_
  rintro e w1 ⟨rfl, hr⟩
  have hb := hR _ hr
  have hz := hb.frozen 0
  have hc := hb.cell 0
  have hb2 := set_same hb true
  have hc3 := (set_same hb2 true).cell 0
  go_wp2_with fail
  refine leaves_cons (f := 186) (args := #[.pointer (some ⟨w.heap.size, 0, none⟩)]) (by simp) (by simp [go_sem]) ?_
  refine (ecatch_idle _ _ hb2).mono ?_
  rintro e u' w'' ⟨rfl, rfl, rfl⟩
  simp [Leaves, settle, results, Tryz.results125, go_sem]
  rw [hc3]
  exact ⟨_, rfl, rfl, w1, hr, rfl⟩
set_option maxRecDepth 100000 in
/-- try of a function that gives up with an error -/
theorem etry_err (w : World) (k : Nat) (lb : Array Value) (x : Int) (R : World → Prop) (eg : ∀ args w, (callFunc k args).run Tryz.prog w = .ok (.enter k args) w)
    (hf : Calls Tryz.prog k lb (w.alloc (.cells #[.bool false] 4)) fun e w' => e = .panicked [{ v := .iface 32 (.int .i64 x), recovered := false }] ∧ R w') (hR : ∀ W, R W → Blk W w.heap.size 4 #[.bool false]) :
    Calls Tryz.prog 125 #[.func (.func k) #[] lb] w fun e w' => e = .returned (.bool false) ∧ ∃ W, R W ∧ w' = W.setCell ⟨w.heap.size, 0, none⟩ (.bool false) := by
  have hmf : ∀ (fn : Fn) (first cap : Array Value) (w : World), (Instr.makeFunc fn first cap).run Tryz.prog w = .ok (.func fn first cap) w := fun _ _ _ _ => rfl
  go_enter_defers Tryz.func125, Tryz.ntmps125
  go_wp2_with fail
  refine hf.mono ?_
  rintro e w1 ⟨rfl, hr⟩
  have hb := hR _ hr
  have hz := hb.frozen 0
  have hc := hb.cell 0
  have hc3 := (set_same hb false).cell 0
  go_wp2_with fail
  refine leaves_cons (f := 186) (args := #[.pointer (some ⟨w.heap.size, 0, none⟩)]) (by simp) (by simp [go_sem]) ?_
  refine (ecatch_err _ false x _ hb).mono ?_
  rintro e u' w'' ⟨rfl, rfl, rfl⟩
  simp [Leaves, settle, results, Tryz.results125, go_sem]
  rw [hc3]
  exact ⟨_, rfl, rfl, w1, hr, rfl⟩
end Go.Proofs.YtnehgpeelgjjhaaGreatDoor.Tw
namespace Go.Proofs.YtnehgpeelgjjhaaGreatDoor.Tw
open Go.RowKit Go.Shelf
abbrev sA : ByteArray := ⟨#[97]⟩
abbrev sC : ByteArray := ⟨#[99]⟩
set_option maxRecDepth 100000 in
theorem intA (w : World) : Calls Tryz.prog 214 #[.string sA, .int .i64 0] w fun e w' => e = .returned (.tuple #[.int .i64 (-49), .int .i64 1, .int .i64 0]) ∧ w' = w := by
  have hi : ∀ w, (Instr.index 9 (.string sA) (.int .i64 0)).run Tryz.prog w = .ok (.int .u8 97) w := fun _ => by kernel_rfl
  have b1 : bits BinOp.and IntKind.u8 97 127 = 97 := by kernel_rfl
  have b2 : bits BinOp.or IntKind.u64 0 97 = 97 := by kernel_rfl
  have b3 : bits BinOp.and IntKind.u64 97 1 = 1 := by kernel_rfl
  have b4 : bits BinOp.xor IntKind.i64 48 (-1) = -49 := by kernel_rfl
  go_enter Tryz.func214, Tryz.ntmps214
  go_wp2
  refine wp_loop_rounds 1 ?_
  rw [rounds_succ]
  go_wp2
  refine bodyPost_ret (v := .tuple #[.int .i64 (-49), .int .i64 1, .int .i64 0]) (by simp [Tryz.results214, results]) rfl ⟨rfl, rfl⟩
set_option maxRecDepth 100000 in
theorem intC (w : World) : Calls Tryz.prog 214 #[.string sC, .int .i64 0] w fun e w' => e = .returned (.tuple #[.int .i64 (-50), .int .i64 1, .int .i64 0]) ∧ w' = w := by
  have hi : ∀ w, (Instr.index 9 (.string sC) (.int .i64 0)).run Tryz.prog w = .ok (.int .u8 99) w := fun _ => by kernel_rfl
  have b1 : bits BinOp.and IntKind.u8 99 127 = 99 := by kernel_rfl
  have b2 : bits BinOp.or IntKind.u64 0 99 = 99 := by kernel_rfl
  have b3 : bits BinOp.and IntKind.u64 99 1 = 1 := by kernel_rfl
  have b4 : bits BinOp.xor IntKind.i64 49 (-1) = -50 := by kernel_rfl
  go_enter Tryz.func214, Tryz.ntmps214
  go_wp2
  refine wp_loop_rounds 1 ?_
  rw [rounds_succ]
  go_wp2
  refine bodyPost_ret (v := .tuple #[.int .i64 (-50), .int .i64 1, .int .i64 0]) (by simp [Tryz.results214, results]) rfl ⟨rfl, rfl⟩
set_option maxRecDepth 100000 in
theorem intEnd (w : World) (s : ByteArray) (hs : s.size = 1) : Calls Tryz.prog 214 #[.string s, .int .i64 1] w fun e w' => e = .returned (.tuple #[.int .i64 0, .int .i64 0, .int .i64 10]) ∧ w' = w := by
  have h1 : ¬ ((s.size : Int) < 1) := by omega
  have h2 : ((s.size : Int) ≤ 1) := by omega
  go_enter Tryz.func214, Tryz.ntmps214
  go_wp2
  refine wp_loop_rounds 1 ?_
  rw [rounds_succ]
  go_wp2
  refine bodyPost_ret (v := .tuple #[.int .i64 0, .int .i64 0, .int .i64 10]) (by simp [Tryz.results214, results]) rfl ⟨rfl, rfl⟩
set_option maxRecDepth 100000 in
theorem strEnd (w : World) (s : ByteArray) (hs : s.size = 1) : Calls Tryz.prog 216 #[.string s, .int .i64 1] w fun e w' => e = .returned (.tuple #[.string ⟨#[]⟩, .int .i64 0, .int .i64 10]) ∧ w' = w := by
  go_enter Tryz.func216, Tryz.ntmps216
  go_wp2_with fail
  refine (intEnd w s hs).mono ?_
  rintro e W ⟨rfl, rfl⟩
  go_wp2_with fail
  refine bodyPost_ret (v := .tuple #[.string ⟨#[]⟩, .int .i64 0, .int .i64 10]) (by simp [Tryz.results216, results]) rfl ⟨rfl, rfl⟩
set_option maxRecDepth 100000 in
theorem engRight0 (w : World) : Calls Tryz.prog 178 #[.int .i64 0] w fun e w' => e = .returned (.tuple #[]) ∧ w' = w := by
  go_enter Tryz.func178, Tryz.ntmps178
  go_wp2
  go_end0
  exact ⟨rfl, rfl⟩
set_option maxRecDepth 100000 in
theorem engRight10 (w : World) : Calls Tryz.prog 178 #[.int .i64 10] w fun e w' => e = .panicked [{ v := .iface 32 (.int .i64 300), recovered := false }] ∧ w' = w := by
  go_enter Tryz.func178, Tryz.ntmps178
  go_wp2
  exact ⟨rfl, rfl, rfl, rfl⟩
set_option maxRecDepth 100000 in
/-- read[int] of a one-byte string whose integer is n -/
theorem readInt (w : World) (g : Nat) (s : ByteArray) (n : Int) (hG : Blk w g 249 #[.string s, .int .i64 0]) (hi : ∀ w, Calls Tryz.prog 214 #[.string s, .int .i64 0] w fun e w' => e = .returned (.tuple #[.int .i64 n, .int .i64 1, .int .i64 0]) ∧ w' = w) :
    Calls Tryz.prog 213 #[.pointer (some ⟨g, 0, none⟩), .func (.func 214) #[] #[]] w fun e w' => e = .returned (.int .i64 n) ∧ Blk w' g 249 #[.string s, .int .i64 1] ∧ But g w w' := by
  have HI := Lib.hid hi
  have HG := Lib.hid hG
  have c0 : w.cell? ⟨g, 0, none⟩ = some (.string s) := hG.cell 0
  have c1 : w.cell? ⟨g, 1, none⟩ = some (.int .i64 0) := hG.cell 1
  have L0 := Later.of c0
  have L1 := Later.of c1
  have hl := hG.lt
  clear hi hG
  go_enter Tryz.func213, Tryz.ntmps213
  go_wp2_with fail
  refine Loose.wp_region_later [(9, .is (.tuple #[.int .i64 n, .int .i64 1, .int .i64 0]))] 17 (by kernel_rfl) (by kernel_rfl) ?_
  (simp only [List.take_succ_cons, List.take_zero, List.drop_succ_cons, List.drop_zero])
  (repeat (first | refine Loose.walk_skip rfl ?_ | (refine Loose.walk_plain rfl rfl rfl (fun K hK => ?_); go_big_quiet_op; refine hK _ ?_; clear hK K)))
  refine Loose.walk_loose rfl rfl (fun W' hW' hF => Loose.loose_call (f := 214) (args := #[.string s, .int .i64 0]) (by kernel_rfl) ((HI.out W').mono fun e w' ⟨he, hb⟩ => ⟨_, he, hb ▸ Below.refl _ _, rfl⟩)) ?_
  rintro _ _ _ rfl
  (simp only [Act.put, List.setIfInBounds_toArray, List.set_cons_succ, List.set_cons_zero])
  (repeat (first | refine Loose.walk_skip rfl ?_ | (refine Loose.walk_plain rfl rfl rfl (fun K hK => ?_); go_big_quiet_op; refine hK _ ?_; clear hK K)))
  refine Loose.walk_nil ?_
  rintro U hU -
  clear L0 L1 c0 c1
  go_wp2_with fail
  refine (engRight0 U).mono ?_
  rintro e W ⟨rfl, rfl⟩
  have HU := Lib.hid (HG.out.below hU hl)
  have c1 := HU.out.cell 1
  have fz := HU.out.frozen 1
  have c0 := HU.out.cell 0
  go_wp2_with fail
  go_ret
  exact ⟨rfl, HU.out.set_ 1 _, (But.of_below hU).setCell 1 _⟩
set_option maxRecDepth 100000 in
/-- read[string] at the end of a one-byte string: it gives up -/
theorem readText (w : World) (g : Nat) (s : ByteArray) (hG : Blk w g 249 #[.string s, .int .i64 1]) (hs : s.size = 1) :
    Calls Tryz.prog 215 #[.pointer (some ⟨g, 0, none⟩), .func (.func 216) #[] #[]] w fun e w' => e = .panicked [{ v := .iface 32 (.int .i64 300), recovered := false }] ∧ Below w.heap.size w w' := by
  have HG := Lib.hid hG
  have c0 : w.cell? ⟨g, 0, none⟩ = some (.string s) := hG.cell 0
  have c1 : w.cell? ⟨g, 1, none⟩ = some (.int .i64 1) := hG.cell 1
  have L0 := Later.of c0
  have L1 := Later.of c1
  clear hG
  go_enter Tryz.func215, Tryz.ntmps215
  go_wp2_with fail
  refine Loose.wp_region_later [(9, .is (.tuple #[.string ⟨#[]⟩, .int .i64 0, .int .i64 10]))] 17 (by kernel_rfl) (by kernel_rfl) ?_
  (simp only [List.take_succ_cons, List.take_zero, List.drop_succ_cons, List.drop_zero])
  (repeat (first | refine Loose.walk_skip rfl ?_ | (refine Loose.walk_plain rfl rfl rfl (fun K hK => ?_); go_big_quiet_op; refine hK _ ?_; clear hK K)))
  refine Loose.walk_loose rfl rfl (fun W' hW' hF => Loose.loose_call (f := 216) (args := #[.string s, .int .i64 1]) (by kernel_rfl) ((strEnd W' s hs).mono fun e w' ⟨he, hb⟩ => ⟨_, he, hb ▸ Below.refl _ _, rfl⟩)) ?_
  rintro _ _ _ rfl
  (simp only [Act.put, List.setIfInBounds_toArray, List.set_cons_succ, List.set_cons_zero])
  (repeat (first | refine Loose.walk_skip rfl ?_ | (refine Loose.walk_plain rfl rfl rfl (fun K hK => ?_); go_big_quiet_op; refine hK _ ?_; clear hK K)))
  refine Loose.walk_nil ?_
  rintro U hU -
  clear L0 L1 c0 c1
  go_wp2_with fail
  refine (engRight10 U).mono ?_
  rintro e W ⟨rfl, rfl⟩
  exact ⟨rfl, rfl, hU⟩
set_option maxRecDepth 100000 in
theorem inInt (w : World) (g : Nat) (s : ByteArray) (n : Int) (hG : Blk w g 249 #[.string s, .int .i64 0]) (hi : ∀ w, Calls Tryz.prog 214 #[.string s, .int .i64 0] w fun e w' => e = .returned (.tuple #[.int .i64 n, .int .i64 1, .int .i64 0]) ∧ w' = w) :
    Calls Tryz.prog 158 #[.pointer (some ⟨g, 0, none⟩)] w fun e w' => e = .returned (.int .i64 n) ∧ Blk w' g 249 #[.string s, .int .i64 1] ∧ But g w w' := by
  have HI := Lib.hid hi
  clear hi
  go_enter Tryz.func158, Tryz.ntmps158
  go_wp2_with fail
  refine (readInt w g s n hG HI.out).mono ?_
  rintro e w1 ⟨rfl, h1, h2⟩
  go_wp2_with fail
  go_ret
  exact ⟨rfl, h1, h2⟩
set_option maxRecDepth 100000 in
theorem inText (w : World) (g : Nat) (s : ByteArray) (hG : Blk w g 249 #[.string s, .int .i64 1]) (hs : s.size = 1) :
    Calls Tryz.prog 159 #[.pointer (some ⟨g, 0, none⟩)] w fun e w' => e = .panicked [{ v := .iface 32 (.int .i64 300), recovered := false }] ∧ Below w.heap.size w w' := by
  go_enter Tryz.func159, Tryz.ntmps159
  go_wp2_with fail
  refine (readText w g s hG hs).mono ?_
  rintro e w1 ⟨rfl, h1⟩
  exact ⟨rfl, rfl, h1⟩
set_option maxRecDepth 100000 in
set_option maxHeartbeats 1000000 in
theorem command1 (w : World) (g : Nat) (s : ByteArray) (n : Int) (hG : Blk w g 249 #[.string s, .int .i64 0]) (hs : s.size = 1) (hi : ∀ w, Calls Tryz.prog 214 #[.string s, .int .i64 0] w fun e w' => e = .returned (.tuple #[.int .i64 n, .int .i64 1, .int .i64 0]) ∧ w' = w) :
    Calls Tryz.prog 118 #[.pointer (some ⟨g, 0, none⟩)] w fun e w' => e = .panicked [{ v := .iface 32 (.int .i64 300), recovered := false }] ∧ But g w w' := by
  have HI := Lib.hid hi
  have HG := Lib.hid hG
  clear hi hG
  have hl := HG.out.lt
  obtain ⟨cs, hcs⟩ : ∃ cs : Array Value, cs = #[.int .i64 0, .string ⟨#[]⟩, .int .i64 0, .string ⟨#[]⟩, .slice none 0 0, .slice none 0 0] := ⟨_, rfl⟩
  obtain ⟨W0, hW0⟩ : ∃ W0, W0 = (w.alloc (.cells #[.pointer (some ⟨g, 0, none⟩)] 196)).alloc (.cells #[.int .i64 0, .string ⟨#[]⟩, .int .i64 0, .string ⟨#[]⟩, .slice none 0 0, .slice none 0 0] 149) := ⟨_, rfl⟩
  have hX := Lib.hid (show Blk W0 w.heap.size 196 #[.pointer (some ⟨g, 0, none⟩)] by rw [hW0]; exact (Blk.new _ _ _).alloc _)
  have hG0 := Lib.hid (show Blk W0 g 249 #[.string s, .int .i64 0] by rw [hW0]; exact (HG.out.alloc _).alloc _)
  have hB0 := Lib.hid (show Below w.heap.size w W0 by rw [hW0]; exact ((Below.refl _ w).alloc (Nat.le_refl _) _).alloc (by simp) _)
  have x0 : W0.cell? ⟨w.heap.size, 0, none⟩ = some (.pointer (some ⟨g, 0, none⟩)) := hX.out.cell 0
  go_enter Tryz.func118, Tryz.ntmps118
  go_upto_region 1 with (fail)
  rw [← hW0]
  clear hW0 hcs
  refine wp_region_any (by kernel_rfl) ?_
  change wpAny _ _ _ _ _ _ _ (World.drew _)
  refine wpAny_ready (rs := [0, 2]) (by kernel_rfl) (by simp) ?_
  refine AllReady.cons rfl (fun K hK => ?_) ?_
  · go_simp; (refine hK _ _ ?_; clear hK K)
    refine wpAny_ready (rs := [1, 2]) (by kernel_rfl) (by simp) ?_
    refine AllReady.cons rfl (fun K hK => ?_) ?_
    · go_simp
      refine (inInt _ g s n (show Blk W0.drew _ _ _ from hG0.out) HI.out).mono ?_
      rintro e w1 ⟨rfl, hg1, hb1⟩
      have x1 : w1.cell? ⟨w.heap.size, 0, none⟩ = some (.pointer (some ⟨g, 0, none⟩)) := (hb1.blk (show Blk W0.drew _ _ _ from hX.out) (by omega)).cell 0
      refine hK _ _ ?_
      clear hK K
      refine wpAny_take (i := 4) (v := ?_) rfl (by kernel_rfl) (by kernel_rfl) (by kernel_rfl) (fun _ _ _ h => h) (Or.inl ⟨by rfl, ?_⟩) ?_
      rotate_left
      · intro w
        go_simp
        with_reducible rfl
      refine wpAny_ready (rs := [2]) (by kernel_rfl) (by simp) ?_
      refine AllReady.cons rfl (fun K hK => ?_) ?_
      · go_simp; (refine hK _ _ ?_; clear hK K)
        refine wpAny_ready (rs := [3]) (by kernel_rfl) (by simp) ?_
        refine AllReady.cons rfl (fun K hK => ?_) ?_
        · go_simp
          refine (inText _ g s hg1 hs).mono ?_
          rintro e w2 ⟨rfl, hb2⟩
          exact ⟨rfl, rfl, ((But.of_below hB0.out.drew).trans hb1).trans (.of_below hb2)⟩
        exact AllReady.nil
      exact AllReady.nil
    refine AllReady.cons rfl (fun K hK => ?_) ?_
    · go_simp; (refine hK _ _ ?_; clear hK K)
      refine wpAny_ready (rs := [1]) (by kernel_rfl) (by simp) ?_
      refine AllReady.cons rfl (fun K hK => ?_) ?_
      · go_simp
        refine (inInt _ g s n (show Blk W0.drew _ _ _ from hG0.out) HI.out).mono ?_
        rintro e w1 ⟨rfl, hg1, hb1⟩
        have x1 : w1.cell? ⟨w.heap.size, 0, none⟩ = some (.pointer (some ⟨g, 0, none⟩)) := (hb1.blk (show Blk W0.drew _ _ _ from hX.out) (by omega)).cell 0
        refine hK _ _ ?_
        clear hK K
        refine wpAny_take (i := 4) (v := ?_) rfl (by kernel_rfl) (by kernel_rfl) (by kernel_rfl) (fun _ _ _ h => h) (Or.inl ⟨by rfl, ?_⟩) ?_
        rotate_left
        · intro w
          go_simp
          with_reducible rfl
        refine wpAny_ready (rs := [3]) (by kernel_rfl) (by simp) ?_
        refine AllReady.cons rfl (fun K hK => ?_) ?_
        · go_simp
          refine (inText _ g s hg1 hs).mono ?_
          rintro e w2 ⟨rfl, hb2⟩
          exact ⟨rfl, rfl, ((But.of_below hB0.out.drew).trans hb1).trans (.of_below hb2)⟩
        exact AllReady.nil
      exact AllReady.nil
    exact AllReady.nil
  refine AllReady.cons rfl (fun K hK => ?_) ?_
  · go_simp; (refine hK _ _ ?_; clear hK K)
    refine wpAny_ready (rs := [0]) (by kernel_rfl) (by simp) ?_
    refine AllReady.cons rfl (fun K hK => ?_) ?_
    · go_simp; (refine hK _ _ ?_; clear hK K)
      refine wpAny_ready (rs := [1]) (by kernel_rfl) (by simp) ?_
      refine AllReady.cons rfl (fun K hK => ?_) ?_
      · go_simp
        refine (inInt _ g s n (show Blk W0.drew _ _ _ from hG0.out) HI.out).mono ?_
        rintro e w1 ⟨rfl, hg1, hb1⟩
        have x1 : w1.cell? ⟨w.heap.size, 0, none⟩ = some (.pointer (some ⟨g, 0, none⟩)) := (hb1.blk (show Blk W0.drew _ _ _ from hX.out) (by omega)).cell 0
        refine hK _ _ ?_
        clear hK K
        refine wpAny_take (i := 4) (v := ?_) rfl (by kernel_rfl) (by kernel_rfl) (by kernel_rfl) (fun _ _ _ h => h) (Or.inl ⟨by rfl, ?_⟩) ?_
        rotate_left
        · intro w
          go_simp
          with_reducible rfl
        refine wpAny_ready (rs := [3]) (by kernel_rfl) (by simp) ?_
        refine AllReady.cons rfl (fun K hK => ?_) ?_
        · go_simp
          refine (inText _ g s hg1 hs).mono ?_
          rintro e w2 ⟨rfl, hb2⟩
          exact ⟨rfl, rfl, ((But.of_below hB0.out.drew).trans hb1).trans (.of_below hb2)⟩
        exact AllReady.nil
      exact AllReady.nil
    exact AllReady.nil
  exact AllReady.nil
end Go.Proofs.YtnehgpeelgjjhaaGreatDoor.Tw
namespace Go.Proofs.YtnehgpeelgjjhaaGreatDoor.Tw
open Go.RowKit
theorem Blk.new' (w : World) (t : TypeId) (cs : Array Value) {n : Nat} (h : n = w.heap.size) : Blk (w.alloc (.cells cs t)) n t cs := by subst h; exact Blk.new w t cs
variable {P : Program}
/-- two results: the cells of a variable, a slot -/
theorem results_cell2 {fn : Func} {p u : Tmp} {ty : TypeId} (h : fn.results = #[.cell p ty, .tmp u]) (tmps : Array Value) (w : World) (g : Nat) (t : TypeId) (cs : Array Value) (d : TypeDesc)
    (hp : tmps.getD p undef = .pointer (some ⟨g, 0, none⟩)) (hg : Blk w g t cs)
    (hu : P.underlying ty = some d) (hd : (match d with | .struct _ | .array _ _ => true | _ => false) = true) (hi : (P.info? ty).map (·.size) = some cs.size) :
    (results fn tmps).run P w = .ok (.tuple #[.agg cs, tmps.getD u undef]) w := by
  have hp' : tmps[p]?.getD undef = .pointer (some ⟨g, 0, none⟩) := by simpa using hp
  simp [results, h, hp', asAddr, run_loadVar_row w g t ty cs (0, 0) d hg.heap hu hd hi]
/-- a whole variable read, a whole variable written -/
theorem ldB {ops : Array Oper} {rest : List Oper} {o : Oper} {a : Act} {w : World} {Q : Exit → Act → World → Prop} (ty : TypeId) (x : Operand) (g : Nat) (cs : Array Value) {t : TypeId} (H : Hid (Blk w g t cs)) {d : TypeDesc} (hu : P.underlying ty = some d)
    (hd : (match d with | .struct _ | .array _ _ => true | _ => false) = true) (hi : (P.info? ty).map (·.size) = some cs.size) (hgd : o.guard = none) (ho : o.op = .load ty x) (hx : a.eval x = .pointer (some ⟨g, 0, none⟩))
    (h : wpList P ops Q rest (a.put o.dst (.agg cs)) w) : wpList P ops Q (o :: rest) a w := wpList_load_row hgd ty x ho g hx t cs (0, 0) d H.out.heap hu hd hi h
theorem stB {ops : Array Oper} {rest : List Oper} {o : Oper} {a : Act} {w : World} {Q : Exit → Act → World → Prop} (ty : TypeId) (x y : Operand) (g : Nat) (cs ds : Array Value) {t : TypeId} (H : Hid (Blk w g t ds)) 
    (hi : (P.info? ty).map (·.size) = some cs.size) (hold : ds.size = cs.size) (h1 : cs.all (·.oneCell') = true) (hgd : o.guard = none) (ho : o.op = .store ty x y) (hx : a.eval x = .pointer (some ⟨g, 0, none⟩)) (hy : a.eval y = .agg cs)
    (h : wpList P ops Q rest (a.put o.dst undef) (w.setRow g cs)) : wpList P ops Q (o :: rest) a w := wpList_store_row hgd ty x y ho g cs hx hy t ds H.out.heap hi hold h1 h
end Go.Proofs.YtnehgpeelgjjhaaGreatDoor.Tw
namespace Go.Proofs.YtnehgpeelgjjhaaGreatDoor.Tw
open Go.RowKit Go.Shelf
attribute [local irreducible] sumF
def bz32 : Array Value := #[.int .u8 0, .int .u8 0, .int .u8 0, .int .u8 0, .int .u8 0, .int .u8 0, .int .u8 0, .int .u8 0, .int .u8 0, .int .u8 0, .int .u8 0, .int .u8 0, .int .u8 0, .int .u8 0, .int .u8 0, .int .u8 0, .int .u8 0, .int .u8 0, .int .u8 0, .int .u8 0, .int .u8 0, .int .u8 0, .int .u8 0, .int .u8 0, .int .u8 0, .int .u8 0, .int .u8 0, .int .u8 0, .int .u8 0, .int .u8 0, .int .u8 0, .int .u8 0]
theorem bz32_eq : bz32 = Array.replicate 32 (.int .u8 0) := rfl
/-- 32 bytes 0 -/
def zero32 : ByteArray := strOfNums (List.replicate 32 0)
theorem zero32_size : zero32.size = 32 := by unfold zero32; rw [strOfNums_size]; rfl
theorem mk32 : ∀ w : World, (Instr.makeSlice 129 (.int .i64 32) (.int .i64 32)).run Tryz.prog w = .ok (.slice (some ⟨w.heap.size, 0, none⟩) 32 32) (w.alloc (.cells bz32 5)) := fun _ => by kernel_rfl
set_option maxRecDepth 100000 in
theorem zero_any (w : World) : Calls Tryz.prog 329 #[] w fun e w' => e = .returned (.string zero32) ∧ Below w.heap.size w w' := by
  have hm := mk32
  have hcv := run_convert_bytes_arg (P := Tryz.prog) (w.alloc (.cells bz32 5)) 129 5 Tryz.underlying129 Tryz.underlying5 w.heap.size 0 32 32 (List.replicate 32 0) rfl (fun i hi => by
    rw [(Blk.new w 5 bz32).cell (0 + i), bz32_eq, Array.getElem?_replicate, if_pos (by omega), List.getD_eq_getElem?_getD, List.getElem?_replicate, if_pos hi]
    rfl) 9 Tryz.underlying9
  go_enter Tryz.func329, Tryz.ntmps329
  go_wp2_with fail
  go_ret
  exact ⟨rfl, (Below.refl _ _).alloc (Nat.le_refl _) _⟩
attribute [local irreducible] zero32
/-- the digest of two parts -/
def joinF (tab : Array Value) (a b : ByteArray) : ByteArray := if (a.toList == zero32.toList) = true ∧ (b.toList == zero32.toList) = true then zero32 else strOfNums (sumF tab (⟨#[9]⟩ ++ a ++ b))
theorem joinF_size (tab : Array Value) (a b : ByteArray) : (joinF tab a b).size = 32 := by
  unfold joinF
  split
  · exact zero32_size
  · rw [strOfNums_size, sumF_len]
/-- the digest of the part of a key -/
def leafK (tab : Array Value) (n : Nat) (v : ByteArray) : ByteArray := strOfNums (sumF tab (⟨#[8]⟩ ++ strOfNums [low7 (2 * n)] ++ v))
theorem leafK_size (tab : Array Value) (n : Nat) (v : ByteArray) : (leafK tab n v).size = 32 := by
  unfold leafK
  rw [strOfNums_size, sumF_len]
theorem Tab.below {w w' : World} {tab : Array Value} (h : Tab w tab) {B : Nat} (hb : Below B w w') (h0 : 0 < B) : Tab w' tab := ⟨h.1.below hb h0, h.2⟩
set_option maxRecDepth 100000 in
theorem leafK_any (w : World) (n : Nat) (v : ByteArray) (tab : Array Value) (hT : Tab w tab) (hn : n < 64) (hv : v.size ≤ 100000) (h0 : v.toList.isEmpty = false) :
    Calls Tryz.prog 330 #[.int .i64 n, .string v] w fun e w' => e = .returned (.string (leafK tab n v)) ∧ Below w.heap.size w w' := by
  have HT := Lib.hid hT
  have ht0 : 0 < w.heap.size := hT.1.lt
  clear hT
  have he : (strOfNums [low7 (2 * n)]).size = 1 := by rw [strOfNums_size]; rfl
  obtain ⟨E, hE⟩ : ∃ E, E = strOfNums [low7 (2 * n)] := ⟨_, rfl⟩
  have HE := Lib.hid hE
  rw [← hE] at he
  have hz : ((⟨#[8]⟩ : ByteArray) ++ E ++ v).size ≤ 1000000000 := by simp only [ByteArray.size_append, he]; show 1 + 1 + v.size ≤ _; omega
  have HZ := Lib.hid hz
  have hz2 : ¬ 9223372036854775807 < 1 + E.size := by omega
  have hz3 : ¬ 9223372036854775807 < 1 + E.size + v.size := by omega
  clear he hz hE
  go_enter Tryz.func330, Tryz.ntmps330
  go_wp2_with fail
  refine (putInt w n hn).mono ?_
  rintro e w1 ⟨rfl, h1⟩
  rw [← HE.out]
  have hs1 := h1.size
  go_wp2_with fail
  refine (sum_any w1 _ tab (Tab.below HT.out h1 ht0) HZ.out).mono ?_
  rintro e w2 ⟨rfl, h2⟩
  go_wp2_with fail
  go_ret
  refine ⟨?_, h1.trans (h2.mono hs1)⟩
  rw [HE.out]
  rfl
set_option maxRecDepth 100000 in
theorem join_any (w : World) (a b : ByteArray) (tab : Array Value) (hT : Tab w tab) (ha : a.size ≤ 100000) (hb : b.size ≤ 100000) :
    Calls Tryz.prog 331 #[.string a, .string b] w fun e w' => e = .returned (.string (joinF tab a b)) ∧ Below w.heap.size w w' := by
  have HT := Lib.hid hT
  have ht0 : 0 < w.heap.size := hT.1.lt
  clear hT
  have hz : ((⟨#[9]⟩ : ByteArray) ++ a ++ b).size ≤ 1000000000 := by simp only [ByteArray.size_append]; show 1 + a.size + b.size ≤ _; omega
  have HZ := Lib.hid hz
  have hz2 : ¬ 9223372036854775807 < 1 + a.size := by omega
  have hz3 : ¬ 9223372036854775807 < 1 + a.size + b.size := by omega
  clear hz ha hb
  go_enter Tryz.func331, Tryz.ntmps331
  go_wp2_with fail
  refine (zero_any w).mono ?_
  rintro e w1 ⟨rfl, h1⟩
  have hs1 := h1.size
  by_cases hA : (a.toList == zero32.toList) = true
  · go_wp2_with fail
    refine (zero_any w1).mono ?_
    rintro e w2 ⟨rfl, h2⟩
    have hs2 := h2.size
    by_cases hB : (b.toList == zero32.toList) = true
    · go_wp2_with fail
      refine (zero_any w2).mono ?_
      rintro e w3 ⟨rfl, h3⟩
      go_wp2_with fail
      go_ret
      exact ⟨by unfold joinF; rw [if_pos ⟨hA, hB⟩]; rfl, (h1.trans (h2.mono hs1)).trans (h3.mono (by omega))⟩
    · go_wp2_with fail
      refine (sum_any w2 _ tab ((HT.out.below h1 ht0).below h2 (by omega)) HZ.out).mono ?_
      rintro e w3 ⟨rfl, h3⟩
      go_wp2_with fail
      go_ret
      exact ⟨by unfold joinF; rw [if_neg (fun h => hB h.2)]; rfl, (h1.trans (h2.mono hs1)).trans (h3.mono (by omega))⟩
  · go_wp2_with fail
    refine (sum_any w1 _ tab (HT.out.below h1 ht0) HZ.out).mono ?_
    rintro e w3 ⟨rfl, h3⟩
    go_wp2_with fail
    go_ret
    exact ⟨by unfold joinF; rw [if_neg (fun h => hA h.1)]; rfl, h1.trans (h3.mono (by omega))⟩
end Go.Proofs.YtnehgpeelgjjhaaGreatDoor.Tw
namespace Go.Proofs.YtnehgpeelgjjhaaGreatDoor.Tw
open Go.RowKit Go.Shelf
set_option maxRecDepth 100000 in
set_option maxHeartbeats 400000 in
/-- sparse.Valid of no entry -/
theorem svalid0 (w : World) : Calls Tryz.prog 254 #[nilS] w fun e w' => e = .returned (.bool true) ∧ Below w.heap.size w w' := by
  go_enter Tryz.func254, Tryz.ntmps254
  go_wp2
  repeat (go_rounds 1)
  go_ret
  exact ⟨rfl, by go_grown⟩
theorem keyOf1 (w : World) (n : Nat) (v : ByteArray) : Calls Tryz.prog 327 #[.agg #[.int .i64 n, .string v]] w fun e w' => e = .returned (.int .i64 n) ∧ Below w.heap.size w w' := by
  go_enter Tryz.func327, Tryz.ntmps327
  go_wp2
  go_ret
  exact ⟨rfl, by go_grown⟩
set_option maxRecDepth 100000 in
theorem convert1 (w : World) (g c n : Nat) (v : ByteArray) (h1 : w.cell? ⟨g, 0, none⟩ = some (.int .i64 n)) (h2 : w.cell? ⟨g, 1, none⟩ = some (.string v)) :
    Calls Tryz.prog 326 #[.slice (some ⟨g, 0, none⟩) 1 c, .func (.func 327) #[] #[]] w fun e w' => (∃ g' c', e = .returned (.slice (some ⟨g', 0, none⟩) 1 c') ∧ w'.cell? ⟨g', 0, none⟩ = some (.int .i64 n)) ∧ Below w.heap.size w w' := by
  go_enter Tryz.func326, Tryz.ntmps326
  go_wp2_with fail
  refine wp_loop_rounds 2 ?_
  rw [rounds_succ]
  go_wp2_with fail
  refine (keyOf1 _ n v).mono ?_
  rintro e w1 ⟨rfl, hb1⟩
  have hW1 := ((Below.refl w.heap.size w).alloc (Nat.le_refl _) (.cells #[.int .i64 n, .string v] 376)).trans (hb1.mono (by simp))
  have hk0 : (w1.alloc (.cells #[.int .i64 n] 3)).cell? ⟨w1.heap.size, 0, none⟩ = some (.int .i64 n) := (Blk.new w1 3 #[.int .i64 n]).cell 0
  have HV := Lib.hid (Vs.nil (w1.alloc (.cells #[.int .i64 n] 3)) w.heap.size)
  have hzb : w.heap.size ≤ (w1.alloc (.cells #[.int .i64 n] 3)).heap.size := by have := hW1.size; simp; omega
  have HW := Lib.hid (hW1.alloc hW1.size (.cells #[.int .i64 n] 3))
  clear hb1 hW1
  go_wp2_with (at_builtin; refine wpList_appendV Tryz.underlying24 infoI3 rfl (by decide) rfl (.tmp 14) (.tmp 18) rfl w.heap.size (.slice none 0 0) [] rfl HV.out hzb (by simp) ⟨w1.heap.size, 0, none⟩ (.int .i64 n) rfl 1 rfl hk0 ?_; intro v2 w2 hV2 hg2 ho2; obtain ⟨A2, c2, rfl⟩ := hV2.len (n := 1) rfl; obtain ⟨g2, rfl⟩ := hV2.some (by omega); have HV2 := Lib.hid hV2; have HG2 := Lib.hid (HW.out.trans (grown_base HV.out hg2 hzb)); clear hV2 hg2 ho2)
  rw [rounds_succ]
  go_wp2_with fail
  go_ret
  exact ⟨⟨_, _, rfl, HV2.out.at_ 0 (by simp)⟩, HG2.out⟩
set_option maxRecDepth 100000 in
theorem keys1 (w : World) (g c n : Nat) (hn : n < 64) (h1 : w.cell? ⟨g, 0, none⟩ = some (.int .i64 n)) : Calls Tryz.prog 325 #[.slice (some ⟨g, 0, none⟩) 1 c] w fun e w' => e = .returned (.bool true) ∧ Below w.heap.size w w' := by
  have n1 : ¬ (n : Int) < 0 := by omega
  have n2 : ¬ (64 : Int) ≤ n := by omega
  go_enter Tryz.func325, Tryz.ntmps325
  go_wp2_with fail
  go_rounds 2
  go_ret
  exact ⟨rfl, by go_grown⟩
set_option maxRecDepth 100000 in
theorem contains1 (w : World) (g c n : Nat) (v : ByteArray) (h1 : w.cell? ⟨g, 0, none⟩ = some (.int .i64 n)) (h2 : w.cell? ⟨g, 1, none⟩ = some (.string v)) (hv : v.size ≤ 60000) (hv1 : v.size ≠ 0) :
    Calls Tryz.prog 328 #[.slice (some ⟨g, 0, none⟩) 1 c, .func (.func 324) #[] #[]] w fun e w' => e = .returned (.bool false) ∧ Below w.heap.size w w' := by
  have b1 : ((v.size : Int) == 0) = false := by
    simp only [beq_eq_false_iff_ne]; omega
  have b2 : ¬ (65536 : Int) < v.size := by omega
  clear hv hv1
  go_enter Tryz.func328, Tryz.ntmps328
  go_wp2
  go_rounds 2
  go_ret
  exact ⟨rfl, by go_grown⟩
set_option maxRecDepth 100000 in
/-- sparse.Valid of one entry -/
theorem svalid1 (w : World) (g c n : Nat) (v : ByteArray) (hn : n < 64) (h1 : w.cell? ⟨g, 0, none⟩ = some (.int .i64 n)) (h2 : w.cell? ⟨g, 1, none⟩ = some (.string v)) (hv : v.size ≤ 60000) (hv1 : v.size ≠ 0) (hg : g < w.heap.size) :
    Calls Tryz.prog 254 #[.slice (some ⟨g, 0, none⟩) 1 c] w fun e w' => e = .returned (.bool true) ∧ Below w.heap.size w w' := by
  have H1 := Lib.hid h1
  have H2 := Lib.hid h2
  clear h1 h2
  go_enter Tryz.func254, Tryz.ntmps254
  go_wp2_with fail
  refine (convert1 w g c n v H1.out H2.out).mono ?_
  rintro e w1 ⟨⟨g', c', rfl, k1⟩, hb1⟩
  have hs1 := hb1.size
  go_wp2_with fail
  refine (keys1 w1 g' c' n hn k1).mono ?_
  rintro e w2 ⟨rfl, hb2⟩
  have hs2 := hb2.size
  go_wp2_with fail
  have hb12 := hb1.trans (hb2.mono hs1)
  refine (contains1 w2 g c n v ((hb12.cell hg).trans H1.out) ((hb12.cell hg).trans H2.out) hv hv1).mono ?_
  rintro e w3 ⟨rfl, hb3⟩
  go_wp2_with fail
  go_ret
  exact ⟨rfl, hb12.trans (hb3.mono (by omega))⟩
end Go.Proofs.YtnehgpeelgjjhaaGreatDoor.Tw
namespace Go.Proofs.YtnehgpeelgjjhaaGreatDoor.Tw
open Go.RowKit Go.Shelf
attribute [local irreducible] sumF zero32 joinF
def em128 : Array Value := Array.replicate 128 (.string ⟨#[]⟩)
theorem em_build : ∀ w, (Instr.build 448 #[]).run Tryz.prog w = .ok (.agg em128) w := fun _ => by kernel_rfl
def strAt (cs : Array Value) (i : Nat) : ByteArray := match cs.getD i undef with
  | .string s => s
  | _ => ⟨#[]⟩
/-- 128 strings, none too long -/
def Strs (cs : Array Value) : Prop := cs.size = 128 ∧ ∀ i, i < 128 → cs[i]? = some (.string (strAt cs i)) ∧ (strAt cs i).size ≤ 32
theorem Strs.at_ {cs : Array Value} (h : Strs cs) {i : Nat} (hi : i < 128) : cs[i]? = some (.string (strAt cs i)) := (h.2 i hi).1
theorem Strs.set {cs : Array Value} (h : Strs cs) (i : Nat) (s : ByteArray) (hs : s.size ≤ 32) : Strs (cs.setIfInBounds i (.string s)) := by
  refine ⟨by rw [Array.size_setIfInBounds]; exact h.1, fun j hj => ?_⟩
  by_cases hij : i = j
  · subst hij
    have hlt : i < cs.size := by rw [h.1]; exact hj
    simp only [strAt, Array.getD_eq_getD_getElem?, Array.getElem?_setIfInBounds_self_of_lt hlt]
    exact ⟨rfl, hs⟩
  · have := h.2 j hj
    have hn : strAt (cs.setIfInBounds i (.string s)) j = strAt cs j := by simp only [strAt, Array.getD_eq_getD_getElem?, Array.getElem?_setIfInBounds_ne hij]
    rw [Array.getElem?_setIfInBounds_ne hij, hn]
    exact this
theorem strs_em : Strs em128 := by
  refine ⟨by unfold em128; rw [Array.size_replicate], fun i hi => ?_⟩
  have h1 : em128[i]? = some (.string ⟨#[]⟩) := by unfold em128; rw [Array.getElem?_replicate, if_pos hi]
  have h2 : strAt em128 i = ⟨#[]⟩ := by simp only [strAt, Array.getD_eq_getD_getElem?, h1]; rfl
  rw [h1, h2]
  exact ⟨rfl, by decide⟩
def full1 : Nat → Array Value
  | 0 => em128
  | k + 1 => (full1 k).setIfInBounds (64 + k) (.string zero32)
theorem strs_full1 : ∀ k, Strs (full1 k)
  | 0 => strs_em
  | k + 1 => (strs_full1 k).set _ _ (by rw [zero32_size]; omega)
def full2 (tab : Array Value) : List (Nat × ByteArray) → Array Value
  | [] => full1 64
  | (n, v) :: _ => (full1 64).setIfInBounds (64 + n) (.string (leafK tab n v))
theorem strs_full2 (tab : Array Value) : ∀ l, Strs (full2 tab l)
  | [] => strs_full1 64
  | (_, _) :: _ => (strs_full1 64).set _ _ (by rw [leafK_size]; omega)
def full3 (tab cs : Array Value) : Nat → Array Value
  | 0 => cs
  | k + 1 => (full3 tab cs k).setIfInBounds (63 - k) (.string (joinF tab (strAt (full3 tab cs k) (2 * (63 - k))) (strAt (full3 tab cs k) (2 * (63 - k) + 1))))
theorem strs_full3 (tab : Array Value) {cs : Array Value} (h : Strs cs) : ∀ k, Strs (full3 tab cs k)
  | 0 => h
  | k + 1 => (strs_full3 tab h k).set _ _ (by rw [joinF_size]; omega)
theorem full3_step (tab cs : Array Value) (i : Nat) (h0 : 0 < i) (h : i ≤ 63) : full3 tab cs (63 - (i - 1)) = (full3 tab cs (63 - i)).setIfInBounds i (.string (joinF tab (strAt (full3 tab cs (63 - i)) (2 * i)) (strAt (full3 tab cs (63 - i)) (2 * i + 1)))) := by
  obtain ⟨k, hk⟩ : ∃ k, 63 - i = k := ⟨_, rfl⟩
  have e1 : 63 - (i - 1) = k + 1 := by omega
  have e2 : i = 63 - k := by omega
  rw [e1, hk, e2]
  rfl
/-- the root of a map of at most one entry -/
def rootF (tab : Array Value) (l : List (Nat × ByteArray)) : ByteArray := strAt (full3 tab (full2 tab l) 63) 1
set_option maxRecDepth 100000 in
set_option maxHeartbeats 2000000 in
theorem full_any (w : World) (tab : Array Value) (hT : Tab w tab) (A : Option Addr) (m c : Nat) (l : List (Nat × ByteArray)) (hl : (l = [] ∧ m = 0) ∨ ∃ g n v, l = [(n, v)] ∧ m = 1 ∧ A = some ⟨g, 0, none⟩ ∧ n < 64 ∧ v.size ≤ 60000 ∧ v.toList.isEmpty = false ∧ w.cell? ⟨g, 0, none⟩ = some (.int .i64 n) ∧ w.cell? ⟨g, 1, none⟩ = some (.string v) ∧ g < w.heap.size) :
    Calls Tryz.prog 255 #[.slice A m c] w fun e w' => (∃ b, e = .returned (.pointer (some ⟨b, 0, none⟩)) ∧ Hid (∃ cs, cs = full3 tab (full2 tab l) 63 ∧ Blk w' b 448 cs)) ∧ Below w.heap.size w w' := by
  have HT := Lib.hid hT
  have HL := Lib.hid hl
  have ht0 := hT.1.lt
  clear hT hl
  have hb := em_build
  go_enter Tryz.func255, Tryz.ntmps255
  go_wp2_with fail
  have HB : Hid (Blk (w.alloc (.cells em128 448)) w.heap.size 448 em128) := Lib.hid (Blk.new w 448 em128)
  have HW : Hid (Below w.heap.size w (w.alloc (.cells em128 448))) := Lib.hid ((Below.refl _ w).alloc (Nat.le_refl _) _)
  clear hb
  go_loopw [4, 10] (fun _ i wr => ∃ (k : Nat) (cs : Array Value), k ≤ 64 ∧ i = .int .i64 k ∧ Hid (cs = full1 k) ∧ Hid (Blk wr w.heap.size 448 cs) ∧ Hid (Below w.heap.size w wr)) (fun _ i _ => 64 - (intOf i).toNat)
  case atStart => exact ⟨0, em128, by omega, rfl, Lib.hid rfl, HB, HW⟩
  case round =>
    clear HB HW
    obtain ⟨k, cs, hk, rfl, hE, hB, hW⟩ := hrel
    have hN : Hid (Strs cs) := Lib.hid (hE.out ▸ strs_full1 k)
    by_cases hlt : k < 64
    · have d := (hB.out.cell (64 + k)).trans (hN.out.at_ (by omega))
      have L0 := Later.of d
      go_wp2_with fail
      refine Loose.wp_region_later [(3, .is (.string zero32))] 6 (by kernel_rfl) (by kernel_rfl) ?_
      (simp only [List.take_succ_cons, List.take_zero, List.drop_succ_cons, List.drop_zero])
      (repeat (first | refine Loose.walk_skip rfl ?_ | (refine Loose.walk_plain rfl rfl rfl (fun K hK => ?_); go_big_quiet_op; refine hK _ ?_; clear hK K)))
      refine Loose.walk_loose rfl rfl (fun W' hW' hF => Loose.loose_call (f := 329) (args := #[]) (by kernel_rfl) ((zero_any W').mono fun e w' ⟨he, hb⟩ => ⟨_, he, hb, rfl⟩)) ?_
      rintro _ _ _ rfl
      (simp only [Act.put, List.setIfInBounds_toArray, List.set_cons_succ, List.set_cons_zero])
      (repeat (first | refine Loose.walk_skip rfl ?_ | (refine Loose.walk_plain rfl rfl rfl (fun K hK => ?_); go_big_quiet_op; refine hK _ ?_; clear hK K)))
      refine Loose.walk_nil ?_
      rintro U hU -
      have HU := hB.out.below hU hB.out.lt
      have d := (HU.cell (64 + k)).trans (hN.out.at_ (by omega))
      have hf := HU.frozen (64 + k)
      have S1 := Lib.hid (HU.set_ (64 + k) (.string zero32))
      have S2 := Lib.hid ((hW.out.trans (hU.mono hW.out.size)).setCell (p := ⟨w.heap.size, 64 + k, none⟩) (by simp) (.string zero32))
      clear L0 hU HU
      go_wp2_with fail
      go_roundw
      case rel => exact ⟨k + 1, _, by omega, by go_num, Lib.hid (by rw [hE.out]; rfl), S1, S2⟩
      case measure => simp [intOf]; omega
    · have hk64 : k = 64 := by omega
      subst hk64
      rw [show ((64 : Nat) : Int) = 64 from rfl]
      go_wp2_with fail
      have hE2 : Hid (cs = if 0 = 0 then full1 64 else full2 tab l) := Lib.hid (by rw [if_pos rfl]; exact hE.out)
      have hm1 : m ≤ 1 := by
        rcases HL.out with ⟨_, h⟩ | ⟨_, _, _, _, h, _⟩ <;> omega
      clear hN hE hk hlt
      go_loopw [6, 22] (fun _ i wr => ∃ (j : Nat) (cs : Array Value), j ≤ m ∧ i = .int .i64 j ∧ Hid (cs = if j = 0 then full1 64 else full2 tab l) ∧ Hid (Blk wr w.heap.size 448 cs) ∧ Hid (Below w.heap.size w wr)) (fun _ i _ => m - (intOf i).toNat)
      case atStart => exact ⟨0, cs, by omega, rfl, hE2, hB, hW⟩
      case round =>
        clear hB hW hE2
        obtain ⟨j, cs, hj, rfl, hE, hB, hW⟩ := hrel
        by_cases hlt : j < m
        · have hj0 : j = 0 := by omega
          subst hj0
          rcases HL.out with ⟨_, hm0⟩ | ⟨g, n, v, rfl, hm, rfl, hn, hv, hv0, g1, g2, hg⟩
          · exact absurd hlt (by omega)
          have HM := Lib.hid hm
          clear hm
          have hN : Hid (Strs cs) := Lib.hid (by rw [hE.out]; exact strs_full1 64)
          have d := (hB.out.cell (64 + n)).trans (hN.out.at_ (by omega))
          have d1 := (World.cell?_alloc_some wr _ (.cells #[.int .i64 n, .string v] 376) (by rw [d]; rfl)).trans d
          have L0 := Later.of d1
          have hK := Blk.new wr 376 #[.int .i64 n, .string v]
          have k1 := hK.cell 0
          have k2 := hK.cell 1
          have L1 := Later.of k1
          have L2 := Later.of k2
          have c1 := (hW.out.cell (p := ⟨g, 0, none⟩) hg).trans g1
          have c2 := (hW.out.cell (p := ⟨g, 1, none⟩) hg).trans g2
          have hB' := Lib.hid (hB.out.alloc (.cells #[.int .i64 n, .string v] 376))
          have hW' := Lib.hid (hW.out.alloc hW.out.size (.cells #[.int .i64 n, .string v] 376))
          have HV0 := Lib.hid hv0
          clear d d1 hK g1 g2 hv0 hB hW
          go_wp2_with fail
          refine Loose.wp_region_later [(8, .is (.string (leafK tab n v)))] 11 (by kernel_rfl) (by kernel_rfl) ?_
          (simp only [List.take_succ_cons, List.take_zero, List.drop_succ_cons, List.drop_zero])
          (repeat (first | refine Loose.walk_skip rfl ?_ | (refine Loose.walk_plain rfl rfl rfl (fun K hK => ?_); go_big_quiet_op; refine hK _ ?_; clear hK K)))
          refine Loose.walk_loose rfl rfl (fun W' hW'' hF => Loose.loose_call (f := 330) (args := #[.int .i64 n, .string v]) (by kernel_rfl) ((leafK_any W' n v tab ((HT.out.below hW'.out ht0).below hW'' (by have := hW'.out.size; omega)) hn (by omega) HV0.out).mono fun e w' ⟨he, hb⟩ => ⟨_, he, hb, rfl⟩)) ?_
          rintro _ _ _ rfl
          (simp only [Act.put, List.setIfInBounds_toArray, List.set_cons_succ, List.set_cons_zero])
          (repeat (first | refine Loose.walk_skip rfl ?_ | (refine Loose.walk_plain rfl rfl rfl (fun K hK => ?_); go_big_quiet_op; refine hK _ ?_; clear hK K)))
          refine Loose.walk_nil ?_
          rintro U hU -
          have HU := hB'.out.below hU hB'.out.lt
          have d := (HU.cell (64 + n)).trans (hN.out.at_ (by omega))
          have hf := HU.frozen (64 + n)
          have S1 := Lib.hid (HU.set_ (64 + n) (.string (leafK tab n v)))
          have S2 := Lib.hid ((hW'.out.trans (hU.mono hW'.out.size)).setCell (p := ⟨w.heap.size, 64 + n, none⟩) (by simp) (.string (leafK tab n v)))
          clear L0 L1 L2 hU HU k1 k2 c1 c2
          go_wp2_with fail
          go_roundw
          case rel => exact ⟨1, _, by have := HM.out; omega, by go_num, Lib.hid (by rw [hE.out]; rfl), S1, S2⟩
          case measure => simp [intOf]; omega
        · have hjm : j = m := by omega
          subst hjm
          have hE3 : Hid (cs = full3 tab (full2 tab l) 0) := Lib.hid (by
            rw [hE.out]
            rcases HL.out with ⟨rfl, rfl⟩ | ⟨g, n, v, rfl, rfl, _⟩ <;> rfl)
          go_wp2_with fail
          clear hE
          go_loopw [7] (fun i wr => ∃ (k : Nat) (cs : Array Value), k ≤ 63 ∧ i = .int .i64 k ∧ Hid (cs = full3 tab (full2 tab l) (63 - k)) ∧ Hid (Blk wr w.heap.size 448 cs) ∧ Hid (Below w.heap.size w wr)) (fun i _ => (intOf i).toNat)
          case atStart => exact ⟨63, cs, by omega, rfl, hE3, hB, hW⟩
          case round =>
            clear hB hW hE3
            obtain ⟨k, cs, hk, rfl, hE, hB, hW⟩ := hrel
            have hN : Hid (Strs cs) := Lib.hid (hE.out ▸ strs_full3 tab (strs_full2 tab l) _)
            by_cases hlt : 0 < k
            · have d0 := (hB.out.cell (2 * k)).trans (hN.out.at_ (by omega))
              have d1 := (hB.out.cell (2 * k + 1)).trans (hN.out.at_ (by omega))
              have d2 := (hB.out.cell k).trans (hN.out.at_ (by omega))
              have L0 := Later.of d0
              have L1 := Later.of d1
              have L2 := Later.of d2
              have s0 := (hN.out.2 (2 * k) (by omega)).2
              have s1 := (hN.out.2 (2 * k + 1) (by omega)).2
              have HS := Lib.hid (And.intro s0 s1)
              obtain ⟨a, ha⟩ : ∃ a, a = strAt cs (2 * k) := ⟨_, rfl⟩
              obtain ⟨b, hb⟩ : ∃ b, b = strAt cs (2 * k + 1) := ⟨_, rfl⟩
              have HA := Lib.hid ha
              have HBB := Lib.hid hb
              rw [← ha] at d0 HS
              rw [← hb] at d1 HS
              clear s0 s1 ha hb L0 L1
              have L0 := Later.of d0
              have L1 := Later.of d1
              go_wp2_with fail
              refine Loose.wp_region_later [(15, .is (.string (joinF tab a b)))] 18 (by kernel_rfl) (by kernel_rfl) ?_
              (simp only [List.take_succ_cons, List.take_zero, List.drop_succ_cons, List.drop_zero])
              (repeat (first | refine Loose.walk_skip rfl ?_ | (refine Loose.walk_plain rfl rfl rfl (fun K hK => ?_); go_big_quiet_op; refine hK _ ?_; clear hK K)))
              refine Loose.walk_loose rfl rfl (fun W' hW'' hF => Loose.loose_call (f := 331) (args := #[.string a, .string b]) (by kernel_rfl) ((join_any W' a b tab ((HT.out.below hW.out ht0).below hW'' (by have := hW.out.size; omega)) (by have := HS.out.1; omega) (by have := HS.out.2; omega)).mono fun e w' ⟨he, hb⟩ => ⟨_, he, hb, rfl⟩)) ?_
              rintro _ _ _ rfl
              (simp only [Act.put, List.setIfInBounds_toArray, List.set_cons_succ, List.set_cons_zero])
              (repeat (first | refine Loose.walk_skip rfl ?_ | (refine Loose.walk_plain rfl rfl rfl (fun K hK => ?_); go_big_quiet_op; refine hK _ ?_; clear hK K)))
              refine Loose.walk_nil ?_
              rintro U hU -
              have HU := hB.out.below hU hB.out.lt
              have d := (HU.cell k).trans (hN.out.at_ (by omega))
              have hf := HU.frozen k
              have S1 := Lib.hid (HU.set_ k (.string (joinF tab a b)))
              have S2 := Lib.hid ((hW.out.trans (hU.mono hW.out.size)).setCell (p := ⟨w.heap.size, k, none⟩) (by simp) (.string (joinF tab a b)))
              clear L0 L1 L2 hU HU d0 d1 d2
              go_wp2_with fail
              go_roundw
              case rel => exact ⟨k - 1, _, by omega, by congr 1; omega, Lib.hid (by rw [full3_step tab _ k hlt hk, ← hE.out, ← HA.out, ← HBB.out]), S1, S2⟩
              case measure => simp [intOf]; omega
            · have hk0 : k = 0 := by omega
              subst hk0
              go_wp2_with fail
              go_ret
              exact ⟨⟨_, rfl, Lib.hid ⟨_, hE.out, hB.out⟩⟩, hW.out⟩
end Go.Proofs.YtnehgpeelgjjhaaGreatDoor.Tw
namespace Go.Proofs.YtnehgpeelgjjhaaGreatDoor.Tw
open Go.RowKit Go.Shelf
attribute [local irreducible] sumF zero32 joinF full2 full3
theorem rootF_def (tab : Array Value) (l : List (Nat × ByteArray)) : strAt (full3 tab (full2 tab l) 63) 1 = rootF tab l := rfl
theorem rootF_size (tab : Array Value) (l : List (Nat × ByteArray)) : (rootF tab l).size ≤ 32 := ((strs_full3 tab (strs_full2 tab l) 63).2 1 (by omega)).2
set_option maxRecDepth 100000 in
/-- sparse.Root of no entry -/
theorem sroot0 (w : World) (tab : Array Value) (hT : Tab w tab) : Calls Tryz.prog 200 #[nilS] w fun e w' => e = .returned (.tuple #[.string (rootF tab []), .int .i64 0]) ∧ Below w.heap.size w w' := by
  have HT := Lib.hid hT
  have ht0 := hT.1.lt
  clear hT
  go_enter Tryz.func200, Tryz.ntmps200
  go_wp2_with fail
  refine (svalid0 w).mono ?_
  rintro e w1 ⟨rfl, h1⟩
  have hs1 := h1.size
  go_wp2_with fail
  refine (full_any w1 tab (HT.out.below h1 ht0) none 0 0 [] (.inl ⟨rfl, rfl⟩)).mono ?_
  rintro e w2 ⟨⟨b, rfl, hB⟩, h2⟩
  obtain ⟨cs, hcs, hB⟩ := hB.out
  have c1 := (hB.cell 1).trans ((hcs ▸ strs_full3 tab (strs_full2 tab []) 63 : Strs cs).at_ (i := 1) (by omega))
  rw [hcs, rootF_def] at c1
  clear hB hcs
  go_wp2_with fail
  go_ret2
  exact ⟨rfl, h1.trans (h2.mono hs1)⟩
set_option maxRecDepth 100000 in
/-- sparse.Root of one entry -/
theorem sroot1 (w : World) (tab : Array Value) (hT : Tab w tab) (g c n : Nat) (v : ByteArray) (hn : n < 64) (hv : v.size ≤ 60000) (hv1 : v.size ≠ 0) (hv0 : v.toList.isEmpty = false) (h1 : w.cell? ⟨g, 0, none⟩ = some (.int .i64 n)) (h2 : w.cell? ⟨g, 1, none⟩ = some (.string v)) :
    Calls Tryz.prog 200 #[.slice (some ⟨g, 0, none⟩) 1 c] w fun e w' => e = .returned (.tuple #[.string (rootF tab [(n, v)]), .int .i64 0]) ∧ Below w.heap.size w w' := by
  have HT := Lib.hid hT
  have ht0 := hT.1.lt
  have hg := lt_of_cell h1
  have H1 := Lib.hid h1
  have H2 := Lib.hid h2
  have HV := Lib.hid hv0
  clear hT h1 h2 hv0
  go_enter Tryz.func200, Tryz.ntmps200
  go_wp2_with fail
  refine (svalid1 w g c n v hn H1.out H2.out hv hv1 hg).mono ?_
  rintro e w1 ⟨rfl, h1⟩
  have hs1 := h1.size
  go_wp2_with fail
  refine (full_any w1 tab (HT.out.below h1 ht0) (some ⟨g, 0, none⟩) 1 c [(n, v)] (.inr ⟨g, n, v, rfl, rfl, rfl, hn, hv, HV.out, (h1.cell hg).trans H1.out, (h1.cell hg).trans H2.out, by omega⟩)).mono ?_
  rintro e w2 ⟨⟨b, rfl, hB⟩, h2⟩
  obtain ⟨cs, hcs, hB⟩ := hB.out
  have c1 := (hB.cell 1).trans ((hcs ▸ strs_full3 tab (strs_full2 tab [(n, v)]) 63 : Strs cs).at_ (i := 1) (by omega))
  rw [hcs, rootF_def] at c1
  clear hB hcs
  go_wp2_with fail
  go_ret2
  exact ⟨rfl, h1.trans (h2.mono hs1)⟩
end Go.Proofs.YtnehgpeelgjjhaaGreatDoor.Tw
namespace Go.Proofs.YtnehgpeelgjjhaaGreatDoor.Tw
open Go.RowKit Go.Shelf
attribute [local irreducible] enc1 IsB
/-- the encoding of the empty graph -/
def encG : List UInt8 := (((enc1 0).data.toList ++ (enc1 0).data.toList) ++ (enc1 0).data.toList)
set_option maxRecDepth 100000 in
set_option maxHeartbeats 1000000 in
theorem encode1 (w : World) (b g : Nat) (hB : IsB w b []) (hG : Blk w g 79 #[nilS, nilS, nilS]) (hgb : g < b) :
    Calls Tryz.prog 195 #[.pointer (some ⟨b, 0, none⟩), .pointer (some ⟨g, 0, none⟩)] w fun e w' => e = .returned (.tuple #[]) ∧ IsB w' b encG ∧ Below b w w' ∧ Oth b w w' := by
  have HB := Lib.hid hB
  have HG := Lib.hid hG
  have hlt := hB.lt
  clear hB hG
  obtain ⟨g1, g2, g3⟩ := HG.out.three
  have HE : Hid ((enc1 0).data.toList.length = 1) := Lib.hid (by rw [Array.length_toList]; exact enc1_size 0)
  go_enter Tryz.func195, Tryz.ntmps195
  go_wp2_with fail
  have hk1 := (Blk.new w 3 #[.int .i64 0]).cell 0
  refine (put1 _ b w.heap.size 1 0 [] (by omega) (HB.out.alloc _) (by simp) hk1).mono ?_
  rintro e w1 ⟨rfl, hb1, h1, ho1⟩
  have HB1 := Lib.hid hb1
  have HW1 := Lib.hid (((Below.refl _ _).alloc (Nat.le_of_lt hlt) _).trans h1)
  have HO1 := Lib.hid ((((Lib.OthersKept.refl 5 (some b) _).alloc _).trans ho1))
  have HG1 := Lib.hid (HG.out.below HW1.out hgb)
  have hz1 := HW1.out.size
  clear hb1 h1 ho1 hk1 g1 g2 g3
  obtain ⟨g1, g2, g3⟩ := HG1.out.three
  go_wp2_with fail
  refine wp_loop_rounds 1 ?_
  rw [rounds_succ]
  go_wp2_with fail
  have hk1 := (Blk.new w1 3 #[.int .i64 0]).cell 0
  refine (put1 _ b w1.heap.size 1 0 _ (by omega) (HB1.out.alloc _) (by simp [HE.out]) hk1).mono ?_
  rintro e w2 ⟨rfl, hb2, h2, ho2⟩
  have HB2 := Lib.hid hb2
  have HW2 := Lib.hid (HW1.out.trans (((Below.refl _ _).alloc (by omega) _).trans h2))
  have HO2 := Lib.hid (HO1.out.trans (((Lib.OthersKept.refl 5 (some b) _).alloc _).trans ho2))
  have HG2 := Lib.hid (HG.out.below HW2.out hgb)
  have hz2 := HW2.out.size
  clear hb2 h2 ho2 hk1 g1 g2 g3
  obtain ⟨g1, g2, g3⟩ := HG2.out.three
  go_wp2_with fail
  refine wp_loop_rounds 1 ?_
  rw [rounds_succ]
  go_wp2_with fail
  have hk1 := (Blk.new w2 3 #[.int .i64 0]).cell 0
  refine (put1 _ b w2.heap.size 1 0 _ (by omega) (HB2.out.alloc _) (by simp [HE.out]) hk1).mono ?_
  rintro e w3 ⟨rfl, hb3, h3, ho3⟩
  have HB3 := Lib.hid hb3
  have HW3 := Lib.hid (HW2.out.trans (((Below.refl _ _).alloc (by omega) _).trans h3))
  have HO3 := Lib.hid (HO2.out.trans (((Lib.OthersKept.refl 5 (some b) _).alloc _).trans ho3))
  have HG3 := Lib.hid (HG.out.below HW3.out hgb)
  have hz3 := HW3.out.size
  clear hb3 h3 ho3 hk1 g1 g2 g3
  obtain ⟨g1, g2, g3⟩ := HG3.out.three
  go_wp2_with fail
  refine (put0 w3 b).mono ?_
  rintro e W ⟨rfl, rfl⟩
  go_wp2_with fail
  go_end0
  refine ⟨rfl, ?_, HW3.out, HO3.out⟩
  have := HB3.out
  simpa [encG] using this
attribute [local semireducible] IsB in
theorem IsB.setCell {w : World} {b k : Nat} {l : List UInt8} {T : TypeId} {cs : Array Value} (h : IsB w b l) (hk : Blk w k T cs) (hT : T ≠ 5) (hkb : k ≠ b) (v : Value) : IsB (w.setCell ⟨k, 0, none⟩ v) b l := by
  have hgr : w.grownBy (w.setCell ⟨k, 0, none⟩ v) (some k) := ⟨rfl, rfl, rfl, by simp, fun i _ hi => Below.heap_setCell _ _ _ _ (fun e => hi (by simp [e]))⟩
  unfold IsB at h ⊢
  rcases h with ⟨h1, u, h2, h3, h4⟩ | ⟨h1, u, h2, h3, h4⟩
  · exact .inl ⟨h1, u, (Below.heap_setCell _ _ _ _ (Ne.symm hkb)).trans h2, h3.kept hgr (.inr (Lib.ownBlock_neF h3 hk.heap hT)), h4⟩
  · exact .inr ⟨h1, u, (Below.heap_setCell _ _ _ _ (Ne.symm hkb)).trans h2, h3.kept hgr (.inr (Lib.ownBlock_neF h3 hk.heap hT)), h4⟩
set_option maxRecDepth 100000 in
theorem writes0 (w : World) (b f g : Nat) (hB : IsB w b []) (hG : Blk w g 79 #[nilS, nilS, nilS]) (hF : Blk w f 292 #[.func (.func 195) #[] #[.pointer (some ⟨g, 0, none⟩)]]) (hgb : g < b) :
    Calls Tryz.prog 250 #[.pointer (some ⟨f, 0, none⟩), .pointer (some ⟨b, 0, none⟩)] w fun e w' => e = .returned (.tuple #[]) ∧ IsB w' b encG ∧ Below b w w' ∧ Oth b w w' := by
  have hc := hF.cell 0
  have HB := Lib.hid hB
  clear hB
  go_enter Tryz.func250, Tryz.ntmps250
  go_wp2_with fail
  refine (encode1 w b g HB.out hG hgb).mono ?_
  rintro e w1 ⟨rfl, h1⟩
  go_wp2_with fail
  go_end0
  exact ⟨rfl, h1⟩
set_option maxRecDepth 100000 in
set_option maxHeartbeats 1000000 in
theorem written0 (w : World) (g : Nat) (hG : Blk w g 79 #[nilS, nilS, nilS]) :
    Calls Tryz.prog 194 #[.func (.func 195) #[] #[.pointer (some ⟨g, 0, none⟩)]] w fun e w' => e = .returned (.tuple #[.string ⟨encG.toArray⟩, .bool true]) ∧ Below w.heap.size w w' := by
  have HG := Lib.hid hG
  have hlt := hG.lt
  clear hG
  go_enter Tryz.func194, Tryz.ntmps194
  go_wp2_with fail
  have hB0 := IsB.new (w.alloc (.cells #[.func (.func 195) #[] #[.pointer (some ⟨g, 0, none⟩)]] 292))
  have hF0 : Blk ((w.alloc (.cells #[.func (.func 195) #[] #[.pointer (some ⟨g, 0, none⟩)]] 292)).alloc (.cells #[.pointer none, .slice none 0 0] 315)) w.heap.size 292 #[.func (.func 195) #[] #[.pointer (some ⟨g, 0, none⟩)]] := (Blk.new w 292 _).alloc _
  have hW0 : Below w.heap.size w ((w.alloc (.cells #[.func (.func 195) #[] #[.pointer (some ⟨g, 0, none⟩)]] 292)).alloc (.cells #[.pointer none, .slice none 0 0] 315)) := ((Below.refl _ _).alloc (Nat.le_refl _) _).alloc (by simp) _
  have hs0 : ((w.alloc (.cells #[.func (.func 195) #[] #[.pointer (some ⟨g, 0, none⟩)]] 292)).alloc (.cells #[.pointer none, .slice none 0 0] 315)).heap.size = w.heap.size + 2 := by simp
  simp only [World.size_alloc] at hB0
  obtain ⟨W, hW⟩ : ∃ W, W = (w.alloc (.cells #[.func (.func 195) #[] #[.pointer (some ⟨g, 0, none⟩)]] 292)).alloc (.cells #[.pointer none, .slice none 0 0] 315) := ⟨_, rfl⟩
  rw [← hW] at hB0 hF0 hW0 hs0 ⊢
  clear hW
  have hB1 := hB0.alloc (.cells #[.bool false] 4)
  have hF1 := hF0.alloc (.cells #[.bool false] 4)
  have hG1 := (HG.out.below hW0 hlt).alloc (.cells #[.bool false] 4)
  have hK := Blk.new W 4 #[.bool false]
  have ht := gtry_ok W 250 #[.pointer (some ⟨w.heap.size, 0, none⟩), .pointer (some ⟨w.heap.size + 1, 0, none⟩)] (fun V => IsB V (w.heap.size + 1) encG ∧ Below (w.heap.size + 1) (W.alloc (.cells #[.bool false] 4)) V ∧ Oth (w.heap.size + 1) (W.alloc (.cells #[.bool false] 4)) V) (enters_of Tryz.func250 (by kernel_rfl) rfl)
    (writes0 _ (w.heap.size + 1) w.heap.size g hB1 hG1 hF1 (by omega)) (fun V hV => hV.2.2 _ _ hK (by simp; omega) (by simp))
  have HT := Lib.hid ht
  clear ht hB0 hB1 hF0 hF1 hG1 hK
  refine HT.out.mono ?_
  rintro e w1 ⟨rfl, V, ⟨hV1, hV2, hV3⟩, rfl⟩
  have hK := Blk.new W 4 #[.bool false]
  have hKV : Blk V W.heap.size 4 #[.bool false] := hV3 _ _ hK (by simp; omega) (by simp)
  have hB2 := Lib.hid ((hV1.setCell hKV (by decide) (by omega) (.bool true)).setCell (set_same hKV true) (by decide) (by omega) (.bool true))
  have hW2 := Lib.hid (((hW0.alloc (by omega) (.cells #[.bool false] 4)).trans (hV2.mono (by omega))).setCell (p := ⟨W.heap.size, 0, none⟩) (by show w.heap.size ≤ W.heap.size; omega) (.bool true) |>.setCell (p := ⟨W.heap.size, 0, none⟩) (by show w.heap.size ≤ W.heap.size; omega) (.bool true))
  obtain ⟨U, hU⟩ : ∃ U, U = (V.setCell ⟨W.heap.size, 0, none⟩ (.bool true)).setCell ⟨W.heap.size, 0, none⟩ (.bool true) := ⟨_, rfl⟩
  rw [← hU] at hB2 hW2 ⊢
  clear hU hKV hK hV1 hV2 hV3 HT
  go_wp2_with fail
  refine (builder_string U (w.heap.size + 1) encG hB2.out).mono ?_
  rintro e w3 ⟨rfl, h3⟩
  go_wp2_with fail
  go_ret2
  exact ⟨rfl, hW2.out.trans (h3.mono (by omega))⟩
set_option maxRecDepth 100000 in
/-- graph.Encode of the empty graph -/
theorem encode0 (w : World) : Calls Tryz.prog 139 #[g0] w fun e w' => e = .returned (.tuple #[.string ⟨encG.toArray⟩, .int .i64 0]) ∧ Below w.heap.size w w' := by
  go_enter Tryz.func139, Tryz.ntmps139
  go_wp2_with fail
  refine (valid0 _).mono ?_
  rintro e w1 ⟨rfl, h1⟩
  have hG := (Blk.new w 79 #[nilS, nilS, nilS]).below h1 (by simp)
  have hW1 := ((Below.refl _ w).alloc (Nat.le_refl _) (.cells #[nilS, nilS, nilS] 79)).trans (h1.mono (by simp))
  have hs1 := hW1.size
  clear h1
  go_wp2_with fail
  refine (written0 w1 w.heap.size hG).mono ?_
  rintro e w2 ⟨rfl, h2⟩
  go_wp2_with fail
  go_ret2
  exact ⟨rfl, hW1.trans (h2.mono hs1)⟩
end Go.Proofs.YtnehgpeelgjjhaaGreatDoor.Tw
