/- Contracts of functions of the program, and plain laws, towards the laws of replicas. Joined of the texts: Merge, HearP, Hear, SameR, RunP, Mot. -/
import Derived.Test.YtnehgpeelgjjhaaGreatDoorW02
import Derived.Deep.Cut
set_option linter.all false
namespace Go.Proofs.YtnehgpeelgjjhaaGreatDoor.Tw
open Go.RowKit

theorem encPs_cons (p : Rp.Post) (l : List Rp.Post) : encPs (p :: l) = encP p ++ encPs l := rfl

theorem Reads.tail {w : World} {B b off n : Nat} {p : Rp.Post} {l : List Rp.Post} (h : Reads w B 4 (some ⟨b, off, none⟩) (n + 1) (encPs (p :: l))) : Reads w B 4 (some ⟨b, off + 4, none⟩) n (encPs l) := by
  refine ⟨by have := h.1; rw [encPs_cons, List.length_append] at this; simp [encP] at this; omega, fun _ => ?_⟩
  obtain ⟨b', off', e, hb, hc⟩ := h.2 (by omega)
  injection e with e
  injection e with e1 e2
  subst e1 e2
  refine ⟨b, off + 4, rfl, hb, fun j u hu => ?_⟩
  have := hc (4 + j) u (by rw [encPs_cons, List.getElem?_append_right (by simp [encP])]; simpa [encP] using hu)
  rw [show off + 4 + j = off + (4 + j) by omega]
  exact this

/-- a[1:] of a slice of posts -/
theorem tail_any {w : World} {B n c : Nat} {A : Option Addr} {p : Rp.Post} {l : List Rp.Post} (h : Reads w B 4 A (n + 1) (encPs (p :: l))) (hc : n + 1 ≤ c) :
    ∃ A1, (∀ w', (Instr.sliceAt 23 (.slice A (n + 1) c) (some (.int .i64 1)) none none).run Tryz.prog w' = .ok (.slice A1 n (c - 1)) w') ∧ Reads w B 4 A1 n (encPs l) := by
  obtain ⟨b, off, e, hb, hcell⟩ := h.2 (by omega)
  subst e
  by_cases h1 : c = 1
  · refine ⟨some ⟨b, off, none⟩, fun w' => ?_, ?_⟩
    · subst h1
      have : n = 0 := by omega
      subst this
      go_simp
    · have hn : n = 0 := by omega
      subst hn
      have hl := h.1
      rw [encPs_cons, List.length_append] at hl
      have : encPs l = [] := List.eq_nil_of_length_eq_zero (by simp [encP] at hl; simpa using hl)
      rw [this]
      exact ⟨by simp, fun h => absurd h (by omega)⟩
  · refine ⟨some ⟨b, off + 4, none⟩, fun w' => ?_, h.tail⟩
    go_simp
    intro h; omega






theorem merge_a {x : Rp.Post} {a : List Rp.Post} : Rp.merge (x :: a) [] = x :: Rp.merge a [] := by rw [Rp.merge]
theorem merge_b {y : Rp.Post} {b : List Rp.Post} : Rp.merge [] (y :: b) = y :: Rp.merge [] b := by rw [Rp.merge]
theorem merge_lt {x y : Rp.Post} {a b : List Rp.Post} (h : Rp.before x y = true) : Rp.merge (x :: a) (y :: b) = x :: Rp.merge a (y :: b) := by rw [Rp.merge, if_pos h]
theorem merge_eq {x y : Rp.Post} {a b : List Rp.Post} (h : ¬ Rp.before x y = true) (e : x = y) : Rp.merge (x :: a) (y :: b) = Rp.merge a (y :: b) := by rw [Rp.merge, if_neg h, if_pos e]
theorem merge_gt {x y : Rp.Post} {a b : List Rp.Post} (h : ¬ Rp.before x y = true) (e : ¬ x = y) : Rp.merge (x :: a) (y :: b) = y :: Rp.merge (x :: a) b := by rw [Rp.merge, if_neg h, if_neg e]

/-- what one round of merge begins with -/
structure Mid (w wr : World) (M : List Rp.Post) (N : Nat) (xa xb done : List Rp.Post) (A1 : Option Addr) (n1 c1 : Nat) (A2 : Option Addr) (n2 c2 : Nat) (A3 : Option Addr) (n3 c3 : Nat) : Prop where
  ra : Reads wr w.heap.size 4 A1 n1 (encPs xa)
  la : xa.length = n1
  ca : n1 ≤ c1
  rb : Reads wr w.heap.size 4 A2 n2 (encPs xb)
  lb : xb.length = n2
  cb : n2 ≤ c2
  own : wr.ownsRow w.heap.size 57 4 (.slice A3 n3 c3) n3 (encPs done)
  ld : done.length = n3
  eq : M = done ++ Rp.merge xa xb
  few : n1 + n2 + n3 ≤ N
  below : Below w.heap.size w wr

def lenOf : Value → Nat
  | .slice _ n _ => n
  | _ => 0

set_option maxRecDepth 100000 in
set_option maxHeartbeats 3200000 in
theorem merge_any (w : World) (A : Option Addr) (n c : Nat) (l : List Rp.Post) (A' : Option Addr) (n' c' : Nat) (l' : List Rp.Post)
    (hx : Reads w w.heap.size 4 A n (encPs l)) (hl : l.length = n) (hc : n ≤ c) (hx' : Reads w w.heap.size 4 A' n' (encPs l')) (hl' : l'.length = n') (hc' : n' ≤ c') (hn : n + n' ≤ 16777216) :
    Calls Tryz.prog 65 #[.slice A n c, .slice A' n' c', .func (.func 63) #[] #[], .func (.func 66) #[] #[]] w fun e w' => ∃ A3 n3 c3, e = .returned (.slice A3 n3 c3) ∧
      w'.ownsRow w.heap.size 57 4 (.slice A3 n3 c3) n3 (encPs (Rp.merge l l')) ∧ (Rp.merge l l').length = n3 ∧ Below w.heap.size w w' := by
  have H0 := Lib.hid (show Mid w w (Rp.merge l l') (n + n') l l' [] A n c A' n' c' none 0 0 from
    ⟨hx, hl, hc, hx', hl', hc', World.ownsRow_nil _ _ _ _, rfl, rfl, by omega, Below.refl _ _⟩)
  obtain ⟨i0, hi0, hz0, hz1, hz2⟩ := info_parts info57
  clear hx hl hc hx' hl' hc'
  generalize Rp.merge l l' = M at *
  go_enter Tryz.func65, Tryz.ntmps65
  go_wp2
  go_loopw [0, 1, 9] (fun s0 s1 s9 wr => ∃ la lb done A1 n1 c1 A2 n2 c2 A3 n3 c3, s0 = .slice A1 n1 c1 ∧ s1 = .slice A2 n2 c2 ∧ s9 = .slice A3 n3 c3 ∧ Hid (Mid w wr M (n + n') la lb done A1 n1 c1 A2 n2 c2 A3 n3 c3)) (fun s0 s1 _ _ => lenOf s0 + lenOf s1)
  case atStart => exact ⟨l, l', [], A, n, c, A', n', c', none, 0, 0, rfl, rfl, rfl, H0⟩
  case round =>
    obtain ⟨la, lb, done, A1, n1, c1, A2, n2, c2, A3, n3, c3, rfl, rfl, rfl, hM⟩ := hrel
    rcases la with _ | ⟨x, la⟩
    · have e1 : n1 = 0 := hM.out.la.symm
      subst e1
      rcases lb with _ | ⟨y, lb⟩
      · have e2 : n2 = 0 := hM.out.lb.symm
        subst e2
        have HE := Lib.hid (show M = done by rw [hM.out.eq, Rp.merge]; simp)
        go_wp2
        go_ret
        exact ⟨A3, n3, c3, rfl, by rw [HE.out]; exact hM.out.own, by rw [HE.out]; exact hM.out.ld, hM.out.below⟩
      · obtain ⟨m, rfl⟩ : ∃ m, n2 = m + 1 := ⟨lb.length, hM.out.lb.symm⟩
        have z1 : decide ((m : Int) + 1 = 0) = false := by simp; omega
        have z2 : ((m : Int) + 1 == 0) = false := by simp; omega
        go_wp2
        refine wp_region_later (by kernel_rfl) (by kernel_rfl) ?_
        repeat (go_big_quiet_step (fail))
        refine wpQuiet_nil ?_
        rintro W1 ⟨⟨_, hW1⟩, rfl⟩
        go_wp2
        refine wp_region_later (by kernel_rfl) (by kernel_rfl) ?_
        repeat (go_big_quiet_step (fail))
        refine wpQuiet_nil ?_
        rintro W2 ⟨⟨_, hW2⟩, rfl⟩
        obtain ⟨bY, oY, e, hbY, hcell⟩ := hM.out.rb.2 (by omega)
        subst e
        have v0 := hcell 0 _ (rfl : (encPs (y :: lb))[0]? = some (.int .i64 y.epoch))
        have v1 := hcell 1 _ (rfl : (encPs (y :: lb))[1]? = some (.int .i64 y.origin))
        have v2 := hcell 2 _ (rfl : (encPs (y :: lb))[2]? = some (.int .i64 y.number))
        have v3 := hcell 3 _ (rfl : (encPs (y :: lb))[3]? = some (.string y.text))
        simp only [Nat.add_zero] at v0
        clear hcell
        have hWW : Below wr.heap.size wr W2 := hW1.trans (hW2.mono hW1.size)
        have hB := hM.out.below
        have hBs := hB.size
        have hss := hWW.size
        have ow2 := Lib.hid (own_below hM.out.own hWW)
        have rb2 := hM.out.rb.below (hWW.mono hBs)
        obtain ⟨A4, hsl, rt⟩ := tail_any rb2 hM.out.cb
        have p0 := (hWW.cell (p := ⟨bY, oY, none⟩) (show bY < wr.heap.size by omega)).trans v0
        have p1 := (hWW.cell (p := ⟨bY, oY + 1, none⟩) (show bY < wr.heap.size by omega)).trans v1
        have p2 := (hWW.cell (p := ⟨bY, oY + 2, none⟩) (show bY < wr.heap.size by omega)).trans v2
        have p3 := (hWW.cell (p := ⟨bY, oY + 3, none⟩) (show bY < wr.heap.size by omega)).trans v3
        have hfew := hM.out.few
        have N1 := Lib.hid (block_not ow2.out (g := bY) (.inl hbY))
        have hbW : bY < W2.heap.size := by omega
        have hca := hM.out.ca
        have hcb := hM.out.cb
        have RT := Lib.hid rt
        have HB := Lib.hid hB
        have HWW := Lib.hid hWW
        clear rb2 rt hWW hB
        go_wp2
        go_region_held3 (fun w' => w'.cell? ⟨bY, oY, none⟩ = some (.int .i64 y.epoch) ∧ w'.cell? ⟨bY, oY + 1, none⟩ = some (.int .i64 y.origin) ∧ w'.cell? ⟨bY, oY + 2, none⟩ = some (.int .i64 y.number) ∧ w'.cell? ⟨bY, oY + 3, none⟩ = some (.string y.text))
          (first
            | go_keep
            | (exact ⟨(hgrow.cell_far ⟨bY, oY, none⟩ (by simp; omega) N1.out).trans ((hb7.cell (p := ⟨bY, oY, none⟩) hbW).trans p0), (hgrow.cell_far ⟨bY, oY + 1, none⟩ (by simp; omega) N1.out).trans ((hb7.cell (p := ⟨bY, oY + 1, none⟩) hbW).trans p1), (hgrow.cell_far ⟨bY, oY + 2, none⟩ (by simp; omega) N1.out).trans ((hb7.cell (p := ⟨bY, oY + 2, none⟩) hbW).trans p2), (hgrow.cell_far ⟨bY, oY + 3, none⟩ (by simp; omega) N1.out).trans ((hb7.cell (p := ⟨bY, oY + 3, none⟩) hbW).trans p3)⟩))
          (first
            | (refine step_append_lies _ (by rfl) _ _ _ (by rfl) w.heap.size 57 i0 _ 4 40 Tryz.underlying23 hi0 hz0 hz1 hz2 rfl (by omega) (.slice A3 n3 c3) n3 (encPs done) (by rfl) ((ow2.out.alloc _).drew)
                ⟨W2.heap.size, 0, none⟩ 1 1 [.int .i64 y.epoch, .int .i64 y.origin, .int .i64 y.number, .string y.text] (by rfl) (by rfl)
                (World.news_of_block (cs := #[.int .i64 y.epoch, .int .i64 y.origin, .int .i64 y.number, .string y.text]) (t := 57) (fr := (0, 0)) (heap_alloc_new W2 _)) (by simp [Value.oneCell'])
                (by omega) (by simp only [maxLen]; omega) (by omega) (by simp; omega) (W2.heap.size + 1) (by simp) ?_
               intro g cap w5 hown5 hgrow hat hlt5
               have hb7 := (Below.refl W2.heap.size W2).alloc (Nat.le_refl _) (.cells #[.int .i64 y.epoch, .int .i64 y.origin, .int .i64 y.number, .string y.text] 57)))
        have B25 : Below w.heap.size W2 w5 := (((Below.refl w.heap.size W2).alloc (by omega) _).drew).grown hgrow (by simp; omega) (fun j hj => (ow2.out.lt j hj).1)
        have HM5 := Lib.hid (show Mid w w5 M (n + n') ([]) (lb) (done ++ [y]) (A1) (0) (c1) (A4) (m) (c2 - 1) (some ⟨g, 0, none⟩) (n3 + 1) cap from
          ⟨hM.out.ra.below ((HWW.out.mono hBs).trans B25), hM.out.la, hM.out.ca, RT.out.below B25, by have := hM.out.lb; simpa using this, by omega, by rw [encPs_snoc]; exact hown5, by simp [hM.out.ld], by rw [hM.out.eq, merge_b]; simp, by omega, HB.out.trans ((HWW.out.mono hBs).trans B25)⟩)
        clear hown5 hgrow hb7 p0 p1 p2 p3 B25
        go_wp2
        go_roundw
        case rel => exact ⟨[], lb, done ++ [y], A1, 0, c1, A4, m, c2 - 1, some ⟨g, 0, none⟩, n3 + 1, cap, rfl, rfl, rfl, HM5⟩
        case measure => simp [lenOf]; try omega
    · obtain ⟨m1, rfl⟩ : ∃ m1, n1 = m1 + 1 := ⟨la.length, hM.out.la.symm⟩
      have y1 : decide ((0 : Int) < (m1 : Int) + 1) = true := by simp only [decide_eq_true_eq]; omega
      rcases lb with _ | ⟨y, lb⟩
      · have e2 : n2 = 0 := hM.out.lb.symm
        subst e2
        go_wp2
        refine wp_region_later (by kernel_rfl) (by kernel_rfl) ?_
        repeat (go_big_quiet_step (fail))
        refine wpQuiet_nil ?_
        rintro W1 ⟨⟨_, hW1⟩, rfl⟩
        obtain ⟨bx, ox, e, hbx, hcell⟩ := hM.out.ra.2 (by omega)
        subst e
        have u0 := hcell 0 _ (rfl : (encPs (x :: la))[0]? = some (.int .i64 x.epoch))
        have u1 := hcell 1 _ (rfl : (encPs (x :: la))[1]? = some (.int .i64 x.origin))
        have u2 := hcell 2 _ (rfl : (encPs (x :: la))[2]? = some (.int .i64 x.number))
        have u3 := hcell 3 _ (rfl : (encPs (x :: la))[3]? = some (.string x.text))
        simp only [Nat.add_zero] at u0
        clear hcell
        have hWW : Below wr.heap.size wr W1 := hW1
        have hB := hM.out.below
        have hBs := hB.size
        have hss := hWW.size
        have ow2 := Lib.hid (own_below hM.out.own hWW)
        have rb2 := hM.out.ra.below (hWW.mono hBs)
        obtain ⟨A4, hsl, rt⟩ := tail_any rb2 hM.out.ca
        have p0 := (hWW.cell (p := ⟨bx, ox, none⟩) (show bx < wr.heap.size by omega)).trans u0
        have p1 := (hWW.cell (p := ⟨bx, ox + 1, none⟩) (show bx < wr.heap.size by omega)).trans u1
        have p2 := (hWW.cell (p := ⟨bx, ox + 2, none⟩) (show bx < wr.heap.size by omega)).trans u2
        have p3 := (hWW.cell (p := ⟨bx, ox + 3, none⟩) (show bx < wr.heap.size by omega)).trans u3
        have hfew := hM.out.few
        have N1 := Lib.hid (block_not ow2.out (g := bx) (.inl hbx))
        have hbW : bx < W1.heap.size := by omega
        have hca := hM.out.ca
        have hcb := hM.out.cb
        have RT := Lib.hid rt
        have HB := Lib.hid hB
        have HWW := Lib.hid hWW
        clear rb2 rt hWW hB
        go_wp2
        go_region_held3 (fun w' => w'.cell? ⟨bx, ox, none⟩ = some (.int .i64 x.epoch) ∧ w'.cell? ⟨bx, ox + 1, none⟩ = some (.int .i64 x.origin) ∧ w'.cell? ⟨bx, ox + 2, none⟩ = some (.int .i64 x.number) ∧ w'.cell? ⟨bx, ox + 3, none⟩ = some (.string x.text))
          (first
            | go_keep
            | (exact ⟨(hgrow.cell_far ⟨bx, ox, none⟩ (by simp; omega) N1.out).trans ((hb7.cell (p := ⟨bx, ox, none⟩) hbW).trans p0), (hgrow.cell_far ⟨bx, ox + 1, none⟩ (by simp; omega) N1.out).trans ((hb7.cell (p := ⟨bx, ox + 1, none⟩) hbW).trans p1), (hgrow.cell_far ⟨bx, ox + 2, none⟩ (by simp; omega) N1.out).trans ((hb7.cell (p := ⟨bx, ox + 2, none⟩) hbW).trans p2), (hgrow.cell_far ⟨bx, ox + 3, none⟩ (by simp; omega) N1.out).trans ((hb7.cell (p := ⟨bx, ox + 3, none⟩) hbW).trans p3)⟩))
          (first
            | (refine step_append_lies _ (by rfl) _ _ _ (by rfl) w.heap.size 57 i0 _ 4 40 Tryz.underlying23 hi0 hz0 hz1 hz2 rfl (by omega) (.slice A3 n3 c3) n3 (encPs done) (by rfl) ((ow2.out.alloc _).drew)
                ⟨W1.heap.size, 0, none⟩ 1 1 [.int .i64 x.epoch, .int .i64 x.origin, .int .i64 x.number, .string x.text] (by rfl) (by rfl)
                (World.news_of_block (cs := #[.int .i64 x.epoch, .int .i64 x.origin, .int .i64 x.number, .string x.text]) (t := 57) (fr := (0, 0)) (heap_alloc_new W1 _)) (by simp [Value.oneCell'])
                (by omega) (by simp only [maxLen]; omega) (by omega) (by simp; omega) (W1.heap.size + 1) (by simp) ?_
               intro g cap w5 hown5 hgrow hat hlt5
               have hb7 := (Below.refl W1.heap.size W1).alloc (Nat.le_refl _) (.cells #[.int .i64 x.epoch, .int .i64 x.origin, .int .i64 x.number, .string x.text] 57)))
        have B25 : Below w.heap.size W1 w5 := (((Below.refl w.heap.size W1).alloc (by omega) _).drew).grown hgrow (by simp; omega) (fun j hj => (ow2.out.lt j hj).1)
        have HM5 := Lib.hid (show Mid w w5 M (n + n') (la) ([]) (done ++ [x]) (A4) (m1) (c1 - 1) (A2) (0) (c2) (some ⟨g, 0, none⟩) (n3 + 1) cap from
          ⟨RT.out.below B25, by have := hM.out.la; simpa using this, by omega, hM.out.rb.below ((HWW.out.mono hBs).trans B25), hM.out.lb, hM.out.cb, by rw [encPs_snoc]; exact hown5, by simp [hM.out.ld], by rw [hM.out.eq, merge_a]; simp, by omega, HB.out.trans ((HWW.out.mono hBs).trans B25)⟩)
        clear hown5 hgrow hb7 p0 p1 p2 p3 B25
        go_wp2
        go_roundw
        case rel => exact ⟨la, [], done ++ [x], A4, m1, c1 - 1, A2, 0, c2, some ⟨g, 0, none⟩, n3 + 1, cap, rfl, rfl, rfl, HM5⟩
        case measure => simp [lenOf]; try omega
      · obtain ⟨m, rfl⟩ : ∃ m, n2 = m + 1 := ⟨lb.length, hM.out.lb.symm⟩
        have z1 : decide ((m : Int) + 1 = 0) = false := by simp; omega
        have z2 : ((m : Int) + 1 == 0) = false := by simp; omega
        obtain ⟨bx, ox, e, hbx, hcell⟩ := hM.out.ra.2 (by omega)
        subst e
        have u0 := hcell 0 _ (rfl : (encPs (x :: la))[0]? = some (.int .i64 x.epoch))
        have u1 := hcell 1 _ (rfl : (encPs (x :: la))[1]? = some (.int .i64 x.origin))
        have u2 := hcell 2 _ (rfl : (encPs (x :: la))[2]? = some (.int .i64 x.number))
        have u3 := hcell 3 _ (rfl : (encPs (x :: la))[3]? = some (.string x.text))
        simp only [Nat.add_zero] at u0
        clear hcell
        obtain ⟨bY, oY, e, hbY, hcell⟩ := hM.out.rb.2 (by omega)
        subst e
        have v0 := hcell 0 _ (rfl : (encPs (y :: lb))[0]? = some (.int .i64 y.epoch))
        have v1 := hcell 1 _ (rfl : (encPs (y :: lb))[1]? = some (.int .i64 y.origin))
        have v2 := hcell 2 _ (rfl : (encPs (y :: lb))[2]? = some (.int .i64 y.number))
        have v3 := hcell 3 _ (rfl : (encPs (y :: lb))[3]? = some (.string y.text))
        simp only [Nat.add_zero] at v0
        clear hcell
        have ku0 := Later.of u0
        have kv0 := Later.of v0
        have ku1 := Later.of u1
        have kv1 := Later.of v1
        have ku2 := Later.of u2
        have kv2 := Later.of v2
        have ku3 := Later.of u3
        have kv3 := Later.of v3
        have H63 := hear1_any x y
        have H66 := hear2_any x y
        unfold aggP at H63 H66
        have hcm := cmp3_before x y
        generalize cmp3 x.epoch x.origin x.number y.epoch y.origin y.number = d at H63 hcm
        by_cases hbe : Rp.before x y = true
        · have hd : decide (d < 0) = true := hcm.symm.trans hbe
          have h63 := Lib.hid H63
          have hbe' := Lib.hid hbe
          clear H63 H66 hcm hbe
          go_wp2
          refine wp_region_later (by kernel_rfl) (by kernel_rfl) ?_
          repeat (go_big_quiet_step ((go_at_call 63; exact later_of (h63.out _))))
          refine wpQuiet_nil ?_
          rintro W1 ⟨⟨_, hW1⟩, rfl⟩
          clear ku0 ku1 ku2 ku3 kv0 kv1 kv2 kv3
          have hWW : Below wr.heap.size wr W1 := hW1
          have hB := hM.out.below
          have hBs := hB.size
          have hss := hWW.size
          have ow2 := Lib.hid (own_below hM.out.own hWW)
          have rb2 := hM.out.ra.below (hWW.mono hBs)
          obtain ⟨A4, hsl, rt⟩ := tail_any rb2 hM.out.ca
          have p0 := (hWW.cell (p := ⟨bx, ox, none⟩) (show bx < wr.heap.size by omega)).trans u0
          have p1 := (hWW.cell (p := ⟨bx, ox + 1, none⟩) (show bx < wr.heap.size by omega)).trans u1
          have p2 := (hWW.cell (p := ⟨bx, ox + 2, none⟩) (show bx < wr.heap.size by omega)).trans u2
          have p3 := (hWW.cell (p := ⟨bx, ox + 3, none⟩) (show bx < wr.heap.size by omega)).trans u3
          have hfew := hM.out.few
          have N1 := Lib.hid (block_not ow2.out (g := bx) (.inl hbx))
          have hbW : bx < W1.heap.size := by omega
          have hca := hM.out.ca
          have hcb := hM.out.cb
          have RT := Lib.hid rt
          have HB := Lib.hid hB
          have HWW := Lib.hid hWW
          clear rb2 rt hWW hB
          go_wp2
          go_region_held3 (fun w' => w'.cell? ⟨bx, ox, none⟩ = some (.int .i64 x.epoch) ∧ w'.cell? ⟨bx, ox + 1, none⟩ = some (.int .i64 x.origin) ∧ w'.cell? ⟨bx, ox + 2, none⟩ = some (.int .i64 x.number) ∧ w'.cell? ⟨bx, ox + 3, none⟩ = some (.string x.text))
            (first
              | go_keep
              | (exact ⟨(hgrow.cell_far ⟨bx, ox, none⟩ (by simp; omega) N1.out).trans ((hb7.cell (p := ⟨bx, ox, none⟩) hbW).trans p0), (hgrow.cell_far ⟨bx, ox + 1, none⟩ (by simp; omega) N1.out).trans ((hb7.cell (p := ⟨bx, ox + 1, none⟩) hbW).trans p1), (hgrow.cell_far ⟨bx, ox + 2, none⟩ (by simp; omega) N1.out).trans ((hb7.cell (p := ⟨bx, ox + 2, none⟩) hbW).trans p2), (hgrow.cell_far ⟨bx, ox + 3, none⟩ (by simp; omega) N1.out).trans ((hb7.cell (p := ⟨bx, ox + 3, none⟩) hbW).trans p3)⟩))
            (first
              | (refine step_append_lies _ (by rfl) _ _ _ (by rfl) w.heap.size 57 i0 _ 4 40 Tryz.underlying23 hi0 hz0 hz1 hz2 rfl (by omega) (.slice A3 n3 c3) n3 (encPs done) (by rfl) ((ow2.out.alloc _).drew)
                  ⟨W1.heap.size, 0, none⟩ 1 1 [.int .i64 x.epoch, .int .i64 x.origin, .int .i64 x.number, .string x.text] (by rfl) (by rfl)
                  (World.news_of_block (cs := #[.int .i64 x.epoch, .int .i64 x.origin, .int .i64 x.number, .string x.text]) (t := 57) (fr := (0, 0)) (heap_alloc_new W1 _)) (by simp [Value.oneCell'])
                  (by omega) (by simp only [maxLen]; omega) (by omega) (by simp; omega) (W1.heap.size + 1) (by simp) ?_
                 intro g cap w5 hown5 hgrow hat hlt5
                 have hb7 := (Below.refl W1.heap.size W1).alloc (Nat.le_refl _) (.cells #[.int .i64 x.epoch, .int .i64 x.origin, .int .i64 x.number, .string x.text] 57)))
          have B25 : Below w.heap.size W1 w5 := (((Below.refl w.heap.size W1).alloc (by omega) _).drew).grown hgrow (by simp; omega) (fun j hj => (ow2.out.lt j hj).1)
          have HM5 := Lib.hid (show Mid w w5 M (n + n') (la) (y :: lb) (done ++ [x]) (A4) (m1) (c1 - 1) ((some ⟨bY, oY, none⟩)) (m + 1) (c2) (some ⟨g, 0, none⟩) (n3 + 1) cap from
            ⟨RT.out.below B25, by have := hM.out.la; simpa using this, by omega, hM.out.rb.below ((HWW.out.mono hBs).trans B25), hM.out.lb, hM.out.cb, by rw [encPs_snoc]; exact hown5, by simp [hM.out.ld], by rw [hM.out.eq, merge_lt hbe'.out]; simp, by omega, HB.out.trans ((HWW.out.mono hBs).trans B25)⟩)
          clear hown5 hgrow hb7 p0 p1 p2 p3 B25
          go_wp2
          go_roundw
          case rel => exact ⟨la, y :: lb, done ++ [x], A4, m1, c1 - 1, (some ⟨bY, oY, none⟩), m + 1, c2, some ⟨g, 0, none⟩, n3 + 1, cap, rfl, rfl, rfl, HM5⟩
          case measure => simp [lenOf]; try omega
        · have hd : decide (d < 0) = false := by rw [← hcm]; simpa using hbe
          have h63 := Lib.hid H63
          have hbe' := Lib.hid hbe
          clear H63 hcm hbe
          go_wp2
          refine wp_region_later (by kernel_rfl) (by kernel_rfl) ?_
          repeat (go_big_quiet_step ((go_at_call 63; exact later_of (h63.out _))))
          refine wpQuiet_nil ?_
          rintro W1 ⟨⟨_, hW1⟩, rfl⟩
          have lu0 := Later.of ((hW1.cell (p := ⟨bx, ox, none⟩) (show bx < wr.heap.size by have := hM.out.below.size; omega)).trans u0)
          have lu1 := Later.of ((hW1.cell (p := ⟨bx, ox + 1, none⟩) (show bx < wr.heap.size by have := hM.out.below.size; omega)).trans u1)
          have lu2 := Later.of ((hW1.cell (p := ⟨bx, ox + 2, none⟩) (show bx < wr.heap.size by have := hM.out.below.size; omega)).trans u2)
          have lu3 := Later.of ((hW1.cell (p := ⟨bx, ox + 3, none⟩) (show bx < wr.heap.size by have := hM.out.below.size; omega)).trans u3)
          have lv0 := Later.of ((hW1.cell (p := ⟨bY, oY, none⟩) (show bY < wr.heap.size by have := hM.out.below.size; omega)).trans v0)
          have lv1 := Later.of ((hW1.cell (p := ⟨bY, oY + 1, none⟩) (show bY < wr.heap.size by have := hM.out.below.size; omega)).trans v1)
          have lv2 := Later.of ((hW1.cell (p := ⟨bY, oY + 2, none⟩) (show bY < wr.heap.size by have := hM.out.below.size; omega)).trans v2)
          have lv3 := Later.of ((hW1.cell (p := ⟨bY, oY + 3, none⟩) (show bY < wr.heap.size by have := hM.out.below.size; omega)).trans v3)
          clear ku0 ku1 ku2 ku3 kv0 kv1 kv2 kv3
          by_cases hxy : x = y
          · have he : decide (x = y) = true := by simpa using hxy
            rw [he] at H66
            have h66 := Lib.hid H66
            have hxy' := Lib.hid hxy
            clear H66 hxy he
            go_wp2
            refine wp_region_later (by kernel_rfl) (by kernel_rfl) ?_
            repeat (go_big_quiet_step ((go_at_call 66; exact later_of (h66.out _))))
            refine wpQuiet_nil ?_
            rintro W2 ⟨⟨_, hW2⟩, rfl⟩
            clear lu0 lu1 lu2 lu3 lv0 lv1 lv2 lv3
            have hWW : Below wr.heap.size wr W2 := hW1.trans (hW2.mono hW1.size)
            have hB := hM.out.below
            have hBs := hB.size
            have hss := hWW.size
            have ow2 := own_below hM.out.own hWW
            have rb2 := hM.out.ra.below (hWW.mono hBs)
            obtain ⟨A4, hsl, rt⟩ := tail_any rb2 hM.out.ca
            have hca := hM.out.ca
            have hfew := hM.out.few
            have HM5 := Lib.hid (show Mid w W2 M (n + n') la (y :: lb) done A4 m1 (c1 - 1) (some ⟨bY, oY, none⟩) (m + 1) c2 A3 n3 c3 from
              ⟨rt, by have := hM.out.la; simpa using this, by omega, hM.out.rb.below (hWW.mono hBs), hM.out.lb, hM.out.cb, ow2, hM.out.ld, by rw [hM.out.eq, merge_eq hbe'.out hxy'.out], by omega, hB.trans (hWW.mono hBs)⟩)
            clear rb2 rt hWW hB ow2
            go_wp2
            go_roundw
            case rel => exact ⟨la, y :: lb, done, A4, m1, c1 - 1, (some ⟨bY, oY, none⟩), m + 1, c2, A3, n3, c3, rfl, rfl, rfl, HM5⟩
            case measure => simp [lenOf]; try omega
          · have he : decide (x = y) = false := by simpa using hxy
            rw [he] at H66
            have h66 := Lib.hid H66
            have hxy' := Lib.hid hxy
            clear H66 hxy he
            go_wp2
            refine wp_region_later (by kernel_rfl) (by kernel_rfl) ?_
            repeat (go_big_quiet_step ((go_at_call 66; exact later_of (h66.out _))))
            refine wpQuiet_nil ?_
            rintro W2 ⟨⟨_, hW2⟩, rfl⟩
            clear lu0 lu1 lu2 lu3 lv0 lv1 lv2 lv3
            have hWW : Below wr.heap.size wr W2 := hW1.trans (hW2.mono hW1.size)
            have hB := hM.out.below
            have hBs := hB.size
            have hss := hWW.size
            have ow2 := Lib.hid (own_below hM.out.own hWW)
            have rb2 := hM.out.rb.below (hWW.mono hBs)
            obtain ⟨A4, hsl, rt⟩ := tail_any rb2 hM.out.cb
            have p0 := (hWW.cell (p := ⟨bY, oY, none⟩) (show bY < wr.heap.size by omega)).trans v0
            have p1 := (hWW.cell (p := ⟨bY, oY + 1, none⟩) (show bY < wr.heap.size by omega)).trans v1
            have p2 := (hWW.cell (p := ⟨bY, oY + 2, none⟩) (show bY < wr.heap.size by omega)).trans v2
            have p3 := (hWW.cell (p := ⟨bY, oY + 3, none⟩) (show bY < wr.heap.size by omega)).trans v3
            have hfew := hM.out.few
            have N1 := Lib.hid (block_not ow2.out (g := bY) (.inl hbY))
            have hbW : bY < W2.heap.size := by omega
            have hca := hM.out.ca
            have hcb := hM.out.cb
            have RT := Lib.hid rt
            have HB := Lib.hid hB
            have HWW := Lib.hid hWW
            clear rb2 rt hWW hB
            go_wp2
            go_region_held3 (fun w' => w'.cell? ⟨bY, oY, none⟩ = some (.int .i64 y.epoch) ∧ w'.cell? ⟨bY, oY + 1, none⟩ = some (.int .i64 y.origin) ∧ w'.cell? ⟨bY, oY + 2, none⟩ = some (.int .i64 y.number) ∧ w'.cell? ⟨bY, oY + 3, none⟩ = some (.string y.text))
              (first
                | go_keep
                | (exact ⟨(hgrow.cell_far ⟨bY, oY, none⟩ (by simp; omega) N1.out).trans ((hb7.cell (p := ⟨bY, oY, none⟩) hbW).trans p0), (hgrow.cell_far ⟨bY, oY + 1, none⟩ (by simp; omega) N1.out).trans ((hb7.cell (p := ⟨bY, oY + 1, none⟩) hbW).trans p1), (hgrow.cell_far ⟨bY, oY + 2, none⟩ (by simp; omega) N1.out).trans ((hb7.cell (p := ⟨bY, oY + 2, none⟩) hbW).trans p2), (hgrow.cell_far ⟨bY, oY + 3, none⟩ (by simp; omega) N1.out).trans ((hb7.cell (p := ⟨bY, oY + 3, none⟩) hbW).trans p3)⟩))
              (first
                | (refine step_append_lies _ (by rfl) _ _ _ (by rfl) w.heap.size 57 i0 _ 4 40 Tryz.underlying23 hi0 hz0 hz1 hz2 rfl (by omega) (.slice A3 n3 c3) n3 (encPs done) (by rfl) ((ow2.out.alloc _).drew)
                    ⟨W2.heap.size, 0, none⟩ 1 1 [.int .i64 y.epoch, .int .i64 y.origin, .int .i64 y.number, .string y.text] (by rfl) (by rfl)
                    (World.news_of_block (cs := #[.int .i64 y.epoch, .int .i64 y.origin, .int .i64 y.number, .string y.text]) (t := 57) (fr := (0, 0)) (heap_alloc_new W2 _)) (by simp [Value.oneCell'])
                    (by omega) (by simp only [maxLen]; omega) (by omega) (by simp; omega) (W2.heap.size + 1) (by simp) ?_
                   intro g cap w5 hown5 hgrow hat hlt5
                   have hb7 := (Below.refl W2.heap.size W2).alloc (Nat.le_refl _) (.cells #[.int .i64 y.epoch, .int .i64 y.origin, .int .i64 y.number, .string y.text] 57)))
            have B25 : Below w.heap.size W2 w5 := (((Below.refl w.heap.size W2).alloc (by omega) _).drew).grown hgrow (by simp; omega) (fun j hj => (ow2.out.lt j hj).1)
            have HM5 := Lib.hid (show Mid w w5 M (n + n') (x :: la) (lb) (done ++ [y]) ((some ⟨bx, ox, none⟩)) (m1 + 1) (c1) (A4) (m) (c2 - 1) (some ⟨g, 0, none⟩) (n3 + 1) cap from
              ⟨hM.out.ra.below ((HWW.out.mono hBs).trans B25), hM.out.la, hM.out.ca, RT.out.below B25, by have := hM.out.lb; simpa using this, by omega, by rw [encPs_snoc]; exact hown5, by simp [hM.out.ld], by rw [hM.out.eq, merge_gt hbe'.out hxy'.out]; simp, by omega, HB.out.trans ((HWW.out.mono hBs).trans B25)⟩)
            clear hown5 hgrow hb7 p0 p1 p2 p3 B25
            go_wp2
            go_roundw
            case rel => exact ⟨x :: la, lb, done ++ [y], (some ⟨bx, ox, none⟩), m1 + 1, c1, A4, m, c2 - 1, some ⟨g, 0, none⟩, n3 + 1, cap, rfl, rfl, rfl, HM5⟩
            case measure => simp [lenOf]; try omega
end Go.Proofs.YtnehgpeelgjjhaaGreatDoor.Tw
namespace Go.Proofs.YtnehgpeelgjjhaaGreatDoor.Tw
open Go.RowKit

/-! what Hear's loops come to -/
theorem maxE_take {l : List Rp.Post} {j : Nat} {q : Rp.Post} {c : Int} (h : l[j]? = some q) : Rp.maxE c (l.take (j + 1)) = max (Rp.maxE c (l.take j)) q.epoch := by
  rw [(drop_at h).2]; simp [Rp.maxE]
theorem maxN_take {l : List Int} {j : Nat} {x : Int} {c : Int} (h : l[j]? = some x) : Rp.maxN c (l.take (j + 1)) = max (Rp.maxN c (l.take j)) x := by
  have : l.take (j + 1) = l.take j ++ [x] := by
    obtain ⟨hlt, rfl⟩ := List.getElem?_eq_some_iff.1 h
    rw [List.take_add_one, h]; rfl
  rw [this]; simp [Rp.maxN]

/-- the heard list behind i rounds -/
def hs (me : Nat) (a b : List Int) : Nat → List Int
  | 0 => a
  | i + 1 => if i = me then hs me a b i else (hs me a b i).set i (max ((hs me a b i).getD i 0) (b.getD i 0))
theorem hs_len (me : Nat) (a b : List Int) : ∀ i, (hs me a b i).length = a.length
  | 0 => rfl
  | i + 1 => by
    rw [hs]; split
    · exact hs_len me a b i
    · rw [List.length_set]; exact hs_len me a b i
theorem hs_get (me : Nat) (a b : List Int) : ∀ i j, i ≤ a.length → (hs me a b i).getD j 0 = if j < i ∧ j ≠ me then max (a.getD j 0) (b.getD j 0) else a.getD j 0
  | 0, j, _ => by simp [hs]
  | i + 1, j, h => by
    rw [hs]
    have ih := hs_get me a b i
    have hi : i < (hs me a b i).length := by rw [hs_len]; omega
    by_cases him : i = me
    · rw [if_pos him, ih j (by omega)]
      by_cases hj : j < i ∧ j ≠ me
      · rw [if_pos hj, if_pos (by omega)]
      · rw [if_neg hj, if_neg (by omega)]
    · rw [if_neg him, Rp.getD_set _ _ _ _ hi]
      by_cases hji : j = i
      · subst hji
        rw [if_pos rfl, if_pos (by omega), ih j (by omega), if_neg (by omega)]
      · rw [if_neg hji, ih j (by omega)]
        by_cases hj : j < i ∧ j ≠ me
        · rw [if_pos hj, if_pos (by omega)]
        · rw [if_neg hj, if_neg (by omega)]
theorem hs_at {me : Nat} {a b : List Int} {i : Nat} (h : i ≤ a.length) : (hs me a b i).getD i 0 = a.getD i 0 := by rw [hs_get me a b i i h, if_neg (by omega)]
theorem hs_all (me : Nat) (a b : List Int) : hs me a b a.length = Rp.maxH me a b := by
  refine List.ext_getElem (by rw [hs_len, Rp.maxH_len]) fun j h1 h2 => ?_
  have hj : j < a.length := by rw [hs_len] at h1; exact h1
  have e1 := hs_get me a b a.length j (Nat.le_refl _)
  have e2 := Rp.maxH_getD me a b j hj
  rw [List.getD_eq_getElem?_getD, List.getElem?_eq_getElem h1] at e1
  rw [List.getD_eq_getElem?_getD, List.getElem?_eq_getElem h2] at e2
  simp only [Option.getD_some] at e1 e2
  rw [e1, e2]
  by_cases hm : j = me
  · rw [if_neg (by omega), if_pos hm]
  · rw [if_pos (by omega), if_neg hm]

theorem hear_no {r : Rp.Rep} {m : Rp.Msg} (h : Rp.mayHear r m = false) : Rp.hear r m = none := by unfold Rp.hear; rw [h]; rfl
theorem hear_yes {r : Rp.Rep} {m : Rp.Msg} (h : Rp.mayHear r m = true) : Rp.hear r m = if Rp.valid (Rp.joined r m) then some (Rp.joined r m) else none := by unfold Rp.hear; rw [h]; rfl

theorem merge_length (a b : List Rp.Post) : (Rp.merge a b).length ≤ a.length + b.length := by
  fun_induction Rp.merge a b with
  | case1 => simp
  | case2 x a ih => simp only [List.length_cons] at *; omega
  | case3 y b ih => simp only [List.length_cons] at *; omega
  | case4 x a y b h ih => simp only [List.length_cons] at *; omega
  | case5 x a b h ih => simp only [List.length_cons] at *; omega
  | case6 x a y b h e ih => simp only [List.length_cons] at *; omega

theorem own_ne_blk {w : World} {B : Nat} {e t : TypeId} {s n : Nat} {v : Value} {xs : List Value} {G : Nat} {cs : Array Value} (h : w.ownsRow B e s v n xs) (hG : Blk w G t cs) (hne : e ≠ t) : v.ownBlock ≠ some G := by
  rcases h.2 with ⟨rfl, _⟩ | ⟨g, cap, cur, rfl, _, hh, _⟩
  · simp [Value.ownBlock]
  · intro e1
    simp only [Value.ownBlock, Option.some.injEq] at e1
    subst e1
    rw [show w.heap[g]? = some (.cells cs t (0, 0)) from hG] at hh
    injection hh with hh
    injection hh with _ h2
    exact hne h2.symm

/-- what holds between two rounds of Hear's loops -/
structure HearMid (W wr : World) (G : Nat) (cs : Array Value) (v2 : Value) (n' : Nat) (hl : List Int) (v3 : Value) (n3 : Nat) (pl : List Rp.Post) : Prop where
  blk : Blk wr G 26 cs
  own2 : wr.ownsRow W.heap.size 3 1 v2 n' (hl.map (Value.int .i64))
  own3 : wr.ownsRow W.heap.size 57 4 v3 n3 (encPs pl)
  below : Below W.heap.size W wr
  at_ : W.heap.size ≤ G
section
variable {W wr : World} {G n' n3 : Nat} {cs : Array Value} {v2 v3 : Value} {hl : List Int} {pl : List Rp.Post}
theorem HearMid.alloc (h : HearMid W wr G cs v2 n' hl v3 n3 pl) (o : Obj) : HearMid W (wr.alloc o) G cs v2 n' hl v3 n3 pl :=
  ⟨h.blk.alloc o, h.own2.alloc o, h.own3.alloc o, h.below.alloc h.below.size o, h.at_⟩
theorem HearMid.put (h : HearMid W wr G cs v2 n' hl v3 n3 pl) (j : Nat) (u : Value) : HearMid W (wr.setCell ⟨G, j, none⟩ u) G (cs.setIfInBounds j u) v2 n' hl v3 n3 pl :=
  ⟨h.blk.set_ j u, own_far h.own2 (own_ne_blk h.own2 h.blk (by decide)) u, own_far h.own3 (own_ne_blk h.own3 h.blk (by decide)) u, h.below.setCell (p := ⟨G, j, none⟩) h.at_ u, h.at_⟩
end
theorem maxI (a x : Int) : (if a < x then x else a) = max a x := by rw [Int.max_def]; split <;> split <;> omega
theorem HearMid.store2 {W wr : World} {G n' n3 g2 c2 : Nat} {cs : Array Value} {v3 : Value} {hl : List Int} {pl : List Rp.Post} (h : HearMid W wr G cs (.slice (some ⟨g2, 0, none⟩) n' c2) n' hl v3 n3 pl) (i : Nat) (x : Int) :
    HearMid W (wr.setCell ⟨g2, i, none⟩ (.int .i64 x)) G cs (.slice (some ⟨g2, 0, none⟩) n' c2) n' (hl.set i x) v3 n3 pl := by
  have hne : G ≠ g2 := fun e => own_ne_blk h.own2 h.blk (by decide) (by simp [Value.ownBlock, e])
  refine ⟨h.blk.far (p := ⟨g2, i, none⟩) hne _, ?_, own_far h.own3 (p := ⟨g2, i, none⟩) (fun e => (own_apart h.own3 h.own2 (by decide)).elim (fun h => by rw [h] at e; cases e) (fun h => h e)) _, h.below.setCell (p := ⟨g2, i, none⟩) (h.own2.lt g2 rfl).1 _, h.at_⟩
  have := (h.own2.stored i (.int .i64 x)).1
  rwa [← List.map_set] at this
theorem HearMid.later {W wr w2 : World} {G n' n3 : Nat} {cs : Array Value} {v2 v3 : Value} {hl : List Int} {pl : List Rp.Post} (h : HearMid W wr G cs v2 n' hl v3 n3 pl) (hb : Below wr.heap.size wr w2) : HearMid W w2 G cs v2 n' hl v3 n3 pl :=
  ⟨h.blk.below hb h.blk.lt, own_below h.own2 hb, own_below h.own3 hb, h.below.trans (hb.mono h.below.size), h.at_⟩
theorem HearMid.drew {W wr : World} {G n' n3 : Nat} {cs : Array Value} {v2 v3 : Value} {hl : List Int} {pl : List Rp.Post} (h : HearMid W wr G cs v2 n' hl v3 n3 pl) : HearMid W wr.drew G cs v2 n' hl v3 n3 pl :=
  ⟨h.blk.drew, h.own2, h.own3, h.below.drew, h.at_⟩
theorem hs_next {me i : Nat} {a b : List Int} {hv x : Int} (hi : ¬ i = me) (h : (hs me a b i)[i]? = some hv) (hx : b[i]? = some x) : hs me a b (i + 1) = (hs me a b i).set i (max hv x) := by
  rw [hs, if_neg hi, List.getD_eq_getElem?_getD, h, List.getD_eq_getElem?_getD, hx]; rfl
end Go.Proofs.YtnehgpeelgjjhaaGreatDoor.Tw
namespace Go.Proofs.YtnehgpeelgjjhaaGreatDoor.Tw
open Go.RowKit

theorem msg_size : True := trivial

set_option maxRecDepth 100000 in
set_option maxHeartbeats 6400000 in
theorem hear_any (w : World) (r : Rp.Rep) (A : Option Addr) (n c : Nat) (A' : Option Addr) (n' c' : Nat) (m : Rp.Msg) (M : Option Addr) (N C0 : Nat) (M' : Option Addr) (N' C' : Nat)
    (h : RepR w w.heap.size r A n A' n') (hm : MsgR w w.heap.size m M N M' N') (hcap : N ≤ C0) :
    Calls Tryz.prog 25 #[repV r A n c A' n' c', msgV m M N C0 M' N' C'] w fun e w' => GotRep w w' e (Rp.hear r m) := by
  obtain ⟨me, many, clock, posts, heard⟩ := r
  obtain ⟨src, mposts, mheard⟩ := m
  obtain ⟨W0, hW0⟩ : ∃ W0, W0 = ((w.alloc (.cells #[.int .i64 me, .int .i64 many, .int .i64 clock, .slice A n c, .slice A' n' c'] 26)).alloc (.cells #[.int .i64 src, .slice M N C0, .slice M' N' C'] 28)).alloc (.cells #[.int .i64 0, .int .i64 0, .int .i64 0, .slice none 0 0, .slice none 0 0] 26) := ⟨_, rfl⟩
  have hs0 : W0.heap.size = w.heap.size + 3 := by rw [hW0]; simp
  have hbW : Below w.heap.size w W0 := by rw [hW0]; exact (((Below.refl _ _).alloc (Nat.le_refl _) _).alloc (by simp) _).alloc (by simp; omega) _
  have hBW : Blk W0 w.heap.size 26 #[.int .i64 me, .int .i64 many, .int .i64 clock, .slice A n c, .slice A' n' c'] := by rw [hW0]; exact ((Blk.new _ _ _).alloc _).alloc _
  have hMW : Blk W0 (w.heap.size + 1) 28 #[.int .i64 src, .slice M N C0, .slice M' N' C'] := by rw [hW0]; exact (Blk.new2 _ _ _ _).alloc _
  have hRW : Blk W0 (w.heap.size + 1 + 1) 26 #[.int .i64 0, .int .i64 0, .int .i64 0, .slice none 0 0, .slice none 0 0] := by
    rw [hW0]
    have hbn := Blk.new2 (w.alloc (.cells #[.int .i64 me, .int .i64 many, .int .i64 clock, .slice A n c, .slice A' n' c'] 26)) (.cells #[.int .i64 src, .slice M N C0, .slice M' N' C'] 28) 26 #[.int .i64 0, .int .i64 0, .int .i64 0, .slice none 0 0, .slice none 0 0]
    simp only [World.size_alloc] at hbn
    exact hbn
  have HV := Lib.hid (valid_any W0 ⟨me, many, clock, posts, heard⟩ A n c A' n' c' ((h.below hbW).more (by omega)))
  have HW0 := Lib.hid hW0
  have HH := Lib.hid h
  have HM := Lib.hid hm
  clear h hm hW0
  unfold repV msgV at *
  simp only at HV ⊢
  go_enter Tryz.func25, Tryz.ntmps25
  go_wp2_with fail
  rw [← HW0.out]
  refine HV.out.mono ?_
  rintro e w1 ⟨rfl, HH0⟩
  have HB := hbW.trans (HH0.mono hbW.size)
  have hB1 := hBW.below HH0 (by omega)
  have hM1 := hMW.below HH0 (by omega)
  have hR1 := hRW.below HH0 (by omega)
  have hs1 := HH0.size
  obtain ⟨b0, b1, b2, b3, b4⟩ := hB1.cells5
  obtain ⟨r0, r1, r2, r3, r4⟩ := hR1.cells5
  obtain ⟨s0, s1, s2, s3, s4⟩ := hR1.soft5
  have y0 := hM1.cell 0
  have y1 := hM1.cell 1
  have y2 := hM1.cell 2
  simp only [List.getElem?_toArray, List.getElem?_cons_zero, List.getElem?_cons_succ] at y0 y1 y2
  cases hv : Rp.valid ⟨me, many, clock, posts, heard⟩
  · have HN := Lib.hid (hear_no (r := ⟨me, many, clock, posts, heard⟩) (m := ⟨src, mposts, mheard⟩) (by simp [Rp.mayHear, hv]))
    go_wp2
    refine bodyPost_ret (v := .tuple #[zeroRep, .int .i64 310]) (by simp [zeroRep, results, Tryz.results25, go_sem, r0, r1, r2, r3, r4]) rfl ⟨?_, ?_⟩
    · repeat (refine Below.setCell ?_ (by simp; try omega) _)
      exact HB
    · rw [HN.out]
  · have HVV := Lib.hid hv
    obtain ⟨⟨v1, v2⟩, ⟨v3, v4⟩, ⟨v5, v6⟩, v7, v8, v9⟩ := Rp.valid_iff.1 hv
    simp only at v1 v2 v3 v4 v5 v6 v7 v8 v9
    have V7 := Lib.hid v7
    have V8 := Lib.hid v8
    have V9 := Lib.hid v9
    clear v7 v8 v9 hv
    go_wp2_with fail
    refine (inr_any _ _ _ _).mono ?_
    rintro e _ ⟨rfl, rfl⟩
    cases hi : Rp.inr src 0 (many - 1)
    · have HN := Lib.hid (hear_no (r := ⟨me, many, clock, posts, heard⟩) (m := ⟨src, mposts, mheard⟩) (by simp [Rp.mayHear, hi]))
      go_wp2
      refine bodyPost_ret (v := .tuple #[zeroRep, .int .i64 310]) (by simp [zeroRep, results, Tryz.results25, go_sem, r0, r1, r2, r3, r4]) rfl ⟨?_, ?_⟩
      · repeat (refine Below.setCell ?_ (by simp; try omega) _)
        exact HB
      · rw [HN.out]
    · have HI := Lib.hid hi
      clear hi
      have HL := Lib.hid (isLog_any w1 M N C0 mposts many ((HM.out.posts.below HB).more HB.size) HM.out.len v1 v2 HM.out.few)
      go_wp2_with fail
      refine HL.out.mono ?_
      rintro e w2 ⟨rfl, hb2⟩
      have HB' := HB.trans (hb2.mono HB.size)
      have HH0' := HH0.trans (hb2.mono HH0.size)
      clear b0 b1 b2 b3 b4 r0 r1 r2 r3 r4 s0 s1 s2 s3 s4 y0 y1 y2 hB1 hM1 hR1 hs1
      clear HB HH0 hb2 HL HV
      have HB := HB'
      have HH0 := HH0'
      clear HB' HH0'
      have hB1 := hBW.below HH0 (by omega)
      have hM1 := hMW.below HH0 (by omega)
      have hR1 := hRW.below HH0 (by omega)
      have hs1 := HH0.size
      obtain ⟨b0, b1, b2, b3, b4⟩ := hB1.cells5
      obtain ⟨r0, r1, r2, r3, r4⟩ := hR1.cells5
      obtain ⟨s0, s1, s2, s3, s4⟩ := hR1.soft5
      have y0 := hM1.cell 0
      have y1 := hM1.cell 1
      have y2 := hM1.cell 2
      simp only [List.getElem?_toArray, List.getElem?_cons_zero, List.getElem?_cons_succ] at y0 y1 y2
      cases hlog : Rp.isLog mposts many
      · have HN := Lib.hid (hear_no (r := ⟨me, many, clock, posts, heard⟩) (m := ⟨src, mposts, mheard⟩) (by simp [Rp.mayHear, hlog]))
        go_wp2
        refine bodyPost_ret (v := .tuple #[zeroRep, .int .i64 310]) (by simp [zeroRep, results, Tryz.results25, go_sem, r0, r1, r2, r3, r4]) rfl ⟨?_, ?_⟩
        · repeat (refine Below.setCell ?_ (by simp; try omega) _)
          exact HB
        · rw [HN.out]
      · have HG := Lib.hid hlog
        clear hlog
        have HL := Lib.hid (isHeard_any w2 M' N' C' mheard many 1000000 ((HM.out.heard.below HB).more HB.size) HM.out.few')
        go_wp2_with fail
        refine HL.out.mono ?_
        rintro e w3 ⟨rfl, hb3⟩
        have HB' := HB.trans (hb3.mono HB.size)
        have HH0' := HH0.trans (hb3.mono HH0.size)
        clear b0 b1 b2 b3 b4 r0 r1 r2 r3 r4 s0 s1 s2 s3 s4 y0 y1 y2 hB1 hM1 hR1 hs1
        clear HB HH0 hb3 HL
        have HB := HB'
        have HH0 := HH0'
        clear HB' HH0'
        have hB1 := hBW.below HH0 (by omega)
        have hM1 := hMW.below HH0 (by omega)
        have hR1 := hRW.below HH0 (by omega)
        have hs1 := HH0.size
        obtain ⟨b0, b1, b2, b3, b4⟩ := hB1.cells5
        obtain ⟨r0, r1, r2, r3, r4⟩ := hR1.cells5
        obtain ⟨s0, s1, s2, s3, s4⟩ := hR1.soft5
        have y0 := hM1.cell 0
        have y1 := hM1.cell 1
        have y2 := hM1.cell 2
        simp only [List.getElem?_toArray, List.getElem?_cons_zero, List.getElem?_cons_succ] at y0 y1 y2
        cases hhd : Rp.isHeard mheard many 1000000
        · have HN := Lib.hid (hear_no (r := ⟨me, many, clock, posts, heard⟩) (m := ⟨src, mposts, mheard⟩) (by simp [Rp.mayHear, hhd]))
          go_wp2
          refine bodyPost_ret (v := .tuple #[zeroRep, .int .i64 310]) (by simp [zeroRep, results, Tryz.results25, go_sem, r0, r1, r2, r3, r4]) rfl ⟨?_, ?_⟩
          · repeat (refine Below.setCell ?_ (by simp; try omega) _)
            exact HB
          · rw [HN.out]
        · have HD := Lib.hid hhd
          clear hhd
          have HORp : Hid (∀ p ∈ posts, ∃ o : Nat, o < 5 ∧ p.origin = o) := Lib.hid fun p hp => by
            obtain ⟨mn, hmn⟩ : ∃ mn : Nat, many = mn := ⟨many.toNat, by omega⟩
            subst hmn
            obtain ⟨o, ho, e⟩ := Rp.own_range V8.out hp
            exact ⟨o, by omega, e⟩
          have HORm : Hid (∀ p ∈ mposts, ∃ o : Nat, o < 5 ∧ p.origin = o) := Lib.hid fun p hp => by
            obtain ⟨mn, hmn⟩ : ∃ mn : Nat, many = mn := ⟨many.toNat, by omega⟩
            subst hmn
            obtain ⟨o, ho, e⟩ := Rp.own_range HG.out hp
            exact ⟨o, by omega, e⟩
          obtain ⟨k, rfl⟩ : ∃ k : Nat, me = k := ⟨me.toNat, by omega⟩
          have hk5 : k < 5 := by omega
          have hpn : (n' : Int) = many := by have h1 := HH.out.len'; have h2 := (Rp.isHeard_iff.1 V7.out).1; simp only at h1; omega
          have hpN : (N' : Int) = many := by have h1 := HM.out.len'; have h2 := (Rp.isHeard_iff.1 HD.out).1; simp only at h1; omega
          have hkn : k < n' := by omega
          have hkN : k < N' := by omega
          have h200 : n ≤ 200 := by have h1 := (Rp.isLog_iff.1 V8.out).1; have h2 := HH.out.len; simp only at h2; omega
          have H200 : N ≤ 200 := by have h1 := (Rp.isLog_iff.1 HG.out).1; have h2 := HM.out.len; simp only at h2; omega
          obtain ⟨bm, om, xm, rfl, hbm, hqm, hm0⟩ := HM.out.heard.int hkN
          obtain ⟨br, oo, xr, rfl, hbr, hqr, hr0⟩ := HH.out.heard.int hkn
          rw [← HB.cell (p := ⟨bm, _, none⟩) hbm] at hm0
          rw [← HB.cell (p := ⟨br, _, none⟩) hbr] at hr0
          have km := Later.of hm0
          have kr := Later.of hr0
          have kb0 := Later.of b0
          have kb3 := Later.of b3
          have kb4 := Later.of b4
          have ky1 := Later.of y1
          have ky2 := Later.of y2
          have HQM := Lib.hid hqm
          have HQR := Lib.hid hqr
          clear hqm hqr v3 v4
          have HI1 := index5 (C mposts N) k hk5
          have HI2 := index5 (C posts n) k hk5
          have HC1 := Lib.hid (fun x : Later w3 => counts_any x.W M N C0 mposts ((HM.out.posts.below (HB.trans (x.is.mono HB.size))).more (HB.trans (x.is.mono HB.size)).size) HM.out.len HM.out.few HORm.out)
          have HC2 := Lib.hid (fun x : Later w3 => counts_any x.W A n c posts ((HH.out.posts.below (HB.trans (x.is.mono HB.size))).more (HB.trans (x.is.mono HB.size)).size) HH.out.len HH.out.few HORp.out)
          have e1 : C mposts N k = Rp.count mposts k := C_all mposts N HM.out.len k
          have e2 : C posts n k = Rp.count posts k := C_all posts n HH.out.len k
          by_cases hc : C posts n k < C mposts N k
          · have hd : decide (C posts n k < C mposts N k) = true := by simpa using hc
            have HN := Lib.hid (hear_no (r := ⟨k, many, clock, posts, heard⟩) (m := ⟨src, mposts, mheard⟩) (by
              have : decide (Rp.count mposts k ≤ Rp.count posts k) = false := by rw [decide_eq_false_iff_not]; omega
              simp only [Rp.mayHear, this, Bool.false_and, Bool.and_false]))
            clear hc e1 e2
            go_wp2
            refine wp_region_later (by kernel_rfl) (by kernel_rfl) ?_
            repeat (go_big_quiet_step ((go_at_call 43; first | with_reducible exact later_of (HC1.out _) | with_reducible exact later_of (HC2.out _))))
            refine wpQuiet_nil ?_
            rintro W1 ⟨⟨_, hW1⟩, rfl⟩
            clear km kr kb0 kb3 kb4 ky1 ky2 HC1 HC2 HI1 HI2
            have HB' := HB.trans (hW1.mono HB.size)
            have HH0' := HH0.trans (hW1.mono HH0.size)
            clear hm0 hr0
            clear b0 b1 b2 b3 b4 r0 r1 r2 r3 r4 s0 s1 s2 s3 s4 y0 y1 y2 hB1 hM1 hR1 hs1
            clear HB HH0 hW1
            have HB := HB'
            have HH0 := HH0'
            clear HB' HH0'
            have hB1 := hBW.below HH0 (by omega)
            have hM1 := hMW.below HH0 (by omega)
            have hR1 := hRW.below HH0 (by omega)
            have hs1 := HH0.size
            obtain ⟨b0, b1, b2, b3, b4⟩ := hB1.cells5
            obtain ⟨r0, r1, r2, r3, r4⟩ := hR1.cells5
            obtain ⟨s0, s1, s2, s3, s4⟩ := hR1.soft5
            have y0 := hM1.cell 0
            have y1 := hM1.cell 1
            have y2 := hM1.cell 2
            simp only [List.getElem?_toArray, List.getElem?_cons_zero, List.getElem?_cons_succ] at y0 y1 y2
            go_wp2
            refine bodyPost_ret (v := .tuple #[zeroRep, .int .i64 310]) (by simp [zeroRep, results, Tryz.results25, go_sem, r0, r1, r2, r3, r4]) rfl ⟨?_, ?_⟩
            · repeat (refine Below.setCell ?_ (by simp; try omega) _)
              exact HB
            · rw [HN.out]
          · have hd : decide (C posts n k < C mposts N k) = false := by simpa using hc
            have g1 : (mheard.getD k 0) = xm := by have := HQM.out; simp only at this; rw [List.getD_eq_getElem?_getD, this]; rfl
            have g2 : (heard.getD k 0) = xr := by have := HQR.out; simp only at this; rw [List.getD_eq_getElem?_getD, this]; rfl
            have hc' : Rp.count mposts k ≤ Rp.count posts k := by omega
            clear hc e1 e2
            by_cases hh : xr < xm
            · have hd2 : decide (xr < xm) = true := by simpa using hh
              have HN := Lib.hid (hear_no (r := ⟨k, many, clock, posts, heard⟩) (m := ⟨src, mposts, mheard⟩) (by
                have : decide (mheard.getD ((k : Int).toNat) 0 ≤ heard.getD ((k : Int).toNat) 0) = false := by rw [decide_eq_false_iff_not, Int.toNat_natCast, g1, g2]; omega
                simp only [Rp.mayHear, this, Bool.and_false]))
              clear hh g1 g2 hc'
              go_wp2
              refine wp_region_later (by kernel_rfl) (by kernel_rfl) ?_
              repeat (go_big_quiet_step ((go_at_call 43; first | with_reducible exact later_of (HC1.out _) | with_reducible exact later_of (HC2.out _))))
              refine wpQuiet_nil ?_
              rintro W1 ⟨⟨_, hW1⟩, rfl⟩
              clear km kr kb0 kb3 kb4 ky1 ky2 HC1 HC2 HI1 HI2
              have HB' := HB.trans (hW1.mono HB.size)
              have HH0' := HH0.trans (hW1.mono HH0.size)
              clear hm0 hr0
              clear b0 b1 b2 b3 b4 r0 r1 r2 r3 r4 s0 s1 s2 s3 s4 y0 y1 y2 hB1 hM1 hR1 hs1
              clear HB HH0 hW1
              have HB := HB'
              have HH0 := HH0'
              clear HB' HH0'
              have hB1 := hBW.below HH0 (by omega)
              have hM1 := hMW.below HH0 (by omega)
              have hR1 := hRW.below HH0 (by omega)
              have hs1 := HH0.size
              obtain ⟨b0, b1, b2, b3, b4⟩ := hB1.cells5
              obtain ⟨r0, r1, r2, r3, r4⟩ := hR1.cells5
              obtain ⟨s0, s1, s2, s3, s4⟩ := hR1.soft5
              have y0 := hM1.cell 0
              have y1 := hM1.cell 1
              have y2 := hM1.cell 2
              simp only [List.getElem?_toArray, List.getElem?_cons_zero, List.getElem?_cons_succ] at y0 y1 y2
              go_wp2
              refine bodyPost_ret (v := .tuple #[zeroRep, .int .i64 310]) (by simp [zeroRep, results, Tryz.results25, go_sem, r0, r1, r2, r3, r4]) rfl ⟨?_, ?_⟩
              · repeat (refine Below.setCell ?_ (by simp; try omega) _)
                exact HB
              · rw [HN.out]
            · have hd2 : decide (xr < xm) = false := by simpa using hh
              have HN := Lib.hid (hear_yes (r := ⟨k, many, clock, posts, heard⟩) (m := ⟨src, mposts, mheard⟩) (by
                rw [Rp.mayHear_iff]
                refine ⟨HVV.out, Rp.inr_iff.1 HI.out, HG.out, HD.out, hc', ?_⟩
                simp only [Int.toNat_natCast, g1, g2]; omega))
              clear hh g1 g2 hc'
              go_wp2
              refine wp_region_later (by kernel_rfl) (by kernel_rfl) ?_
              repeat (go_big_quiet_step ((go_at_call 43; first | with_reducible exact later_of (HC1.out _) | with_reducible exact later_of (HC2.out _))))
              refine wpQuiet_nil ?_
              rintro W1 ⟨⟨_, hW1⟩, rfl⟩
              clear km kr kb0 kb3 kb4 ky1 ky2 HC1 HC2 HI1 HI2
              have HB' := HB.trans (hW1.mono HB.size)
              have HH0' := HH0.trans (hW1.mono HH0.size)
              clear hm0 hr0
              clear b0 b1 b2 b3 b4 r0 r1 r2 r3 r4 s0 s1 s2 s3 s4 y0 y1 y2 hB1 hM1 hR1 hs1
              clear HB HH0 hW1
              have HB := HB'
              have HH0 := HH0'
              clear HB' HH0'
              have hB1 := hBW.below HH0 (by omega)
              have hM1 := hMW.below HH0 (by omega)
              have hR1 := hRW.below HH0 (by omega)
              have hs1 := HH0.size
              obtain ⟨b0, b1, b2, b3, b4⟩ := hB1.cells5
              obtain ⟨r0, r1, r2, r3, r4⟩ := hR1.cells5
              obtain ⟨s0, s1, s2, s3, s4⟩ := hR1.soft5
              have y0 := hM1.cell 0
              have y1 := hM1.cell 1
              have y2 := hM1.cell 2
              simp only [List.getElem?_toArray, List.getElem?_cons_zero, List.getElem?_cons_succ] at y0 y1 y2
              have hpos : 0 < n' := by omega
              have HOwn := Lib.hid (own_any W1 ⟨k, many, clock, posts, heard⟩ A n c (some ⟨br, oo, none⟩) n' c' ((HH.out.below HB).more HB.size))
              unfold repV at HOwn
              simp only at HOwn
              go_wp2_with (go_at_call 42; refine HOwn.out.mono ?_; rintro e w5 ⟨A1, c1, A2, c2, rfl, o1, o2, hc1, hc2, hb5⟩; have q1 := (hM1.below hb5 (by omega)).cell 1; simp only [List.getElem?_toArray, List.getElem?_cons_zero, List.getElem?_cons_succ] at q1; have y1a : ∀ o, (w5.alloc o).cell? ⟨w.heap.size + 1, 1, none⟩ = some (.slice M N C0) := fun o => (World.cell?_alloc_some w5 _ o (by rw [q1]; rfl)).trans q1)
              obtain ⟨g2, cap2, e2, hg2, hl2⟩ := o2.form hpos
              injection e2 with e2 _ e2c
              subst e2 e2c
              obtain ⟨W5, hW5⟩ : ∃ W5, W5 = w5.alloc (.cells #[.int .i64 k, .int .i64 many, .int .i64 clock, .slice A1 n c1, .slice (some ⟨g2, 0, none⟩) n' c2] 26) := ⟨_, rfl⟩
              rw [← hW5]
              have hs5 := hb5.size
              have hsW5 : W5.heap.size = w5.heap.size + 1 := by rw [hW5]; simp
              have hb55 : Below w5.heap.size w5 W5 := by rw [hW5]; exact (Below.refl _ _).alloc (Nat.le_refl _) _
              have hG5 : Blk W5 w5.heap.size 26 #[.int .i64 k, .int .i64 many, .int .i64 clock, .slice A1 n c1, .slice (some ⟨g2, 0, none⟩) n' c2] := by rw [hW5]; exact Blk.new _ _ _
              have hbA : Below W1.heap.size W1 W5 := hb5.trans (hb55.mono hs5)
              have O1 := own_below o1 hb55
              have O2 := own_below o2 hb55
              have HB5 : Below w.heap.size w W5 := HB.trans (hbA.mono HB.size)
              have HMrg := Lib.hid (merge_any W5 A1 n c1 posts M N C0 mposts (Reads.of_own O1) HH.out.len hc1 ((HM.out.posts.below HB5).more HB5.size) HM.out.len hcap (by omega))
              clear hW5 O1 o1 o2 HOwn y0 y1 y2 y1a q1
              refine HMrg.out.mono ?_
              rintro e w6 ⟨A3, n3, c3, rfl, o3, l3, hb6⟩
              have hn3 : n3 ≤ 400 := by have h1 := merge_length posts mposts; have h2 := HH.out.len; have h3 := HM.out.len; simp only at h2 h3; omega
              have hB6 : Below W1.heap.size W1 w6 := hbA.trans (hb6.mono hbA.size)
              have hG6 := hG5.below hb6 (by omega)
              have HM0 : HearMid W1 w6 w5.heap.size #[.int .i64 k, .int .i64 many, .int .i64 clock, .slice A1 n c1, .slice (some ⟨g2, 0, none⟩) n' c2] (.slice (some ⟨g2, 0, none⟩) n' c2) n' heard (.slice A3 n3 c3) n3 (Rp.merge posts mposts) :=
                ⟨hG6, own_below O2 hb6, own_base o3 hbA.size, hB6, hs5⟩
              have HM1 := Lib.hid (show HearMid W1 (w6.setCell ⟨w5.heap.size, 3, none⟩ (.slice A3 n3 c3)) w5.heap.size #[.int .i64 k, .int .i64 many, .int .i64 (Rp.maxE clock (mposts.take 0)), .slice A3 n3 c3, .slice (some ⟨g2, 0, none⟩) n' c2] (.slice (some ⟨g2, 0, none⟩) n' c2) n' heard (.slice A3 n3 c3) n3 (Rp.merge posts mposts) from HM0.put 3 _)
              have HG2 := Lib.hid hg2
              have HB1 := Lib.hid hB1
              have HM1' := Lib.hid hM1
              have HR1 := Lib.hid hR1
              have HBB := Lib.hid HB
              have hs6 := hB6.size
              have HLen := Lib.hid l3
              clear HMrg
              clear b0 b1 b2 b3 b4 r0 r1 r2 r3 r4 s0 s1 s2 s3 s4
              have hBx := HB1.out.below hB6 (by omega)
              have hMx := HM1'.out.below hB6 (by omega)
              have y1 := hMx.cell 1
              have y2 := hMx.cell 2
              simp only [List.getElem?_toArray, List.getElem?_cons_zero, List.getElem?_cons_succ] at y1 y2
              obtain ⟨p0, p1, p2, p3, p4⟩ := hG6.cells5
              obtain ⟨f0, f1, f2, f3, f4⟩ := hG6.soft5
              have u0 : w.heap.size ≠ w5.heap.size := by omega
              have u1 : w.heap.size + 1 ≠ w5.heap.size := by omega
              have u2 : w.heap.size + 1 + 1 ≠ w5.heap.size := by omega
              have u0' := u0.symm
              have u1' := u1.symm
              have u2' := u2.symm
              have hGW : W1.heap.size ≤ w5.heap.size := hs5
              clear hB1 hM1 hR1 o3 O2 HM0 hG5 hG6 hb55 hb5 hb6 hBW hMW hRW hbW hB6 hbA HB5
              clear hBx hMx
              go_wp2
              clear y1 y2
              go_loopw [82] (fun q wr => ∃ j : Nat, j ≤ N ∧ q = .int .i64 j ∧ HearMid W1 wr w5.heap.size #[.int .i64 k, .int .i64 many, .int .i64 (Rp.maxE clock (mposts.take j)), .slice A3 n3 c3, .slice (some ⟨g2, 0, none⟩) n' c2] (.slice (some ⟨g2, 0, none⟩) n' c2) n' heard (.slice A3 n3 c3) n3 (Rp.merge posts mposts)) (fun q _ => N - (intOf q).toNat)
              case atStart => exact ⟨0, by omega, rfl, HM1.out⟩
              case round =>
                obtain ⟨j, hj, rfl, hI⟩ := hrel
                have hBj : Below w.heap.size w wr := HBB.out.trans (hI.below.mono HBB.out.size)
                clear p0 p1 p2 p3 p4 f0 f1 f2 f3 f4
                have hMr := HM1'.out.below hI.below (by omega)
                have y1 := hMr.cell 1
                have y2 := hMr.cell 2
                simp only [List.getElem?_toArray, List.getElem?_cons_zero, List.getElem?_cons_succ] at y1 y2
                clear hMr
                obtain ⟨mc, hmc⟩ : ∃ mc, mc = Rp.maxE clock (mposts.take j) := ⟨_, rfl⟩
                rw [← hmc] at hI
                have hMC := Lib.hid hmc
                clear hmc
                obtain ⟨p0, p1, p2, p3, p4⟩ := hI.blk.cells5
                obtain ⟨f0, f1, f2, f3, f4⟩ := hI.blk.soft5
                have HI := Lib.hid hI
                by_cases hlt : j < N
                · obtain ⟨b, off, q, rfl, hbl, hq, h0, h1, h2, h3⟩ := HM.out.posts.post HM.out.len hlt
                  rw [← hBj.cell (p := ⟨b, _, none⟩) hbl] at h0 h1 h2 h3
                  have HQ := Lib.hid hq
                  clear hq hI
                  have e2 := World.new_ne wr _ p2
                  have hGl : w5.heap.size < wr.heap.size := lt_of_cell p2
                  have f2a : ∀ o, (wr.alloc o).frozen? ⟨w5.heap.size, 2, none⟩ = false := fun o => (((Below.refl wr.heap.size wr).alloc (Nat.le_refl _) o).frozen (p := ⟨w5.heap.size, 2, none⟩) hGl).trans f2
                  have p2a : ∀ o, (wr.alloc o).cell? ⟨w5.heap.size, 2, none⟩ = some (.int .i64 mc) := fun o => (World.cell?_alloc_some wr _ o (by rw [p2]; rfl)).trans p2
                  go_wp2
                  go_roundw
                  case rel =>
                    refine ⟨j + 1, by omega, by go_num, ?_⟩
                    rw [maxE_take HQ.out, ← hMC.out, ← maxI]
                    exact (HI.out.put 2 _).alloc _
                  case measure => simp [intOf]; omega
                · have hjn : j = N := by omega
                  subst hjn
                  go_wp2
                  clear p0 p1 p2 p3 p4 f0 f1 f2 f3 f4 y1 y2
                  go_loopw [96] (fun q wr => ∃ i : Nat, i ≤ N' ∧ q = .int .i64 i ∧ HearMid W1 wr w5.heap.size #[.int .i64 k, .int .i64 many, .int .i64 (Rp.maxN mc (mheard.take i)), .slice A3 n3 c3, .slice (some ⟨g2, 0, none⟩) n' c2] (.slice (some ⟨g2, 0, none⟩) n' c2) n' (hs k heard mheard i) (.slice A3 n3 c3) n3 (Rp.merge posts mposts)) (fun q _ => N' - (intOf q).toNat)
                  case atStart => exact ⟨0, by omega, rfl, HI.out⟩
                  case round =>
                    obtain ⟨i, hi, rfl, hJ⟩ := hrel
                    have hBi : Below w.heap.size w wr := HBB.out.trans (hJ.below.mono HBB.out.size)
                    have hBr := HB1.out.below hJ.below (by omega)
                    have b0 := hBr.cell 0
                    simp only [List.getElem?_toArray, List.getElem?_cons_zero] at b0
                    clear hBr
                    obtain ⟨mn, hmn⟩ : ∃ mn, mn = Rp.maxN mc (mheard.take i) := ⟨_, rfl⟩
                    rw [← hmn] at hJ
                    have hMN := Lib.hid hmn
                    clear hmn
                    obtain ⟨p0, p1, p2, p3, p4⟩ := hJ.blk.cells5
                    obtain ⟨f0, f1, f2, f3, f4⟩ := hJ.blk.soft5
                    have HJ := Lib.hid hJ
                    by_cases hlt : i < N'
                    · obtain ⟨b, off, x, e, hbl, hq, h0⟩ := HM.out.heard.int hlt
                      injection e with e
                      injection e with e1 e2
                      subst e1 e2
                      rw [← hBi.cell (p := ⟨bm, _, none⟩) hbl] at h0
                      have HQ := Lib.hid hq
                      clear hq hJ
                      by_cases hik : i = k
                      · have hne : ((i : Int) != (k : Int)) = false := by simp; omega
                        have hhs : hs k heard mheard (i + 1) = hs k heard mheard i := by rw [hs, if_pos hik]
                        have hk' := Lib.hid hik
                        clear hik
                        go_wp2
                        go_roundw
                        case rel =>
                          refine ⟨i + 1, by omega, by go_num, ?_⟩
                          rw [maxN_take HQ.out, ← hMN.out, ← maxI, hhs]
                          exact HJ.out.put 2 _
                        case measure => simp [intOf]; omega
                      · have hne : ((i : Int) != (k : Int)) = true := by simp; omega
                        have hk' := Lib.hid hik
                        clear hik
                        by_cases hm : mn < x
                        · go_wp2
                          obtain ⟨W2, hW2⟩ : ∃ W2, W2 = wr.setCell ⟨w5.heap.size, 2, none⟩ (.int .i64 x) := ⟨_, rfl⟩
                          rw [← hW2]
                          have hJ2 : HearMid W1 W2 w5.heap.size #[.int .i64 k, .int .i64 many, .int .i64 (Rp.maxN mc (mheard.take (i + 1))), .slice A3 n3 c3, .slice (some ⟨g2, 0, none⟩) n' c2] (.slice (some ⟨g2, 0, none⟩) n' c2) n' (hs k heard mheard i) (.slice A3 n3 c3) n3 (Rp.merge posts mposts) := by
                            rw [maxN_take HQ.out, ← hMN.out, show max mn x = x by omega, hW2]
                            exact HJ.out.put 2 _
                          have hil : i < (hs k heard mheard i).length := by rw [hs_len]; have := HH.out.len'; simp only at this; omega
                          obtain ⟨hv, hhv⟩ : ∃ hv, (hs k heard mheard i)[i]? = some hv := ⟨_, List.getElem?_eq_getElem hil⟩
                          have hi1 : i < n' * 1 := by omega
                          have t1 := hJ2.own2.cellAt i hi1
                          rw [List.getElem?_map, hhv] at t1
                          simp only [Option.map_some] at t1
                          have t2 := hJ2.own2.frozenAt i
                          have c4 := hJ2.blk.cell 4
                          simp only [List.getElem?_toArray, List.getElem?_cons_zero, List.getElem?_cons_succ] at c4
                          have hG2 := hJ2.own2.lt g2 rfl
                          have ug : w5.heap.size ≠ g2 := fun e => own_ne_blk hJ2.own2 hJ2.blk (by decide) (by simp [Value.ownBlock, e])
                          have ug' := ug.symm
                          have HJ2 := Lib.hid hJ2
                          have HHV := Lib.hid hhv
                          clear hJ2 hW2 hhv p0 p1 p2 p3 p4 f0 f1 f2 f3 f4
                          have L1 := Later.of c4
                          have L2 := Later.of t1
                          refine Loose.wp_region_later [] 11 (by kernel_rfl) (by kernel_rfl) ?_
                          (simp only [List.take_succ_cons, List.take_zero, List.drop_succ_cons, List.drop_zero])
                          (repeat (first | refine Loose.walk_skip rfl ?_ | (refine Loose.walk_plain rfl rfl rfl (fun K hK => ?_); go_big_quiet_op; refine hK _ ?_; clear hK K)))
                          refine Loose.walk_nil ?_
                          rintro V hV -
                          have HJ3 := Lib.hid (HJ2.out.later hV)
                          have t3 := HJ3.out.own2.frozenAt i
                          have t4 := (hV.cell (p := ⟨g2, i, none⟩) (lt_of_cell t1)).trans t1
                          clear L1 L2 hV t2 t1 c4
                          go_wp2
                          go_roundw
                          case rel =>
                            refine ⟨i + 1, by omega, by go_num, ?_⟩
                            rw [hs_next hk'.out HHV.out HQ.out, ← maxI]
                            exact HJ3.out.store2 i _
                          case measure => simp [intOf]; omega
                        · go_wp2
                          obtain ⟨W2, hW2⟩ : ∃ W2, W2 = wr.setCell ⟨w5.heap.size, 2, none⟩ (.int .i64 mn) := ⟨_, rfl⟩
                          rw [← hW2]
                          have hJ2 : HearMid W1 W2 w5.heap.size #[.int .i64 k, .int .i64 many, .int .i64 (Rp.maxN mc (mheard.take (i + 1))), .slice A3 n3 c3, .slice (some ⟨g2, 0, none⟩) n' c2] (.slice (some ⟨g2, 0, none⟩) n' c2) n' (hs k heard mheard i) (.slice A3 n3 c3) n3 (Rp.merge posts mposts) := by
                            rw [maxN_take HQ.out, ← hMN.out, show max mn x = mn by omega, hW2]
                            exact HJ.out.put 2 _
                          have hil : i < (hs k heard mheard i).length := by rw [hs_len]; have := HH.out.len'; simp only at this; omega
                          obtain ⟨hv, hhv⟩ : ∃ hv, (hs k heard mheard i)[i]? = some hv := ⟨_, List.getElem?_eq_getElem hil⟩
                          have hi1 : i < n' * 1 := by omega
                          have t1 := hJ2.own2.cellAt i hi1
                          rw [List.getElem?_map, hhv] at t1
                          simp only [Option.map_some] at t1
                          have t2 := hJ2.own2.frozenAt i
                          have c4 := hJ2.blk.cell 4
                          simp only [List.getElem?_toArray, List.getElem?_cons_zero, List.getElem?_cons_succ] at c4
                          have hG2 := hJ2.own2.lt g2 rfl
                          have ug : w5.heap.size ≠ g2 := fun e => own_ne_blk hJ2.own2 hJ2.blk (by decide) (by simp [Value.ownBlock, e])
                          have ug' := ug.symm
                          have HJ2 := Lib.hid hJ2
                          have HHV := Lib.hid hhv
                          clear hJ2 hW2 hhv p0 p1 p2 p3 p4 f0 f1 f2 f3 f4
                          have L1 := Later.of c4
                          have L2 := Later.of t1
                          refine Loose.wp_region_later [] 11 (by kernel_rfl) (by kernel_rfl) ?_
                          (simp only [List.take_succ_cons, List.take_zero, List.drop_succ_cons, List.drop_zero])
                          (repeat (first | refine Loose.walk_skip rfl ?_ | (refine Loose.walk_plain rfl rfl rfl (fun K hK => ?_); go_big_quiet_op; refine hK _ ?_; clear hK K)))
                          refine Loose.walk_nil ?_
                          rintro V hV -
                          have HJ3 := Lib.hid (HJ2.out.later hV)
                          have t3 := HJ3.out.own2.frozenAt i
                          have t4 := (hV.cell (p := ⟨g2, i, none⟩) (lt_of_cell t1)).trans t1
                          clear L1 L2 hV t2 t1 c4
                          go_wp2
                          go_roundw
                          case rel =>
                            refine ⟨i + 1, by omega, by go_num, ?_⟩
                            rw [hs_next hk'.out HHV.out HQ.out, ← maxI]
                            exact HJ3.out.store2 i _
                          case measure => simp [intOf]; omega
                    · have hjn : i = N' := by omega
                      subst hjn
                      go_wp2_with fail
                      have hfin : mn = Rp.maxN mc mheard := by rw [hMN.out, List.take_of_length_le (by have := HM.out.len'; simp only at this; omega)]
                      have hmc : mc = Rp.maxE clock mposts := by rw [hMC.out, List.take_of_length_le (by have := HM.out.len; simp only at this; omega)]
                      have hhs : hs k heard mheard i = Rp.maxH k heard mheard := by
                        rw [← hs_all]
                        have h1 := HH.out.len'
                        simp only at h1
                        have h2 : i = heard.length := by omega
                        rw [← h2]
                      have HJoin : Hid (Rp.joined ⟨k, many, clock, posts, heard⟩ ⟨src, mposts, mheard⟩ = ⟨k, many, mn, Rp.merge posts mposts, hs k heard mheard i⟩) := Lib.hid (by
                        unfold Rp.joined; simp only [Int.toNat_natCast]; rw [hfin, hmc, hhs])
                      have hR6 : RepR wr wr.heap.size ⟨k, many, mn, Rp.merge posts mposts, hs k heard mheard i⟩ A3 n3 (some ⟨g2, 0, none⟩) n' :=
                        ⟨Reads.of_own hJ.own3, HLen.out, Reads.of_own hJ.own2, by simp only [hs_len]; exact HH.out.len', by omega, HH.out.few'⟩
                      have HRight := Lib.hid (right_any wr _ A3 n3 c3 _ n' c2 hR6)
                      unfold repV at HRight
                      simp only at HRight
                      have HR6 := Lib.hid hR6
                      have hR8 := HR1.out.below hJ.below (by omega)
                      have N3 := Lib.hid (block_not hJ.own3 (g := w.heap.size + 1 + 1) (.inl (by omega)))
                      have hne2 : g2 ≠ w.heap.size + 1 + 1 := by have := (hJ.own2.lt g2 rfl).1; omega
                      have F3 := Lib.hid (Fresh.of_own hJ.own3 (B' := w.heap.size) HBB.out.size)
                      have HCap := Lib.hid (own_cap hJ.own3)
                      have hg2w : w.heap.size ≤ g2 := by have h1 := (hJ.own2.lt g2 rfl).1; have h2 := HBB.out.size; omega
                      clear hJ hR6 p0 p1 p2 p3 p4 f0 f1 f2 f3 f4 hfin hmc hhs b0
                      refine HRight.out.mono ?_
                      rintro e w9 ⟨rfl, hb9⟩
                      have hbe := hBi.trans (hb9.mono hBi.size)
                      have hR9 := hR8.below hb9 hR8.lt
                      obtain ⟨r0, r1, r2, r3, r4⟩ := hR9.cells5
                      obtain ⟨s0, s1, s2, s3, s4⟩ := hR9.soft5
                      cases hv2 : Rp.valid ⟨k, many, mn, Rp.merge posts mposts, hs k heard mheard i⟩
                      · unfold orErr zeroRep
                        go_wp2
                        refine bodyPost_ret (v := .tuple #[zeroRep, .int .i64 310]) (by simp [zeroRep, results, Tryz.results25, go_sem, r0, r1, r2, r3, r4]) rfl ⟨?_, ?_⟩
                        · repeat (refine Below.setCell ?_ (by simp; try omega) _)
                          exact hbe
                        · rw [HN.out, HJoin.out, hv2]; rfl
                      · unfold orErr
                        go_wp2
                        refine bodyPost_ret (v := .tuple #[.agg #[.int .i64 k, .int .i64 many, .int .i64 mn, .slice A3 n3 c3, .slice (some ⟨g2, 0, none⟩) n' c2], .int .i64 0]) (by simp [results, Tryz.results25, go_sem, r0, r1, r2, r3, r4]) rfl ⟨?_, ?_⟩
                        · repeat (refine Below.setCell ?_ (by simp; try omega) _)
                          exact hbe
                        · rw [HN.out, HJoin.out, hv2]
                          refine ⟨A3, n3, c3, some ⟨g2, 0, none⟩, n', c2, rfl, ?_, F3.out, (fun a e => by injection e with e; subst e; exact hg2w), HCap.out⟩
                          simp only [size_setCell]
                          repeat (refine RepR.far ?_ (fun a e h => N3.out (by subst e; exact (congrArg some h).symm)) (fun a e => by injection e with e; subst e; exact hne2) _)
                          exact (HR6.out.below hb9).more hb9.size
end Go.Proofs.YtnehgpeelgjjhaaGreatDoor.Tw
namespace Go.Proofs.YtnehgpeelgjjhaaGreatDoor.Tw
open Go.RowKit

theorem rep_eq_iff (p q : Rp.Rep) : p = q ↔ p.me = q.me ∧ p.many = q.many ∧ p.clock = q.clock ∧ p.posts = q.posts ∧ p.heard = q.heard := by
  cases p; cases q; simp

set_option maxRecDepth 100000 in
set_option maxHeartbeats 3200000 in
theorem same_any (w : World) (r : Rp.Rep) (A : Option Addr) (n c : Nat) (A' : Option Addr) (n' c' : Nat) (r2 : Rp.Rep) (B : Option Addr) (m d : Nat) (B' : Option Addr) (m' d' : Nat)
    (h : RepR w w.heap.size r A n A' n') (h2 : RepR w w.heap.size r2 B m B' m') :
    Calls Tryz.prog 24 #[repV r A n c A' n' c', repV r2 B m d B' m' d'] w fun e w' => e = .returned (.bool (decide (r = r2))) ∧ Below w.heap.size w w' := by
  obtain ⟨me, many, clock, posts, heard⟩ := r
  obtain ⟨me2, many2, clock2, posts2, heard2⟩ := r2
  obtain ⟨W0, hW0⟩ : ∃ W0, W0 = (w.alloc (.cells #[.int .i64 me, .int .i64 many, .int .i64 clock, .slice A n c, .slice A' n' c'] 26)).alloc (.cells #[.int .i64 me2, .int .i64 many2, .int .i64 clock2, .slice B m d, .slice B' m' d'] 26) := ⟨_, rfl⟩
  have hs0 : W0.heap.size = w.heap.size + 2 := by rw [hW0]; simp
  have hbW : Below w.heap.size w W0 := by rw [hW0]; exact ((Below.refl _ _).alloc (Nat.le_refl _) _).alloc (by simp) _
  have hBW : Blk W0 w.heap.size 26 #[.int .i64 me, .int .i64 many, .int .i64 clock, .slice A n c, .slice A' n' c'] := by rw [hW0]; exact (Blk.new _ _ _).alloc _
  have hRW : Blk W0 (w.heap.size + 1) 26 #[.int .i64 me2, .int .i64 many2, .int .i64 clock2, .slice B m d, .slice B' m' d'] := by rw [hW0]; exact Blk.new2 _ _ _ _
  have HEq := Lib.hid (equalPost W0 A n c posts B m d posts2 ((h.posts.below hbW).more (by omega)) h.len ((h2.posts.below hbW).more (by omega)) h2.len h.few h2.few)
  have HW0 := Lib.hid hW0
  have HH := Lib.hid h
  have HH2 := Lib.hid h2
  have HI := Lib.hid (rep_eq_iff ⟨me, many, clock, posts, heard⟩ ⟨me2, many2, clock2, posts2, heard2⟩)
  clear h h2 hW0
  obtain ⟨res, hres⟩ : ∃ res, res = decide ((⟨me, many, clock, posts, heard⟩ : Rp.Rep) = ⟨me2, many2, clock2, posts2, heard2⟩) := ⟨_, rfl⟩
  rw [← hres]
  have HRes := Lib.hid hres
  clear hres
  unfold repV at *
  simp only at HEq ⊢
  go_enter Tryz.func24, Tryz.ntmps24
  by_cases e1 : me = me2
  · have z1 : decide (me = me2) = true := by simpa using e1
    have z2 : (me == me2) = true := by simpa using e1
    by_cases e2 : many = many2
    · have z3 : decide (many = many2) = true := by simpa using e2
      have z4 : (many == many2) = true := by simpa using e2
      by_cases e3 : clock = clock2
      · have z5 : decide (clock = clock2) = true := by simpa using e3
        have z6 : (clock == clock2) = true := by simpa using e3
        have HE := Lib.hid (And.intro e1 (And.intro e2 e3))
        clear e1 e2 e3
        go_wp2_with fail
        rw [← HW0.out]
        refine HEq.out.mono ?_
        rintro e w1 ⟨rfl, hb1⟩
        have hB1 := hBW.below hb1 (by omega)
        have hR1 := hRW.below hb1 (by omega)
        obtain ⟨b0, b1, b2, b3, b4⟩ := hB1.cells5
        obtain ⟨r0, r1, r2, r3, r4⟩ := hR1.cells5
        have hb2 := hbW.trans (hb1.mono hbW.size)
        cases e4 : decide (posts = posts2)
        · have HN := Lib.hid (show res = false by
            rw [HRes.out]; rw [decide_eq_false_iff_not] at e4 ⊢; rw [HI.out]; exact fun h => e4 h.2.2.2.1)
          go_wp2
          go_ret
          exact ⟨ret_bool HN.out.symm, hb2⟩
        · have HN := Lib.hid (show res = decide (heard = heard2) by
            have e5 : posts = posts2 := by simpa using e4
            rw [HRes.out, decide_eq_decide, HI.out]
            exact ⟨fun h => h.2.2.2.2, fun h => ⟨HE.out.1, HE.out.2.1, HE.out.2.2, e5, h⟩⟩)
          have HEI := Lib.hid (equalInt w1 A' n' c' heard B' m' d' heard2 ((HH.out.heard.below hb2).more hb2.size) ((HH2.out.heard.below hb2).more hb2.size) HH.out.few' HH2.out.few')
          go_wp2_with fail
          refine HEI.out.mono ?_
          rintro e w2 ⟨rfl, hb3⟩
          go_wp2
          go_ret
          exact ⟨ret_bool HN.out.symm, hb2.trans (hb3.mono hb2.size)⟩
      · have z5 : decide (clock = clock2) = false := by simpa using e3
        have z6 : (clock == clock2) = false := by simpa using e3
        have HN := Lib.hid (show res = false by
          rw [HRes.out, decide_eq_false_iff_not]; rw [HI.out]; exact fun h => e3 h.2.2.1)
        clear e1 e2 e3
        go_wp2
        go_ret
        exact ⟨ret_bool HN.out.symm, by first | exact hbW | (rw [← HW0.out]; exact hbW)⟩
    · have z3 : decide (many = many2) = false := by simpa using e2
      have z4 : (many == many2) = false := by simpa using e2
      have HN := Lib.hid (show res = false by
        rw [HRes.out, decide_eq_false_iff_not]; rw [HI.out]; exact fun h => e2 h.2.1)
      clear e1 e2
      go_wp2
      go_ret
      exact ⟨ret_bool HN.out.symm, by first | exact hbW | (rw [← HW0.out]; exact hbW)⟩
  · have z1 : decide (me = me2) = false := by simpa using e1
    have z2 : (me == me2) = false := by simpa using e1
    have HN := Lib.hid (show res = false by
      rw [HRes.out, decide_eq_false_iff_not]; rw [HI.out]; exact fun h => e1 h.1)
    clear e1
    go_wp2
    go_ret
    exact ⟨ret_bool HN.out.symm, by first | exact hbW | (rw [← HW0.out]; exact hbW)⟩
end Go.Proofs.YtnehgpeelgjjhaaGreatDoor.Tw
namespace Go.Proofs.YtnehgpeelgjjhaaGreatDoor.Tw
open Go.RowKit

/-! the state of a run, as it lies in memory -/
structure RV where
  r : Rp.Rep
  A : Option Addr
  n : Nat
  c : Nat
  A' : Option Addr
  n' : Nat
  c' : Nat
structure MV where
  m : Rp.Msg
  M : Option Addr
  N : Nat
  C : Nat
  M' : Option Addr
  N' : Nat
  C' : Nat
def RV.enc (v : RV) : List Value := [.int .i64 v.r.me, .int .i64 v.r.many, .int .i64 v.r.clock, .slice v.A v.n v.c, .slice v.A' v.n' v.c']
def MV.enc (v : MV) : List Value := [.int .i64 v.m.src, .slice v.M v.N v.C, .slice v.M' v.N' v.C']
def encRs (l : List RV) : List Value := l.flatMap RV.enc
def encMs (l : List MV) : List Value := l.flatMap MV.enc
theorem encRs_length (l : List RV) : (encRs l).length = l.length * 5 := by
  induction l with
  | nil => rfl
  | cons p l ih => simp [encRs, RV.enc] at *; omega
theorem encMs_length (l : List MV) : (encMs l).length = l.length * 3 := by
  induction l with
  | nil => rfl
  | cons p l ih => simp [encMs, MV.enc] at *; omega
theorem encRs_get : ∀ (l : List RV) (j : Nat) (p : RV) (i : Nat), l[j]? = some p → i < 5 → (encRs l)[j * 5 + i]? = p.enc[i]?
  | [], j, p, i, h, _ => by simp at h
  | x :: l, 0, p, i, h, hi => by
    simp at h; subst h
    rw [show encRs (x :: l) = x.enc ++ encRs l from rfl, Nat.zero_mul, Nat.zero_add, List.getElem?_append_left (by simp [RV.enc]; exact hi)]
  | x :: l, j + 1, p, i, h, hi => by
    rw [show encRs (x :: l) = x.enc ++ encRs l from rfl, List.getElem?_append_right (by simp [RV.enc]; omega)]
    have := encRs_get l j p i (by simpa using h) hi
    rw [← this]
    congr 1
    simp [RV.enc]; omega
theorem encMs_get : ∀ (l : List MV) (j : Nat) (p : MV) (i : Nat), l[j]? = some p → i < 3 → (encMs l)[j * 3 + i]? = p.enc[i]?
  | [], j, p, i, h, _ => by simp at h
  | x :: l, 0, p, i, h, hi => by
    simp at h; subst h
    rw [show encMs (x :: l) = x.enc ++ encMs l from rfl, Nat.zero_mul, Nat.zero_add, List.getElem?_append_left (by simp [MV.enc]; exact hi)]
  | x :: l, j + 1, p, i, h, hi => by
    rw [show encMs (x :: l) = x.enc ++ encMs l from rfl, List.getElem?_append_right (by simp [MV.enc]; omega)]
    have := encMs_get l j p i (by simpa using h) hi
    rw [← this]
    congr 1
    simp [MV.enc]; omega
theorem encMs_snoc (l : List MV) (p : MV) : encMs (l ++ [p]) = encMs l ++ p.enc := by simp [encMs]
theorem encRs_snoc (l : List RV) (p : RV) : encRs (l ++ [p]) = encRs l ++ p.enc := by simp [encRs]

/-- the slice lies apart from the run's own blocks -/
def Apart (A : Option Addr) (n : Nat) (x : Nat) (va vb : Value) : Prop := 0 < n → ∀ a, A = some a → a.block ≠ x ∧ va.ownBlock ≠ some a.block ∧ vb.ownBlock ≠ some a.block

structure RunR (B : Nat) (W : World) (x : Nat) (va : Value) (rl : List RV) (vb : Value) (ml : List MV) : Prop where
  blk : Blk W x 112 #[va, vb]
  reps : W.ownsRow B 26 5 va rl.length (encRs rl)
  msgs : W.ownsRow B 28 3 vb ml.length (encMs ml)
  rep : ∀ v ∈ rl, RepR W W.heap.size v.r v.A v.n v.A' v.n' ∧ Apart v.A v.n x va vb ∧ Apart v.A' v.n' x va vb
  msg : ∀ v ∈ ml, MsgR W W.heap.size v.m v.M v.N v.M' v.N' ∧ v.N ≤ v.C ∧ Apart v.M v.N x va vb ∧ Apart v.M' v.N' x va vb
  at_ : B ≤ x
  caps : ∀ v ∈ rl, v.n ≤ v.c

section
variable {B x : Nat} {W W' : World} {va vb : Value} {rl : List RV} {ml : List MV}
/-- whatever keeps all that was there keeps the run -/
theorem RunR.keep (h : RunR B W x va rl vb ml) (hb : Below W.heap.size W W') : RunR B W' x va rl vb ml :=
  ⟨h.blk.below hb h.blk.lt, own_below h.reps hb, own_below h.msgs hb, fun v hv => ⟨((h.rep v hv).1.below hb).more hb.size, (h.rep v hv).2⟩,
    fun v hv => ⟨((h.msg v hv).1.below hb).more hb.size, (h.msg v hv).2⟩, h.at_, h.caps⟩
theorem RunR.drew (h : RunR B W x va rl vb ml) : RunR B W.drew x va rl vb ml := h.keep (Below.refl _ _).drew
theorem Fresh.apart {A : Option Addr} {n : Nat} (h : RunR B W x va rl vb ml) (hf : Fresh W.heap.size A) : Apart A n x va vb := by
  intro _ a ha
  have h1 := hf a ha
  have h2 := h.blk.lt
  have key : ∀ {e : TypeId} {s n : Nat} {v : Value} {xs : List Value}, W.ownsRow B e s v n xs → v.ownBlock ≠ some a.block := by
    intro e s n v xs ho e1
    have := ho.lt a.block e1
    omega
  exact ⟨by omega, key h.reps, key h.msgs⟩
end

theorem RunR.repCells {B x g cap : Nat} {W : World} {vb : Value} {rl : List RV} {ml : List MV} {v : RV} {who : Nat} (h : RunR B W x (.slice (some ⟨g, 0, none⟩) rl.length cap) rl vb ml) (hv : rl[who]? = some v) :
    W.cell? ⟨g, who * 5, none⟩ = some (.int .i64 v.r.me) ∧ W.cell? ⟨g, who * 5 + 1, none⟩ = some (.int .i64 v.r.many) ∧ W.cell? ⟨g, who * 5 + 2, none⟩ = some (.int .i64 v.r.clock) ∧
      W.cell? ⟨g, who * 5 + 3, none⟩ = some (.slice v.A v.n v.c) ∧ W.cell? ⟨g, who * 5 + 4, none⟩ = some (.slice v.A' v.n' v.c') := by
  have hl : who < rl.length := (List.getElem?_eq_some_iff.1 hv).1
  have key : ∀ i, i < 5 → W.cell? ⟨g, who * 5 + i, none⟩ = v.enc[i]? := fun i hi => by
    rw [h.reps.cellAt (who * 5 + i) (by omega), encRs_get rl who v i hv hi]
  exact ⟨key 0 (by omega), key 1 (by omega), key 2 (by omega), key 3 (by omega), key 4 (by omega)⟩

theorem encRs_set : ∀ (l : List RV) (j : Nat) (v : RV), j < l.length →
    (((((encRs l).set (j * 5) (.int .i64 v.r.me)).set (j * 5 + 1) (.int .i64 v.r.many)).set (j * 5 + 2) (.int .i64 v.r.clock)).set (j * 5 + 3) (.slice v.A v.n v.c)).set (j * 5 + 4) (.slice v.A' v.n' v.c') = encRs (l.set j v)
  | [], j, v, h => by simp at h
  | x :: l, 0, v, _ => by simp [encRs, RV.enc]
  | x :: l, j + 1, v, h => by
    have ih := encRs_set l j v (by simpa using h)
    have e : encRs (x :: l) = x.enc ++ encRs l := rfl
    have e2 : encRs ((x :: l).set (j + 1) v) = x.enc ++ encRs (l.set j v) := rfl
    have hx : x.enc.length = 5 := rfl
    rw [e2, ← ih, e]
    have hs : ∀ (ys : List Value) (k : Nat) (u : Value), (x.enc ++ ys).set ((j + 1) * 5 + k) u = x.enc ++ ys.set (j * 5 + k) u := fun ys k u => by
      rw [List.set_append_right _ _ (by rw [hx]; omega), hx]
      congr 2
      omega
    have hs0 : ∀ (ys : List Value) (u : Value), (x.enc ++ ys).set ((j + 1) * 5) u = x.enc ++ ys.set (j * 5) u := fun ys u => hs ys 0 u
    rw [hs0, hs, hs, hs, hs]


theorem Reads.far0 {w : World} {B size n : Nat} {A : Option Addr} {xs : List Value} (h : Reads w B size A n xs) {p : Addr} (hp : 0 < n → ∀ a, A = some a → a.block ≠ p.block) (u : Value) : Reads (w.setCell p u) B size A n xs := by
  rcases Nat.eq_zero_or_pos n with h0 | h0
  · exact ⟨h.1, fun h1 => by omega⟩
  · exact h.far (hp h0) u
theorem RepR.far0 {w : World} {B : Nat} {r : Rp.Rep} {A A' : Option Addr} {n n' : Nat} (h : RepR w B r A n A' n') {p : Addr} (hp : 0 < n → ∀ a, A = some a → a.block ≠ p.block) (hp' : 0 < n' → ∀ a, A' = some a → a.block ≠ p.block) (u : Value) :
    RepR (w.setCell p u) B r A n A' n' :=
  ⟨h.posts.far0 hp u, h.len, h.heard.far0 hp' u, h.len', h.few, h.few'⟩
theorem MsgR.far0 {w : World} {B : Nat} {r : Rp.Msg} {A A' : Option Addr} {n n' : Nat} (h : MsgR w B r A n A' n') {p : Addr} (hp : 0 < n → ∀ a, A = some a → a.block ≠ p.block) (hp' : 0 < n' → ∀ a, A' = some a → a.block ≠ p.block) (u : Value) :
    MsgR (w.setCell p u) B r A n A' n' :=
  ⟨h.posts.far0 hp u, h.len, h.heard.far0 hp' u, h.len', h.few, h.few'⟩
theorem Reads.grown {w w' : World} {B size n : Nat} {row : Option Nat} {A : Option Addr} {xs : List Value} (h : Reads w B size A n xs) (hg : w.grownBy w' row) (hB : B ≤ w.heap.size) (hne : 0 < n → ∀ a, A = some a → some a.block ≠ row) : Reads w' B size A n xs := by
  refine ⟨h.1, fun hn => ?_⟩
  obtain ⟨b, off, e, hb, hc⟩ := h.2 hn
  have hne' : some b ≠ row := hne hn ⟨b, off, none⟩ e
  exact ⟨b, off, e, hb, fun j u hu => (hg.cell_far ⟨b, off + j, none⟩ (show b < _ by omega) hne').trans (hc j u hu)⟩
theorem RepR.grown {w w' : World} {B : Nat} {row : Option Nat} {r : Rp.Rep} {A A' : Option Addr} {n n' : Nat} (h : RepR w B r A n A' n') (hg : w.grownBy w' row) (hB : B ≤ w.heap.size) (hne : 0 < n → ∀ a, A = some a → some a.block ≠ row) (hne' : 0 < n' → ∀ a, A' = some a → some a.block ≠ row) : RepR w' B r A n A' n' :=
  ⟨h.posts.grown hg hB hne, h.len, h.heard.grown hg hB hne', h.len', h.few, h.few'⟩
theorem MsgR.grown {w w' : World} {B : Nat} {row : Option Nat} {r : Rp.Msg} {A A' : Option Addr} {n n' : Nat} (h : MsgR w B r A n A' n') (hg : w.grownBy w' row) (hB : B ≤ w.heap.size) (hne : 0 < n → ∀ a, A = some a → some a.block ≠ row) (hne' : 0 < n' → ∀ a, A' = some a → some a.block ≠ row) : MsgR w' B r A n A' n' :=
  ⟨h.posts.grown hg hB hne, h.len, h.heard.grown hg hB hne', h.len', h.few, h.few'⟩
theorem Reads.lt {w : World} {B size n : Nat} {A : Option Addr} {xs : List Value} (h : Reads w B size A n xs) (hn : 0 < n) : ∀ a, A = some a → a.block < B := by
  obtain ⟨b, off, e, hb, _⟩ := h.2 hn
  intro a ha
  rw [e] at ha; injection ha with ha; subst ha; exact hb

theorem row_store {B x g n cap m k : Nat} {W : World} {vb : Value} {cs : Array Value} {xs ys : List Value} (u : Value)
    (h : Blk W x 112 cs ∧ W.ownsRow B 26 5 (.slice (some ⟨g, 0, none⟩) n cap) n xs ∧ W.ownsRow B 28 3 vb m ys) :
    Blk (W.setCell ⟨g, k, none⟩ u) x 112 cs ∧ (W.setCell ⟨g, k, none⟩ u).ownsRow B 26 5 (.slice (some ⟨g, 0, none⟩) n cap) n (xs.set k u) ∧ (W.setCell ⟨g, k, none⟩ u).ownsRow B 28 3 vb m ys := by
  obtain ⟨hb, hr, hm⟩ := h
  refine ⟨hb.far (p := ⟨g, k, none⟩) ?_ u, (hr.stored k u).1, own_far hm (p := ⟨g, k, none⟩) ?_ u⟩
  · intro e
    exact own_ne_blk hr hb (by decide) (by simp [Value.ownBlock, e])
  · intro e
    exact (own_apart hm hr (by decide)).elim (fun h => by rw [h] at e; cases e) (fun h => h e)
theorem Apart.ne {A : Option Addr} {k x g n c : Nat} {vb : Value} (h : Apart A k x (.slice (some ⟨g, 0, none⟩) n c) vb) : 0 < k → ∀ a, A = some a → a.block ≠ g :=
  fun hk a ha e => (h hk a ha).2.1 (by simp [Value.ownBlock, e])

/-- x.replicas[who] = v -/
theorem RunR.setRep {B x g cap : Nat} {W : World} {vb : Value} {rl : List RV} {ml : List MV} (h : RunR B W x (.slice (some ⟨g, 0, none⟩) rl.length cap) rl vb ml) {who : Nat} (hw : who < rl.length) (v : RV)
    (hv : RepR W W.heap.size v.r v.A v.n v.A' v.n') (h1 : Apart v.A v.n x (.slice (some ⟨g, 0, none⟩) rl.length cap) vb) (h2 : Apart v.A' v.n' x (.slice (some ⟨g, 0, none⟩) rl.length cap) vb) (hcv : v.n ≤ v.c) :
    RunR B (((((W.setCell ⟨g, who * 5, none⟩ (.int .i64 v.r.me)).setCell ⟨g, who * 5 + 1, none⟩ (.int .i64 v.r.many)).setCell ⟨g, who * 5 + 2, none⟩ (.int .i64 v.r.clock)).setCell ⟨g, who * 5 + 3, none⟩ (.slice v.A v.n v.c)).setCell ⟨g, who * 5 + 4, none⟩ (.slice v.A' v.n' v.c'))
      x (.slice (some ⟨g, 0, none⟩) rl.length cap) (rl.set who v) vb ml := by
  obtain ⟨b, r, m⟩ := row_store (k := who * 5 + 4) (.slice v.A' v.n' v.c') (row_store (k := who * 5 + 3) (.slice v.A v.n v.c) (row_store (k := who * 5 + 2) (.int .i64 v.r.clock) (row_store (k := who * 5 + 1) (.int .i64 v.r.many) (row_store (k := who * 5) (.int .i64 v.r.me) ⟨h.blk, h.reps, h.msgs⟩))))
  rw [encRs_set rl who v hw] at r
  refine ⟨b, by rw [List.length_set]; exact r, m, fun v' hv' => ?_, fun v' hv' => ?_, h.at_, fun v' hv' => (List.mem_or_eq_of_mem_set hv').elim (h.caps v') (fun e => e ▸ hcv)⟩
  · have key : RepR W W.heap.size v'.r v'.A v'.n v'.A' v'.n' ∧ Apart v'.A v'.n x (.slice (some ⟨g, 0, none⟩) rl.length cap) vb ∧ Apart v'.A' v'.n' x (.slice (some ⟨g, 0, none⟩) rl.length cap) vb := by
      rcases List.mem_or_eq_of_mem_set hv' with h' | h'
      · exact h.rep v' h'
      · subst h'; exact ⟨hv, h1, h2⟩
    refine ⟨?_, key.2⟩
    simp only [size_setCell]
    repeat (refine RepR.far0 ?_ key.2.1.ne key.2.2.ne _)
    exact key.1
  · have key := h.msg v' hv'
    refine ⟨?_, key.2⟩
    simp only [size_setCell]
    repeat (refine MsgR.far0 ?_ key.2.2.1.ne key.2.2.2.ne _)
    exact key.1

/-- the row of the messages takes one more, and x.sent is that row: the slices that are read lie apart still -/
theorem apart_push {w1 : World} {x : Nat} {va vb : Value} {g' n' c' k K : Nat} {s : Nat} {A : Option Addr} {xs : List Value} {w : World} (h : Apart A k x va vb) (hr : Reads w K s A k xs) (hK : K ≤ w1.heap.size) (hat : vb.ownBlock = some g' ∨ w1.heap.size ≤ g') :
    Apart A k x va (.slice (some ⟨g', 0, none⟩) n' c') := by
  intro hk a ha
  obtain ⟨h1, h2, h3⟩ := h hk a ha
  refine ⟨h1, h2, ?_⟩
  have h4 := hr.lt hk a ha
  simp only [Value.ownBlock, ne_eq, Option.some.injEq]
  intro e
  rcases hat with h5 | h5
  · rw [h5] at h3; simp at h3; omega
  · omega

/-- x.sent = append(x.sent, v) -/
theorem RunR.push {B x g' cap' : Nat} {W W1 w7 : World} {va vb : Value} {rl : List RV} {ml : List MV} (h : RunR B W x va rl vb ml) (v : MV) (hv : MsgR W W.heap.size v.m v.M v.N v.M' v.N') (hc : v.N ≤ v.C)
    (h1 : Apart v.M v.N x va vb) (h2 : Apart v.M' v.N' x va vb) (hW1 : Below W.heap.size W W1) (hgrow : W1.grownBy w7 vb.ownBlock)
    (hown : w7.ownsRow B 28 3 (.slice (some ⟨g', 0, none⟩) (ml.length + 1) cap') (ml.length + 1) (encMs ml ++ v.enc)) (hat : vb.ownBlock = some g' ∨ W1.heap.size ≤ g') :
    RunR B (w7.setCell ⟨x, 1, none⟩ (.slice (some ⟨g', 0, none⟩) (ml.length + 1) cap')) x va rl (.slice (some ⟨g', 0, none⟩) (ml.length + 1) cap') (ml ++ [v]) := by
  have hB1 : Blk W1 x 112 #[va, vb] := h.blk.below hW1 h.blk.lt
  have hm1 := own_below h.msgs hW1
  have hr1 := own_below h.reps hW1
  have hxne : some x ≠ vb.ownBlock := fun e => own_ne_blk hm1 hB1 (by decide) e.symm
  have hB7 : Blk w7 x 112 #[va, vb] := (hgrow.block x hB1.lt hxne).trans hB1
  have hr7 := hr1.kept hgrow (own_apart hr1 hm1 (by decide))
  have hs7 := hgrow.size
  have hsW := hW1.size
  have hB8 := hB7.set_ 1 (.slice (some ⟨g', 0, none⟩) (ml.length + 1) cap')
  refine ⟨hB8, own_far hr7 (p := ⟨x, 1, none⟩) (own_ne_blk hr7 hB7 (by decide)) _, ?_, fun v' hv' => ?_, fun v' hv' => ?_, h.at_, h.caps⟩
  · rw [encMs_snoc, List.length_append]
    exact own_far hown (p := ⟨x, 1, none⟩) (own_ne_blk hown hB7 (by decide)) _
  · obtain ⟨k1, k2, k3⟩ := h.rep v' hv'
    refine ⟨?_, apart_push (w1 := W1) k2 k1.posts hsW hat, apart_push (w1 := W1) k3 k1.heard hsW hat⟩
    simp only [size_setCell]
    refine RepR.far0 ?_ (fun hk a ha => (k2 hk a ha).1) (fun hk a ha => (k3 hk a ha).1) _
    exact ((k1.below hW1).grown hgrow hsW (fun hk a ha e => (k2 hk a ha).2.2 e.symm) (fun hk a ha e => (k3 hk a ha).2.2 e.symm)).more (by omega)
  · have key : MsgR W W.heap.size v'.m v'.M v'.N v'.M' v'.N' ∧ v'.N ≤ v'.C ∧ Apart v'.M v'.N x va vb ∧ Apart v'.M' v'.N' x va vb := by
      rcases List.mem_append.1 hv' with h' | h'
      · exact h.msg v' h'
      · obtain rfl : v' = v := by simpa using h'
        exact ⟨hv, hc, h1, h2⟩
    obtain ⟨k1, k0, k2, k3⟩ := key
    refine ⟨?_, k0, apart_push (w1 := W1) k2 k1.posts hsW hat, apart_push (w1 := W1) k3 k1.heard hsW hat⟩
    simp only [size_setCell]
    refine MsgR.far0 ?_ (fun hk a ha => (k2 hk a ha).1) (fun hk a ha => (k3 hk a ha).1) _
    exact ((k1.below hW1).grown hgrow hsW (fun hk a ha e => (k2 hk a ha).2.2 e.symm) (fun hk a ha e => (k3 hk a ha).2.2 e.symm)).more (by omega)
end Go.Proofs.YtnehgpeelgjjhaaGreatDoor.Tw
namespace Go.Proofs.YtnehgpeelgjjhaaGreatDoor.Tw
open Go.RowKit

theorem map_set_r (l : List RV) (j : Nat) (v : RV) : (l.set j v).map (·.r) = (l.map (·.r)).set j v.r := by rw [List.map_set]

set_option maxRecDepth 100000 in
set_option maxHeartbeats 6400000 in
theorem mwrite_any (B x : Nat) (W : World) (va : Value) (rl : List RV) (vb : Value) (ml : List MV) (h : RunR B W x va rl vb ml) (kind at_ : Int) (who : Nat) (v : RV) (hv : rl[who]? = some v) (hfew : rl.length ≤ 5) (text : ByteArray) :
    Calls Tryz.prog 91 #[.pointer (some ⟨x, 0, none⟩), .agg #[.int .i64 kind, .int .i64 who, .int .i64 at_, .string text]] W fun e W' => (∃ u, e = .returned u) ∧ Below B W W' ∧
      ∃ rl', RunR B W' x va rl' vb ml ∧ rl'.map (·.r) = match Rp.write v.r text with | some r => (rl.map (·.r)).set who r | none => rl.map (·.r) := by
  have hl : who < rl.length := (List.getElem?_eq_some_iff.1 hv).1
  obtain ⟨g, cap, rfl, hg, hgl⟩ := h.reps.form (by omega)
  obtain ⟨c0, c1, c2, c3, c4⟩ := h.repCells hv
  have x0 := h.blk.cell 0
  simp only [List.getElem?_toArray, List.getElem?_cons_zero] at x0
  have hxl := h.blk.lt
  have hrep := (h.rep v (List.mem_of_getElem? hv)).1
  obtain ⟨r, A, n, c, A', n', c'⟩ := v
  simp only at c0 c1 c2 c3 c4 hrep
  obtain ⟨W0, hW0⟩ : ∃ W0, W0 = W.alloc (.cells #[.int .i64 kind, .int .i64 who, .int .i64 at_, .string text] 64) := ⟨_, rfl⟩
  have hb0 : Below W.heap.size W W0 := by rw [hW0]; exact (Below.refl _ _).alloc (Nat.le_refl _) _
  have hm0 : Blk W0 W.heap.size 64 #[.int .i64 kind, .int .i64 who, .int .i64 at_, .string text] := by rw [hW0]; exact Blk.new _ _ _
  have hs0 : W0.heap.size = W.heap.size + 1 := by rw [hW0]; simp
  have HRep : Hid (∀ W', Below W0.heap.size W0 W' → RepR W' W'.heap.size r A n A' n') := Lib.hid fun W' hb => (hrep.below (hb0.trans (hb.mono hb0.size))).more (hb0.trans (hb.mono hb0.size)).size
  have hBW : B ≤ W.heap.size := by have := h.at_; omega
  have HR := Lib.hid h
  have HV := Lib.hid hv
  clear h hv hrep
  have HW0 := Lib.hid hW0
  clear hW0
  have d1 := hm0.cell 1
  have d3 := hm0.cell 3
  simp only [List.getElem?_toArray, List.getElem?_cons_zero, List.getElem?_cons_succ] at d1 d3
  rw [← hb0.cell (p := ⟨g, _, none⟩) hgl] at c0 c1 c2 c3 c4
  rw [← hb0.cell (p := ⟨x, _, none⟩) hxl] at x0
  obtain ⟨me, many, clock, posts, heard⟩ := r
  simp only at c0 c1 c2 c3 c4
  have hxl0 : x < W0.heap.size := by omega
  have hgl0 : g < W0.heap.size := by omega
  have hWl0 : W.heap.size < W0.heap.size := by omega
  have HS0 := Lib.hid hs0
  clear hs0
  have hwr := fun W' hb => write_any W' ⟨me, many, clock, posts, heard⟩ A n c A' n' c' text (HRep.out W' hb)
  unfold GotRep repV zeroRep at hwr
  simp only at hwr
  have hwl : (who : Int) < (rl.length : Int) := by omega
  cases hw : Rp.write ⟨me, many, clock, posts, heard⟩ text
  · rw [hw] at hwr
    simp only at hwr
    have HWr := Lib.hid hwr
    clear hwr
    go_enter Tryz.func91, Tryz.ntmps91
    go_wp2
    rw [← HW0.out]
    have m0 := World.new_ne W0 _ x0
    have m1 := World.new_ne W0 _ d1
    have m2 := World.new_ne W0 _ c0
    go_region_held3 (fun w' => w'.cell? ⟨x, 0, none⟩ = some (.slice (some ⟨g, 0, none⟩) rl.length cap) ∧ w'.cell? ⟨W.heap.size, 1, none⟩ = some (.int .i64 who) ∧ w'.cell? ⟨W.heap.size, 3, none⟩ = some (.string text) ∧
        w'.cell? ⟨g, who * 5, none⟩ = some (.int .i64 me) ∧ w'.cell? ⟨g, who * 5 + 1, none⟩ = some (.int .i64 many) ∧ w'.cell? ⟨g, who * 5 + 2, none⟩ = some (.int .i64 clock) ∧
        w'.cell? ⟨g, who * 5 + 3, none⟩ = some (.slice A n c) ∧ w'.cell? ⟨g, who * 5 + 4, none⟩ = some (.slice A' n' c'))
      (go_keep)
      (first
        | (go_at_call 13
           refine (HWr.out _ (by first | exact (Below.refl _ _).drew | exact (Below.refl _ _).drew.alloc (Nat.le_refl _) _)).mono ?_
           rintro e w4 ⟨hb4, rfl⟩
           have B4 : Below W0.heap.size W0 w4 := by first | exact (Below.refl _ _).drew.trans hb4 | exact ((Below.refl _ _).drew.alloc (Nat.le_refl _) _).trans (hb4.mono (by simp))
           have hbW4 : Below W.heap.size W w4 := hb0.trans (B4.mono hb0.size)
           have hsz4 := hbW4.size
           have k0 := (B4.cell (p := ⟨x, 0, none⟩) (show x < W0.heap.size by omega)).trans x0
           have k1 := (B4.cell (p := ⟨W.heap.size, 1, none⟩) (show W.heap.size < W0.heap.size by omega)).trans d1
           have k3 := (B4.cell (p := ⟨W.heap.size, 3, none⟩) (show W.heap.size < W0.heap.size by omega)).trans d3
           have q0 := (B4.cell (p := ⟨g, who * 5, none⟩) (show g < W0.heap.size by omega)).trans c0
           have q1 := (B4.cell (p := ⟨g, who * 5 + 1, none⟩) (show g < W0.heap.size by omega)).trans c1
           have q2 := (B4.cell (p := ⟨g, who * 5 + 2, none⟩) (show g < W0.heap.size by omega)).trans c2
           have q3 := (B4.cell (p := ⟨g, who * 5 + 3, none⟩) (show g < W0.heap.size by omega)).trans c3
           have q4 := (B4.cell (p := ⟨g, who * 5 + 4, none⟩) (show g < W0.heap.size by omega)).trans c4
           have n0 := World.new_ne w4 _ k0
           have n1 := World.new_ne w4 _ k1
           have n2 := World.new_ne w4 _ q0
           try
             have hbk : Blk w4 W0.heap.size 26 #[.int .i64 0, .int .i64 0, .int .i64 0, .slice none 0 0, .slice none 0 0] := Blk.below (B := (W0.alloc (.cells #[.int .i64 0, .int .i64 0, .int .i64 0, .slice none 0 0, .slice none 0 0] 26)).heap.size) (Blk.new W0 26 #[.int .i64 0, .int .i64 0, .int .i64 0, .slice none 0 0, .slice none 0 0]).drew hb4 (by simp)
             obtain ⟨z0, z1, z2, z3, z4⟩ := hbk.cells5
             obtain ⟨s0, s1, s2, s3, s4⟩ := hbk.soft5))
    all_goals
      go_wp2
      go_end0
      refine (fun hfin : Below W.heap.size W _ => ⟨⟨_, rfl⟩, hfin.mono hBW, rl, HR.out.keep hfin, rfl⟩) ?_
      repeat (first | refine Below.setCell ?_ (by first | omega | (simp; try omega)) _ | refine Below.alloc ?_ (by first | omega | (simp; try omega)) _ | refine Below.drew ?_)
      exact hbW4
  · rename_i r'
    obtain ⟨me', many', clock', posts', heard'⟩ := r'
    rw [hw] at hwr
    simp only at hwr
    have HWr := Lib.hid hwr
    clear hwr
    go_enter Tryz.func91, Tryz.ntmps91
    go_wp2
    rw [← HW0.out]
    have m0 := World.new_ne W0 _ x0
    have m1 := World.new_ne W0 _ d1
    have m2 := World.new_ne W0 _ c0
    go_region_held3 (fun w' => w'.cell? ⟨x, 0, none⟩ = some (.slice (some ⟨g, 0, none⟩) rl.length cap) ∧ w'.cell? ⟨W.heap.size, 1, none⟩ = some (.int .i64 who) ∧ w'.cell? ⟨W.heap.size, 3, none⟩ = some (.string text) ∧
        w'.cell? ⟨g, who * 5, none⟩ = some (.int .i64 me) ∧ w'.cell? ⟨g, who * 5 + 1, none⟩ = some (.int .i64 many) ∧ w'.cell? ⟨g, who * 5 + 2, none⟩ = some (.int .i64 clock) ∧
        w'.cell? ⟨g, who * 5 + 3, none⟩ = some (.slice A n c) ∧ w'.cell? ⟨g, who * 5 + 4, none⟩ = some (.slice A' n' c'))
      (go_keep)
      (first
        | (go_at_call 13
           refine (HWr.out _ (by first | exact (Below.refl _ _).drew | exact (Below.refl _ _).drew.alloc (Nat.le_refl _) _)).mono ?_
           rintro e w4 ⟨hb4, A5, n5, c5, A6, n6, c6, rfl, hR4, hF5, hF6, hcv⟩
           have B4 : Below W0.heap.size W0 w4 := by first | exact (Below.refl _ _).drew.trans hb4 | exact ((Below.refl _ _).drew.alloc (Nat.le_refl _) _).trans (hb4.mono (by simp))
           have hbW4 : Below W.heap.size W w4 := hb0.trans (B4.mono hb0.size)
           have hsz4 := hbW4.size
           have k0 := (B4.cell (p := ⟨x, 0, none⟩) (show x < W0.heap.size by omega)).trans x0
           have k1 := (B4.cell (p := ⟨W.heap.size, 1, none⟩) (show W.heap.size < W0.heap.size by omega)).trans d1
           have k3 := (B4.cell (p := ⟨W.heap.size, 3, none⟩) (show W.heap.size < W0.heap.size by omega)).trans d3
           have q0 := (B4.cell (p := ⟨g, who * 5, none⟩) (show g < W0.heap.size by omega)).trans c0
           have q1 := (B4.cell (p := ⟨g, who * 5 + 1, none⟩) (show g < W0.heap.size by omega)).trans c1
           have q2 := (B4.cell (p := ⟨g, who * 5 + 2, none⟩) (show g < W0.heap.size by omega)).trans c2
           have q3 := (B4.cell (p := ⟨g, who * 5 + 3, none⟩) (show g < W0.heap.size by omega)).trans c3
           have q4 := (B4.cell (p := ⟨g, who * 5 + 4, none⟩) (show g < W0.heap.size by omega)).trans c4
           have n0 := World.new_ne w4 _ k0
           have n1 := World.new_ne w4 _ k1
           have n2 := World.new_ne w4 _ q0
           try
             have hbk : Blk w4 W0.heap.size 26 #[.int .i64 0, .int .i64 0, .int .i64 0, .slice none 0 0, .slice none 0 0] := Blk.below (B := (W0.alloc (.cells #[.int .i64 0, .int .i64 0, .int .i64 0, .slice none 0 0, .slice none 0 0] 26)).heap.size) (Blk.new W0 26 #[.int .i64 0, .int .i64 0, .int .i64 0, .slice none 0 0, .slice none 0 0]).drew hb4 (by simp)
             obtain ⟨z0, z1, z2, z3, z4⟩ := hbk.cells5
             obtain ⟨s0, s1, s2, s3, s4⟩ := hbk.soft5))
    · obtain ⟨W5, hW5⟩ : ∃ W5, W5 = w4.alloc (.cells #[.int .i64 me', .int .i64 many', .int .i64 clock', .slice A5 n5 c5, .slice A6 n6 c6] 26) := ⟨_, rfl⟩
      rw [← hW5]
      have hB5 : Blk W5 w4.heap.size 26 #[.int .i64 me', .int .i64 many', .int .i64 clock', .slice A5 n5 c5, .slice A6 n6 c6] := by rw [hW5]; exact Blk.new _ _ _
      have hb5 : Below W.heap.size W W5 := by rw [hW5]; exact hbW4.alloc hsz4 _
      have hb05 : Below W0.heap.size W0 W5 := by rw [hW5]; exact B4.alloc B4.size _
      have hR5 : RepR W5 W5.heap.size ⟨me', many', clock', posts', heard'⟩ A5 n5 A6 n6 := by
        rw [hW5]
        exact (hR4.below ((Below.refl _ _).alloc (Nat.le_refl _) _)).more (by simp)
      have hA5 : Apart A5 n5 x (.slice (some ⟨g, 0, none⟩) rl.length cap) vb := Fresh.apart HR.out (fun a e => by have := hF5 a e; simp at this; omega)
      have hA6 : Apart A6 n6 x (.slice (some ⟨g, 0, none⟩) rl.length cap) vb := Fresh.apart HR.out (fun a e => by have := hF6 a e; simp at this; omega)
      have hs5 := hb5.size
      have HR5 := Lib.hid (HR.out.keep hb5)
      have HSet := Lib.hid (HR5.out.setRep hl ⟨⟨me', many', clock', posts', heard'⟩, A5, n5, c5, A6, n6, c6⟩ hR5 hA5 hA6 hcv)
      have x5 := (hb05.cell (p := ⟨x, 0, none⟩) hxl0).trans x0
      have d5 := (hb05.cell (p := ⟨W.heap.size, 1, none⟩) hWl0).trans d1
      obtain ⟨v0, v1, v2, v3, v4⟩ := hB5.cells5
      have hgx : g ≠ x := fun e => own_ne_blk HR5.out.reps HR5.out.blk (by decide) (by simp [Value.ownBlock, e])
      have hgW : g ≠ W.heap.size := by omega
      have hgG : g ≠ w4.heap.size := by omega
      have hgx' := hgx.symm
      have hgW' := hgW.symm
      have hgG' := hgG.symm
      have t0 := HR5.out.reps.frozenAt (who * 5)
      have t1 := HR5.out.reps.frozenAt (who * 5 + 1)
      have t2 := HR5.out.reps.frozenAt (who * 5 + 2)
      have t3 := HR5.out.reps.frozenAt (who * 5 + 3)
      have t4 := HR5.out.reps.frozenAt (who * 5 + 4)
      obtain ⟨p0, p1, p2, p3, p4⟩ := HR5.out.repCells HV.out
      simp only at p0 p1 p2 p3 p4
      clear hW5 k0 k1 k3 q0 q1 q2 q3 q4 n0 n1 n2 hb4 hR4 hF5 hF6 c0 c1 c2 c3 c4 hA5 hA6 hR5 x0 d1 d3 m0 m1 m2 hB5 hb05 B4 hbW4
      go_wp2
      go_region_held3 (fun w' => w'.cell? ⟨x, 0, none⟩ = some (.slice (some ⟨g, 0, none⟩) rl.length cap) ∧ w'.cell? ⟨W.heap.size, 1, none⟩ = some (.int .i64 who) ∧
          w'.cell? ⟨w4.heap.size, 0, none⟩ = some (.int .i64 me') ∧ w'.cell? ⟨w4.heap.size, 1, none⟩ = some (.int .i64 many') ∧ w'.cell? ⟨w4.heap.size, 2, none⟩ = some (.int .i64 clock') ∧
          w'.cell? ⟨w4.heap.size, 3, none⟩ = some (.slice A5 n5 c5) ∧ w'.cell? ⟨w4.heap.size, 4, none⟩ = some (.slice A6 n6 c6))
        (go_keep)
        (fail)
      go_wp2
      go_end0
      refine ⟨⟨_, rfl⟩, ?_, rl.set who ⟨⟨me', many', clock', posts', heard'⟩, A5, n5, c5, A6, n6, c6⟩, HSet.out.drew, map_set_r _ _ _⟩
      refine Below.drew ?_
      repeat (refine Below.setCell ?_ (by simp; try omega) _)
      exact hb5.mono hBW
    · obtain ⟨W5, hW5⟩ : ∃ W5, W5 = ((((w4.setCell ⟨W0.heap.size, 0, none⟩ (.int .i64 me')).setCell ⟨W0.heap.size, 1, none⟩ (.int .i64 many')).setCell ⟨W0.heap.size, 2, none⟩ (.int .i64 clock')).setCell ⟨W0.heap.size, 3, none⟩ (.slice A5 n5 c5)).setCell ⟨W0.heap.size, 4, none⟩ (.slice A6 n6 c6) := ⟨_, rfl⟩
      rw [← hW5]
      have hB5 : Blk W5 W0.heap.size 26 #[.int .i64 me', .int .i64 many', .int .i64 clock', .slice A5 n5 c5, .slice A6 n6 c6] := by rw [hW5]; exact ((((hbk.set_ 0 _).set_ 1 _).set_ 2 _).set_ 3 _).set_ 4 _
      have hb5 : Below W.heap.size W W5 := by rw [hW5]; exact ((((hbW4.setCell (p := ⟨W0.heap.size, 0, none⟩) (show W.heap.size ≤ W0.heap.size by omega) _).setCell (p := ⟨W0.heap.size, 1, none⟩) (show W.heap.size ≤ W0.heap.size by omega) _).setCell (p := ⟨W0.heap.size, 2, none⟩) (show W.heap.size ≤ W0.heap.size by omega) _).setCell (p := ⟨W0.heap.size, 3, none⟩) (show W.heap.size ≤ W0.heap.size by omega) _).setCell (p := ⟨W0.heap.size, 4, none⟩) (show W.heap.size ≤ W0.heap.size by omega) _
      have hb05 : Below W0.heap.size W0 W5 := by rw [hW5]; exact ((((B4.setCell (p := ⟨W0.heap.size, 0, none⟩) (Nat.le_refl _) _).setCell (p := ⟨W0.heap.size, 1, none⟩) (Nat.le_refl _) _).setCell (p := ⟨W0.heap.size, 2, none⟩) (Nat.le_refl _) _).setCell (p := ⟨W0.heap.size, 3, none⟩) (Nat.le_refl _) _).setCell (p := ⟨W0.heap.size, 4, none⟩) (Nat.le_refl _) _
      have hR5 : RepR W5 W5.heap.size ⟨me', many', clock', posts', heard'⟩ A5 n5 A6 n6 := by
        rw [hW5]
        simp only [size_setCell]
        repeat (refine RepR.far ?_ (fun a e h => by have := hF5 a e; simp at this h; omega) (fun a e h => by have := hF6 a e; simp at this h; omega) _)
        exact hR4
      have hA5 : Apart A5 n5 x (.slice (some ⟨g, 0, none⟩) rl.length cap) vb := Fresh.apart HR.out (fun a e => by have := hF5 a e; simp at this; omega)
      have hA6 : Apart A6 n6 x (.slice (some ⟨g, 0, none⟩) rl.length cap) vb := Fresh.apart HR.out (fun a e => by have := hF6 a e; simp at this; omega)
      have hs5 := hb5.size
      have HR5 := Lib.hid (HR.out.keep hb5)
      have HSet := Lib.hid (HR5.out.setRep hl ⟨⟨me', many', clock', posts', heard'⟩, A5, n5, c5, A6, n6, c6⟩ hR5 hA5 hA6 hcv)
      have x5 := (hb05.cell (p := ⟨x, 0, none⟩) hxl0).trans x0
      have d5 := (hb05.cell (p := ⟨W.heap.size, 1, none⟩) hWl0).trans d1
      obtain ⟨v0, v1, v2, v3, v4⟩ := hB5.cells5
      have hgx : g ≠ x := fun e => own_ne_blk HR5.out.reps HR5.out.blk (by decide) (by simp [Value.ownBlock, e])
      have hgW : g ≠ W.heap.size := by omega
      have hgG : g ≠ W0.heap.size := by omega
      have hgx' := hgx.symm
      have hgW' := hgW.symm
      have hgG' := hgG.symm
      have t0 := HR5.out.reps.frozenAt (who * 5)
      have t1 := HR5.out.reps.frozenAt (who * 5 + 1)
      have t2 := HR5.out.reps.frozenAt (who * 5 + 2)
      have t3 := HR5.out.reps.frozenAt (who * 5 + 3)
      have t4 := HR5.out.reps.frozenAt (who * 5 + 4)
      obtain ⟨p0, p1, p2, p3, p4⟩ := HR5.out.repCells HV.out
      simp only at p0 p1 p2 p3 p4
      clear hW5 k0 k1 k3 q0 q1 q2 q3 q4 n0 n1 n2 hb4 hR4 hF5 hF6 c0 c1 c2 c3 c4 hA5 hA6 hR5 x0 d1 d3 m0 m1 m2 hB5 hb05 B4 hbW4
      go_wp2
      go_region_held3 (fun w' => w'.cell? ⟨x, 0, none⟩ = some (.slice (some ⟨g, 0, none⟩) rl.length cap) ∧ w'.cell? ⟨W.heap.size, 1, none⟩ = some (.int .i64 who) ∧
          w'.cell? ⟨W0.heap.size, 0, none⟩ = some (.int .i64 me') ∧ w'.cell? ⟨W0.heap.size, 1, none⟩ = some (.int .i64 many') ∧ w'.cell? ⟨W0.heap.size, 2, none⟩ = some (.int .i64 clock') ∧
          w'.cell? ⟨W0.heap.size, 3, none⟩ = some (.slice A5 n5 c5) ∧ w'.cell? ⟨W0.heap.size, 4, none⟩ = some (.slice A6 n6 c6))
        (go_keep)
        (fail)
      go_wp2
      go_end0
      refine ⟨⟨_, rfl⟩, ?_, rl.set who ⟨⟨me', many', clock', posts', heard'⟩, A5, n5, c5, A6, n6, c6⟩, HSet.out.drew, map_set_r _ _ _⟩
      refine Below.drew ?_
      repeat (refine Below.setCell ?_ (by simp; try omega) _)
      exact hb5.mono hBW
end Go.Proofs.YtnehgpeelgjjhaaGreatDoor.Tw
