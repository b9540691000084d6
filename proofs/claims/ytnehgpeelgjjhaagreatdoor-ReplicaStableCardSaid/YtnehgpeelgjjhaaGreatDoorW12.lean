/- Contracts of functions of the program, and plain laws, towards the laws of replicas. Joined of the texts: Motns, L5q, L5, O1, O2. -/
import Derived.Test.YtnehgpeelgjjhaaGreatDoorW11
import Derived.Test.YtnehgpeelgjjhaaGreatDoorW00
import Derived.ProofKit
import Derived.OpenShut
import Derived.LaidMore
import Derived.Laws.IdiomArrays
import Derived.Test.YtnehgpeelgjjhaaGreatDoorW07
set_option linter.all false
namespace Go.Proofs.YtnehgpeelgjjhaaGreatDoor.Tw
open Go.RowKit

def enc3 (l : List (Int × Int × Int)) : List Value := l.flatMap fun x => [.int .i64 x.1, .int .i64 x.2.1, .int .i64 x.2.2]
theorem enc3_get : ∀ (l : List (Int × Int × Int)) (j : Nat) (p : Int × Int × Int) (i : Nat), l[j]? = some p → i < 3 → (enc3 l)[j * 3 + i]? = ([.int .i64 p.1, .int .i64 p.2.1, .int .i64 p.2.2] : List Value)[i]?
  | [], j, p, i, h, _ => by simp at h
  | q :: l, 0, p, i, h, hi => by
    simp at h; subst h
    show (_ ++ enc3 l)[0 * 3 + i]? = _
    rw [List.getElem?_append_left (by simp; omega)]; simp
  | q :: l, j + 1, p, i, h, hi => by
    show (_ ++ enc3 l)[(j + 1) * 3 + i]? = _
    rw [List.getElem?_append_right (by simp; omega)]
    have : (j + 1) * 3 + i - ([.int .i64 q.1, .int .i64 q.2.1, .int .i64 q.2.2] : List Value).length = j * 3 + i := by simp; omega
    rw [this]
    exact enc3_get l j p i (by simpa using h) hi
theorem Reads.three {w : World} {B n : Nat} {A : Option Addr} {l : List (Int × Int × Int)} (h : Reads w B 3 A n (enc3 l)) (hl : l.length = n) {j : Nat} (hj : j < n) :
    ∃ b off p, A = some ⟨b, off, none⟩ ∧ b < B ∧ l[j]? = some p ∧ w.cell? ⟨b, off + j * 3, none⟩ = some (.int .i64 p.1) ∧ w.cell? ⟨b, off + j * 3 + 1, none⟩ = some (.int .i64 p.2.1) ∧ w.cell? ⟨b, off + j * 3 + 2, none⟩ = some (.int .i64 p.2.2) := by
  obtain ⟨b, off, e, hb, hc⟩ := h.2 (by omega)
  have hp : l[j]? = some l[j] := List.getElem?_eq_getElem (by omega)
  refine ⟨b, off, l[j], e, hb, hp, ?_, ?_, ?_⟩
  · have := hc (j * 3 + 0) _ (enc3_get l j _ 0 hp (by omega)); simpa using this
  · have := hc (j * 3 + 1) _ (enc3_get l j _ 1 hp (by omega)); simpa [Nat.add_assoc] using this
  · have := hc (j * 3 + 2) _ (enc3_get l j _ 2 hp (by omega)); simpa [Nat.add_assoc] using this

def goTo (many : Nat) (xs : List (Int × Int × Int)) (i : Nat) : List Rp.Motion := Rp.motionsGo many 0 (xs.take i)
theorem motionsGo_snoc (many : Nat) (x : Int × Int × Int) : ∀ (l : List (Int × Int × Int)) (s : Nat), Rp.motionsGo many s (l ++ [x]) = Rp.motionsGo many s l ++ (Rp.motionOf many (s + Rp.sendsOf (Rp.motionsGo many s l)) x).toList
  | [], s => by
    simp only [List.nil_append, Rp.motionsGo]
    have : s + Rp.sendsOf [] = s := rfl
    rw [this]
    cases Rp.motionOf many s x <;> simp
  | y :: l, s => by
    simp only [List.cons_append, Rp.motionsGo]
    cases h : Rp.motionOf many s y with
    | none => simp only; exact motionsGo_snoc many x l s
    | some m =>
      simp only
      rw [motionsGo_snoc many x l (s + m.sends), Rp.sendsOf_cons, List.cons_append, Nat.add_assoc]
theorem goTo_succ {many : Nat} {xs : List (Int × Int × Int)} {i : Nat} {x : Int × Int × Int} (h : xs[i]? = some x) :
    goTo many xs (i + 1) = goTo many xs i ++ (Rp.motionOf many (Rp.sendsOf (goTo many xs i)) x).toList := by
  unfold goTo
  have h2 : xs.take (i + 1) = xs.take i ++ [x] := by rw [List.take_add_one, h]; rfl
  rw [h2, motionsGo_snoc, Nat.zero_add]
theorem goTo_length (many : Nat) (xs : List (Int × Int × Int)) (i : Nat) : (goTo many xs i).length ≤ i := by
  have := Rp.motionsGo_length (many := many) (xs.take i) 0
  have h2 : (xs.take i).length ≤ i := by rw [List.length_take]; omega
  unfold goTo; omega

set_option maxRecDepth 100000 in
set_option maxHeartbeats 6400000 in
theorem motionsOf_any (w : World) (many : Nat) (A : Option Addr) (n c : Nat) (xs : List (Int × Int × Int)) (hx : Reads w w.heap.size 3 A n (enc3 xs)) (hl : xs.length = n) (hm : 1 ≤ many) (hm5 : many ≤ 5)
    (hw : ∀ x ∈ xs, (-9223372036854775808 ≤ x.1 ∧ x.1 ≤ 9223372036854775807) ∧ (-9223372036854775808 ≤ x.2.1 ∧ x.2.1 ≤ 9223372036854775807) ∧ (-9223372036854775808 ≤ x.2.2 ∧ x.2.2 ≤ 9223372036854775807)) :
    Calls Tryz.prog 9 #[.int .i64 many, .slice A n c, .slice none 0 0] w fun e w' => ∃ A' n' c', e = .returned (.slice A' n' c') ∧ w'.ownsRow w.heap.size 64 4 (.slice A' n' c') n' (encMo (Rp.motions many xs)) ∧ (Rp.motions many xs).length = n' ∧ n' ≤ c' ∧ Below w.heap.size w w' := by
  obtain ⟨i0, hi0, hz0, hz1, hz2⟩ := info_parts info64
  have HX := Lib.hid hx
  have HL := Lib.hid hl
  have HWF := Lib.hid hw
  clear hx hl hw
  go_enter Tryz.func9, Tryz.ntmps9
  go_wp2
  go_loopw [7, 8, 9, 10] (fun s sv kv q wr => ∃ (i : Nat) (A' : Option Addr) (n' c' kk : Nat), i ≤ n ∧ i ≤ 60 ∧ q = .int .i64 i ∧ kv = .int .i64 kk ∧ kk ≤ i ∧ s = .slice A' n' c' ∧ sv = .int .i64 (Rp.sendsOf (goTo many xs i)) ∧
      Hid (wr.ownsRow w.heap.size 64 4 (.slice A' n' c') n' (encMo (goTo many xs i)) ∧ (goTo many xs i).length = n' ∧ n' ≤ c') ∧ Below w.heap.size w wr) (fun _ _ _ q _ => n - (intOf q).toNat)
  case atStart => exact ⟨0, none, 0, 0, 0, by omega, by omega, rfl, rfl, by omega, rfl, rfl, Lib.hid ⟨World.ownsRow_nil _ _ _ _, rfl, Nat.le_refl _⟩, Below.refl _ _⟩
  case round =>
    obtain ⟨i, A', n', c', kk, hi, hi60, rfl, rfl, hkk, rfl, rfl, hO, hb⟩ := hrel
    by_cases hlt : i < n
    · by_cases hlt60 : i < 60
      · obtain ⟨b, off, x, rfl, hbl, hq, h0, h1, h2⟩ := HX.out.three HL.out hlt
        rw [← hb.cell (p := ⟨b, _, none⟩) hbl] at h0 h1 h2
        obtain ⟨x0, x1, x2⟩ := x
        obtain ⟨wx0, wx1, wx2⟩ := HWF.out _ (List.mem_of_getElem? hq)
        simp only at h0 h1 h2 wx0 wx1 wx2
        have HP0 : Hid (∀ W, Calls Tryz.prog 40 #[.int .i64 x0, .int .i64 3] W fun e w' => e = .returned (.int .i64 (Rp.pick x0 3)) ∧ W = w') := Lib.hid fun W => pick_any x0 3 W (by omega) (by omega) (pick_wrap wx0)
        have HP1 := Lib.hid (pick_any x1 many · (by omega) (by omega) (pick_wrap wx1))
        have HP2 : Hid (∀ W, Calls Tryz.prog 40 #[.int .i64 x2, .int .i64 3] W fun e w' => e = .returned (.int .i64 (Rp.pick x2 3)) ∧ W = w') := Lib.hid fun W => pick_any x2 3 W (by omega) (by omega) (pick_wrap wx2)
        have HG := Lib.hid (goTo_succ (many := many) hq)
        have hp0 := Rp.pick_lt x0 (show 0 < 3 by omega)
        have hp1 := Rp.pick_lt x1 (show 0 < many by omega)
        have hp2 := Rp.pick_lt x2 (show 0 < 3 by omega)
        have HW2 := Lib.hid wx2
        clear wx0 wx1 wx2 hq
        obtain ⟨p0, e0⟩ : ∃ p0, p0 = Rp.pick x0 3 := ⟨_, rfl⟩
        obtain ⟨p1, e1⟩ : ∃ p1, p1 = Rp.pick x1 many := ⟨_, rfl⟩
        rw [← e0] at HP0 hp0
        rw [← e1] at HP1 hp1
        have E0 := Lib.hid e0
        have E1 := Lib.hid e1
        clear e0 e1
        have hsle : Rp.sendsOf (goTo many xs i) ≤ 60 := by
          have := goTo_length many xs i
          have h2 : ∀ l : List Rp.Motion, Rp.sendsOf l ≤ l.length := fun l => by have := sendsOf_take_le l l.length; rwa [List.take_length] at this
          have := h2 (goTo many xs i); omega
        obtain ⟨sj, es⟩ : ∃ sj, sj = Rp.sendsOf (goTo many xs i) := ⟨_, rfl⟩
        rw [← es] at hsle ⊢
        have ES := Lib.hid es
        clear es
        have h3 : p0 = 0 ∨ p0 = 1 ∨ p0 = 2 := by omega
        rcases h3 with rfl | rfl | rfl
        · obtain ⟨p2, e2⟩ : ∃ p2, p2 = Rp.pick x2 3 := ⟨_, rfl⟩
          rw [← e2] at HP2 hp2
          have E2 := Lib.hid e2
          clear e2
          have h4 : p2 = 0 ∨ p2 = 1 ∨ p2 = 2 := by omega
          have hx2a : ∀ o, (wr.alloc o).cell? ⟨b, off + i * 3 + 2, none⟩ = some (.int .i64 x2) := fun o => (World.cell?_alloc_some wr _ o (by rw [h2]; rfl)).trans h2
          have e3 := World.new_ne wr _ h0
          go_wp2
          go_region_held3 (fun w' => w'.cell? ⟨b, off + i * 3, none⟩ = some (.int .i64 x0) ∧ w'.cell? ⟨b, off + i * 3 + 1, none⟩ = some (.int .i64 x1))
            (go_keep)
            (first
              | (go_at_call 40
                 first
                   | (with_reducible refine (HP0.out _).mono ?_; rintro e _ ⟨rfl, rfl⟩)
                   | (with_reducible refine (HP1.out _).mono ?_; rintro e _ ⟨rfl, rfl⟩)))
          all_goals
            obtain ⟨W1, hW1⟩ : ∃ W1, W1 = (wr.alloc (.cells #[.int .i64 1, .int .i64 p1, .int .i64 0, .string ⟨#[]⟩] 64)).drew := ⟨_, rfl⟩
            have HWx := Lib.hid hW1
            have hG1 : Blk W1 wr.heap.size 64 #[.int .i64 1, .int .i64 p1, .int .i64 0, .string ⟨#[]⟩] := by rw [hW1]; exact (Blk.new _ _ _).drew
            have hb1 : Below wr.heap.size wr W1 := by rw [hW1]; exact ((Below.refl _ _).alloc (Nat.le_refl _) _).drew
            have hO1 : Hid (W1.ownsRow w.heap.size 64 4 (.slice A' n' c') n' (encMo (goTo many xs i))) := Lib.hid (own_below hO.out.1 hb1)
            have hs1 := hb1.size
            have hlb : b < wr.heap.size := by have := hb.size; omega
            have y2 := (hb1.cell (p := ⟨b, off + i * 3 + 2, none⟩) hlb).trans h2
            have y2a : ∀ o, (W1.alloc o).cell? ⟨b, off + i * 3 + 2, none⟩ = some (.int .i64 x2) := fun o => (World.cell?_alloc_some W1 _ o (by rw [y2]; rfl)).trans y2
            obtain ⟨d0, d1, d2, d3⟩ := hG1.cells4
            have f3 := hG1.frozen 3
            have e0 := World.new_ne W1 _ d0
            have hGl := hG1.lt
            have d3a : ∀ o, (W1.alloc o).cell? ⟨wr.heap.size, 3, none⟩ = some (.string ⟨#[]⟩) := fun o => (World.cell?_alloc_some W1 _ o (by rw [d3]; rfl)).trans d3
            have f3a : ∀ o, (W1.alloc o).frozen? ⟨wr.heap.size, 3, none⟩ = false := fun o => (((Below.refl W1.heap.size W1).alloc (Nat.le_refl _) o).frozen (p := ⟨wr.heap.size, 3, none⟩) hGl).trans f3
            rw [show IntKind.i64.wrap 1 = 1 from IntWalk.i64_in _ (by omega)]
            rw [← hW1]
            clear hW1
            have hNG : (Value.slice A' n' c').ownBlock ≠ some wr.heap.size := fun e => by have := (hO.out.1.lt _ e).2; omega
            have hn60 : n' ≤ 60 := by have h1 := goTo_length many xs i; have h2 := hO.out.2.1; omega
            have hws := hb.size
            rcases h4 with rfl | rfl | rfl
            · go_wp2_with (first
                | (go_at_call 40
                   refine (HP2.out _).mono ?_
                   rintro e _ ⟨rfl, rfl⟩)
                | (at_builtin
                   refine wpList_append_lies _ (by rfl) _ _ 36 (by rfl) w.heap.size 64 i0 _ 4 40 Tryz.underlying36 hi0 hz0 hz1 hz2 rfl (by omega) (.slice A' n' c') n' (encMo (goTo many xs i)) (by rfl) (((own_far hO1.out (p := ⟨wr.heap.size, 3, none⟩) hNG _).alloc _).alloc _)
                     ⟨W1.heap.size + 1, 0, none⟩ 1 1 [.int .i64 1, .int .i64 p1, .int .i64 0, .string ⟨#[]⟩] (by rfl) (by rfl)
                     (World.news_of_block (cs := #[.int .i64 1, .int .i64 p1, .int .i64 0, .string ⟨#[]⟩]) (t := 64) (fr := (0, 0)) (by simpa using heap_alloc_new ((W1.setCell ⟨wr.heap.size, 3, none⟩ (.string ⟨#[]⟩)).alloc (.cells #[.string ⟨#[]⟩, .string ⟨#[97]⟩, .string ⟨#[98, 99]⟩] 9)) (.cells #[.int .i64 1, .int .i64 p1, .int .i64 0, .string ⟨#[]⟩] 64))) (by simp [Value.oneCell'])
                     (by omega) (by simp only [maxLen]; omega) (by omega) (by simp; omega) (W1.heap.size + 1 + 1) (by simp) ?_
                   intro g cap w5 hown5 hgrow hat hlt5))
              have hgt : goTo many xs (i + 1) = goTo many xs i ++ [.write p1 (Rp.textOf 0)] := by
                rw [HG.out]; unfold Rp.motionOf; simp only [← E0.out, ← E1.out, ← E2.out]; rfl
              have hcc : n' + 1 ≤ cap := by
                obtain ⟨_, _, e, hc⟩ := own_slice hown5
                injection e with _ _ e
                rw [e]; exact hc
              have HRel := Lib.hid (show (w5.ownsRow w.heap.size 64 4 (.slice (some ⟨g, 0, none⟩) (n' + 1) cap) (n' + 1) (encMo (goTo many xs (i + 1)))) ∧ (goTo many xs (i + 1)).length = n' + 1 ∧ n' + 1 ≤ cap from
                ⟨by rw [hgt, encMo_snoc]; exact hown5, by rw [hgt, List.length_append, hO.out.2.1]; rfl, hcc⟩)
              have HSn : Hid (Rp.sendsOf (goTo many xs (i + 1)) = sj) := Lib.hid (by rw [hgt, Rp.sendsOf_append, ← ES.out]; rfl)
              have HBf : Below w.heap.size w w5 := ((((hb.trans (hb1.mono hws)).setCell (p := ⟨wr.heap.size, 3, none⟩) hws _).alloc (by simp only [size_setCell]; omega) _).alloc (by simp; omega) _).grown hgrow (by simp; omega) (fun j hj => (hO.out.1.lt j hj).1)
              have HBF := Lib.hid HBf
              clear hown5 hgrow hat hgt HBf
              go_roundw
              case rel => exact ⟨i + 1, some ⟨g, 0, none⟩, n' + 1, cap, kk + 1, by omega, by omega, by go_num, by go_num, by omega, rfl, by rw [HSn.out], HRel, HBF.out⟩
              case measure => simp [intOf]; omega
            · go_wp2_with (first
                | (go_at_call 40
                   refine (HP2.out _).mono ?_
                   rintro e _ ⟨rfl, rfl⟩)
                | (at_builtin
                   refine wpList_append_lies _ (by rfl) _ _ 36 (by rfl) w.heap.size 64 i0 _ 4 40 Tryz.underlying36 hi0 hz0 hz1 hz2 rfl (by omega) (.slice A' n' c') n' (encMo (goTo many xs i)) (by rfl) (((own_far hO1.out (p := ⟨wr.heap.size, 3, none⟩) hNG _).alloc _).alloc _)
                     ⟨W1.heap.size + 1, 0, none⟩ 1 1 [.int .i64 1, .int .i64 p1, .int .i64 0, .string ⟨#[97]⟩] (by rfl) (by rfl)
                     (World.news_of_block (cs := #[.int .i64 1, .int .i64 p1, .int .i64 0, .string ⟨#[97]⟩]) (t := 64) (fr := (0, 0)) (by simpa using heap_alloc_new ((W1.setCell ⟨wr.heap.size, 3, none⟩ (.string ⟨#[97]⟩)).alloc (.cells #[.string ⟨#[]⟩, .string ⟨#[97]⟩, .string ⟨#[98, 99]⟩] 9)) (.cells #[.int .i64 1, .int .i64 p1, .int .i64 0, .string ⟨#[97]⟩] 64))) (by simp [Value.oneCell'])
                     (by omega) (by simp only [maxLen]; omega) (by omega) (by simp; omega) (W1.heap.size + 1 + 1) (by simp) ?_
                   intro g cap w5 hown5 hgrow hat hlt5))
              have hgt : goTo many xs (i + 1) = goTo many xs i ++ [.write p1 (Rp.textOf 1)] := by
                rw [HG.out]; unfold Rp.motionOf; simp only [← E0.out, ← E1.out, ← E2.out]; rfl
              have hcc : n' + 1 ≤ cap := by
                obtain ⟨_, _, e, hc⟩ := own_slice hown5
                injection e with _ _ e
                rw [e]; exact hc
              have HRel := Lib.hid (show (w5.ownsRow w.heap.size 64 4 (.slice (some ⟨g, 0, none⟩) (n' + 1) cap) (n' + 1) (encMo (goTo many xs (i + 1)))) ∧ (goTo many xs (i + 1)).length = n' + 1 ∧ n' + 1 ≤ cap from
                ⟨by rw [hgt, encMo_snoc]; exact hown5, by rw [hgt, List.length_append, hO.out.2.1]; rfl, hcc⟩)
              have HSn : Hid (Rp.sendsOf (goTo many xs (i + 1)) = sj) := Lib.hid (by rw [hgt, Rp.sendsOf_append, ← ES.out]; rfl)
              have HBf : Below w.heap.size w w5 := ((((hb.trans (hb1.mono hws)).setCell (p := ⟨wr.heap.size, 3, none⟩) hws _).alloc (by simp only [size_setCell]; omega) _).alloc (by simp; omega) _).grown hgrow (by simp; omega) (fun j hj => (hO.out.1.lt j hj).1)
              have HBF := Lib.hid HBf
              clear hown5 hgrow hat hgt HBf
              go_roundw
              case rel => exact ⟨i + 1, some ⟨g, 0, none⟩, n' + 1, cap, kk + 1, by omega, by omega, by go_num, by go_num, by omega, rfl, by rw [HSn.out], HRel, HBF.out⟩
              case measure => simp [intOf]; omega
            · go_wp2_with (first
                | (go_at_call 40
                   refine (HP2.out _).mono ?_
                   rintro e _ ⟨rfl, rfl⟩)
                | (at_builtin
                   refine wpList_append_lies _ (by rfl) _ _ 36 (by rfl) w.heap.size 64 i0 _ 4 40 Tryz.underlying36 hi0 hz0 hz1 hz2 rfl (by omega) (.slice A' n' c') n' (encMo (goTo many xs i)) (by rfl) (((own_far hO1.out (p := ⟨wr.heap.size, 3, none⟩) hNG _).alloc _).alloc _)
                     ⟨W1.heap.size + 1, 0, none⟩ 1 1 [.int .i64 1, .int .i64 p1, .int .i64 0, .string ⟨#[98, 99]⟩] (by rfl) (by rfl)
                     (World.news_of_block (cs := #[.int .i64 1, .int .i64 p1, .int .i64 0, .string ⟨#[98, 99]⟩]) (t := 64) (fr := (0, 0)) (by simpa using heap_alloc_new ((W1.setCell ⟨wr.heap.size, 3, none⟩ (.string ⟨#[98, 99]⟩)).alloc (.cells #[.string ⟨#[]⟩, .string ⟨#[97]⟩, .string ⟨#[98, 99]⟩] 9)) (.cells #[.int .i64 1, .int .i64 p1, .int .i64 0, .string ⟨#[98, 99]⟩] 64))) (by simp [Value.oneCell'])
                     (by omega) (by simp only [maxLen]; omega) (by omega) (by simp; omega) (W1.heap.size + 1 + 1) (by simp) ?_
                   intro g cap w5 hown5 hgrow hat hlt5))
              have hgt : goTo many xs (i + 1) = goTo many xs i ++ [.write p1 (Rp.textOf 2)] := by
                rw [HG.out]; unfold Rp.motionOf; simp only [← E0.out, ← E1.out, ← E2.out]; rfl
              have hcc : n' + 1 ≤ cap := by
                obtain ⟨_, _, e, hc⟩ := own_slice hown5
                injection e with _ _ e
                rw [e]; exact hc
              have HRel := Lib.hid (show (w5.ownsRow w.heap.size 64 4 (.slice (some ⟨g, 0, none⟩) (n' + 1) cap) (n' + 1) (encMo (goTo many xs (i + 1)))) ∧ (goTo many xs (i + 1)).length = n' + 1 ∧ n' + 1 ≤ cap from
                ⟨by rw [hgt, encMo_snoc]; exact hown5, by rw [hgt, List.length_append, hO.out.2.1]; rfl, hcc⟩)
              have HSn : Hid (Rp.sendsOf (goTo many xs (i + 1)) = sj) := Lib.hid (by rw [hgt, Rp.sendsOf_append, ← ES.out]; rfl)
              have HBf : Below w.heap.size w w5 := ((((hb.trans (hb1.mono hws)).setCell (p := ⟨wr.heap.size, 3, none⟩) hws _).alloc (by simp only [size_setCell]; omega) _).alloc (by simp; omega) _).grown hgrow (by simp; omega) (fun j hj => (hO.out.1.lt j hj).1)
              have HBF := Lib.hid HBf
              clear hown5 hgrow hat hgt HBf
              go_roundw
              case rel => exact ⟨i + 1, some ⟨g, 0, none⟩, n' + 1, cap, kk + 1, by omega, by omega, by go_num, by go_num, by omega, rfl, by rw [HSn.out], HRel, HBF.out⟩
              case measure => simp [intOf]; omega
        · have e3 := World.new_ne wr _ h0
          go_wp2
          go_region_held3 (fun w' => w'.cell? ⟨b, off + i * 3, none⟩ = some (.int .i64 x0) ∧ w'.cell? ⟨b, off + i * 3 + 1, none⟩ = some (.int .i64 x1))
            (go_keep)
            (first
              | (go_at_call 40
                 first
                   | (with_reducible refine (HP0.out _).mono ?_; rintro e _ ⟨rfl, rfl⟩)
                   | (with_reducible refine (HP1.out _).mono ?_; rintro e _ ⟨rfl, rfl⟩)))
          all_goals
            obtain ⟨W1, hW1⟩ : ∃ W1, W1 = (wr.alloc (.cells #[.int .i64 2, .int .i64 p1, .int .i64 0, .string ⟨#[]⟩] 64)).drew := ⟨_, rfl⟩
            have hG1 : Blk W1 wr.heap.size 64 #[.int .i64 2, .int .i64 p1, .int .i64 0, .string ⟨#[]⟩] := by rw [hW1]; exact (Blk.new _ _ _).drew
            have hb1 : Below wr.heap.size wr W1 := by rw [hW1]; exact ((Below.refl _ _).alloc (Nat.le_refl _) _).drew
            have hO1 : Hid (W1.ownsRow w.heap.size 64 4 (.slice A' n' c') n' (encMo (goTo many xs i))) := Lib.hid (own_below hO.out.1 hb1)
            have hs1 := hb1.size
            obtain ⟨d0, d1, d2, d3⟩ := hG1.cells4
            first | rw [show IntKind.i64.wrap 2 = 2 from IntWalk.i64_in _ (by omega)] | rw [show IntKind.i64.wrap (1 + ((1 : Nat) : Int)) = 2 from IntWalk.i64_in _ (by omega)]
            rw [← hW1]
            clear hW1
            have hn60 : n' ≤ 60 := by have h1 := goTo_length many xs i; have h2 := hO.out.2.1; omega
            have hws := hb.size
            go_wp2_with (first
              | (at_builtin
                 refine wpList_append_lies _ (by rfl) _ _ 36 (by rfl) w.heap.size 64 i0 _ 4 40 Tryz.underlying36 hi0 hz0 hz1 hz2 rfl (by omega) (.slice A' n' c') n' (encMo (goTo many xs i)) (by rfl) (hO1.out.alloc _)
                   ⟨W1.heap.size, 0, none⟩ 1 1 [.int .i64 2, .int .i64 p1, .int .i64 0, .string ⟨#[]⟩] (by rfl) (by rfl)
                   (World.news_of_block (cs := #[.int .i64 2, .int .i64 p1, .int .i64 0, .string ⟨#[]⟩]) (t := 64) (fr := (0, 0)) (heap_alloc_new W1 _)) (by simp [Value.oneCell'])
                   (by omega) (by simp only [maxLen]; omega) (by omega) (by simp; omega) (W1.heap.size + 1) (by simp) ?_
                 intro g cap w5 hown5 hgrow hat hlt5))
            have hgt : goTo many xs (i + 1) = goTo many xs i ++ [.send p1] := by
              rw [HG.out]; unfold Rp.motionOf; simp only [← E0.out, ← E1.out]; rfl
            have hcc : n' + 1 ≤ cap := by
              obtain ⟨_, _, e, hc⟩ := own_slice hown5
              injection e with _ _ e
              rw [e]; exact hc
            have HRel := Lib.hid (show (w5.ownsRow w.heap.size 64 4 (.slice (some ⟨g, 0, none⟩) (n' + 1) cap) (n' + 1) (encMo (goTo many xs (i + 1)))) ∧ (goTo many xs (i + 1)).length = n' + 1 ∧ n' + 1 ≤ cap from
              ⟨by rw [hgt, encMo_snoc]; exact hown5, by rw [hgt, List.length_append, hO.out.2.1]; rfl, hcc⟩)
            have HSn : Hid (Rp.sendsOf (goTo many xs (i + 1)) = sj + 1) := Lib.hid (by rw [hgt, Rp.sendsOf_append, ← ES.out]; rfl)
            have HBf : Below w.heap.size w w5 := ((hb.trans (hb1.mono hws)).alloc (by omega) _).grown hgrow (by simp; omega) (fun j hj => (hO.out.1.lt j hj).1)
            have HBF := Lib.hid HBf
            clear hown5 hgrow hat hgt HBf
            go_roundw
            case rel => exact ⟨i + 1, some ⟨g, 0, none⟩, n' + 1, cap, kk, by omega, by omega, by go_num, rfl, by omega, rfl, by rw [HSn.out]; go_num, HRel, HBF.out⟩
            case measure => simp [intOf]; omega
        · have e3 := World.new_ne wr _ h0
          go_wp2
          go_region_held3 (fun w' => w'.cell? ⟨b, off + i * 3, none⟩ = some (.int .i64 x0) ∧ w'.cell? ⟨b, off + i * 3 + 1, none⟩ = some (.int .i64 x1))
            (go_keep)
            (first
              | (go_at_call 40
                 first
                   | (with_reducible refine (HP0.out _).mono ?_; rintro e _ ⟨rfl, rfl⟩)
                   | (with_reducible refine (HP1.out _).mono ?_; rintro e _ ⟨rfl, rfl⟩)))
          all_goals
            obtain ⟨W1, hW1⟩ : ∃ W1, W1 = (wr.alloc (.cells #[.int .i64 3, .int .i64 p1, .int .i64 0, .string ⟨#[]⟩] 64)).drew := ⟨_, rfl⟩
            have hG1 : Blk W1 wr.heap.size 64 #[.int .i64 3, .int .i64 p1, .int .i64 0, .string ⟨#[]⟩] := by rw [hW1]; exact (Blk.new _ _ _).drew
            have hb1 : Below wr.heap.size wr W1 := by rw [hW1]; exact ((Below.refl _ _).alloc (Nat.le_refl _) _).drew
            have hO1 : Hid (W1.ownsRow w.heap.size 64 4 (.slice A' n' c') n' (encMo (goTo many xs i))) := Lib.hid (own_below hO.out.1 hb1)
            have hs1 := hb1.size
            obtain ⟨d0, d1, d2, d3⟩ := hG1.cells4
            have f2 := hG1.frozen 2
            have hlb : b < wr.heap.size := by have := hb.size; omega
            have y2 := (hb1.cell (p := ⟨b, off + i * 3 + 2, none⟩) hlb).trans h2
            first | rw [show IntKind.i64.wrap 3 = 3 from IntWalk.i64_in _ (by omega)] | rw [show IntKind.i64.wrap (1 + ((2 : Nat) : Int)) = 3 from IntWalk.i64_in _ (by omega)]
            rw [← hW1]
            clear hW1
            have hn60 : n' ≤ 60 := by have h1 := goTo_length many xs i; have h2 := hO.out.2.1; omega
            have hws := hb.size
            have hNG : (Value.slice A' n' c').ownBlock ≠ some wr.heap.size := fun e => by have := (hO.out.1.lt _ e).2; omega
            have HZ2 := Lib.hid hz2
            by_cases hz : sj = 0
            · subst hz
              have hgt : goTo many xs (i + 1) = goTo many xs i := by
                rw [HG.out]; unfold Rp.motionOf; simp only [← E0.out, ← ES.out]; simp
              have HRel := Lib.hid (show (W1.ownsRow w.heap.size 64 4 (.slice A' n' c') n' (encMo (goTo many xs (i + 1)))) ∧ (goTo many xs (i + 1)).length = n' ∧ n' ≤ c' from ⟨by rw [hgt]; exact hO1.out, by rw [hgt]; exact hO.out.2.1, hO.out.2.2⟩)
              have HSn : Hid (Rp.sendsOf (goTo many xs (i + 1)) = 0) := Lib.hid (by rw [hgt, ← ES.out])
              have HBF := Lib.hid (hb.trans (hb1.mono hws))
              clear hgt
              go_wp2
              go_roundw
              case rel => exact ⟨i + 1, A', n', c', kk, by omega, by omega, by go_num, rfl, by omega, rfl, by rw [HSn.out], HRel, HBF.out⟩
              case measure => simp [intOf]; omega
            · have hpk : Hid (∀ W, Calls Tryz.prog 40 #[.int .i64 x2, .int .i64 sj] W fun e w' => e = .returned (.int .i64 (Rp.pick x2 sj)) ∧ W = w') := Lib.hid fun W => pick_any x2 sj W (by omega) (by omega) (pick_wrap HW2.out)
              have hsz : ¬ (sj : Int) = 0 := by omega
              obtain ⟨a, ea⟩ : ∃ a, a = Rp.pick x2 sj := ⟨_, rfl⟩
              rw [← ea] at hpk
              have EA := Lib.hid ea
              clear ea
              have HZ := Lib.hid hz
              clear hz
              go_wp2_with (first
                | (go_at_call 40
                   refine (hpk.out _).mono ?_
                   rintro e _ ⟨rfl, rfl⟩)
                | (at_builtin
                   refine wpList_append_lies _ (by rfl) _ _ 36 (by rfl) w.heap.size 64 i0 _ 4 40 Tryz.underlying36 hi0 hz0 hz1 HZ2.out rfl (by omega) (.slice A' n' c') n' (encMo (goTo many xs i)) (by rfl) ((own_far hO1.out (p := ⟨wr.heap.size, 2, none⟩) hNG _).alloc _)
                     ⟨W1.heap.size, 0, none⟩ 1 1 [.int .i64 3, .int .i64 p1, .int .i64 a, .string ⟨#[]⟩] (by rfl) (by rfl)
                     (World.news_of_block (cs := #[.int .i64 3, .int .i64 p1, .int .i64 a, .string ⟨#[]⟩]) (t := 64) (fr := (0, 0)) (by simpa using heap_alloc_new (W1.setCell ⟨wr.heap.size, 2, none⟩ (.int .i64 a)) (.cells #[.int .i64 3, .int .i64 p1, .int .i64 a, .string ⟨#[]⟩] 64))) (by simp [Value.oneCell'])
                     (by omega) (by simp only [maxLen]; omega) (by omega) (by simp; omega) (W1.heap.size + 1) (by simp) ?_
                   intro g cap w5 hown5 hgrow hat hlt5))
              have hgt : goTo many xs (i + 1) = goTo many xs i ++ [.deliver p1 a] := by
                rw [HG.out]; unfold Rp.motionOf; simp only [← E0.out, ← E1.out, ← ES.out, if_neg HZ.out, ← EA.out]; rfl
              have hcc : n' + 1 ≤ cap := by
                obtain ⟨_, _, e, hc⟩ := own_slice hown5
                injection e with _ _ e
                rw [e]; exact hc
              have HRel := Lib.hid (show (w5.ownsRow w.heap.size 64 4 (.slice (some ⟨g, 0, none⟩) (n' + 1) cap) (n' + 1) (encMo (goTo many xs (i + 1)))) ∧ (goTo many xs (i + 1)).length = n' + 1 ∧ n' + 1 ≤ cap from
                ⟨by rw [hgt, encMo_snoc]; exact hown5, by rw [hgt, List.length_append, hO.out.2.1]; rfl, hcc⟩)
              have HSn : Hid (Rp.sendsOf (goTo many xs (i + 1)) = sj) := Lib.hid (by rw [hgt, Rp.sendsOf_append, ← ES.out]; rfl)
              have HBf : Below w.heap.size w w5 := (((hb.trans (hb1.mono hws)).setCell (p := ⟨wr.heap.size, 2, none⟩) hws _).alloc (by simp only [size_setCell]; omega) _).grown hgrow (by simp; omega) (fun j hj => (hO.out.1.lt j hj).1)
              have HBF := Lib.hid HBf
              clear hown5 hgrow hat hgt HBf
              go_roundw
              case rel => exact ⟨i + 1, some ⟨g, 0, none⟩, n' + 1, cap, kk, by omega, by omega, by go_num, rfl, by omega, rfl, by rw [HSn.out], HRel, HBF.out⟩
              case measure => simp [intOf]; omega
      · have hi60' : i = 60 := by omega
        subst hi60'
        have HFin := Lib.hid (show wr.ownsRow w.heap.size 64 4 (.slice A' n' c') n' (encMo (Rp.motions many xs)) ∧ (Rp.motions many xs).length = n' ∧ n' ≤ c' ∧ Below w.heap.size w wr from ⟨hO.out.1, hO.out.2.1, hO.out.2.2, hb⟩)
        clear hO hb
        go_wp2
        go_ret
        exact ⟨A', n', c', rfl, HFin.out⟩
    · have hin : i = n := by omega
      subst hin
      have hge : goTo many xs i = Rp.motions many xs := by
        unfold goTo Rp.motions
        rw [List.take_of_length_le (Nat.le_of_eq HL.out), List.take_of_length_le (by rw [HL.out]; exact hi60)]
      rw [hge] at hO
      have HFin := Lib.hid (show wr.ownsRow w.heap.size 64 4 (.slice A' n' c') n' (encMo (Rp.motions many xs)) ∧ (Rp.motions many xs).length = n' ∧ n' ≤ c' ∧ Below w.heap.size w wr from ⟨hO.out.1, hO.out.2.1, hO.out.2.2, hb⟩)
      clear hO hb hge
      go_wp2
      go_ret
      exact ⟨A', n', c', rfl, HFin.out⟩
end Go.Proofs.YtnehgpeelgjjhaaGreatDoor.Tw
namespace Go.Proofs.YtnehgpeelgjjhaaGreatDoor.Tw
open Go.RowKit Go.Shelf
/-- the replicas of a run in memory, from block g on -/
def RepsAt (W : World) (g K : Nat) (s : Rp.Sys) : Prop := ∀ i, i < K → ∃ v : RV, v.r = s.rep i ∧ (W.cell? ⟨g, i * 5, none⟩ = some (.int .i64 v.r.me) ∧ W.cell? ⟨g, i * 5 + 1, none⟩ = some (.int .i64 v.r.many) ∧ W.cell? ⟨g, i * 5 + 2, none⟩ = some (.int .i64 v.r.clock) ∧
      W.cell? ⟨g, i * 5 + 3, none⟩ = some (.slice v.A v.n v.c) ∧ W.cell? ⟨g, i * 5 + 4, none⟩ = some (.slice v.A' v.n' v.c')) ∧ RepR W W.heap.size v.r v.A v.n v.A' v.n' ∧ v.n ≤ v.c
theorem RepsAt.below {W W' : World} {g K : Nat} {s : Rp.Sys} (h : RepsAt W g K s) (hb : Below W.heap.size W W') : RepsAt W' g K s := fun i hi => by
  obtain ⟨v, e, ⟨c0, c1, c2, c3, c4⟩, hr, hcv⟩ := h i hi
  have hk : ∀ o u, W.cell? ⟨g, o, none⟩ = some u → W'.cell? ⟨g, o, none⟩ = some u := fun o u hu => (hb.cell (p := ⟨g, o, none⟩) (lt_of_cell hu)).trans hu
  exact ⟨v, e, ⟨hk _ _ c0, hk _ _ c1, hk _ _ c2, hk _ _ c3, hk _ _ c4⟩, (hr.below hb).more hb.size, hcv⟩
theorem RepsAt.of {B x K : Nat} {W : World} {va vb : Value} {rl : List RV} {ml : List MV} {s : Rp.Sys} (h : RunR B W x va rl vb ml) (hr : s.reps = rl.map (·.r)) (hl : s.reps.length = K) (hK : 1 ≤ K) :
    ∃ g c, va = .slice (some ⟨g, 0, none⟩) K c ∧ K ≤ c ∧ RepsAt W g K s := by
  have hrl : rl.length = K := by rw [← hl, hr, List.length_map]
  rcases h.reps.2 with ⟨_, h0⟩ | ⟨g, cap, cur, rfl, _, _, hnc, _⟩
  · omega
  · refine ⟨g, cap, by rw [hrl], by omega, fun i hi => ?_⟩
    have hv : rl[i]? = some (rl[i]'(by omega)) := List.getElem?_eq_getElem _
    refine ⟨rl[i]'(by omega), ?_, h.repCells hv, (h.rep _ (List.getElem_mem _)).1, h.caps _ (List.getElem_mem _)⟩
    show _ = s.reps.getD i default
    rw [hr, List.getD_eq_getElem?_getD, List.getElem?_map, hv]
    rfl
theorem one_mo (l : List Rp.Motion) : ∀ u ∈ encMo l, u.oneCell' = true := by
  intro u hu
  simp only [encMo, List.mem_flatMap, moE] at hu
  obtain ⟨m, _, hm⟩ := hu
  simp only [List.mem_cons, List.not_mem_nil, or_false] at hm
  rcases hm with rfl | rfl | rfl | rfl <;> rfl
theorem allM_len (k s : Nat) (hk : k ≤ 5) : (Rp.allM k s).length ≤ 30 := by
  have : k = 0 ∨ k = 1 ∨ k = 2 ∨ k = 3 ∨ k = 4 ∨ k = 5 := by omega
  rcases this with rfl | rfl | rfl | rfl | rfl | rfl <;> simp [Rp.allM, Rp.blockOf, List.range_succ]
theorem encMo_append (a b : List Rp.Motion) : encMo a ++ encMo b = encMo (a ++ b) := by simp [encMo]
theorem own_ge {w : World} {base : Nat} {e : TypeId} {size n : Nat} {v : Value} {xs : List Value} (h : w.ownsRow base e size v n xs) : ∀ k, v.ownBlock = some k → base ≤ k := by
  intro k hk
  rcases h.2 with ⟨rfl, _⟩ | ⟨g, cap, cur, rfl, hb, _⟩
  · cases hk
  · cases hk; exact hb
theorem writes_kind (m : Rp.Motion) : m.writes = if moK m = 1 then 1 else 0 := by cases m <;> simp [Rp.Motion.writes, moK]
theorem writesOf_succ {l : List Rp.Motion} {j : Nat} {m : Rp.Motion} (h : l[j]? = some m) : Rp.writesOf (l.take (j + 1)) = Rp.writesOf (l.take j) + m.writes := by
  have h2 : l.take (j + 1) = l.take j ++ [m] := by rw [List.take_add_one, h]; rfl
  rw [h2, Rp.writesOf_append]
  show _ + (m.writes + 0) = _
  omega
end Go.Proofs.YtnehgpeelgjjhaaGreatDoor.Tw
namespace Go.Proofs.YtnehgpeelgjjhaaGreatDoor.Tw
open Go.RowKit Go.Shelf
set_option maxRecDepth 100000 in
set_option maxHeartbeats 4000000 in
theorem agree_any (w : World) (tab : Array Value) (hT : Tab w tab) (c : Int) (hc : -9223372036854775808 ≤ c ∧ c ≤ 9223372036854775807) (A : Option Addr) (n cA : Nat) (xs : List (Int × Int × Int)) (hx : Reads w w.heap.size 3 A n (enc3 xs)) (hl : xs.length = n)
    (hw : ∀ x ∈ xs, (-9223372036854775808 ≤ x.1 ∧ x.1 ≤ 9223372036854775807) ∧ (-9223372036854775808 ≤ x.2.1 ∧ x.2.1 ≤ 9223372036854775807) ∧ (-9223372036854775808 ≤ x.2.2 ∧ x.2.2 ≤ 9223372036854775807)) :
    Calls Tryz.prog 5 #[.int .i64 c, .slice A n cA] w fun e w' => e = .returned (.bool true) ∧ Below w.heap.size w w' := by
  obtain ⟨i0, hi0, hz0, hz1, hz2⟩ := info_parts info64
  have HT := Lib.hid hT
  have HX := Lib.hid hx
  have HL := Lib.hid hl
  have HWF := Lib.hid hw
  have hpl := Rp.pick_lt c (n := 4) (by omega)
  obtain ⟨P, hP⟩ : ∃ P, P = Rp.pick c 4 := ⟨_, rfl⟩
  rw [← hP] at hpl
  have HPk : Hid (∀ W, Calls Tryz.prog 8 #[.int .i64 c, .int .i64 4] W fun e w' => e = .returned (.int .i64 P) ∧ W = w') := Lib.hid fun W => by rw [hP]; exact pickL_any c 4 W (by omega) (by omega) (pick_wrap hc)
  clear hT hx hl hw hc hP
  go_enter Tryz.func5, Tryz.ntmps5
  go_wp2_with fail
  refine (sane_any w tab HT.out).mono ?_
  rintro e W1 ⟨rfl, hb⟩
  have HB := Lib.hid hb
  have hz1' := hb.size
  clear hb
  go_wp2_with fail
  refine (HPk.out W1).mono ?_
  rintro e _ ⟨rfl, rfl⟩
  go_upto_region 4 with (fail)
  obtain ⟨K, hK⟩ : ∃ K : Nat, (1 + (P : Int)) = K := ⟨1 + P, by omega⟩
  rw [hK]
  have hK1 : 1 ≤ K := by omega
  have hK5 : K ≤ 5 := by omega
  have hK4 : K ≤ 4 := by omega
  clear hK hpl HPk
  obtain ⟨L0, hL0⟩ : ∃ L0, L0 = Rp.motions K xs := ⟨_, rfl⟩
  have OK0 := Lib.hid (show Rp.okAll K 0 L0 by rw [hL0]; exact Rp.motions_ok (by omega) xs)
  have LE0 := Lib.hid (show L0.length ≤ 60 by rw [hL0]; exact Rp.motions_length K xs)
  have HL0 := Lib.hid hL0
  clear hL0
  go_wp2_with fail
  refine (motionsOf_any W1 K A n cA xs ((HX.out.below HB.out).more hz1') HL.out hK1 hK5 HWF.out).mono ?_
  rw [← HL0.out]
  rintro e W2 ⟨MA, mn, mc, rfl, hO, hml, hmc, hb⟩
  have HB := Lib.hid (HB.out.trans (hb.mono hz1'))
  have hz2' := hb.size
  have hmn : mn ≤ 60 := by rw [← hml]; exact LE0.out
  have HO := Lib.hid (Reads.of_own hO)
  have HML := Lib.hid hml
  clear hO hml hb
  go_upto_region 5 with (fail)
  have hE := (Below.refl W2.heap.size W2).alloc (Nat.le_refl _) (.cells #[] 64)
  have HO1 := Lib.hid (HO.out.below hE)
  have HE := Lib.hid (own_empty W2 64 4)
  have HBE := Lib.hid (HB.out.trans (hE.mono HB.out.size))
  have hzE : W2.heap.size ≤ (W2.alloc (.cells #[] 64)).heap.size := hE.size
  clear hE
  go_wp2_with (at_builtin; refine wpList_append_any _ rfl (.tmp 26) (.tmp 27) 36 rfl W2.heap.size 64 i0 _ 4 40 Tryz.underlying36 hi0 hz0 hz1 hz2 rfl (by omega) (.slice (some ⟨W2.heap.size, 0, none⟩) 0 0) 0 [] rfl HE.out W2.heap.size MA mn mc (encMo L0) rfl HO1.out (one_mo L0) (by simp only [maxLen]; omega) (by omega) (by simp) ?_; intro v1 w1 hown1 hg1 hat1; rw [List.nil_append, Nat.zero_add] at hown1; have HV1 := Lib.hid hown1; have hb1 : Below W2.heap.size W2 w1 := ((Below.refl W2.heap.size W2).alloc (Nat.le_refl _) _).grown hg1 (by simp) (fun k hk => by simp [Value.ownBlock] at hk; omega); have HB1 := Lib.hid (HB.out.trans (hb1.mono HB.out.size)); have HO2 := Lib.hid (HO.out.below hb1); have hz3' := hb1.size; clear hown1 hg1 hat1 hb1 HO1 HE HBE hzE)
  refine (sent_any w1 MA mn mc L0 (HO2.out.more hz3') HML.out (by omega)).mono ?_
  rintro e _ ⟨rfl, rfl⟩
  have hs60 : Rp.sendsOf L0 ≤ 60 := by
    have := sendsOf_take_le L0 60
    rw [List.take_of_length_le LE0.out] at this
    exact this
  obtain ⟨S0, hS0⟩ : ∃ S0, S0 = Rp.sendsOf L0 := ⟨_, rfl⟩
  rw [← hS0]
  rw [← hS0] at hs60
  have HS0 := Lib.hid hS0
  clear hS0
  go_wp2_with fail
  refine (all_any w1 K S0 hK5 (by omega)).mono ?_
  rintro e W3 ⟨TA, tn, tc, rfl, hT3, htl, hb⟩
  have HT3 := Lib.hid (Reads.of_own hT3)
  have HTL := Lib.hid htl
  have HV2 := Lib.hid (own_below HV1.out hb)
  have hz4' := hb.size
  have HO3 := Lib.hid (HO2.out.below (hb.mono hz3'))
  have HB3 := Lib.hid (HB1.out.trans (hb.mono HB1.out.size))
  clear hT3 htl hb
  have htn : tn ≤ 30 := by rw [← HTL.out]; exact allM_len K S0 hK5
  obtain ⟨L1, hL1⟩ : ∃ L1, L1 = L0 ++ Rp.allM K S0 := ⟨_, rfl⟩
  have HL1 := Lib.hid hL1
  have HLL := Lib.hid (show L1.length = mn + tn by rw [hL1, List.length_append, HML.out, HTL.out])
  clear hL1
  go_upto_region 6 with (at_builtin; refine wpList_append_any _ rfl (.tmp 28) (.tmp 32) 36 rfl W2.heap.size 64 i0 _ 4 40 Tryz.underlying36 hi0 hz0 hz1 hz2 rfl (by omega) v1 mn (encMo L0) rfl HV2.out W3.heap.size TA tn tc (encMo (Rp.allM K S0)) rfl HT3.out (one_mo _) (by simp only [maxLen]; omega) (by omega) (by omega) ?_; intro v2 w2 hown2 hg2 hat2; rw [encMo_append, ← HL1.out] at hown2; obtain ⟨OA, oc, rfl, _⟩ := own_slice hown2; have HR2 := Lib.hid (Reads.of_own hown2); have hb2 := (Below.refl W2.heap.size W3).grown hg2 (by omega) (own_ge HV2.out); have HB4 := Lib.hid (HB3.out.trans (hb2.mono HB.out.size)); have HO4 := Lib.hid (HO3.out.below hb2); have hz5' := hb2.size; clear hown2 hg2 hat2 hb2)
  clear HV1 HV2 HO2 HO3 HT3 HB1 HB3
  obtain ⟨N1, hN1⟩ : ∃ N1, N1 = mn + tn := ⟨_, rfl⟩
  rw [← hN1]
  rw [← hN1] at HR2 HLL
  have hN90 : N1 ≤ 90 := by omega
  clear hN1
  have hE := (Below.refl w2.heap.size w2).alloc (Nat.le_refl _) (.cells #[] 64)
  have HO1 := Lib.hid (HR2.out.below hE)
  have HE := Lib.hid (own_empty w2 64 4)
  clear hE
  go_wp2_with (at_builtin; refine wpList_append_any _ rfl (.tmp 34) (.tmp 35) 36 rfl w2.heap.size 64 i0 _ 4 40 Tryz.underlying36 hi0 hz0 hz1 hz2 rfl (by omega) (.slice (some ⟨w2.heap.size, 0, none⟩) 0 0) 0 [] rfl HE.out w2.heap.size OA N1 oc (encMo L1) rfl HO1.out (one_mo L1) (by simp only [maxLen]; omega) (by omega) (by simp) ?_; intro v3 w3 hown1 hg1 hat1; rw [List.nil_append, Nat.zero_add] at hown1; have HV1 := Lib.hid hown1; have hb1 : Below w2.heap.size w2 w3 := ((Below.refl w2.heap.size w2).alloc (Nat.le_refl _) _).grown hg1 (by simp) (fun k hk => by simp [Value.ownBlock] at hk; omega); have HB5 := Lib.hid (HB4.out.trans (hb1.mono HB4.out.size)); have HO5 := Lib.hid (HO4.out.below (hb1.mono (by omega))); have HR3 := Lib.hid (HR2.out.below hb1); have hz6' := hb1.size; clear hown1 hg1 hat1 hb1 HO1 HE)
  refine (sent_any w3 OA N1 oc L1 (HR3.out.more hz6') HLL.out (by omega)).mono ?_
  rintro e _ ⟨rfl, rfl⟩
  have hs90 : Rp.sendsOf L1 ≤ 90 := by
    have := sendsOf_take_le L1 90
    rw [List.take_of_length_le (by rw [HLL.out]; exact hN90)] at this
    exact this
  obtain ⟨S1, hS1⟩ : ∃ S1, S1 = Rp.sendsOf L1 := ⟨_, rfl⟩
  rw [← hS1]
  rw [← hS1] at hs90
  have HS1 := Lib.hid hS1
  clear hS1
  go_wp2_with fail
  refine (all_any w3 K S1 hK5 (by omega)).mono ?_
  rintro e W4 ⟨UA, un, uc, rfl, hT3, htl, hb⟩
  have HU3 := Lib.hid (Reads.of_own hT3)
  have HUL := Lib.hid htl
  have HV2 := Lib.hid (own_below HV1.out hb)
  have hz7' := hb.size
  have HO6 := Lib.hid (HO5.out.below (hb.mono (by omega)))
  have HR4 := Lib.hid (HR3.out.below (hb.mono (by omega)))
  have HB6 := Lib.hid (HB5.out.trans (hb.mono HB5.out.size))
  clear hT3 htl hb
  have hun : un ≤ 30 := by rw [← HUL.out]; exact allM_len K S1 hK5
  obtain ⟨L2, hL2⟩ : ∃ L2, L2 = L1 ++ Rp.allM K S1 := ⟨_, rfl⟩
  have HL2 := Lib.hid hL2
  have HLM := Lib.hid (show L2.length = N1 + un by rw [hL2, List.length_append, HLL.out, HUL.out])
  clear hL2
  go_upto_region 7 with (at_builtin; refine wpList_append_any _ rfl (.tmp 36) (.tmp 40) 36 rfl w2.heap.size 64 i0 _ 4 40 Tryz.underlying36 hi0 hz0 hz1 hz2 rfl (by omega) v3 N1 (encMo L1) rfl HV2.out W4.heap.size UA un uc (encMo (Rp.allM K S1)) rfl HU3.out (one_mo _) (by simp only [maxLen]; omega) (by omega) (by omega) ?_; intro v4 w4 hown2 hg2 hat2; rw [encMo_append, ← HL2.out] at hown2; obtain ⟨PA, pc, rfl, _⟩ := own_slice hown2; have HP2 := Lib.hid (Reads.of_own hown2); have hb2 := (Below.refl w2.heap.size W4).grown hg2 (by omega) (own_ge HV2.out); have HB7 := Lib.hid (HB6.out.trans (hb2.mono HB4.out.size)); have HO7 := Lib.hid (HO6.out.below (hb2.mono (by omega))); have HR5 := Lib.hid (HR4.out.below hb2); have hz8' := hb2.size; clear hown2 hg2 hat2 hb2)
  clear HV1 HV2 HO5 HO6 HO4 HR2 HR3 HR4 HU3 HB4 HB5 HB6
  obtain ⟨N2, hN2⟩ : ∃ N2, N2 = N1 + un := ⟨_, rfl⟩
  rw [← hN2]
  rw [← hN2] at HP2 HLM
  have hN120 : N2 ≤ 120 := by omega
  clear hN2
  have AG := Lib.hid (show Agreed K L0 L1 L2 by
    have hwr := Rp.writesOf_le L0
    have h60 := LE0.out
    have := agreed hK1 hK5 OK0.out (by omega)
    rw [← HS0.out, ← HL1.out, ← HS1.out, ← HL2.out] at this
    exact this)
  have hwr0 : Rp.writesOf L0 ≤ 60 := Nat.le_trans (Rp.writesOf_le L0) LE0.out
  go_wp2_with fail
  refine (run_any w4 OA N1 oc K L1 (HR5.out.more (by omega)) HLL.out hK1 hK5 (by omega) AG.out.ok1 (by rw [AG.out.w1]; omega)).mono ?_
  rintro e W5 ⟨va, rl, vb, ml, rfl, hR, hreps, hb⟩
  have hz9' := hb.size
  have HA := Lib.hid hR
  have HAr := Lib.hid hreps
  have HO8 := Lib.hid (HO7.out.below (hb.mono (by omega)))
  have HP3 := Lib.hid (HP2.out.below hb)
  have HB8 := Lib.hid (HB7.out.trans (hb.mono HB7.out.size))
  clear hR hreps hb HO7 HP2 HR5 HB7
  go_upto_region 8 with (fail)
  go_wp2_with fail
  refine (run_any W5 PA N2 pc K L2 (HP3.out.more (by omega)) HLM.out hK1 hK5 (by omega) AG.out.ok2 (by rw [AG.out.w2]; omega)).mono ?_
  rintro e W6 ⟨va', rl', vb', ml', rfl, hR, hreps, hb⟩
  have hz10' := hb.size
  have HC := Lib.hid hR
  have HCr := Lib.hid hreps
  have HA1 := Lib.hid (HA.out.keep hb)
  have HO9 := Lib.hid (HO8.out.below (hb.mono (by omega)))
  have HB9 := Lib.hid (HB8.out.trans (hb.mono HB8.out.size))
  clear hR hreps hb HO8 HP3 HB8 HA
  go_upto_region 9 with (fail)
  obtain ⟨gA, cAA, rfl, hcA, hRA⟩ := RepsAt.of HA1.out HAr.out AG.out.len1 hK1
  obtain ⟨gC, cCC, rfl, hcC, hRC⟩ := RepsAt.of HC.out HCr.out AG.out.len2 hK1
  have RA := Lib.hid hRA
  have RC := Lib.hid hRC
  clear hRA hRC HA1 HC HAr HCr
  go_wp2_with fail
  go_loopw [13] (fun q wr => ∃ i : Nat, i ≤ K ∧ q = .int .i64 i ∧ Hid (Below W6.heap.size W6 wr)) (fun q _ => K - (intOf q).toNat)
  case atStart => exact ⟨0, by omega, rfl, Lib.hid (Below.refl _ _)⟩
  case round =>
    obtain ⟨i, hi, rfl, hW⟩ := hrel
    by_cases hlt : i < K
    · obtain ⟨va, eva, ⟨_, _, _, a3, _⟩, ra, _⟩ := (RA.out.below hW.out) i hlt
      obtain ⟨vz, evz, ⟨_, _, _, z3, _⟩, rz, _⟩ := (RA.out.below hW.out) 0 (by omega)
      obtain ⟨vc, evc, ⟨c0, c1, c2, c3, c4⟩, rc, _⟩ := (RC.out.below hW.out) i hlt
      have p1 : va.r.posts = vz.r.posts := by rw [eva, evz]; exact AG.out.posts1 i hlt
      have p2 : vc.r.posts = vz.r.posts := by rw [evc, evz]; exact AG.out.posts2 i hlt
      have hst := AG.out.stab i hlt
      have hvl := AG.out.val i hlt
      rw [← evc] at hst hvl
      rw [rc.len] at hst
      rw [Nat.zero_mul, Nat.zero_add] at z3
      have HS1 : Hid (∀ x : Later wr, Calls Tryz.prog 33 #[.slice va.A va.n va.c, .slice vz.A vz.n vz.c] x.W fun e w' => e = .returned (.bool true) ∧ Below x.W.heap.size x.W w') := Lib.hid fun x => by
        have := samePosts_any x.W va.A va.n va.c va.r.posts vz.A vz.n vz.c vz.r.posts ((ra.posts.below x.is).more x.is.size) ra.len ((rz.posts.below x.is).more x.is.size) rz.len ra.few rz.few
        rw [decide_eq_true p1] at this
        exact this
      have HS2 : Hid (∀ x : Later wr, Calls Tryz.prog 33 #[.slice vc.A vc.n vc.c, .slice vz.A vz.n vz.c] x.W fun e w' => e = .returned (.bool true) ∧ Below x.W.heap.size x.W w') := Lib.hid fun x => by
        have := samePosts_any x.W vc.A vc.n vc.c vc.r.posts vz.A vz.n vz.c vz.r.posts ((rc.posts.below x.is).more x.is.size) rc.len ((rz.posts.below x.is).more x.is.size) rz.len rc.few rz.few
        rw [decide_eq_true p2] at this
        exact this
      have HST := stable_any wr vc.r vc.A vc.n vc.c vc.A' vc.n' vc.c' rc
      rw [hvl, hst] at HST
      have HST := Lib.hid HST
      have hfc := rc.few
      clear p1 p2 hst hvl eva evz evc ra rz rc
      go_wp2_with fail
      refine HST.out.mono ?_
      unfold orErr
      rintro e w7 ⟨rfl, hb⟩
      have L1 := Later.of ((hb.cell (p := ⟨gA, i * 5 + 3, none⟩) (lt_of_cell a3)).trans a3)
      have L2 := Later.of ((hb.cell (p := ⟨gA, 3, none⟩) (lt_of_cell z3)).trans z3)
      have L3 := Later.of ((hb.cell (p := ⟨gC, i * 5 + 3, none⟩) (lt_of_cell c3)).trans c3)
      have HS3 : Hid (∀ x : Later w7, Calls Tryz.prog 33 #[.slice va.A va.n va.c, .slice vz.A vz.n vz.c] x.W fun e w' => e = .returned (.bool true) ∧ Below x.W.heap.size x.W w') := Lib.hid fun x => HS1.out ⟨x.W, hb.trans (x.is.mono hb.size)⟩
      have HS4 : Hid (∀ x : Later w7, Calls Tryz.prog 33 #[.slice vc.A vc.n vc.c, .slice vz.A vz.n vz.c] x.W fun e w' => e = .returned (.bool true) ∧ Below x.W.heap.size x.W w') := Lib.hid fun x => HS2.out ⟨x.W, hb.trans (x.is.mono hb.size)⟩
      have hW7 := Lib.hid (hW.out.trans (hb.mono hW.out.size))
      clear hb a3 z3 c0 c1 c2 c3 c4 HS1 HS2 HST hW
      go_upto_region 15 with (fail)
      refine wp_region_later (by kernel_rfl) (by kernel_rfl) ?_
      repeat (go_big_quiet_step ((go_at_call 33; first | with_reducible exact later_of (HS3.out _) | with_reducible exact later_of (HS4.out _))))
      refine wpQuiet_nil ?_
      rintro W8 ⟨⟨_, hW8⟩, rfl⟩
      clear L1 L2 L3 HS3 HS4
      have hW9 := Lib.hid (hW7.out.trans (hW8.mono hW7.out.size))
      clear hW8 hW7
      go_wp2_with fail
      go_roundw
      case rel => exact ⟨i + 1, by omega, by go_num, hW9⟩
      case measure => simp [intOf]; omega
    · have hik : i = K := by omega
      subst hik
      have HM := Lib.hid (HO9.out.below (hW.out.mono (by omega)))
      have HBW := Lib.hid (HB9.out.trans (hW.out.mono HB9.out.size))
      have RA1 := Lib.hid (RA.out.below hW.out)
      clear RA RC hW HO9 HB9
      go_wp2_with fail
      go_loopw [16, 17] (fun s k wr' => ∃ j : Nat, j ≤ mn ∧ s = .int .i64 (Rp.writesOf (L0.take j)) ∧ k = .int .i64 j ∧ wr' = wr) (fun _ k _ => mn - (intOf k).toNat)
      case atStart => exact ⟨0, by omega, rfl, rfl, rfl⟩
      case round =>
        obtain ⟨j, hj, rfl, rfl, rfl⟩ := hrel
        by_cases hlj : j < mn
        · obtain ⟨b, off, m, rfl, hbl, hq, h0, h1, h2, h3⟩ := HM.out.mo HML.out hlj
          have hle : Rp.writesOf (L0.take j) ≤ 60 := Nat.le_trans (Rp.writesOf_take L0 j) hwr0
          have HS := Lib.hid (writesOf_succ hq)
          have HK := Lib.hid (writes_kind m)
          generalize moK m = kk at h0 HK
          generalize Rp.writesOf (L0.take j) = sj at HS hle ⊢
          clear hq
          by_cases e1 : kk = 1
          · have z1 : decide (kk = 1) = true := by simpa using e1
            have z2 : (kk == 1) = true := by simpa using e1
            have HE := Lib.hid (show Rp.writesOf (L0.take (j + 1)) = sj + 1 by rw [HS.out, HK.out, if_pos e1])
            clear e1
            go_wp2_with fail
            go_roundw
            case rel => exact ⟨j + 1, by omega, by rw [HE.out]; go_num, by go_num, trivial⟩
            case measure => simp [intOf]; omega
          · have z1 : decide (kk = 1) = false := by simpa using e1
            have z2 : (kk == 1) = false := by simpa using e1
            have HE := Lib.hid (show Rp.writesOf (L0.take (j + 1)) = sj by rw [HS.out, HK.out, if_neg e1]; rfl)
            clear e1
            go_wp2_with fail
            go_roundw
            case rel => exact ⟨j + 1, by omega, by rw [HE.out], by go_num, trivial⟩
            case measure => simp [intOf]; omega
        · obtain ⟨vz, evz, ⟨_, _, _, z3, _⟩, rz, _⟩ := RA1.out 0 (by omega)
          rw [Nat.zero_mul, Nat.zero_add] at z3
          have hct := AG.out.count
          rw [← evz, rz.len] at hct
          have hjn : j = mn := by omega
          have hT : L0.take j = L0 := List.take_of_length_le (by rw [HML.out]; omega)
          rw [hT, ← hct]
          have hfz := rz.few
          clear hct hT hjn evz rz RA1 AG
          go_wp2_with fail
          go_ret
          exact ⟨by simp, HBW.out⟩
end Go.Proofs.YtnehgpeelgjjhaaGreatDoor.Tw
namespace Go.Proofs.YtnehgpeelgjjhaaGreatDoor.Tw
open Go.RowKit Go.ChangeShapes
theorem wf_i64 {n : Int} (h : (Lit.int .i64 n).wf = true) : -9223372036854775808 ≤ n ∧ n ≤ 9223372036854775807 := by
  have e1 : IntKind.i64.min = -9223372036854775808 := by kernel_rfl
  have e2 : IntKind.i64.max = 9223372036854775807 := by kernel_rfl
  simp only [Lit.wf, Bool.and_eq_true, decide_eq_true_eq, e1, e2] at h
  exact h
theorem enc3_length : ∀ l : List (Int × Int × Int), (enc3 l).length = l.length * 3
  | [] => rfl
  | x :: l => by
    have := enc3_length l
    simp only [enc3, List.flatMap_cons, List.length_append, List.length_cons, List.length_nil] at this ⊢
    omega
theorem add_off {b off k : Nat} : (⟨b, off, none⟩ : Addr).add k = ⟨b, off + k, none⟩ := by unfold Addr.add; split <;> simp_all
/-- for each i below n there is one with P: a list of them -/
theorem list_of {α : Type} (P : Nat → α → Prop) : ∀ n, (∀ i, i < n → ∃ x, P i x) → ∃ xs : List α, xs.length = n ∧ ∀ i x, xs[i]? = some x → P i x
  | 0, _ => ⟨[], rfl, fun i x h => by simp at h⟩
  | n + 1, h => by
    obtain ⟨xs, hl, hp⟩ := list_of P n fun i hi => h i (by omega)
    obtain ⟨y, hy⟩ := h n (by omega)
    refine ⟨xs ++ [y], by simp [hl], fun i x hx => ?_⟩
    rcases Nat.lt_or_ge i xs.length with hi | hi
    · rw [List.getElem?_append_left hi] at hx; exact hp i x hx
    · rw [List.getElem?_append_right hi] at hx
      have : i - xs.length = 0 := by
        rcases Nat.eq_zero_or_pos (i - xs.length) with h0 | h0
        · exact h0
        · rw [List.getElem?_eq_none (by simp; omega)] at hx; cases hx
      have hi2 : i = n := by omega
      rw [this] at hx
      cases hx
      rw [hi2]; exact hy
section
variable {H : Type} {enc : TypeId × Value → H} {W : World} {sp : Nat → Bool} {held : Bool}
/-- what a slice of triples that came in reads as -/
theorem reads3 {t e i : TypeId} (ht : Tryz.prog.underlying t = some (.slice e)) (he : Tryz.prog.underlying e = some (.array 3 i)) (hi : Tryz.prog.underlying i = some (.int .i64)) (hc : Tryz.prog.cellsOf e = 3) (hc1 : Tryz.prog.cellsOf i = 1)
    {a : Option Addr} {n c : Nat} {d : DataW H} {ps : List MemPlace} (h : DataW.Trod enc Tryz.prog W 0 sp held t (.slice a n c) d ps) :
    ∃ xs : List (Int × Int × Int), Reads W W.heap.size 3 a n (enc3 xs) ∧ xs.length = n ∧
      ∀ x ∈ xs, (-9223372036854775808 ≤ x.1 ∧ x.1 ≤ 9223372036854775807) ∧ (-9223372036854775808 ≤ x.2.1 ∧ x.2.1 ≤ 9223372036854775807) ∧ (-9223372036854775808 ≤ x.2.2 ∧ x.2.2 ≤ 9223372036854775807) := by
  obtain ⟨fuel, hf⟩ := h
  rcases DataW.trod_slice ht hf with ⟨hcs, _⟩ | ⟨a', len, cap, elems, rest, m, rfl, hcs, _, _, _, _, hlen, hel, _, _⟩
  · simp [Value.cells] at hcs
    obtain ⟨rfl, rfl, rfl⟩ := hcs
    exact ⟨[], ⟨rfl, fun h => absurd h (by decide)⟩, rfl, fun x hx => by cases hx⟩
  · simp [Value.cells] at hcs
    obtain ⟨rfl, rfl, rfl⟩ := hcs
    obtain ⟨xs, hl, hp⟩ := list_of (α := Int × Int × Int) (fun j x => (W.cell? ((a'.add (j * 3)).add 0) = some (.int .i64 x.1) ∧ W.cell? ((a'.add (j * 3)).add 1) = some (.int .i64 x.2.1) ∧ W.cell? ((a'.add (j * 3)).add 2) = some (.int .i64 x.2.2)) ∧
        (-9223372036854775808 ≤ x.1 ∧ x.1 ≤ 9223372036854775807) ∧ (-9223372036854775808 ≤ x.2.1 ∧ x.2.1 ≤ 9223372036854775807) ∧ (-9223372036854775808 ≤ x.2.2 ∧ x.2.2 ≤ 9223372036854775807)) n (fun j hj => by
      have h1 := hel j hj
      rw [hc, List.getElem?_eq_getElem (by omega)] at h1
      obtain ⟨cs, h2, h3⟩ := Option.bind_eq_some_iff.1 h1
      obtain ⟨_, hcl, hcell⟩ := World.cells?_some h2
      match cs, hcl with
      | [c0, c1, c2], _ =>
        obtain ⟨y0, y1, y2, k, _, e0, e1, e2⟩ := trod_array3 he hc1 h3
        obtain ⟨n0, q0, _, w0⟩ := DataW.trod_int hi e0
        obtain ⟨n1, q1, _, w1⟩ := DataW.trod_int hi e1
        obtain ⟨n2, q2, _, w2⟩ := DataW.trod_int hi e2
        cases q0; cases q1; cases q2
        exact ⟨(n0, n1, n2), ⟨hcell 0 (by omega), hcell 1 (by omega), hcell 2 (by omega)⟩, wf_i64 w0, wf_i64 w1, wf_i64 w2⟩)
    refine ⟨xs, ⟨?_, fun hn => ?_⟩, hl, fun x hx => ?_⟩
    · rw [enc3_length, hl]
    · have hx0 : xs[0]? = some (xs[0]'(by omega)) := List.getElem?_eq_getElem _
      obtain ⟨⟨c0, _⟩, _⟩ := hp 0 _ hx0
      rw [Nat.zero_mul] at c0
      obtain ⟨b, off, spot⟩ := a'
      have hs : spot = none := by have := World.cell?_spot c0; simpa [Addr.add] using this
      subst hs
      simp only [add_off, Nat.add_zero] at c0 hp
      refine ⟨b, off, rfl, lt_of_cell c0, fun j u hu => ?_⟩
      have hj : j < xs.length * 3 := by
        rcases Nat.lt_or_ge j (enc3 xs).length with h | h
        · rw [enc3_length] at h; exact h
        · rw [List.getElem?_eq_none h] at hu; cases hu
      have hx : xs[j / 3]? = some (xs[j / 3]'(by omega)) := List.getElem?_eq_getElem _
      obtain ⟨⟨c0, c1, c2⟩, _⟩ := hp (j / 3) _ hx
      have hg := enc3_get xs (j / 3) _ (j % 3) hx (by omega)
      rw [show j / 3 * 3 + j % 3 = j by omega] at hg
      rw [hg] at hu
      have h3 : j % 3 = 0 ∨ j % 3 = 1 ∨ j % 3 = 2 := by omega
      rcases h3 with h3 | h3 | h3
      · rw [h3] at hu
        obtain rfl := Option.some.inj hu
        rw [show off + j = off + j / 3 * 3 by omega]; exact c0
      · rw [h3] at hu
        obtain rfl := Option.some.inj hu
        rw [show off + j = off + j / 3 * 3 + 1 by omega]; exact c1
      · rw [h3] at hu
        obtain rfl := Option.some.inj hu
        rw [show off + j = off + j / 3 * 3 + 2 by omega]; exact c2
    · obtain ⟨j, hj⟩ := List.getElem?_of_mem hx
      exact (hp j x hj).2
end
end Go.Proofs.YtnehgpeelgjjhaaGreatDoor.Tw
namespace Go.Proofs.YtnehgpeelgjjhaaGreatDoor.Tw
open Go.RowKit Go.ChangeShapes
theorem cells242 : Tryz.prog.cellsOf 242 = 64 := by kernel_rfl
theorem nums_of {W : World} {sp : Nat → Bool} {held : Bool} {fuel : Nat} {cs : Array Value} {x : DataW Unit × List MemPlace} {e : TypeId} (he : Tryz.prog.underlying 242 = some (.array 64 e)) (hi : Tryz.prog.underlying e = some (.int .u32)) (hc : Tryz.prog.cellsOf e = 1)
    (h : DataW.trod (fun _ => ()) Tryz.prog W 0 sp held fuel 242 cs.toList = some x) : Nums 64 cs := by
  obtain ⟨xs, m, rfl, _, hlen, hn, hel⟩ := DataW.trod_array he h
  rw [cells242] at hlen
  have key : ∀ i, i < 64 → ∃ k, cs[i]? = some (.int .u32 k) := fun i hi' => by
    have h1 := hel i hi'
    rw [hc, Nat.mul_one, List.getElem?_eq_getElem (by omega)] at h1
    obtain ⟨k, e1, _, _⟩ := DataW.trod_int hi h1
    refine ⟨k, ?_⟩
    have h2 : (List.take 1 (List.drop i cs.toList))[0]? = some (.int .u32 k) := by rw [e1]; rfl
    rw [List.getElem?_take_of_lt (by omega), List.getElem?_drop, Nat.add_zero, Array.getElem?_toList] at h2
    exact h2
  have hsz : cs.size = 64 := by simpa using hlen
  refine ⟨hsz, ?_, fun i hi' => ?_⟩
  · rw [Array.all_eq_true]
    intro i hi'
    obtain ⟨k, hk⟩ := key i (by omega)
    have : cs[i] = .int .u32 k := by
      have := (Array.getElem?_eq_some_iff.1 hk).2
      exact this
    rw [this]; rfl
  · obtain ⟨k, hk⟩ := key i hi'
    have : num cs i = k := by
      unfold num
      rw [Array.getD_eq_getD_getElem?, hk]
      rfl
    rw [this]; exact hk
theorem gRound : Tryz.prog.globalNamed "clearway/digest.round" = some 0 := by kernel_rfl
theorem tRound : (Tryz.prog.globals[0]?).map (·.type) = some 242 := by kernel_rfl
/-- what the condition on the listed variables gives the walks: the table -/
theorem tab_of_laid {W : World} {a c : String} {x y z : DataW Unit} (hx : (x.handleName?).isSome = false) (hy : (y.handleName?).isSome = false) (hz : (z.handleName?).isSome = true)
    {e : TypeId} (he : Tryz.prog.underlying 242 = some (.array 64 e)) (hi : Tryz.prog.underlying e = some (.int .u32)) (hc : Tryz.prog.cellsOf e = 1)
    (h : laidMetH Tryz.prog [(a, x), ("clearway/digest.round", y), (c, z)] W) : ∃ tab, Tab W tab := by
  have hx2 : (x.handleName?).isNone = true := by cases hh : x.handleName? <;> simp_all
  have hy2 : (y.handleName?).isNone = true := by cases hh : y.handleName? <;> simp_all
  have hz2 : (z.handleName?).isNone = false := by cases hh : z.handleName? <;> simp_all
  unfold laidMetH at h
  simp only [List.filter, hx, hy, hz, hx2, hy2, hz2] at h
  obtain ⟨⟨ps, hps, _, hcell⟩, _⟩ := h
  obtain ⟨g0, t0, cs0, f0, p0, q0, _, _, _, _, hq0, rfl⟩ := hps
  obtain ⟨g1, t1, cs1, f1, p1, q1, hg1, ht1, hv1, hd1, _, rfl⟩ := hq0
  obtain rfl := Option.some.inj (gRound.symm.trans hg1)
  obtain rfl := Option.some.inj (tRound.symm.trans ht1)
  have hn := nums_of he hi hc hd1
  refine ⟨cs1, ?_, hn⟩
  obtain ⟨⟨cc, t, hb⟩, _⟩ := hcell 0 0 (by
    refine List.mem_append.2 (.inr (List.mem_append.2 (.inl (List.mem_append.2 (.inl ?_)))))
    simp only [MemPlace.row, List.mem_map, List.mem_range, hn.1]
    exact ⟨0, by omega, by simp [Addr.add]⟩)
  have : cc = cs1 := by
    unfold World.var? at hv1
    rw [gRound] at hv1
    simp only [Option.bind_some, hb] at hv1
    exact Option.some.inj hv1
  subst this
  exact ⟨t, hb⟩
end Go.Proofs.YtnehgpeelgjjhaaGreatDoor.Tw
