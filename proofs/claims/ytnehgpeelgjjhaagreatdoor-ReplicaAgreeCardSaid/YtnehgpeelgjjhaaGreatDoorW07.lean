/- Contracts of functions of the program, and plain laws, towards the laws of replicas. Joined of the texts: V13, RF, D1, E1, E2, E3, Arr, E4, E5, E6, E7, E8, E9, S1, S2, S3, D2, D3, D4, D5, D6. -/
import Derived.Test.YtnehgpeelgjjhaaGreatDoorW06
import Derived.Handy
import Derived.Test.YtnehgpeelgjjhaaGreatDoorW01
import Derived.RangeFuncNested
import Derived.RangeFuncBound
import Derived.RangeFuncCalls
import Derived.RangeFuncLeaves
import Derived.Shelf.Abstract
import Derived.Shelf.RegionOpen
import Derived.OwnWalkIn
import Derived.TacticsInMore
import Derived.LoopNIn
import Derived.LoopIn
import Derived.Test.YtnehgpeelgjjhaaGreatDoorW02
import Derived.Outline
import Derived.WalkMore
import Derived.Laws.IdiomRangeMap
import Derived.Deep.WholeRow
import Derived.Laws.EntriesVeiled
import Derived.Deep.RegionHeld3
import Derived.Deep.MidRow
import Derived.Deep.DeepCutAuto
import Derived.Laws.BytesArg
import Derived.Laws.IdiomStrings
import Derived.Laws.IdiomCopy
import Derived.Laws.AppendOwn
set_option linter.all false
namespace Go.Proofs.YtnehgpeelgjjhaaGreatDoor.Tw
open Go.RowKit
set_option maxRecDepth 100000 in
set_option maxHeartbeats 3200000 in
/-- replica.Run of one delivery without a message: an error -/
theorem runBad (w : World) (b c : Nat) (h0 : w.cell? ⟨b, 0, none⟩ = some (.int .i64 3)) (h1 : w.cell? ⟨b, 1, none⟩ = some (.int .i64 0)) (h2 : w.cell? ⟨b, 2, none⟩ = some (.int .i64 0)) (h3 : w.cell? ⟨b, 3, none⟩ = some (.string ⟨#[]⟩)) :
    Calls Tryz.prog 29 #[.int .i64 2, .slice (some ⟨b, 0, none⟩) 1 c] w fun e w' => e = .returned (.tuple #[.slice none 0 0, .int .i64 310]) ∧ Below w.heap.size w w' := by
  have hbl := lt_of_cell h0
  have hin0 : Rp.inr 2 1 5 = true := Rp.inr_iff.2 (by omega)
  have hin1 : Rp.inr 0 0 1 = true := Rp.inr_iff.2 (by omega)
  have hin2 : Rp.inr 0 0 (-1) = false := by decide
  go_enter Tryz.func29, Tryz.ntmps29
  go_wp2_with (go_at_call 54; refine (inr_any _ _ _ _).mono ?_; rintro e _ ⟨rfl, rfl⟩; rw [hin0])
  refine wp_loop_rounds 2 ?_
  rw [rounds_succ]
  have hb0 : Below w.heap.size w (w.alloc (.cells #[.slice none 0 0, .slice none 0 0] 112)) := (Below.refl _ _).alloc (Nat.le_refl _) _
  rw [← hb0.cell (p := ⟨b, _, none⟩) hbl] at h0 h1 h2 h3
  obtain ⟨wr, hwr⟩ : ∃ wr, wr = w.alloc (.cells #[.slice none 0 0, .slice none 0 0] 112) := ⟨_, rfl⟩
  rw [← hwr] at h0 h1 h2 h3 hb0 ⊢
  clear hwr
  obtain ⟨W1, hW1⟩ : ∃ W1, W1 = wr.alloc (.cells #[.int .i64 3, .int .i64 0, .int .i64 0, .string ⟨#[]⟩] 64) := ⟨_, rfl⟩
  have hb1 : Below wr.heap.size wr W1 := by rw [hW1]; exact (Below.refl _ _).alloc (Nat.le_refl _) _
  have hG1 : Blk W1 wr.heap.size 64 #[.int .i64 3, .int .i64 0, .int .i64 0, .string ⟨#[]⟩] := by rw [hW1]; exact Blk.new _ _ _
  have HW1 := Lib.hid hW1
  clear hW1
  obtain ⟨d0, d1, d2, d3⟩ := hG1.cells4
  have kd0 := Later.of d0
  go_wp2
  have HWx : W1 = wr.alloc (.cells #[.int .i64 3, .int .i64 0, .int .i64 0, .string ⟨#[]⟩] 64) := HW1.out
  rw [← HWx]
  clear HWx
  refine wp_region_later (by kernel_rfl) (by kernel_rfl) ?_
  repeat (go_big_quiet_step (fail))
  refine wpQuiet_nil ?_
  rintro W2 ⟨⟨_, hW2⟩, rfl⟩
  have hG2 := hG1.below hW2 hG1.lt
  clear d0 d1 d2 d3 kd0
  obtain ⟨d0, d1, d2, d3⟩ := hG2.cells4
  have hb02 := hb1.trans (hW2.mono hb1.size)
  go_wp2
  have hfe := fn_eql 93
  go_region_held3 (fun w' => w'.cell? ⟨wr.heap.size, 0, none⟩ = some (.int .i64 3))
    (go_keep)
    (first
      | (go_at_call 68
         refine (motions_any _).mono ?_
         rintro e w4 ⟨rfl, hT, hb4⟩
         have hb24 : Below W2.heap.size W2 w4 := (Below.refl _ _).drew.trans hb4
         have k0 := (hb24.cell (p := ⟨wr.heap.size, 0, none⟩) hG2.lt).trans d0
         have hlook : (Instr.lookup 114 (.map (some W2.heap.size)) (.int .i64 3) false).run Tryz.prog w4 = .ok (.func (.func 93) #[] #[]) w4 := (table_look hT).2.2))
  have hG4 := hG2.below hb24 hG2.lt
  have hb04 := hb02.trans (hb24.mono hb02.size)
  clear d0 d1 d2 d3 hlook hT
  obtain ⟨d0, d1, d2, d3⟩ := hG4.cells4
  go_wp2_with (go_at_call 54; refine (inr_any _ _ _ _).mono ?_; rintro e _ ⟨rfl, rfl⟩; first | rw [hin1] | rw [hin2])
  go_ret2
  exact ⟨rfl, hb0.trans (hb04.mono hb0.size)⟩
set_option maxRecDepth 100000 in
set_option maxHeartbeats 1000000 in
theorem ints2 (w : World) (a oa ca b ob cb : Nat) (x y : Int) (a0 : w.cell? ⟨a, oa, none⟩ = some (.int .i64 x)) (a1 : w.cell? ⟨a, oa + 1, none⟩ = some (.int .i64 y)) (b0 : w.cell? ⟨b, ob, none⟩ = some (.int .i64 x)) (b1 : w.cell? ⟨b, ob + 1, none⟩ = some (.int .i64 y)) :
    Calls Tryz.prog 37 #[.slice (some ⟨a, oa, none⟩) 2 ca, .slice (some ⟨b, ob, none⟩) 2 cb] w fun e w' => e = .returned (.bool true) ∧ Below w.heap.size w w' := by
  have L0 := Later.of a0
  have L1 := Later.of b0
  go_enter Tryz.func37, Tryz.ntmps37
  go_wp2
  refine wp_loop_rounds 3 ?_
  rw [rounds_succ]
  go_wp2
  refine wp_region_later (by kernel_rfl) (by kernel_rfl) ?_
  repeat (go_big_quiet_step (fail))
  refine wpQuiet_nil ?_
  rintro U ⟨⟨_, hU⟩, rfl⟩
  have c1 := (hU.cell (lt_of_cell a1)).trans a1
  have c2 := (hU.cell (lt_of_cell b1)).trans b1
  clear L0 L1 a0 a1 b0 b1
  have L0 := Later.of c1
  have L1 := Later.of c2
  go_wp2
  rw [rounds_succ]
  go_wp2
  refine wp_region_later (by kernel_rfl) (by kernel_rfl) ?_
  repeat (go_big_quiet_step (fail))
  refine wpQuiet_nil ?_
  rintro V ⟨⟨_, hV⟩, rfl⟩
  clear L0 L1 c1 c2
  go_wp2
  rw [rounds_succ]
  go_wp2
  go_ret
  exact ⟨rfl, hU.trans (hV.mono hU.size)⟩
end Go.Proofs.YtnehgpeelgjjhaaGreatDoor.Tw
namespace Go.Proofs.YtnehgpeelgjjhaaGreatDoor.Tw
open Go.RowKit

section
variable {P : Program}
/-- A function whose body holds a range over a function: its contract from its body, the marks among its deferred calls taken in. -/
theorem calls_of_marks {f : FuncId} {fn : Func} {c : Code} {args : Array Value} {w : World} {R : Ending → World → Prop} (hf : P.funcs[f]? = some fn) (hb : fn.body = some c)
    (h : c.wp P (bodyPostM Fence.wide 9 P fn R) { tmps := args ++ Array.replicate (fn.ntmps - args.size) undef, defers := [] } w) : Calls P f args w R :=
  callsIn_wide.1 (callsIn_of_wp_marks (F := Fence.wide) (n := 9) hf hb trivial (wpIn_wide.2 h) rfl)

theorem grown_below {w w' : World} (h : Below w.heap.size w w') (row : Option Nat) : w.grownBy w' row := ⟨h.os, h.tape, h.output, h.size, fun k hk _ => h.block k hk⟩

/-- A range over a function that never calls yield. -/
theorem wp_range_never {g : Operand} {ps : Array Tmp} {assign body : Code} {Q : Exit → Act → World → Prop} {a : Act} {w : World} {gf : Nat} {lb : Array Value}
    (hg : a.eval g = .func (.func gf) #[] lb) (eg : ∀ args w, (callFunc gf args).run P w = .ok (.enter gf args) w)
    (hcall : ∀ l W, Below w.heap.size w W → Calls P gf (#[.func (.yield l) #[] #[]] ++ lb) W fun e W' => (∃ v, e = .returned v) ∧ Below W.heap.size W W')
    (hdone : ∀ (D : Nat) (W : World), w.heap.size ≤ D → Below w.heap.size w W → W.heap[D]? = some (.deferred (some [])) → Q .normal { a with defers := { target := .collected D, args := #[] } :: a.defers } W) :
    (Code.rangeFunc g ps assign body).wp P Q a w := by
  refine wpIn_wide (n := 9).1 ?_
  refine wpIn_rangeFunc_ownF (α := Empty) (F := Fence.wide) rfl (by omega) hg trivial eg (encs := fun x => nomatch x) (Kp := fun _ _ => True) (S := fun _ => True) (Sp := fun _ => False) (N := 0) (w0 := w)
    (fun l J Jx W hW hJ hJx hY h0 => callsIn_wide.2 ((hcall l W hW).mono fun e W' ⟨hv, hb⟩ => ⟨hv, .inl ⟨[], trivial, hJ [] W W' none h0 (grown_below hb none) (by simp)⟩⟩))
    (fun _ _ => trivial) (fun _ _ _ _ _ _ _ _ => trivial) (Below.refl _ _) (fun x => nomatch x)
    (fun _ W => Below w.heap.size w W) (fun _ _ _ => False) (ownFrom_below (Nat.le_refl _) (Nat.le_refl _)) (fun _ _ _ _ _ hs _ _ => hs) (Below.refl _ _) (fun x => nomatch x)
    (fun _ x => nomatch x) (fun _ _ x => nomatch x) (fun D xs W hD _ hb hK => hdone D W hD hb hK) (fun _ _ _ _ _ h _ _ => h.elim)
/-- the way out of a function behind one mark, two marks -/
theorem leaves_mark {fn : Func} {tmps : Array Value} {R : Ending → World → Prop} {D : Nat} {W : World} {v : Value} (hK : W.heap[D]? = some (.deferred (some [])))
    (hres : (results fn tmps).run P (W.putObj D (.deferred none)) = .ok v (W.putObj D (.deferred none))) (hR : R (.returned v) (W.putObj D (.deferred none))) :
    LeavesInM Fence.wide 9 P fn tmps R [{ target := .collected D, args := #[] }] .returning W :=
  ⟨by simp, .inl ⟨D, _, rfl, run_takeDeferred hK, ⟨v, hres, hR⟩⟩⟩
theorem leaves_marks {fn : Func} {tmps : Array Value} {R : Ending → World → Prop} {D E : Nat} {W : World} {v : Value} (hK : W.heap[D]? = some (.deferred (some []))) (hE : W.heap[E]? = some (.deferred (some []))) (hne : E ≠ D)
    (hres : (results fn tmps).run P ((W.putObj D (.deferred none)).putObj E (.deferred none)) = .ok v ((W.putObj D (.deferred none)).putObj E (.deferred none))) (hR : R (.returned v) ((W.putObj D (.deferred none)).putObj E (.deferred none))) :
    LeavesInM Fence.wide 9 P fn tmps R [{ target := .collected D, args := #[] }, { target := .collected E, args := #[] }] .returning W :=
  ⟨by simp, .inl ⟨D, _, rfl, run_takeDeferred hK, leaves_mark ((World.putObj_heap_other hne).trans hE) hres hR⟩⟩
theorem below_putObj {B : Nat} {w W : World} (h : Below B w W) {g : Nat} (hg : B ≤ g) (o : Obj) : Below B w (W.putObj g o) :=
  ⟨h.os, h.tape, h.output, by simp; exact h.size, fun k hk => (World.putObj_heap_other (by omega)).trans (h.block k hk)⟩
theorem below_setRow {B : Nat} {w W : World} (h : Below B w W) {g : Nat} (hg : B ≤ g) (cs : Array Value) : Below B w (W.setRow g cs) :=
  ⟨h.os, h.tape, h.output, by simp; exact h.size, fun k hk => (setRow_other W g k cs (by omega)).trans (h.block k hk)⟩
theorem Blk.putObj {W : World} {g r : Nat} {t : TypeId} {cs : Array Value} (h : Blk W g t cs) (hr : g ≠ r) (o : Obj) : Blk (W.putObj r o) g t cs := (World.putObj_heap_other hr).trans h
theorem Blk.setRow {W : World} {g r : Nat} {t : TypeId} {cs : Array Value} (h : Blk W g t cs) (hr : g ≠ r) (ds : Array Value) : Blk (W.setRow r ds) g t cs := (setRow_other W r g ds hr).trans h
theorem Blk.setRow_same {W : World} {g : Nat} {t : TypeId} {cs : Array Value} (h : Blk W g t cs) (ds : Array Value) : Blk (W.setRow g ds) g t ds := setRow_heap W g cs ds t (0, 0) h
theorem Blk.heap {w : World} {g : Nat} {t : TypeId} {cs : Array Value} (h : Blk w g t cs) : w.heap[g]? = some (.cells cs t (0, 0)) := h
end
end Go.Proofs.YtnehgpeelgjjhaaGreatDoor.Tw
namespace Go.Proofs.YtnehgpeelgjjhaaGreatDoor.Tw
open Go.RowKit
theorem and31 (n : Nat) (h1 : 1 ≤ n) (h2 : n ≤ 31) : bits BinOp.and IntKind.u64 (IntKind.u64.wrap (-(n : Int))) 31 = 32 - n := by
  have key : ∀ n : Fin 32, 1 ≤ n.val → bits BinOp.and IntKind.u64 (IntKind.u64.wrap (-(n.val : Int))) 31 = 32 - n.val := by decide +kernel
  exact key ⟨n, by omega⟩ h1
/-- a word turned to the right by n bits, as the code does it -/
def rotl (x : Int) (n : Nat) : Int := bits BinOp.or IntKind.u32 (x * 2 ^ (32 - n) % 4294967296) (x / 2 ^ (32 - (32 - n)))
set_option maxRecDepth 100000 in
set_option maxHeartbeats 400000 in
theorem rot_any (w : World) (x : Int) (n : Nat) (h1 : 1 ≤ n) (h2 : n ≤ 31) : Calls Tryz.prog 212 #[.int .u32 x, .int .i64 (-n)] w fun e w' => e = .returned (.int .u32 (rotl x n)) ∧ w = w' := by
  have hb := and31 n h1 h2
  go_enter Tryz.func212, Tryz.ntmps212
  go_wp2
  go_ret
  exact ⟨rfl, rfl⟩
def mixF (x : Int) (l : List Nat) : Int := l.foldl (fun out n => bits BinOp.xor IntKind.u32 out (rotl x n)) 0
theorem mix_take (x : Int) (l : List Nat) (k : Nat) (h : k < l.length) : mixF x (l.take (k + 1)) = bits BinOp.xor IntKind.u32 (mixF x (l.take k)) (rotl x l[k]) := by
  unfold mixF
  rw [List.take_succ_eq_append_getElem h, List.foldl_append]
  rfl
set_option maxRecDepth 100000 in
set_option maxHeartbeats 400000 in
theorem mixed_any (w : World) (x : Int) (l : List Nat) (b : Nat) (hB : Blk w b 3 (l.map fun n : Nat => Value.int .i64 (n : Int)).toArray) (hl : l.length ≤ 100) (hr : ∀ n ∈ l, 1 ≤ n ∧ n ≤ 31) :
    Calls Tryz.prog 154 #[.int .u32 x, .slice (some ⟨b, 0, none⟩) l.length l.length] w fun e w' => e = .returned (.int .u32 (mixF x l)) ∧ w = w' := by
  have HR := Lib.hid hr
  clear hr
  obtain ⟨n, hn⟩ : ∃ n, n = l.length := ⟨_, rfl⟩
  have HN := Lib.hid hn
  have hn' : n ≤ 100 := by omega
  rw [← hn]
  clear hn hl
  go_enter Tryz.func154, Tryz.ntmps154
  go_wp2
  go_loop [5, 10] (fun o i => ∃ k : Nat, k ≤ n ∧ i = .int .i64 k ∧ o = .int .u32 (mixF x (l.take k))) (fun _ i => n - (intOf i).toNat)
  case atStart => exact ⟨0, by omega, rfl, rfl⟩
  case round =>
    obtain ⟨k, hk, rfl, rfl⟩ := hrel
    by_cases hlt : k < n
    · have hkl : k < l.length := by rw [← HN.out]; exact hlt
      have hc : w.cell? ⟨b, k, none⟩ = some (.int .i64 (l[k] : Nat)) := by
        rw [hB.cell]
        simp [List.getElem?_toArray, hkl]
      obtain ⟨r1, r2⟩ := HR.out l[k] (List.getElem_mem hkl)
      have HM := Lib.hid (mix_take x l k hkl)
      generalize l[k] = q at *
      go_wp2_with (go_at_call 212; refine (rot_any _ _ q r1 r2).mono ?_; rintro e w' ⟨rfl, rfl⟩)
      go_round
      case rel => exact ⟨k + 1, by omega, by go_num, by rw [HM.out]⟩
      case measure => simp [intOf]; omega
    · have hkn : k = n := by omega
      subst hkn
      have HT := Lib.hid (show l.take k = l from List.take_of_length_le (by rw [← HN.out]; exact Nat.le_refl _))
      go_wp2
      go_ret
      exact ⟨congrArg (fun l => Ending.returned (Value.int .u32 (mixF x l))) HT.out, rfl⟩
end Go.Proofs.YtnehgpeelgjjhaaGreatDoor.Tw
namespace Go.Proofs.YtnehgpeelgjjhaaGreatDoor.Tw
open Go.RowKit
/-- the nil slice; the empty graph -/
abbrev nilS : Value := .slice none 0 0
abbrev g0 : Value := .agg #[nilS, nilS, nilS]
theorem Blk.three {w : World} {g : Nat} {t : TypeId} {a b c : Value} (h : Blk w g t #[a, b, c]) :
    w.cell? ⟨g, 0, none⟩ = some a ∧ w.cell? ⟨g, 1, none⟩ = some b ∧ w.cell? ⟨g, 2, none⟩ = some c := ⟨h.cell 0, h.cell 1, h.cell 2⟩
set_option maxRecDepth 100000 in
set_option maxHeartbeats 400000 in
/-- graph.Valid of the empty graph -/
theorem valid0 (w : World) : Calls Tryz.prog 97 #[g0] w fun e w' => e = .returned (.bool true) ∧ Below w.heap.size w w' := by
  go_enter Tryz.func97, Tryz.ntmps97
  go_wp2
  repeat (go_rounds 1)
  go_ret
  exact ⟨rfl, by go_grown⟩
/-- how a map's iterator that has nothing to hand out goes on -/
theorem next_map0 {P : Program} (W : World) (it bm since c0 clock : Nat) (ty : TypeId) (hi : W.heap[it]? = some (.mapIter (some bm) since #[] c0)) (hb : W.heap[bm]? = some (.map #[] clock)) :
    (Instr.next (.pointer (some ⟨it, 0, none⟩)) false ty).run P W = .ok (.tuple #[.bool false]) W := by
  have hf : ∀ p : MapEntry → Bool, Array.filter p (#[] : Array MapEntry) = #[] := fun p => by simp [Array.filter]
  simp only [Instr.next, getObj, Sem.run_bind, Sem.run, hi, hb, Result.andThen, hf]
  simp [choose, Sem.run, Question.forced]
theorem heap_new (w : World) (o : Obj) : (w.alloc o).heap[w.heap.size]? = some o := heap_alloc_new w o
theorem heap_new' (w : World) (o : Obj) {n : Nat} (h : n = w.heap.size) : (w.alloc o).heap[n]? = some o := by subst h; exact heap_new w o
theorem heap_old {w : World} {r : Nat} {x : Obj} (o : Obj) (h : w.heap[r]? = some x) : (w.alloc o).heap[r]? = some x := by
  have hlt : r < w.heap.size := by
    rcases Nat.lt_or_ge r w.heap.size with h1 | h1
    · exact h1
    · rw [Array.getElem?_eq_none h1] at h; cases h
  rw [heap_alloc_old w o hlt, h]
end Go.Proofs.YtnehgpeelgjjhaaGreatDoor.Tw
namespace Go.Proofs.YtnehgpeelgjjhaaGreatDoor.Tw
open Go.RowKit
set_option maxRecDepth 100000 in
set_option maxHeartbeats 400000 in
theorem len0 (w : World) : Calls Tryz.prog 335 #[.int .u64 0] w fun e w' => e = .returned (.int .i64 0) ∧ w = w' := by
  go_enter Tryz.func335, Tryz.ntmps335
  go_wp2
  go_ret
  exact ⟨by kernel_rfl, rfl⟩
set_option maxRecDepth 100000 in
set_option maxHeartbeats 400000 in
theorem mul10 (w : World) : Calls Tryz.prog 539 #[.int .u64 1, .int .u64 0] w fun e w' => e = .returned (.tuple #[.int .u64 0, .int .u64 0]) ∧ w = w' := by
  go_enter Tryz.func539, Tryz.ntmps539
  go_wp2
  go_ret2
  exact ⟨by kernel_rfl, rfl⟩
set_option maxRecDepth 100000 in
set_option maxHeartbeats 400000 in
theorem sortOdd0 (w : World) (f : Value) : Calls Tryz.prog 535 #[nilS, f] w fun e w' => e = .returned (.tuple #[]) ∧ w = w' := by
  go_enter Tryz.func535, Tryz.ntmps535
  go_wp2_with (first | (go_at_call 335; refine (len0 _).mono ?_; rintro e w1 ⟨rfl, rfl⟩) | go_in)
  repeat (go_rounds 1)
  go_returns
  exact ⟨rfl, rfl⟩
end Go.Proofs.YtnehgpeelgjjhaaGreatDoor.Tw
namespace Go.Proofs.YtnehgpeelgjjhaaGreatDoor.Tw
open Go.RowKit
theorem mk0 : ∀ w, (Instr.makeSlice 24 (.int .i64 0) (.int .i64 0)).run Tryz.prog w = .ok (.slice (some ⟨w.heap.size, 0, none⟩) 0 0) (w.alloc (.cells #[] 3)) := fun _ => by kernel_rfl
theorem copy00 : ∀ (b : Nat) (A : Option Addr) (c d : Nat) w, (Builtin.copy_ #[24, 24] 3 #[.slice (some ⟨b, 0, none⟩) 0 c, .slice A 1 d]).run Tryz.prog w = .ok (.int .i64 0) w := fun _ A _ _ _ => by cases A <;> kernel_rfl
set_option maxRecDepth 100000 in
set_option maxHeartbeats 400000 in
theorem repeat0 (w : World) (A : Option Addr) (c : Nat) : Calls Tryz.prog 406 #[.slice A 1 c, .int .i64 0] w fun e w' => (∃ b, e = .returned (.slice (some ⟨b, 0, none⟩) 0 0)) ∧ Below w.heap.size w w' := by
  have hmk := mk0
  have hcp := copy00
  go_enter Tryz.func406, Tryz.ntmps406
  go_wp2_with (go_at_call 539; refine (mul10 _).mono ?_; rintro e w1 ⟨rfl, rfl⟩)
  repeat (go_rounds 1)
  go_ret
  exact ⟨⟨_, rfl⟩, by go_grown⟩
end Go.Proofs.YtnehgpeelgjjhaaGreatDoor.Tw
namespace Go.Proofs.YtnehgpeelgjjhaaGreatDoor.Tw
open Go.RowKit
/-- a whole aggregate into the block that was made last -/
theorem wpList_store_last {P : Program} {ops : Array Oper} {rest : List Oper} {o : Oper} {a : Act} {W : World} {Q : Exit → Act → World → Prop} {c : Array Value} {t : TypeId} (hgd : o.guard = none) (ty : TypeId) (x y : Operand) (ho : o.op = .store ty x y)
    (c' : Array Value) (g : Nat) (hx : a.eval x = .pointer (some ⟨g, 0, none⟩)) (hy : a.eval y = .agg c') (hg : g = W.heap.size)
    (hi : (P.info? ty).map (·.size) = some c'.size) (hold : c.size = c'.size) (h1 : c'.all (·.oneCell') = true)
    (h : wpList P ops Q rest (a.put o.dst undef) (W.alloc (.cells c' t))) : wpList P ops Q (o :: rest) a (W.alloc (.cells c t)) := by
  subst hg
  refine wpList_store_row hgd ty x y ho W.heap.size c' hx hy t c (heap_alloc_last W _) hi hold h1 ?_
  rw [World.setRow_alloc_new]
  exact h
abbrev z24 : Array Value := #[.int .i64 0, .int .i64 0, .int .i64 0, .int .i64 0, .int .i64 0, .int .i64 0, .int .i64 0, .int .i64 0, .int .i64 0, .int .i64 0, .int .i64 0, .int .i64 0, .int .i64 0, .int .i64 0, .int .i64 0, .int .i64 0, .int .i64 0, .int .i64 0, .int .i64 0, .int .i64 0, .int .i64 0, .int .i64 0, .int .i64 0, .int .i64 0]
theorem one24 : z24.all (·.oneCell') = true := by kernel_rfl
theorem size24 : (Tryz.prog.info? 494).map (·.size) = some z24.size := by kernel_rfl
end Go.Proofs.YtnehgpeelgjjhaaGreatDoor.Tw
namespace Go.Proofs.YtnehgpeelgjjhaaGreatDoor.Tw
open Go.RowKit
set_option maxRecDepth 100000 in
set_option maxHeartbeats 400000 in
theorem blossomBegin0 (w : World) : Calls Tryz.prog 533 #[g0] w fun e w' => ∃ p b, e = .returned (.tuple #[.pointer (some ⟨p, 0, none⟩), .bool false]) ∧ w.heap.size ≤ p ∧ Blk w' p 550 #[nilS, nilS, .slice (some ⟨b, 0, none⟩) 0 0, nilS] ∧ Below w.heap.size w w' := by
  go_enter Tryz.func533, Tryz.ntmps533
  go_wp2_with (with_reducible refine wpList_store_last rfl 494 (.tmp 5) (.tmp 13) rfl z24 _ rfl rfl (by simp) size24 rfl one24 ?_)
  refine wp_loop_rounds 1 ?_
  rw [rounds_succ]
  go_wp2_with fail
  refine wp_loop_rounds 1 ?_
  rw [rounds_succ]
  go_wp2_with fail
  obtain ⟨W0, hW0⟩ : ∃ W0, W0 = ((((w.alloc (.cells #[nilS, nilS, nilS] 79)).alloc (.cells #[nilS, nilS, nilS, nilS] 550)).alloc (.cells z24 494)).alloc (.cells #[.int .i64 0] 3)) := ⟨_, rfl⟩
  have hB0 : Blk W0 (w.heap.size + 1) 550 #[nilS, nilS, nilS, nilS] := by rw [hW0]; exact ((Blk.new2 _ _ _ _).alloc _).alloc _
  have hb0 : Below w.heap.size w W0 := by rw [hW0]; go_grown
  rw [← hW0]
  clear hW0
  refine (repeat0 _ _ _).mono ?_
  rintro e w1 ⟨⟨b, rfl⟩, h1⟩
  have hB1 := hB0.below h1 hB0.lt
  have hb1 := hb0.trans (h1.mono hb0.size)
  have hb1' := hB1.set_ 2 (.slice (some ⟨b, 0, none⟩) 0 0)
  have HB1' := Lib.hid hb1'
  have c2 := hB1.cell 2
  have f2 := hB1.frozen 2
  clear hB0 hB1 hb1'
  simp only [List.getElem?_toArray, List.getElem?_cons_zero, List.getElem?_cons_succ] at c2
  go_wp2_with fail
  go_outline
  go_ret2
  exact ⟨_, _, rfl, by omega, HB1'.out, hb1.setCell (by simp) _⟩
end Go.Proofs.YtnehgpeelgjjhaaGreatDoor.Tw
namespace Go.Proofs.YtnehgpeelgjjhaaGreatDoor.Tw
open Go.RowKit
theorem mkf : ∀ (fn : Fn) (first cap : Array Value) (w : World), (Instr.makeFunc fn first cap).run Tryz.prog w = .ok (.func fn first cap) w := fun _ _ _ _ => rfl
theorem Blk.four {w : World} {g : Nat} {t : TypeId} {a b c d : Value} (h : Blk w g t #[a, b, c, d]) :
    w.cell? ⟨g, 0, none⟩ = some a ∧ w.cell? ⟨g, 1, none⟩ = some b ∧ w.cell? ⟨g, 2, none⟩ = some c ∧ w.cell? ⟨g, 3, none⟩ = some d := ⟨h.cell 0, h.cell 1, h.cell 2, h.cell 3⟩
theorem belowN {B : Nat} {w w' : World} {n : Nat} (h : Below B w w') : Below B w (w'.drewN n) := by
  induction n with
  | zero => exact h
  | succ n ih => exact ih.drew
theorem same {P : Program} {f : FuncId} {args : Array Value} {w : World} {v : Value} (h : Calls P f args w fun e w' => e = .returned v ∧ w = w') : Calls P f args w fun e w' => e = .returned v ∧ w' = w :=
  h.mono fun _ _ ⟨a, b⟩ => ⟨a, b.symm⟩
set_option maxRecDepth 100000 in
set_option maxHeartbeats 400000 in
theorem hasOdd0 (w : World) (F : Fn) (a b : Array Value) : Calls Tryz.prog 616 #[nilS, .func F a b] w fun e w' => e = .returned (.bool false) ∧ w = w' := by
  go_enter Tryz.func616, Tryz.ntmps616
  go_wp2
  repeat (go_rounds 1)
  go_ret
  exact ⟨rfl, rfl⟩
set_option maxRecDepth 100000 in
set_option maxHeartbeats 400000 in
theorem match0 (w : World) (p : Nat) (B : Option Addr) (hB : Blk w p 550 #[nilS, nilS, .slice B 0 0, nilS]) :
    Calls Tryz.prog 538 #[.pointer (some ⟨p, 0, none⟩), .int .i64 0, .int .u32 0, nilS] w fun e w' => e = .returned (.tuple #[nilS, .bool true]) ∧ Below w.heap.size w w' := by
  have hmf := mkf
  obtain ⟨b0, b1, b2, b3⟩ := hB.four
  have hlt := hB.lt
  go_enter Tryz.func538, Tryz.ntmps538
  go_wp2
  go_rounds 1
  go_quiet ((go_at_call 616; exact Calls.quiet_of_same (same (hasOdd0 _ _ _ _))))
  go_wp2
  go_ret2
  exact ⟨rfl, belowN (by go_grown)⟩
set_option maxRecDepth 100000 in
set_option maxHeartbeats 400000 in
theorem blossomSolve0 (w : World) : Calls Tryz.prog 405 #[g0] w fun e w' => ∃ p b, e = .returned (.tuple #[.pointer (some ⟨p, 0, none⟩), nilS]) ∧ w.heap.size ≤ p ∧ Blk w' p 550 #[nilS, nilS, .slice (some ⟨b, 0, none⟩) 0 0, nilS] ∧ Below w.heap.size w w' := by
  go_enter Tryz.func405, Tryz.ntmps405
  go_wp2_with fail
  obtain ⟨W0, hW0⟩ : ∃ W0, W0 = w.alloc (.cells #[nilS, nilS, nilS] 79) := ⟨_, rfl⟩
  have hb0 : Below w.heap.size w W0 := by rw [hW0]; go_grown
  rw [← hW0]
  clear hW0
  refine (blossomBegin0 _).mono ?_
  rintro e w1 ⟨p, b, rfl, hp, hB, h1⟩
  have hb1 := hb0.trans (h1.mono hb0.size)
  have HB := Lib.hid hB
  obtain ⟨c0, c1, c2, c3⟩ := hB.four
  clear hB
  have hz := hb0.size
  go_wp2_with fail
  refine wp_loop_rounds 1 ?_
  rw [rounds_succ]
  go_wp2_with fail
  refine (sortOdd0 _ _).mono ?_
  rintro e w2 ⟨rfl, rfl⟩
  go_wp2_with fail
  refine (match0 _ _ _ HB.out).mono ?_
  rintro e w2 ⟨rfl, h2⟩
  have hb2 := hb1.trans (h2.mono hb1.size)
  have hB2 := Lib.hid (HB.out.below h2 HB.out.lt)
  go_wp2_with fail
  go_ret2
  exact ⟨_, _, rfl, by omega, hB2.out, hb2⟩
end Go.Proofs.YtnehgpeelgjjhaaGreatDoor.Tw
namespace Go.Proofs.YtnehgpeelgjjhaaGreatDoor.Tw
open Go.RowKit
theorem eqnil (T E : TypeId) (h : Tryz.prog.underlying T = some (.slice E)) : ∀ (w : World), (binOp .eql T nilS nilS).run Tryz.prog w = .ok (.bool true) w := fun w => Lib.run_eql_slice_nil w _ _ none 0 0 0 0 h
set_option maxRecDepth 100000 in
set_option maxHeartbeats 400000 in
theorem cloneInt0 (w : World) : Calls Tryz.prog 47 #[nilS] w fun e w' => e = .returned nilS ∧ w = w' := by
  have he := eqnil 24 _ Tryz.underlying24
  go_enter Tryz.func47, Tryz.ntmps47
  go_wp2
  go_ret
  exact ⟨rfl, rfl⟩
set_option maxRecDepth 100000 in
set_option maxHeartbeats 400000 in
theorem cloneVertex0 (w : World) : Calls Tryz.prog 140 #[nilS] w fun e w' => e = .returned nilS ∧ w = w' := by
  have he := eqnil 76 _ Tryz.underlying76
  go_enter Tryz.func140, Tryz.ntmps140
  go_wp2
  go_ret
  exact ⟨rfl, rfl⟩
set_option maxRecDepth 100000 in
set_option maxHeartbeats 400000 in
theorem cloneEdge0 (w : World) : Calls Tryz.prog 141 #[nilS] w fun e w' => e = .returned nilS ∧ w = w' := by
  have he := eqnil 77 _ Tryz.underlying77
  go_enter Tryz.func141, Tryz.ntmps141
  go_wp2
  go_ret
  exact ⟨rfl, rfl⟩
set_option maxRecDepth 100000 in
set_option maxHeartbeats 400000 in
theorem cloneOdd0 (w : World) : Calls Tryz.prog 407 #[nilS] w fun e w' => e = .returned nilS ∧ w = w' := by
  have he := eqnil 548 _ Tryz.underlying548
  go_enter Tryz.func407, Tryz.ntmps407
  go_wp2
  go_ret
  exact ⟨rfl, rfl⟩
set_option maxRecDepth 100000 in
set_option maxHeartbeats 400000 in
theorem stableOdd0 (w : World) (f : Value) : Calls Tryz.prog 408 #[nilS, f] w fun e w' => e = .returned (.tuple #[]) ∧ w = w' := by
  go_enter Tryz.func408, Tryz.ntmps408
  go_wp2
  repeat (go_rounds 1)
  go_returns
  exact ⟨rfl, rfl⟩
set_option maxRecDepth 100000 in
set_option maxHeartbeats 800000 in
theorem blossom0 (w : World) : Calls Tryz.prog 315 #[g0] w fun e w' => e = .returned (.tuple #[nilS, .int .i64 0]) ∧ Below w.heap.size w w' := by
  obtain ⟨W0, hW0⟩ : ∃ W0, W0 = w.alloc (.cells #[nilS, nilS, nilS] 79) := ⟨_, rfl⟩
  have hb0 : Below w.heap.size w W0 := by rw [hW0]; go_grown
  have hB0 : Blk W0 w.heap.size 79 #[nilS, nilS, nilS] := by rw [hW0]; exact Blk.new _ _ _
  have HW0 := Lib.hid hW0
  clear hW0
  obtain ⟨b0, b1, b2⟩ := hB0.three
  go_enter Tryz.func315, Tryz.ntmps315
  go_wp2_with fail
  rw [← HW0.out]
  refine (valid0 _).mono ?_
  rintro e w1 ⟨rfl, h1⟩
  have hB1 := hB0.below h1 hB0.lt
  have hb1 := hb0.trans (h1.mono hb0.size)
  clear b0 b1 b2
  obtain ⟨b0, b1, b2⟩ := hB1.three
  go_wp2_with fail
  refine (blossomSolve0 _).mono ?_
  rintro e w2 ⟨p, b, rfl, hp, hD, h2⟩
  have hb2 := hb1.trans (h2.mono hb1.size)
  clear b0 b1 b2
  obtain ⟨d0, d1, d2, d3⟩ := hD.four
  have hlt := hD.lt
  go_wp2_with fail
  go_region_held3 (fun w' => w'.cell? ⟨p, 0, none⟩ = some nilS) (go_keep) ((go_at_call 406; refine (repeat0 _ _ _).mono ?_; rintro e w3 ⟨⟨b3, rfl⟩, h3⟩; have hs3 := h3.size; (try simp only [World.size_alloc, World.size_drew] at hs3); have k3 := (bcell h3).1 p 0 (by first | omega | (simp only [World.size_alloc, World.size_drew]; omega)); have h4 : Below w2.heap.size w2 w3 := Below.trans (by go_grown) (h3.mono (by first | omega | (simp only [World.size_alloc, World.size_drew]; omega)))))
  all_goals
    have hD3 := hD.below h4 hlt
    have hb3 := hb2.trans (h4.mono hb2.size)
    clear d0 d1 d2 d3 k3
    obtain ⟨d0, d1, d2, d3⟩ := hD3.four
    go_wp2_with fail
    refine wp_loop_rounds 1 ?_
    rw [rounds_succ]
    go_wp2_with fail
    refine (cloneOdd0 _).mono ?_
    rintro e w4 ⟨rfl, rfl⟩
    go_wp2_with fail
    refine (stableOdd0 _ _).mono ?_
    rintro e w4 ⟨rfl, rfl⟩
    go_wp2_with fail
    refine wp_loop_rounds 1 ?_
    rw [rounds_succ]
    go_wp2_with fail
    go_ret2
    exact ⟨rfl, hb3⟩
end Go.Proofs.YtnehgpeelgjjhaaGreatDoor.Tw
namespace Go.Proofs.YtnehgpeelgjjhaaGreatDoor.Tw
open Go.RowKit
/-- a market without traders, its map at block m -/
noncomputable abbrev mk576 (m : Nat) : Array Value := Tryz.zeroCells576.setIfInBounds 24 (.map (some m))
theorem mk576_map (m : Nat) : (mk576 m)[24]? = some (.map (some m)) := by kernel_rfl
theorem lenMap0 {P : Program} {t k e ty : TypeId} {W : World} {m c : Nat} (ht : P.underlying t = some (.map k e)) (h : W.heap[m]? = some (.map #[] c)) : (Builtin.len_ #[t] ty #[.map (some m)]).run P W = .ok (.int .i64 0) W := by
  simp [Builtin.len_, run_underlying ht, getObj, Sem.run, Result.andThen, h, goInt]
set_option maxRecDepth 100000 in
set_option maxHeartbeats 400000 in
theorem tradeOpen0 (w : World) : Calls Tryz.prog 420 #[g0] w fun e w' => ∃ p m, e = .returned (.pointer (some ⟨p, 0, none⟩)) ∧ Blk w' p 576 (mk576 m) ∧ w'.heap[m]? = some (.map #[] 0) ∧ w.heap.size ≤ p ∧ w.heap.size ≤ m ∧ Below w.heap.size w w' := by
  have hmm := @run_makeMap Tryz.prog
  have hmf := mkf
  go_enter Tryz.func420, Tryz.ntmps420
  go_wp2_with fail
  refine wp_loop_rounds 1 ?_
  rw [rounds_succ]
  go_wp2_with fail
  refine wp_loop_rounds 1 ?_
  rw [rounds_succ]
  go_wp2_with fail
  go_ret
  exact ⟨w.heap.size + 1 + 1, w.heap.size + 1, rfl, heap_new' _ _ (by simp), heap_old _ (heap_new' _ _ (by simp)), by omega, by omega, by go_grown⟩
set_option maxRecDepth 100000 in
set_option maxHeartbeats 400000 in
theorem tradePlay0 (w : World) (p m : Nat) (hB : Blk w p 576 (mk576 m)) (hm : w.heap[m]? = some (.map #[] 0)) : Calls Tryz.prog 421 #[.pointer (some ⟨p, 0, none⟩)] w fun e w' => e = .returned nilS ∧ w = w' := by
  have hc := (hB.cell 24).trans (mk576_map m)
  go_enter Tryz.func421, Tryz.ntmps421
  go_wp2_with fail
  refine wp_loop_rounds 1 ?_
  rw [rounds_succ]
  go_wp2_with fail
  rw [lenMap0 Tryz.underlying573 hm]
  go_wp2_with fail
  go_ret
  exact ⟨rfl, rfl⟩
set_option maxRecDepth 100000 in
set_option maxHeartbeats 400000 in
theorem concat0 (w : World) : Calls Tryz.prog 422 #[nilS] w fun e w' => e = .returned nilS ∧ w = w' := by
  go_enter Tryz.func422, Tryz.ntmps422
  go_wp2
  repeat (go_rounds 1)
  go_ret
  exact ⟨rfl, rfl⟩
set_option maxRecDepth 100000 in
set_option maxHeartbeats 800000 in
theorem trade0 (w : World) : Calls Tryz.prog 318 #[g0] w fun e w' => e = .returned (.tuple #[nilS, .int .i64 0]) ∧ Below w.heap.size w w' := by
  obtain ⟨W0, hW0⟩ : ∃ W0, W0 = w.alloc (.cells #[nilS, nilS, nilS] 79) := ⟨_, rfl⟩
  have hb0 : Below w.heap.size w W0 := by rw [hW0]; go_grown
  have hB0 : Blk W0 w.heap.size 79 #[nilS, nilS, nilS] := by rw [hW0]; exact Blk.new _ _ _
  have HW0 := Lib.hid hW0
  clear hW0
  obtain ⟨b0, b1, b2⟩ := hB0.three
  go_enter Tryz.func318, Tryz.ntmps318
  go_wp2_with fail
  rw [← HW0.out]
  refine (valid0 _).mono ?_
  rintro e w1 ⟨rfl, h1⟩
  have hB1 := hB0.below h1 hB0.lt
  have hb1 := hb0.trans (h1.mono hb0.size)
  clear b0 b1 b2
  obtain ⟨b0, b1, b2⟩ := hB1.three
  go_wp2_with fail
  refine (tradeOpen0 _).mono ?_
  rintro e w2 ⟨p, m, rfl, hP, hm, hp, hm', h2⟩
  have hB2 := hB1.below h2 hB1.lt
  have hb2 := hb1.trans (h2.mono hb1.size)
  clear b0 b1 b2
  obtain ⟨b0, b1, b2⟩ := hB2.three
  have HP := Lib.hid hP
  have HM := Lib.hid hm
  clear hP hm hp hm'
  go_wp2_with fail
  refine (tradePlay0 _ p m HP.out HM.out).mono ?_
  rintro e w3 ⟨rfl, rfl⟩
  go_wp2_with fail
  refine (concat0 _).mono ?_
  rintro e w3 ⟨rfl, rfl⟩
  go_wp2_with fail
  refine wp_loop_rounds 1 ?_
  rw [rounds_succ]
  go_wp2_with fail
  refine wp_loop_rounds 1 ?_
  rw [rounds_succ]
  go_wp2_with fail
  go_ret2
  exact ⟨rfl, hb2⟩
end Go.Proofs.YtnehgpeelgjjhaaGreatDoor.Tw
namespace Go.Proofs.YtnehgpeelgjjhaaGreatDoor.Tw
open Go.RowKit
set_option maxRecDepth 100000 in
set_option maxHeartbeats 400000 in
theorem spanRound0 (w : World) (p m q : Nat) (h0 : w.cell? ⟨p, 0, none⟩ = some nilS) : Calls Tryz.prog 522 #[.pointer (some ⟨p, 0, none⟩), .map (some m), .pointer (some ⟨q, 0, none⟩)] w fun e w' => e = .returned (.tuple #[]) ∧ Below w.heap.size w w' := by
  have hmm := @run_makeMap Tryz.prog
  have h0a : ∀ o, (w.alloc o).cell? ⟨p, 0, none⟩ = some nilS := fun o => (World.cell?_alloc_some w _ o (by rw [h0]; rfl)).trans h0
  go_enter Tryz.func522, Tryz.ntmps522
  go_wp2_with fail
  refine wp_loop_rounds 1 ?_
  rw [rounds_succ]
  go_wp2_with fail
  rw [run_range_map (P := Tryz.prog) _ 704 _ _ _ #[] 0 Tryz.underlying704 (heap_new' _ _ (by simp))]
  go_wp2_with fail
  refine wp_loop_rounds 1 ?_
  rw [rounds_succ]
  go_wp2_with fail
  rw [next_map0 _ _ _ _ _ _ _ (heap_new' _ _ (by simp)) (heap_old _ (heap_new' _ _ (by simp)))]
  go_wp2_with fail
  refine wp_loop_rounds 1 ?_
  rw [rounds_succ]
  go_wp2_with fail
  go_returns
  exact ⟨rfl, by go_grown⟩
set_option maxRecDepth 100000 in
set_option maxHeartbeats 400000 in
theorem sortEdge0 (w : World) (f : Value) : Calls Tryz.prog 520 #[nilS, f] w fun e w' => e = .returned (.tuple #[]) ∧ w = w' := by
  go_enter Tryz.func520, Tryz.ntmps520
  go_wp2_with (first | (go_at_call 335; refine (len0 _).mono ?_; rintro e w1 ⟨rfl, rfl⟩) | go_in)
  repeat (go_rounds 1)
  go_returns
  exact ⟨rfl, rfl⟩
abbrev zb24 : Array Value := #[.bool false, .bool false, .bool false, .bool false, .bool false, .bool false, .bool false, .bool false, .bool false, .bool false, .bool false, .bool false, .bool false, .bool false, .bool false, .bool false, .bool false, .bool false, .bool false, .bool false, .bool false, .bool false, .bool false, .bool false]
theorem oneb24 : zb24.all (·.oneCell') = true := by kernel_rfl
theorem sizeb24 : (Tryz.prog.info? 400).map (·.size) = some zb24.size := by kernel_rfl
set_option maxRecDepth 100000 in
set_option maxHeartbeats 400000 in
theorem spanGrow0 (w : World) : Calls Tryz.prog 394 #[g0] w fun e w' => ∃ m, e = .returned (.tuple #[.map (some m), nilS]) ∧ Below w.heap.size w w' := by
  have hmm := @run_makeMap Tryz.prog
  have hmf := mkf
  go_enter Tryz.func394, Tryz.ntmps394
  go_wp2_with fail
  refine wp_loop_rounds 1 ?_
  rw [rounds_succ]
  go_wp2_with fail
  obtain ⟨W0, cs, hW0, hcs, hn, hc0, hc28⟩ : ∃ W0 cs, W0 = (w.alloc (.cells #[nilS, nilS, nilS] 79)).alloc (.cells cs 658) ∧ cs = #[nilS, nilS, nilS, nilS, .int .i64 0, .int .i64 0, .int .i64 0, .int .i64 0, .int .i64 0, .int .i64 0, .int .i64 0, .int .i64 0, .int .i64 0, .int .i64 0, .int .i64 0, .int .i64 0, .int .i64 0, .int .i64 0, .int .i64 0, .int .i64 0, .int .i64 0, .int .i64 0, .int .i64 0, .int .i64 0, .int .i64 0, .int .i64 0, .int .i64 0, .int .i64 0, nilS] ∧ cs.size = 29 ∧ cs[0]? = some nilS ∧ cs[28]? = some nilS := ⟨_, _, rfl, rfl, rfl, rfl, rfl⟩
  have hB0 : Blk W0 (w.heap.size + 1) 658 cs := by rw [hW0]; exact Blk.new2 _ _ _ _
  have hb0 : Below w.heap.size w W0 := by rw [hW0]; go_grown
  have HB0 := Lib.hid hB0
  have HN := Lib.hid hn
  have HC0 := Lib.hid hc0
  have HC28 := Lib.hid hc28
  rw [← hcs, ← hW0]
  clear hcs hW0 hB0 hn hc0 hc28
  refine (sortEdge0 _ _).mono ?_
  rintro e w1 ⟨rfl, rfl⟩
  go_wp2_with fail
  go_loopw [7, 43] (fun _ i wr => ∃ (k : Nat) (cs : Array Value), k ≤ 24 ∧ i = .int .i64 k ∧ Hid (Blk wr (w.heap.size + 1) 658 cs) ∧ Hid (cs.size = 29) ∧ Hid (cs[0]? = some nilS) ∧ Hid (cs[28]? = some nilS) ∧ Hid (Below w.heap.size w wr)) (fun _ i _ => 24 - (intOf i).toNat)
  case atStart => exact ⟨0, cs, by omega, rfl, HB0, HN, HC0, HC28, Lib.hid hb0⟩
  case round =>
    obtain ⟨k, cs, hk, rfl, hB, hn, hc0, hc28, hb⟩ := hrel
    by_cases hlt : k < 24
    · obtain ⟨v, hv⟩ : ∃ v, wr.cell? ⟨w.heap.size + 1, 4 + k, none⟩ = some v := ⟨cs[4 + k]'(by rw [hn.out]; omega), by rw [hB.out.cell]; exact Array.getElem?_eq_getElem _⟩
      have hf := hB.out.frozen (4 + k)
      have S1 := Lib.hid (hB.out.set_ (4 + k) (.int .i64 k))
      have S2 := Lib.hid (hb.out.setCell (p := ⟨w.heap.size + 1, 4 + k, none⟩) (by simp) (.int .i64 k))
      go_wp2_with fail
      go_roundw
      case rel => exact ⟨k + 1, _, by omega, by go_num, S1, by unfold Hid; simp only [Array.size_setIfInBounds]; exact hn.out, by unfold Hid; rw [Array.getElem?_setIfInBounds_ne (by omega)]; exact hc0.out, by unfold Hid; rw [Array.getElem?_setIfInBounds_ne (by omega)]; exact hc28.out, S2⟩
      case measure => simp [intOf]; omega
    · have hk24 : k = 24 := by omega
      subst hk24
      have h0 := (hB.out.cell 0).trans hc0.out
      have h28 := (hB.out.cell 28).trans hc28.out
      have hlt := hB.out.lt
      go_wp2_with (with_reducible refine wpList_store_last rfl 400 (.tmp 9) (.tmp 54) rfl zb24 _ rfl rfl (by simp) sizeb24 rfl oneb24 ?_)
      obtain ⟨W0, hW0⟩ : ∃ W0, W0 = (wr.alloc (.map #[] 0)).alloc (.cells zb24 400) := ⟨_, rfl⟩
      have hB0 : Below wr.heap.size wr W0 := by rw [hW0]; go_grown
      have hz : wr.heap.size ≤ W0.heap.size := hB0.size
      rw [← hW0]
      clear hW0
      go_loopw [55] (fun i ws => ∃ j : Nat, j ≤ 6 ∧ i = .int .i64 j ∧ Hid (Below wr.heap.size wr ws)) (fun i _ => 6 - (intOf i).toNat)
      case atStart => exact ⟨0, by omega, rfl, Lib.hid hB0⟩
      case round =>
        obtain ⟨j, hj, rfl, hws⟩ := hrel
        rename_i ws _
        have k0 := (hws.out.cell (p := ⟨w.heap.size + 1, 0, none⟩) hlt).trans h0
        have k28 := (hws.out.cell (p := ⟨w.heap.size + 1, 28, none⟩) hlt).trans h28
        by_cases hj6 : j < 6
        · go_wp2_with fail
          refine (spanRound0 _ _ _ _ k0).mono ?_
          rintro e w2 ⟨rfl, h2⟩
          have S := Lib.hid (hws.out.trans (h2.mono hws.out.size))
          go_wp2_with fail
          go_roundw
          case rel => exact ⟨j + 1, by omega, by go_num, S⟩
          case measure => simp [intOf]; omega
        · go_wp2_with fail
          go_quiet (fail)
          go_wp2_with fail
          go_ret2
          exact ⟨_, rfl, belowN (hb.out.trans (hws.out.mono hb.out.size))⟩
set_option maxRecDepth 100000 in
set_option maxHeartbeats 800000 in
theorem span0 (w : World) : Calls Tryz.prog 309 #[g0] w fun e w' => e = .returned (.tuple #[nilS, .int .i64 0]) ∧ Below w.heap.size w w' := by
  obtain ⟨W0, hW0⟩ : ∃ W0, W0 = w.alloc (.cells #[nilS, nilS, nilS] 79) := ⟨_, rfl⟩
  have hb0 : Below w.heap.size w W0 := by rw [hW0]; go_grown
  have hB0 : Blk W0 w.heap.size 79 #[nilS, nilS, nilS] := by rw [hW0]; exact Blk.new _ _ _
  have HW0 := Lib.hid hW0
  clear hW0
  obtain ⟨b0, b1, b2⟩ := hB0.three
  go_enter Tryz.func309, Tryz.ntmps309
  go_wp2_with fail
  rw [← HW0.out]
  refine (valid0 _).mono ?_
  rintro e w1 ⟨rfl, h1⟩
  have hB1 := hB0.below h1 hB0.lt
  have hb1 := hb0.trans (h1.mono hb0.size)
  clear b0 b1 b2
  obtain ⟨b0, b1, b2⟩ := hB1.three
  go_wp2_with fail
  refine (spanGrow0 _).mono ?_
  rintro e w2 ⟨m, rfl, h2⟩
  have hB2 := hB1.below h2 hB1.lt
  have hb2 := hb1.trans (h2.mono hb1.size)
  clear b0 b1 b2
  obtain ⟨b0, b1, b2⟩ := hB2.three
  go_wp2_with fail
  refine wp_loop_rounds 1 ?_
  rw [rounds_succ]
  go_wp2_with fail
  go_ret2
  exact ⟨rfl, hb2⟩
end Go.Proofs.YtnehgpeelgjjhaaGreatDoor.Tw
namespace Go.Proofs.YtnehgpeelgjjhaaGreatDoor.Tw
open Go.RowKit
set_option maxRecDepth 100000 in
set_option maxHeartbeats 400000 in
theorem forestGrow0 (w : World) : Calls Tryz.prog 369 #[g0] w fun e w' => ∃ m, e = .returned (.map (some m)) ∧ Below w.heap.size w w' := by
  have hmm := @run_makeMap Tryz.prog
  go_enter Tryz.func369, Tryz.ntmps369
  go_wp2
  go_step3
  go_wp2
  repeat (go_rounds 1)
  go_step3
  go_wp2
  rw [run_range_map (P := Tryz.prog) _ 489 _ _ _ #[] 0 Tryz.underlying489 (heap_new' _ _ (by simp))]
  go_wp2
  refine wp_loop_rounds 1 ?_
  rw [rounds_succ]
  go_wp2
  rw [next_map0 _ _ _ _ _ _ _ (heap_new' _ _ (by simp)) (heap_old _ (heap_new' _ _ (by simp)))]
  go_wp2
  rw [Exit.noGoto_ret]
  go_ret
  exact ⟨_, rfl, by go_grown⟩
set_option maxRecDepth 100000 in
set_option maxHeartbeats 800000 in
theorem forest0 (w : World) : Calls Tryz.prog 300 #[g0] w fun e w' => e = .returned (.tuple #[nilS, .int .i64 0]) ∧ Below w.heap.size w w' := by
  obtain ⟨W0, hW0⟩ : ∃ W0, W0 = w.alloc (.cells #[nilS, nilS, nilS] 79) := ⟨_, rfl⟩
  have hb0 : Below w.heap.size w W0 := by rw [hW0]; go_grown
  have hB0 : Blk W0 w.heap.size 79 #[nilS, nilS, nilS] := by rw [hW0]; exact Blk.new _ _ _
  have HW0 := Lib.hid hW0
  clear hW0
  obtain ⟨b0, b1, b2⟩ := hB0.three
  go_enter Tryz.func300, Tryz.ntmps300
  go_wp2_with fail
  rw [← HW0.out]
  refine (valid0 _).mono ?_
  rintro e w1 ⟨rfl, h1⟩
  have hB1 := hB0.below h1 hB0.lt
  have hb1 := hb0.trans (h1.mono hb0.size)
  clear b0 b1 b2
  obtain ⟨b0, b1, b2⟩ := hB1.three
  go_wp2_with fail
  refine (forestGrow0 _).mono ?_
  rintro e w2 ⟨m, rfl, h2⟩
  have hB2 := hB1.below h2 hB1.lt
  have hb2 := hb1.trans (h2.mono hb1.size)
  clear b0 b1 b2
  obtain ⟨b0, b1, b2⟩ := hB2.three
  go_wp2
  repeat (go_rounds 1)
  go_ret2
  exact ⟨rfl, hb2⟩
set_option maxRecDepth 100000 in
set_option maxHeartbeats 400000 in
theorem distCycles0 (w : World) : Calls Tryz.prog 384 #[g0] w fun e w' => ∃ m n, e = .returned (.tuple #[.map (some m), .map (some n)]) ∧ Below w.heap.size w w' := by
  have hmm := @run_makeMap Tryz.prog
  go_enter Tryz.func384, Tryz.ntmps384
  go_wp2_with fail
  refine wp_loop_rounds 1 ?_
  rw [rounds_succ]
  go_wp2_with fail
  refine wp_loop_rounds 1 ?_
  rw [rounds_succ]
  go_wp2_with fail
  go_ret2
  exact ⟨_, _, rfl, by go_grown⟩
set_option maxRecDepth 100000 in
set_option maxHeartbeats 800000 in
theorem dist0 (w : World) : Calls Tryz.prog 306 #[g0] w fun e w' => e = .returned (.tuple #[nilS, .int .i64 0]) ∧ Below w.heap.size w w' := by
  obtain ⟨W0, hW0⟩ : ∃ W0, W0 = w.alloc (.cells #[nilS, nilS, nilS] 79) := ⟨_, rfl⟩
  have hb0 : Below w.heap.size w W0 := by rw [hW0]; go_grown
  have hB0 : Blk W0 w.heap.size 79 #[nilS, nilS, nilS] := by rw [hW0]; exact Blk.new _ _ _
  have HW0 := Lib.hid hW0
  clear hW0
  obtain ⟨b0, b1, b2⟩ := hB0.three
  go_enter Tryz.func306, Tryz.ntmps306
  go_wp2_with fail
  rw [← HW0.out]
  refine (valid0 _).mono ?_
  rintro e w1 ⟨rfl, h1⟩
  have hB1 := hB0.below h1 hB0.lt
  have hb1 := hb0.trans (h1.mono hb0.size)
  clear b0 b1 b2
  obtain ⟨b0, b1, b2⟩ := hB1.three
  go_wp2_with fail
  refine (distCycles0 _).mono ?_
  rintro e w2 ⟨m, n, rfl, h2⟩
  have hB2 := hB1.below h2 hB1.lt
  have hb2 := hb1.trans (h2.mono hb1.size)
  clear b0 b1 b2
  obtain ⟨b0, b1, b2⟩ := hB2.three
  go_wp2
  repeat (go_rounds 1)
  go_outline
  go_ret2
  exact ⟨rfl, hb2⟩
end Go.Proofs.YtnehgpeelgjjhaaGreatDoor.Tw
namespace Go.Proofs.YtnehgpeelgjjhaaGreatDoor.Tw
open Go.RowKit
abbrev zu24 : Array Value := #[.int .u32 0, .int .u32 0, .int .u32 0, .int .u32 0, .int .u32 0, .int .u32 0, .int .u32 0, .int .u32 0, .int .u32 0, .int .u32 0, .int .u32 0, .int .u32 0, .int .u32 0, .int .u32 0, .int .u32 0, .int .u32 0, .int .u32 0, .int .u32 0, .int .u32 0, .int .u32 0, .int .u32 0, .int .u32 0, .int .u32 0, .int .u32 0]
theorem oneu24 : zu24.all (·.oneCell') = true := by kernel_rfl
theorem sizeu24 : (Tryz.prog.info? 632).map (·.size) = some zu24.size := by kernel_rfl
theorem eqlu24 : ∀ w, (binOp .eql 632 (.agg zu24) (.agg zu24)).run Tryz.prog w = .ok (.bool true) w := fun _ => by kernel_rfl
theorem enters506 : ∀ args w, (callFunc 506 args).run Tryz.prog w = .ok (.enter 506 args) w := Go.Proofs.enters_of Tryz.func506 (by kernel_rfl) rfl
set_option maxRecDepth 100000 in
set_option maxHeartbeats 400000 in
theorem arcs0 (w : World) : Calls Tryz.prog 377 #[nilS] w fun e w' => ∃ b, e = .returned (.func (.func 506) #[] #[.pointer (some ⟨b, 0, none⟩)]) ∧ Blk w' b 77 #[nilS] ∧ w.heap.size ≤ b ∧ Below w.heap.size w w' := by
  have hmf := mkf
  go_enter Tryz.func377, Tryz.ntmps377
  go_wp2
  go_ret
  exact ⟨_, rfl, Blk.new _ _ _, by omega, by go_grown⟩
set_option maxRecDepth 100000 in
set_option maxHeartbeats 400000 in
theorem arcsIter0 (w : World) (y : Value) (b : Nat) (hB : Blk w b 77 #[nilS]) : Calls Tryz.prog 506 #[y, .pointer (some ⟨b, 0, none⟩)] w fun e w' => (∃ v, e = .returned v) ∧ Below w.heap.size w w' := by
  have h0 := hB.cell 0
  simp only [List.getElem?_toArray, List.getElem?_cons_zero] at h0
  go_enter Tryz.func506, Tryz.ntmps506
  go_wp2
  go_rounds 1
  go_returns
  exact ⟨⟨_, rfl⟩, by go_grown⟩
set_option maxRecDepth 100000 in
set_option maxHeartbeats 400000 in
theorem reaches0 (w : World) : Calls Tryz.prog 503 #[g0] w fun e w' => e = .returned (.agg zu24) ∧ Below w.heap.size w w' := by
  have heq := eqlu24
  refine calls_of_marks Tryz.func503 rfl ?_
  simp only [Tryz.ntmps503, List.size_toArray, List.length_cons, List.length_nil, Nat.reduceAdd, Nat.reduceSub, Array.replicate_succ, Array.replicate_zero, List.push_toArray, List.append_toArray, List.nil_append, List.cons_append]
  obtain ⟨W0, hW0⟩ : ∃ W0, W0 = ((w.alloc (.cells #[nilS, nilS, nilS] 79)).alloc (.cells zu24 632)).alloc (.cells zu24 632) := ⟨_, rfl⟩
  have hA0 : Blk W0 w.heap.size 79 #[nilS, nilS, nilS] := by rw [hW0]; exact ((Blk.new _ _ _).alloc _).alloc _
  have hB0 : Blk W0 (w.heap.size + 1) 632 zu24 := by rw [hW0]; exact (Blk.new2 _ _ _ _).alloc _
  have hC0 : Blk W0 (w.heap.size + 1 + 1) 632 zu24 := by rw [hW0]; exact heap_new' _ _ (by simp)
  have hb0 : Below w.heap.size w W0 := by rw [hW0]; go_grown
  obtain ⟨a0, a1, a2⟩ := hA0.three
  go_wp2_with fail
  rw [← hW0]
  have HB := Lib.hid hB0
  have HC := Lib.hid hC0
  have HA := Lib.hid hA0
  clear hW0 hB0 hC0 hA0
  refine wp_loop_rounds 1 ?_
  rw [rounds_succ]
  go_wp2_with fail
  refine wp_loop_rounds 1 ?_
  rw [rounds_succ]
  have q1 : ∀ o, (W0.alloc o).cell? ⟨w.heap.size, 1, none⟩ = some nilS := fun o => (World.cell?_alloc_some W0 _ o (by rw [a1]; rfl)).trans a1
  go_wp2_with (first
    | (with_reducible refine wpList_load_row rfl 632 (.tmp 3) rfl (w.heap.size + 1 + 1) rfl 632 zu24 (0, 0) _ HC.out.heap Tryz.underlying632 rfl sizeu24 ?_)
    | (with_reducible refine wpList_store_last rfl 632 (.tmp 6) (.tmp 26) rfl zu24 _ rfl rfl rfl sizeu24 rfl oneu24 ?_))
  refine (arcs0 _).mono ?_
  rintro e w1 ⟨b, rfl, hb, hlb, h1⟩
  go_wp2_with fail
  refine wp_range_never rfl enters506 (fun l W hW => arcsIter0 W _ b (hb.below hW hb.lt)) ?_
  intro D W hD h2 hK
  have hlt1 := hb.lt
  have hA := HA.out.lt
  have hBl := HB.out.lt
  have hCl := HC.out.lt
  have hs1 := h1.size
  simp only [World.size_alloc] at hs1
  have hX : Below (W0.heap.size + 1) (W0.alloc (.cells zu24 632)) W := (h1.mono (by simp)).trans (h2.mono (by omega))
  have HB2 := Lib.hid ((HB.out.alloc (.cells zu24 632)).below hX (by omega))
  have HC2 := Lib.hid ((HC.out.alloc (.cells zu24 632)).below hX (by omega))
  have HT2 := Lib.hid ((Blk.new W0 632 zu24).below hX (by omega))
  have HB3 := Lib.hid (HB2.out.setRow_same zu24)
  have HK := Lib.hid ((setRow_other W (w.heap.size + 1) D zu24 (by omega)).trans hK)
  have HW := Lib.hid (below_setRow (hb0.trans (((Below.refl W0.heap.size W0).alloc (Nat.le_refl _) (.cells zu24 632)).trans ((hX.mono (by omega))) |>.mono hb0.size)) (g := w.heap.size + 1) (by omega) zu24)
  clear hX h1 h2 hK hb q1
  go_wp2_with (first
    | (with_reducible refine wpList_load_row rfl 632 (.tmp 3) rfl (w.heap.size + 1 + 1) rfl 632 zu24 (0, 0) _ HC2.out.heap Tryz.underlying632 rfl sizeu24 ?_)
    | (with_reducible refine wpList_load_row rfl 632 (.tmp 6) rfl W0.heap.size rfl 632 zu24 (0, 0) _ HT2.out.heap Tryz.underlying632 rfl sizeu24 ?_)
    | (with_reducible refine wpList_store_row rfl 632 (.tmp 2) (.tmp 45) rfl (w.heap.size + 1) zu24 rfl rfl 632 zu24 HB2.out.heap sizeu24 rfl oneu24 ?_))
  exact leaves_mark HK.out (results_cell_row rfl _ _ (w.heap.size + 1) 632 zu24 (0, 0) _ rfl (HB3.out.putObj (by omega) _).heap Tryz.underlying632 rfl sizeu24) ⟨rfl, below_putObj HW.out (by omega) _⟩
end Go.Proofs.YtnehgpeelgjjhaaGreatDoor.Tw
namespace Go.Proofs.YtnehgpeelgjjhaaGreatDoor.Tw
open Go.RowKit
noncomputable abbrev fin0 : Array Value := ((Tryz.zeroCells497.setIfInBounds 0 nilS).setIfInBounds 1 nilS).setIfInBounds 2 nilS
theorem wpList_load_midA {P : Program} {ops : Array Oper} {rest : List Oper} {o : Oper} {a : Act} {w : World} {Q : Exit → Act → World → Prop} (hgd : o.guard = none) (ty : TypeId) (x : Operand) (ho : o.op = .load ty x)
    (b i : Nat) (hx : a.eval x = .pointer (some ⟨b, i, none⟩)) (cs : Array Value) (d : TypeDesc) (hc : w.rangeAt b i cs.toList)
    (hu : P.underlying ty = some d) (hd : d.isRow = true) (hi : (P.info? ty).map (·.size) = some cs.size)
    (h : wpList P ops Q rest (a.put o.dst (.agg cs)) w) : wpList P ops Q (o :: rest) a w :=
  wpList_load_mid hgd ty x ho b i hx cs.toList d hc hu hd (by simpa using hi) (by simpa using h)
theorem fin_rank : fin0.extract 27 (27 + 24) = z24 := by kernel_rfl
theorem fin0_0 : fin0[0]? = some nilS := by kernel_rfl
theorem fin0_1 : fin0[1]? = some nilS := by kernel_rfl
theorem fin_range {w : World} {p : Nat} (h : Blk w p 497 fin0) : w.rangeAt p 27 z24.toList := by have := World.rangeAt_of_block h 27 24; rwa [fin_rank] at this
set_option maxRecDepth 100000 in
set_option maxHeartbeats 400000 in
theorem ranks0 (w : World) (p : Nat) (hF : Blk w p 497 fin0) : Calls Tryz.prog 505 #[.pointer (some ⟨p, 0, none⟩)] w fun e w' => e = .returned (.agg z24) ∧ Below w.heap.size w w' := by
  have hp := hF.lt
  refine calls_of_marks Tryz.func505 rfl ?_
  simp only [Tryz.ntmps505, List.size_toArray, List.length_cons, List.length_nil, Nat.reduceAdd, Nat.reduceSub, Array.replicate_succ, Array.replicate_zero, List.push_toArray, List.append_toArray, List.nil_append, List.cons_append]
  obtain ⟨W0, hW0⟩ : ∃ W0, W0 = (w.alloc (.cells #[.pointer (some ⟨p, 0, none⟩)] 492)).alloc (.cells z24 494) := ⟨_, rfl⟩
  have hA0 : Blk W0 w.heap.size 492 #[.pointer (some ⟨p, 0, none⟩)] := by rw [hW0]; exact (Blk.new _ _ _).alloc _
  have hB0 : Blk W0 (w.heap.size + 1) 494 z24 := by rw [hW0]; exact Blk.new2 _ _ _ _
  have hb0 : Below w.heap.size w W0 := by rw [hW0]; go_grown
  have hF0 : Blk W0 p 497 fin0 := hF.below hb0 hp
  have hs0 : w.heap.size + 2 ≤ W0.heap.size := by rw [hW0]; simp
  have HR := Lib.hid ((fin_range hF0))
  go_upto_region 1 with (fail)
  rw [← hW0]
  have a0 := hA0.cell 0
  have f1 := (hF0.cell 1).trans fin0_1
  have a0' : ∀ o, (W0.alloc o).cell? ⟨w.heap.size, 0, none⟩ = some (.pointer (some ⟨p, 0, none⟩)) := fun o => (World.cell?_alloc_some W0 _ o (by rw [a0]; rfl)).trans a0
  have f1' : ∀ o, (W0.alloc o).cell? ⟨p, 1, none⟩ = some nilS := fun o => (World.cell?_alloc_some W0 _ o (by rw [f1]; rfl)).trans f1
  have HA := Lib.hid hA0
  have HB := Lib.hid hB0
  have HF := Lib.hid hF0
  clear hA0 hB0 hF0 hF hW0
  go_wp2_with (first
    | (with_reducible refine wpList_load_midA rfl 494 (.tmp 11) rfl p 27 rfl z24 _ HR.out Tryz.underlying494 rfl size24 ?_)
    | (with_reducible refine wpList_store_last rfl 494 (.tmp 3) (.tmp 12) rfl z24 _ rfl rfl rfl size24 rfl one24 ?_))
  refine (arcs0 _).mono ?_
  rintro e w1 ⟨b, rfl, hb, hlb, h1⟩
  go_wp2_with fail
  refine wp_range_never rfl enters506 (fun l W hW => arcsIter0 W _ b (hb.below hW hb.lt)) ?_
  intro D W hD h2 hK
  have hlt1 := hb.lt
  have hs1 := h1.size
  simp only [World.size_alloc] at hs1
  have hX : Below (W0.heap.size + 1) (W0.alloc (.cells z24 494)) W := (h1.mono (by simp)).trans (h2.mono (by omega))
  have HB2 := Lib.hid ((HB.out.alloc (.cells z24 494)).below hX (by omega))
  have HT2 := Lib.hid ((Blk.new W0 494 z24).below hX (by omega))
  have HB3 := Lib.hid (HB2.out.setRow_same z24)
  have HK := Lib.hid ((setRow_other W (w.heap.size + 1) D z24 (by omega)).trans hK)
  have HW := Lib.hid (below_setRow (hb0.trans (((Below.refl W0.heap.size W0).alloc (Nat.le_refl _) (.cells z24 494)).trans ((hX.mono (by omega))) |>.mono hb0.size)) (g := w.heap.size + 1) (by omega) z24)
  clear hX h1 h2 hK hb
  go_wp2_with (first
    | (with_reducible refine wpList_load_row rfl 494 (.tmp 3) rfl W0.heap.size rfl 494 z24 (0, 0) _ HT2.out.heap Tryz.underlying494 rfl size24 ?_)
    | (with_reducible refine wpList_store_row rfl 494 (.tmp 2) (.tmp 68) rfl (w.heap.size + 1) z24 rfl rfl 494 z24 HB2.out.heap size24 rfl one24 ?_))


  exact leaves_mark HK.out (results_cell_row rfl _ _ (w.heap.size + 1) 494 z24 (0, 0) _ rfl (HB3.out.putObj (by omega) _).heap Tryz.underlying494 rfl size24) ⟨rfl, below_putObj HW.out (by omega) _⟩
end Go.Proofs.YtnehgpeelgjjhaaGreatDoor.Tw
namespace Go.Proofs.YtnehgpeelgjjhaaGreatDoor.Tw
open Go.RowKit
theorem all_set {cs : Array Value} {p : Value → Bool} (h : cs.all p = true) {v : Value} (hv : p v = true) (i : Nat) : (cs.setIfInBounds i v).all p = true := by
  rw [Array.all_eq_true_iff_forall_mem] at *
  intro x hx
  rcases Array.mem_or_eq_of_mem_setIfInBounds hx with h1 | h1
  · exact h x h1
  · rw [h1]; exact hv
/-- a row of 24 numbers -/
def Row24 (cs : Array Value) : Prop := cs.size = 24 ∧ cs.all (·.oneCell') = true
theorem Row24.size {cs : Array Value} (h : Row24 cs) : (Tryz.prog.info? 494).map (·.size) = some cs.size := by rw [h.1]; exact size24
theorem Row24.one {cs : Array Value} (h : Row24 cs) : cs.all (·.oneCell') = true := h.2
theorem row24_z : Row24 z24 := ⟨rfl, one24⟩
theorem Row24.set {cs : Array Value} (h : Row24 cs) (i : Nat) (n : Int) : Row24 (cs.setIfInBounds i (.int .i64 n)) := ⟨by rw [Array.size_setIfInBounds]; exact h.1, all_set h.2 rfl i⟩
set_option maxRecDepth 100000 in
set_option maxHeartbeats 400000 in
theorem search0 (w : World) (f : Value) : Calls Tryz.prog 375 #[nilS, f] w fun e w' => ∃ cs, e = .returned (.agg cs) ∧ Row24 cs ∧ Below w.heap.size w w' := by
  go_enter Tryz.func375, Tryz.ntmps375
  go_wp2_with fail
  have hB0 : Blk (w.alloc (.cells z24 494)) w.heap.size 494 z24 := Blk.new _ _ _
  go_loopw [5, 11] (fun _ i wr => ∃ (k : Nat) (cs : Array Value), k ≤ 24 ∧ i = .int .i64 k ∧ Hid (Blk wr w.heap.size 494 cs) ∧ Hid (Row24 cs) ∧ Hid (Below w.heap.size w wr)) (fun _ i _ => 24 - (intOf i).toNat)
  case atStart => exact ⟨0, _, by omega, rfl, Lib.hid hB0, Lib.hid row24_z, Lib.hid ((Below.refl _ _).alloc (Nat.le_refl _) _)⟩
  case round =>
    obtain ⟨k, cs, hk, rfl, hB, hR, hb⟩ := hrel
    by_cases hlt : k < 24
    · obtain ⟨v, hv⟩ : ∃ v, wr.cell? ⟨w.heap.size, k, none⟩ = some v := ⟨cs[k]'(by have := hR.out.1; omega), by rw [hB.out.cell]; exact Array.getElem?_eq_getElem _⟩
      have hf := hB.out.frozen k
      have S1 := Lib.hid (hB.out.set_ k (.int .i64 1048576))
      have S2 := Lib.hid (hb.out.setCell (p := ⟨w.heap.size, k, none⟩) (by simp) (.int .i64 1048576))
      go_wp2_with fail
      go_roundw
      case rel => exact ⟨k + 1, _, by omega, by go_num, S1, Lib.hid (hR.out.set _ _), S2⟩
      case measure => simp [intOf]; omega
    · go_wp2_with fail
      refine (cloneInt0 _).mono ?_
      rintro e w1 ⟨rfl, rfl⟩
      have HS := Lib.hid (hB.out.setRow_same cs)
      have HW := Lib.hid (below_setRow hb.out (g := w.heap.size) (by omega) cs)
      go_wp2_with fail
      refine wp_loop_rounds 1 ?_
      rw [rounds_succ]
      go_wp2_with fail
      refine wp_loop_rounds 1 ?_
      rw [rounds_succ]
      go_wp2_with (first
        | (with_reducible refine wpList_load_row rfl 494 (.tmp 4) rfl w.heap.size rfl 494 cs (0, 0) _ hB.out.heap Tryz.underlying494 rfl hR.out.size ?_)
        | (with_reducible refine wpList_store_row rfl 494 (.tmp 4) (.tmp 60) rfl w.heap.size cs rfl rfl 494 cs hB.out.heap hR.out.size rfl hR.out.one ?_))

      exact bodyPost_ret (results_cell_row rfl _ _ w.heap.size 494 cs (0, 0) _ rfl HS.out.heap Tryz.underlying494 rfl hR.out.size) rfl ⟨cs, rfl, hR.out, HW.out⟩
end Go.Proofs.YtnehgpeelgjjhaaGreatDoor.Tw
namespace Go.Proofs.YtnehgpeelgjjhaaGreatDoor.Tw
open Go.RowKit
theorem _root_.Go.Loose.Facts.get {ops : Array Oper} {V : Nat → Option (Value → World → Prop)} {k : Nat} {o : Oper} {a : Act} {W : World} (h : Loose.Facts ops V k o a W) (i : Nat) {oi : Oper} {Vi : Value → World → Prop} {d : Tmp} (hi : i < k) (ho : ops[i]? = some oi) (hv : V i = some Vi) (hd : oi.dst = some d) (hl : d ∈ o.looksAt ops) (hu : a.tmps.getD d undef ≠ undef) : Vi (a.tmps.getD d undef) W :=
  (h i oi Vi d hi ho hv hd hl).resolve_left hu
/-- number i of a row -/
def num (cs : Array Value) (i : Nat) : Int := intOf (cs.getD i undef)
/-- n numbers of the kind u32 -/
def Nums (n : Nat) (cs : Array Value) : Prop := cs.size = n ∧ cs.all (·.oneCell') = true ∧ ∀ i, i < n → cs[i]? = some (.int .u32 (num cs i))
/-- n bytes of a block from off on -/
def Bytes (w : World) (b off n : Nat) (f : Nat → Int) : Prop := ∀ i, i < n → w.cell? ⟨b, off + i, none⟩ = some (.int .u8 (f i))
abbrev z64 : Array Value := #[.int .u32 0, .int .u32 0, .int .u32 0, .int .u32 0, .int .u32 0, .int .u32 0, .int .u32 0, .int .u32 0, .int .u32 0, .int .u32 0, .int .u32 0, .int .u32 0, .int .u32 0, .int .u32 0, .int .u32 0, .int .u32 0, .int .u32 0, .int .u32 0, .int .u32 0, .int .u32 0, .int .u32 0, .int .u32 0, .int .u32 0, .int .u32 0, .int .u32 0, .int .u32 0, .int .u32 0, .int .u32 0, .int .u32 0, .int .u32 0, .int .u32 0, .int .u32 0, .int .u32 0, .int .u32 0, .int .u32 0, .int .u32 0, .int .u32 0, .int .u32 0, .int .u32 0, .int .u32 0, .int .u32 0, .int .u32 0, .int .u32 0, .int .u32 0, .int .u32 0, .int .u32 0, .int .u32 0, .int .u32 0, .int .u32 0, .int .u32 0, .int .u32 0, .int .u32 0, .int .u32 0, .int .u32 0, .int .u32 0, .int .u32 0, .int .u32 0, .int .u32 0, .int .u32 0, .int .u32 0, .int .u32 0, .int .u32 0, .int .u32 0, .int .u32 0]
theorem Nums.set {n : Nat} {cs : Array Value} (h : Nums n cs) (i : Nat) (x : Int) : Nums n (cs.setIfInBounds i (.int .u32 x)) := by
  refine ⟨by rw [Array.size_setIfInBounds]; exact h.1, all_set h.2.1 rfl i, fun j hj => ?_⟩
  have := h.2.2 j hj
  by_cases hij : i = j
  · subst hij
    have hlt : i < cs.size := by rw [h.1]; exact hj
    simp only [num, Array.getD_eq_getD_getElem?, Array.getElem?_setIfInBounds_self_of_lt hlt]
    rfl
  · rw [Array.getElem?_setIfInBounds_ne hij, this]
    have hn : num (cs.setIfInBounds i (.int .u32 x)) j = num cs j := by simp only [num, Array.getD_eq_getD_getElem?, Array.getElem?_setIfInBounds_ne hij]
    rw [hn]
theorem size64 : (Tryz.prog.info? 242).map (·.size) = some 64 := by kernel_rfl
theorem Nums.one {n : Nat} {cs : Array Value} (h : Nums n cs) : cs.all (·.oneCell') = true := h.2.1
theorem Nums.at_ {n : Nat} {cs : Array Value} (h : Nums n cs) {i : Nat} (hi : i < n) : cs[i]? = some (.int .u32 (num cs i)) := h.2.2 i hi
theorem Nums.size64 {cs : Array Value} (h : Nums 64 cs) : (Tryz.prog.info? 242).map (·.size) = some cs.size := by rw [h.1]; exact Tw.size64
/-- word k of a block of bytes -/
def word (f : Nat → Int) (k : Nat) : Int := bits BinOp.or IntKind.u32 (bits BinOp.or IntKind.u32 (bits BinOp.or IntKind.u32 (f (4 * k) % 4294967296 * 16777216 % 4294967296) (f (4 * k + 1) % 4294967296 * 65536 % 4294967296)) (f (4 * k + 2) % 4294967296 * 256 % 4294967296)) (f (4 * k + 3) % 4294967296)
def sched1 (f : Nat → Int) : Nat → Array Value
  | 0 => z64
  | k + 1 => (sched1 f k).setIfInBounds k (.int .u32 (word f k))
def next (a b c d : Int) : Int := (a + bits BinOp.xor IntKind.u32 (mixF b [7, 18]) (b / 8) + c + bits BinOp.xor IntKind.u32 (mixF d [17, 19]) (d / 1024)) % 4294967296
def stepN (cs : Array Value) (n : Nat) : Array Value := cs.setIfInBounds n (.int .u32 (next (num cs (n - 16)) (num cs (n - 15)) (num cs (n - 7)) (num cs (n - 2))))
def sched2 (f : Nat → Int) : Nat → Array Value
  | 0 => sched1 f 16
  | k + 1 => stepN (sched2 f k) (16 + k)
theorem sched2_succ (f : Nat → Int) (n : Nat) (h : 16 ≤ n) : sched2 f (n + 1 - 16) = stepN (sched2 f (n - 16)) n := by
  obtain ⟨k, rfl⟩ := Nat.exists_eq_add_of_le h
  rw [show 16 + k + 1 - 16 = k + 1 from by omega, show 16 + k - 16 = k from by omega]
  rfl
theorem nums_z : Nums 64 z64 := by
  refine ⟨rfl, by kernel_rfl, ?_⟩
  have : ∀ i : Fin 64, z64[i.val]? = some (.int .u32 (num z64 i.val)) := by
    intro i
    have h : i.val < 64 := i.isLt
    have h1 : ∀ n, n < 64 → z64[n]? = some (.int .u32 0) := by
      intro n hn
      have : z64 = Array.replicate 64 (.int .u32 0) := rfl
      rw [this, Array.getElem?_replicate, if_pos hn]
    simp only [num, Array.getD_eq_getD_getElem?, h1 _ h]
    rfl
  exact fun i hi => this ⟨i, hi⟩
theorem nums_sched1 (f : Nat → Int) : ∀ k, Nums 64 (sched1 f k)
  | 0 => nums_z
  | k + 1 => (nums_sched1 f k).set _ _
theorem nums_sched2 (f : Nat → Int) : ∀ k, Nums 64 (sched2 f k)
  | 0 => nums_sched1 f 16
  | k + 1 => (nums_sched2 f k).set _ _
set_option maxRecDepth 100000 in
set_option maxHeartbeats 4000000 in
theorem sched_any (w : World) (b off : Nat) (f : Nat → Int) (hB : Bytes w b off 64 f) (hb : b < w.heap.size) :
    Calls Tryz.prog 153 #[.slice (some ⟨b, off, none⟩) 64 64] w fun e w' => e = .returned (.agg (sched2 f 48)) ∧ Below w.heap.size w w' := by
  have HB := Lib.hid hB
  clear hB
  go_enter Tryz.func153, Tryz.ntmps153
  go_wp2_with fail
  go_loopw [3, 7] (fun _ i wr => ∃ (k : Nat) (cs : Array Value), k ≤ 16 ∧ i = .int .i64 k ∧ Hid (Blk wr w.heap.size 242 cs) ∧ Hid (cs = sched1 f k) ∧ Hid (Below w.heap.size w wr)) (fun _ i _ => 16 - (intOf i).toNat)
  case atStart => exact ⟨0, _, by omega, rfl, Lib.hid (Blk.new w 242 _), Lib.hid rfl, Lib.hid ((Below.refl _ _).alloc (Nat.le_refl _) _)⟩
  case round =>
    obtain ⟨k, cs, hk, rfl, hC, hE, hW⟩ := hrel
    have hN : Hid (Nums 64 cs) := Lib.hid (hE.out ▸ nums_sched1 f k)
    by_cases hlt : k < 16
    · have c0 := (hW.out.cell (p := ⟨b, off + 4 * k, none⟩) hb).trans (HB.out (4 * k) (by omega))
      have c1 := (hW.out.cell (p := ⟨b, off + (4 * k + 1), none⟩) hb).trans (HB.out (4 * k + 1) (by omega))
      have c2 := (hW.out.cell (p := ⟨b, off + (4 * k + 2), none⟩) hb).trans (HB.out (4 * k + 2) (by omega))
      have c3 := (hW.out.cell (p := ⟨b, off + (4 * k + 3), none⟩) hb).trans (HB.out (4 * k + 3) (by omega))
      have d := (hC.out.cell k).trans (hN.out.2.2 k (by omega))
      have hf := hC.out.frozen k
      have S1 := fun x => Lib.hid (hC.out.set_ k (.int .u32 x))
      have S2 := fun x => Lib.hid (hW.out.setCell (p := ⟨w.heap.size, k, none⟩) (by simp) (.int .u32 x))
      have L0 := Later.of c0
      have L1 := Later.of c1
      have L2 := Later.of c2
      have L3 := Later.of c3
      have LD := Later.of d
      have LF := hC.out
      go_wp2_with fail
      refine Loose.wp_region_later [] 35 (by kernel_rfl) (by kernel_rfl) ?_
      simp only [List.take_succ_cons, List.take_zero, List.drop_succ_cons, List.drop_zero]
      repeat (first | refine Loose.walk_skip rfl ?_ | (refine Loose.walk_plain rfl rfl rfl (fun K hK => ?_); go_big_quiet_op; refine hK _ ?_; clear hK K))
      refine Loose.walk_nil ?_
      rintro U hU -
      have HU := hC.out.below hU hC.out.lt
      have d := (HU.cell k).trans (hN.out.2.2 k (by omega))
      have hf := HU.frozen k
      have S1 := fun x => Lib.hid (HU.set_ k (.int .u32 x))
      have S2 := fun x => Lib.hid ((hW.out.trans (hU.mono hW.out.size)).setCell (p := ⟨w.heap.size, k, none⟩) (by simp) (.int .u32 x))
      clear L0 L1 L2 L3 LD LF c0 c1 c2 c3 hU HU
      go_wp2_with fail
      go_roundw
      case rel => exact ⟨k + 1, _, by omega, by go_num, S1 _, Lib.hid (by rw [hE.out]; rfl), S2 _⟩
      case measure => simp [intOf]; omega
    · have hk16 : k = 16 := by omega
      subst hk16
      go_wp2_with fail
      clear hN
      go_loopw [4, 5, 6] (fun i _ _ wr => ∃ (n : Nat) (cs : Array Value), 16 ≤ n ∧ n ≤ 64 ∧ i = .int .i64 n ∧ Hid (Blk wr w.heap.size 242 cs) ∧ Hid (cs = sched2 f (n - 16)) ∧ Hid (Below w.heap.size w wr)) (fun i _ _ _ => 64 - (intOf i).toNat)
      case atStart => exact ⟨16, _, by omega, by omega, rfl, hC, hE, hW⟩
      case round =>
        obtain ⟨n, cs, hl, hk, rfl, hC, hE, hW⟩ := hrel
        have hN : Hid (Nums 64 cs) := Lib.hid (hE.out ▸ nums_sched2 f _)
        by_cases hlt : n < 64
        · have c0 := (hC.out.cell (n - 16)).trans (hN.out.2.2 (n - 16) (by omega))
          have c1 := (hC.out.cell (n - 15)).trans (hN.out.2.2 (n - 15) (by omega))
          have c2 := (hC.out.cell (n - 7)).trans (hN.out.2.2 (n - 7) (by omega))
          have c3 := (hC.out.cell (n - 2)).trans (hN.out.2.2 (n - 2) (by omega))
          have L0 := Later.of c0
          have L1 := Later.of c1
          have L2 := Later.of c2
          have L3 := Later.of c3
          go_wp2_with fail
          refine Loose.wp_region_later [] 10 (by kernel_rfl) (by kernel_rfl) ?_
          simp only [List.take_succ_cons, List.take_zero, List.drop_succ_cons, List.drop_zero]
          repeat (first | refine Loose.walk_skip rfl ?_ | (refine Loose.walk_plain rfl rfl rfl (fun K hK => ?_); go_big_quiet_op; refine hK _ ?_; clear hK K))
          refine Loose.walk_nil ?_
          rintro U hU -
          have HC := Lib.hid (hC.out.below hU hC.out.lt)
          have HW := Lib.hid (hW.out.trans (hU.mono hW.out.size))
          have hbU : w.heap.size < U.heap.size := HC.out.lt
          have c0 := (HC.out.cell (n - 16)).trans (hN.out.2.2 (n - 16) (by omega))
          have c2 := (HC.out.cell (n - 7)).trans (hN.out.2.2 (n - 7) (by omega))
          clear L0 L1 L2 L3 c1 c3 hU hW hC
          have L0 := Later.of c0
          have L2 := Later.of c2
          go_wp2_with fail
          refine Loose.wp_region_later [(6, .row U.heap.size 3 2 #[.int .i64 7, .int .i64 18]), (7, .is (.int .u32 (mixF (num cs (n - 15)) [7, 18]))), (18, .row U.heap.size 3 2 #[.int .i64 17, .int .i64 19]), (19, .is (.int .u32 (mixF (num cs (n - 2)) [17, 19])))] 25 (by kernel_rfl) (by kernel_rfl) ?_
          (simp only [List.take_succ_cons, List.take_zero, List.drop_succ_cons, List.drop_zero])
          (repeat (first | refine Loose.walk_skip rfl ?_ | (refine Loose.walk_plain rfl rfl rfl (fun K hK => ?_); go_big_quiet_op; refine hK _ ?_; clear hK K)))
          refine Loose.walk_loose rfl rfl (fun W' hW' _ => Loose.loose_val (u := .slice (some ⟨W'.heap.size, 0, none⟩) 2 2) (W' := W'.alloc (.cells #[.int .i64 7, .int .i64 18] 3)) (by kernel_rfl) ((Below.refl _ _).alloc (Nat.le_refl _) _) ⟨_, rfl, hW'.size, Blk.new _ _ _⟩) ?_
          rintro _ _ _ ⟨x, rfl, hx, _⟩
          (simp only [Act.put, List.setIfInBounds_toArray, List.set_cons_succ, List.set_cons_zero])
          (repeat (first | refine Loose.walk_skip rfl ?_ | (refine Loose.walk_plain rfl rfl rfl (fun K hK => ?_); go_big_quiet_op; refine hK _ ?_; clear hK K)))
          refine Loose.walk_loose rfl rfl (fun W' hW' hF => Loose.loose_call (f := 154) (args := #[.int .u32 (num cs (n - 15)), .slice (some ⟨x, 0, none⟩) 2 2]) (by kernel_rfl) ((mixed_any W' (num cs (n - 15)) [7, 18] x (Loose.Pred.row_at (hF.get 6 (by decide) rfl rfl rfl (by decide) (by intro h; cases h))).2 (by decide) (by decide)).mono fun e w' ⟨he, hb⟩ => ⟨_, he, hb ▸ Below.refl _ _, rfl⟩)) ?_
          rintro _ _ _ rfl
          (simp only [Act.put, List.setIfInBounds_toArray, List.set_cons_succ, List.set_cons_zero])
          (repeat (first | refine Loose.walk_skip rfl ?_ | (refine Loose.walk_plain rfl rfl rfl (fun K hK => ?_); go_big_quiet_op; refine hK _ ?_; clear hK K)))
          refine Loose.walk_loose rfl rfl (fun W' hW' _ => Loose.loose_val (u := .slice (some ⟨W'.heap.size, 0, none⟩) 2 2) (W' := W'.alloc (.cells #[.int .i64 17, .int .i64 19] 3)) (by kernel_rfl) ((Below.refl _ _).alloc (Nat.le_refl _) _) ⟨_, rfl, hW'.size, Blk.new _ _ _⟩) ?_
          rintro _ _ _ ⟨y, rfl, hy, _⟩
          (simp only [Act.put, List.setIfInBounds_toArray, List.set_cons_succ, List.set_cons_zero])
          (repeat (first | refine Loose.walk_skip rfl ?_ | (refine Loose.walk_plain rfl rfl rfl (fun K hK => ?_); go_big_quiet_op; refine hK _ ?_; clear hK K)))
          refine Loose.walk_loose rfl rfl (fun W' hW' hF => Loose.loose_call (f := 154) (args := #[.int .u32 (num cs (n - 2)), .slice (some ⟨y, 0, none⟩) 2 2]) (by kernel_rfl) ((mixed_any W' (num cs (n - 2)) [17, 19] y (Loose.Pred.row_at (hF.get 18 (by decide) rfl rfl rfl (by decide) (by intro h; cases h))).2 (by decide) (by decide)).mono fun e w' ⟨he, hb⟩ => ⟨_, he, hb ▸ Below.refl _ _, rfl⟩)) ?_
          rintro _ _ _ rfl
          (simp only [Act.put, List.setIfInBounds_toArray, List.set_cons_succ, List.set_cons_zero])
          (repeat (first | refine Loose.walk_skip rfl ?_ | (refine Loose.walk_plain rfl rfl rfl (fun K hK => ?_); go_big_quiet_op; refine hK _ ?_; clear hK K)))
          refine Loose.walk_nil ?_
          rintro V hV -
          have HV := HC.out.below hV HC.out.lt
          have d := (HV.cell n).trans (hN.out.at_ hlt)
          have hf := HV.frozen n
          have S1 := fun x => Lib.hid (HV.set_ n (.int .u32 x))
          have S2 := fun x => Lib.hid ((HW.out.trans (hV.mono HW.out.size)).setCell (p := ⟨w.heap.size, n, none⟩) (by simp) (.int .u32 x))
          clear L0 L2 c0 c2 hV HV hx hy
          go_wp2_with fail
          go_roundw
          case rel => exact ⟨n + 1, _, by omega, by omega, by go_num, S1 _, Lib.hid (by rw [sched2_succ f n hl, ← hE.out]; rfl), S2 _⟩
          case measure => simp [intOf]; omega
        · have hk48 : n = 64 := by omega
          subst hk48
          have HS := Lib.hid (hC.out.setRow_same cs)
          have HW := Lib.hid (below_setRow hW.out (g := w.heap.size) (by omega) cs)
          go_wp2_with (first
            | (with_reducible refine wpList_load_row rfl 242 (.tmp 2) rfl w.heap.size rfl 242 cs (0, 0) _ hC.out.heap Tryz.underlying242 rfl hN.out.size64 ?_)
            | (with_reducible refine wpList_store_row rfl 242 (.tmp 2) (.tmp 83) rfl w.heap.size cs rfl rfl 242 cs hC.out.heap hN.out.size64 rfl hN.out.one ?_))
          exact bodyPost_ret (results_cell_row rfl _ _ w.heap.size 242 cs (0, 0) _ rfl HS.out.heap Tryz.underlying242 rfl hN.out.size64) rfl ⟨congrArg (fun x => Ending.returned (.agg x)) hE.out, HW.out⟩
end Go.Proofs.YtnehgpeelgjjhaaGreatDoor.Tw
namespace Go.Proofs.YtnehgpeelgjjhaaGreatDoor.Tw
open Go.RowKit
/-- all but block p lies as it lay -/
structure But (p : Nat) (w w' : World) : Prop where
  os : w'.os = w.os
  tape : w'.tape = w.tape
  output : w'.output = w.output
  size : w.heap.size ≤ w'.heap.size
  block : ∀ k, k < w.heap.size → k ≠ p → w'.heap[k]? = w.heap[k]?
theorem But.of_below {p : Nat} {w w' : World} (h : Below w.heap.size w w') : But p w w' := ⟨h.os, h.tape, h.output, h.size, fun k hk _ => h.block k hk⟩
theorem But.trans {p : Nat} {a b c : World} (h : But p a b) (k : But p b c) : But p a c :=
  ⟨k.os.trans h.os, k.tape.trans h.tape, k.output.trans h.output, Nat.le_trans h.size k.size, fun i hi hp => (k.block i (Nat.lt_of_lt_of_le hi h.size) hp).trans (h.block i hi hp)⟩
theorem But.blk {p : Nat} {w w' : World} (h : But p w w') {g : Nat} {t : TypeId} {cs : Array Value} (hB : Blk w g t cs) (hg : g ≠ p) : Blk w' g t cs := (h.block g hB.lt hg).trans hB
/-- eight words -/
structure W8 where (a b c d e f g h : Int)
def W8.cells (x : W8) : Array Value := #[.int .u32 x.a, .int .u32 x.b, .int .u32 x.c, .int .u32 x.d, .int .u32 x.e, .int .u32 x.f, .int .u32 x.g, .int .u32 x.h]
def W8.of (cs : Array Value) : W8 := ⟨num cs 0, num cs 1, num cs 2, num cs 3, num cs 4, num cs 5, num cs 6, num cs 7⟩
theorem W8.of_cells {cs : Array Value} (h : Nums 8 cs) : cs = (W8.of cs).cells := by
  apply Array.ext_getElem?
  intro i
  by_cases hi : i < 8
  · rw [h.at_ hi]
    have : ∀ i : Fin 8, some (Value.int .u32 (num cs i.val)) = (W8.of cs).cells[i.val]? := by
      intro i
      rcases i with ⟨i, hi⟩
      match i, hi with
      | 0, _ | 1, _ | 2, _ | 3, _ | 4, _ | 5, _ | 6, _ | 7, _ => rfl
    exact this ⟨i, hi⟩
  · rw [Array.getElem?_eq_none (by rw [h.1]; omega), Array.getElem?_eq_none (by simp [W8.cells]; omega)]
theorem W8.nums (x : W8) : Nums 8 x.cells := ⟨rfl, by kernel_rfl, fun i hi => by
  match i, hi with
  | 0, _ | 1, _ | 2, _ | 3, _ | 4, _ | 5, _ | 6, _ | 7, _ => rfl⟩
theorem size8 : (Tryz.prog.info? 181).map (·.size) = some 8 := by kernel_rfl
theorem Nums.size8 {cs : Array Value} (h : Nums 8 cs) : (Tryz.prog.info? 181).map (·.size) = some cs.size := by rw [h.1]; exact Tw.size8
theorem Nums.size_ {n : Nat} {cs : Array Value} (h : Nums n cs) : cs.size = n := h.1
theorem Nums.sizeE {n : Nat} {cs ds : Array Value} (h : Nums n cs) (k : Nums n ds) : cs.size = ds.size := h.1.trans k.1.symm
/-- a row of whatever type tag -/
def BlkA (w : World) (g : Nat) (cs : Array Value) : Prop := ∃ t, Blk w g t cs
theorem BlkA.lt {w : World} {g : Nat} {cs : Array Value} (h : BlkA w g cs) : g < w.heap.size := by obtain ⟨_, h⟩ := h; exact h.lt
theorem BlkA.below {w w' : World} {g B : Nat} {cs : Array Value} (h : BlkA w g cs) (hb : Below B w w') (hg : g < B) : BlkA w' g cs := by obtain ⟨t, h⟩ := h; exact ⟨t, h.below hb hg⟩
theorem BlkA.alloc {w : World} {g : Nat} {cs : Array Value} (h : BlkA w g cs) (o : Obj) : BlkA (w.alloc o) g cs := by obtain ⟨t, h⟩ := h; exact ⟨t, h.alloc o⟩
/-- the table lies in block 0 -/
def Tab (w : World) (tab : Array Value) : Prop := BlkA w 0 tab ∧ Nums 64 tab
theorem z64_sizeE {cs : Array Value} (h : Nums 64 cs) : z64.size = cs.size := by rw [h.1]; rfl
abbrev z8 : Array Value := #[.int .u32 0, .int .u32 0, .int .u32 0, .int .u32 0, .int .u32 0, .int .u32 0, .int .u32 0, .int .u32 0]
theorem z8_sizeE {cs : Array Value} (h : Nums 8 cs) : z8.size = cs.size := by rw [h.1]; rfl
theorem W8.at_ {w : World} {q : Nat} {x : W8} (h : Blk w q 181 x.cells) : w.cell? ⟨q, 0, none⟩ = some (.int .u32 x.a) ∧ w.cell? ⟨q, 1, none⟩ = some (.int .u32 x.b) ∧ w.cell? ⟨q, 2, none⟩ = some (.int .u32 x.c) ∧ w.cell? ⟨q, 3, none⟩ = some (.int .u32 x.d) ∧
    w.cell? ⟨q, 4, none⟩ = some (.int .u32 x.e) ∧ w.cell? ⟨q, 5, none⟩ = some (.int .u32 x.f) ∧ w.cell? ⟨q, 6, none⟩ = some (.int .u32 x.g) ∧ w.cell? ⟨q, 7, none⟩ = some (.int .u32 x.h) :=
  ⟨h.cell 0, h.cell 1, h.cell 2, h.cell 3, h.cell 4, h.cell 5, h.cell 6, h.cell 7⟩
/-- the first sum of a step -/
def W8.t (x : W8) (k w : Int) : Int := (x.h + mixF x.e [6, 11, 25] + bits BinOp.xor IntKind.u32 (bits BinOp.and IntKind.u32 x.e x.f) (bits BinOp.and IntKind.u32 (bits BinOp.xor IntKind.u32 IntKind.u32.max x.e) x.g) + k + w) % 4294967296
/-- the second one -/
def W8.u (x : W8) : Int := (mixF x.a [2, 13, 22] + bits BinOp.xor IntKind.u32 (bits BinOp.xor IntKind.u32 (bits BinOp.and IntKind.u32 x.a x.b) (bits BinOp.and IntKind.u32 x.a x.c)) (bits BinOp.and IntKind.u32 x.b x.c)) % 4294967296
def W8.shift (x : W8) : W8 := ⟨x.a, x.a, x.b, x.c, x.d, x.e, x.f, x.g⟩
theorem copy8 {w : World} {q : Nat} {x : W8} (h : Blk w q 181 x.cells) (ty : TypeId) : (Builtin.copy_ #[189, 189] ty #[.slice (some ⟨q, 1, none⟩) 7 7, .slice (some ⟨q, 0, none⟩) 7 8]).run Tryz.prog w = .ok (goInt 7) (w.setRow q x.shift.cells) :=
  run_copy_row (P := Tryz.prog) w 189 189 ty 179 q 1 7 7 ⟨q, 0, none⟩ 7 8 x.cells 181 [.int .u32 x.a, .int .u32 x.b, .int .u32 x.c, .int .u32 x.d, .int .u32 x.e, .int .u32 x.f, .int .u32 x.g] Tryz.underlying189 (by kernel_rfl) h rfl
    (fun j v hj => by
      have : j < 7 := (List.getElem?_eq_some_iff.1 hj).1
      match j, this with
      | 0, _ | 1, _ | 2, _ | 3, _ | 4, _ | 5, _ | 6, _ => exact (h.cell _).trans hj)
    (by simp [W8.cells]) (fun v hv => by simp at hv; rcases hv with rfl | rfl | rfl | rfl | rfl | rfl | rfl <;> rfl)
def W8.step (x : W8) (k w : Int) : W8 := ⟨(x.t k w + x.u) % 4294967296, x.a, x.b, x.c, (x.d + x.t k w) % 4294967296, x.e, x.f, x.g⟩
def rounds8 (tab sc : Array Value) (x : W8) : Nat → W8
  | 0 => x
  | k + 1 => (rounds8 tab sc x k).step (num tab k) (num sc k)
def sumN (cs ds : Array Value) : Nat → Array Value
  | 0 => cs
  | k + 1 => (sumN cs ds k).setIfInBounds k (.int .u32 ((num (sumN cs ds k) k + num ds k) % 4294967296))
theorem nums_sumN {cs : Array Value} (h : Nums 8 cs) (ds : Array Value) : ∀ k, Nums 8 (sumN cs ds k)
  | 0 => h
  | k + 1 => (nums_sumN h ds k).set _ _
/-- what a block adds to the words -/
def addF (tab : Array Value) (f : Nat → Int) (hs : Array Value) : Array Value := sumN hs (rounds8 tab (sched2 f 48) (W8.of hs) 64).cells 8
theorem nums_addF (tab : Array Value) (f : Nat → Int) {hs : Array Value} (h : Nums 8 hs) : Nums 8 (addF tab f hs) := nums_sumN h _ 8
theorem But.setCell {p : Nat} {w w' : World} (h : But p w w') (i : Nat) (v : Value) : But p w (w'.setCell ⟨p, i, none⟩ v) :=
  have hb : Below p w' (w'.setCell ⟨p, i, none⟩ v) := (Below.refl p w').setCell (p := ⟨p, i, none⟩) (Nat.le_refl _) v
  ⟨hb.os.trans h.os, hb.tape.trans h.tape, hb.output.trans h.output, Nat.le_trans h.size hb.size, fun k hk hp => (Below.heap_setCell w' ⟨p, i, none⟩ v k hp).trans (h.block k hk hp)⟩
theorem index_any {tab : Array Value} (h : Nums 64 tab) (k : Nat) (hk : k < 64) (w : World) : (Instr.index 242 (.agg tab) (.int .i64 k)).run Tryz.prog w = .ok (.int .u32 (num tab k)) w := by
  have ht := h.at_ hk
  simp [Instr.index, run_underlying Tryz.underlying242, asIntOf, hk, ht, go_sem]
set_option maxRecDepth 100000 in
set_option maxHeartbeats 2000000 in
theorem add_any (w : World) (p b off : Nat) (f : Nat → Int) (hs tab : Array Value) (hT : Tab w tab) (hH : Blk w p 181 hs) (hN : Nums 8 hs) (hB : Bytes w b off 64 f) (hb : b < w.heap.size) :
    Calls Tryz.prog 109 #[.pointer (some ⟨p, 0, none⟩), .slice (some ⟨b, off, none⟩) 64 64] w fun e w' => e = .returned (.tuple #[]) ∧ Blk w' p 181 (addF tab f hs) ∧ But p w w' := by
  have HB := Lib.hid hB
  have HH := Lib.hid hH
  have HN := Lib.hid hN
  have HT := Lib.hid hT
  have hp := hH.lt
  clear hB hH hN hT
  have hM := nums_sched2 f 48
  have hz64 := z64_sizeE hM
  have hz8 := z8_sizeE HN.out
  go_enter Tryz.func109, Tryz.ntmps109
  obtain ⟨sc, hsc⟩ : ∃ sc, sc = sched2 f 48 := ⟨_, rfl⟩
  have HS := Lib.hid hsc
  rw [← hsc] at hM hz64
  clear hsc
  go_wp2_with fail
  refine (sched_any _ b off f HB.out hb).mono ?_
  rw [← HS.out]
  rintro e w1 ⟨rfl, h1⟩
  go_upto_region 1 with (with_reducible refine wpList_store_last rfl 242 (.tmp 4) (.tmp 14) rfl sc _ rfl rfl rfl hM.size64 hz64 hM.one ?_)
  obtain ⟨W1, hW1⟩ : ∃ W1, W1 = w1.alloc (.cells sc 242) := ⟨_, rfl⟩
  have hA1 : Blk W1 w1.heap.size 242 sc := by rw [hW1]; exact Blk.new _ _ _
  have hb1 : Below w.heap.size w W1 := by rw [hW1]; exact h1.alloc h1.size _
  have hz1 : w1.heap.size < W1.heap.size := by rw [hW1]; simp
  have HH1 := Lib.hid (HH.out.below hb1 hp)
  obtain ⟨tT, hTT⟩ := (HT.out.1.below hb1 (by omega)).alloc (.cells hs 181)
  have HT1 := Lib.hid hTT
  clear hTT
  have hsT := HT.out.2.size64
  rw [← hW1]
  clear hW1
  go_wp2_with (first
    | (with_reducible refine wpList_load_row rfl 181 (.tmp 16) rfl p rfl 181 hs (0, 0) _ HH1.out.heap Tryz.underlying181 rfl HN.out.size8 ?_)
    | (with_reducible refine wpList_store_last rfl 181 (.tmp 5) (.tmp 17) rfl hs _ rfl rfl rfl HN.out.size8 hz8 HN.out.one ?_)
    | (with_reducible refine wpList_load_row rfl 242 (.global 0) rfl 0 rfl tT tab (0, 0) _ HT1.out.heap Tryz.underlying242 rfl hsT ?_))
  obtain ⟨W2, hW2⟩ : ∃ W2, W2 = W1.alloc (.cells hs 181) := ⟨_, rfl⟩
  have hA2 := Lib.hid (hA1.alloc (.cells hs 181))
  have hV2 := Lib.hid (Blk.new W1 181 hs)
  have hb2 : Below w.heap.size w (W1.alloc (.cells hs 181)) := hb1.alloc hb1.size _
  have hz2 : W1.heap.size < (W1.alloc (.cells hs 181)).heap.size := by simp
  rw [← hW2] at hA2 hV2 hb2 hz2
  rw [← hW2]
  have HB2 := Lib.hid hb2
  have hz0 := h1.size
  clear hW2 hA1 hb1 HH1 HT1 hb2 h1
  generalize W1.heap.size = q at *
  generalize w1.heap.size = s at *
  obtain ⟨x0, hx0⟩ : ∃ x0 : W8, x0 = W8.of hs := ⟨_, rfl⟩
  have hV3 : Hid (Blk W2 q 181 x0.cells) := Lib.hid (by rw [hx0, ← W8.of_cells HN.out]; exact hV2.out)
  clear hV2
  go_loopw [19] (fun i wr => ∃ (k : Nat) (x : W8), k ≤ 64 ∧ i = .int .i64 k ∧ Hid (Blk wr q 181 x.cells) ∧ Hid (Below q W2 wr) ∧ Hid (x = rounds8 tab sc x0 k)) (fun i _ => 64 - (intOf i).toNat)
  case atStart => exact ⟨0, x0, by omega, rfl, hV3, Lib.hid (Below.refl _ _), Lib.hid rfl⟩
  case round =>
    clear hV3
    obtain ⟨k, x, hk, rfl, hV, hW, hX⟩ := hrel
    by_cases hlt : k < 64
    · have hix := index_any HT.out.2 k hlt
      obtain ⟨v0, v1, v2, v3, v4, v5, v6, v7⟩ := W8.at_ hV.out
      have L0 := Later.of v0
      have L4 := Later.of v4
      go_wp2_with fail
      refine Loose.wp_region_later [] 6 (by kernel_rfl) (by kernel_rfl) ?_
      (simp only [List.take_succ_cons, List.take_zero, List.drop_succ_cons, List.drop_zero])
      (repeat (first | refine Loose.walk_skip rfl ?_ | (refine Loose.walk_plain rfl rfl rfl (fun K hK => ?_); go_big_quiet_op; refine hK _ ?_; clear hK K)))
      refine Loose.walk_nil ?_
      rintro U hU -
      clear L0 L4
      have hVU := Lib.hid (hV.out.below hU hV.out.lt)
      have hWU := Lib.hid (hW.out.trans (hU.mono (Nat.le_of_lt hV.out.lt)))
      clear v0 v1 v2 v3 v4 v5 v6 v7 hU hV hW
      obtain ⟨v0, v1, v2, v3, v4, v5, v6, v7⟩ := W8.at_ hVU.out
      have hqs := hVU.out.lt
      have sk := (((hA2.out.below hWU.out (by omega)).cell k).trans (hM.at_ hlt))
      have L5 := Later.of v5
      have L6 := Later.of v6
      have L7 := Later.of v7
      have LS := Later.of sk
      go_wp2_with fail
      refine Loose.wp_region_later [(3, .row U.heap.size 3 3 #[.int .i64 6, .int .i64 11, .int .i64 25]), (4, .is (.int .u32 (mixF x.e [6, 11, 25])))] 24 (by kernel_rfl) (by kernel_rfl) ?_
      (simp only [List.take_succ_cons, List.take_zero, List.drop_succ_cons, List.drop_zero])
      (repeat (first | refine Loose.walk_skip rfl ?_ | (refine Loose.walk_plain rfl rfl rfl (fun K hK => ?_); go_big_quiet_op; refine hK _ ?_; clear hK K)))
      refine Loose.walk_loose rfl rfl (fun W' hW' _ => Loose.loose_val (u := .slice (some ⟨W'.heap.size, 0, none⟩) 3 3) (W' := W'.alloc (.cells #[.int .i64 6, .int .i64 11, .int .i64 25] 3)) (by kernel_rfl) ((Below.refl _ _).alloc (Nat.le_refl _) _) ⟨_, rfl, hW'.size, Blk.new _ _ _⟩) ?_
      rintro _ _ _ ⟨y, rfl, hy, _⟩
      (simp only [Act.put, List.setIfInBounds_toArray, List.set_cons_succ, List.set_cons_zero])
      (repeat (first | refine Loose.walk_skip rfl ?_ | (refine Loose.walk_plain rfl rfl rfl (fun K hK => ?_); go_big_quiet_op; refine hK _ ?_; clear hK K)))
      (repeat (first | refine Loose.walk_skip rfl ?_ | (refine Loose.walk_plain rfl rfl rfl (fun K hK => ?_); go_big_quiet_op; refine hK _ ?_; clear hK K)))
      refine Loose.walk_loose rfl rfl (fun W' hW' hF => Loose.loose_call (f := 154) (args := #[.int .u32 x.e, .slice (some ⟨y, 0, none⟩) 3 3]) (by kernel_rfl) ((mixed_any W' x.e [6, 11, 25] y (Loose.Pred.row_at (hF.get 3 (by decide) rfl rfl rfl (by decide) (by intro h; cases h))).2 (by decide) (by decide)).mono fun e w' ⟨he, hb⟩ => ⟨_, he, hb ▸ Below.refl _ _, rfl⟩)) ?_
      rintro _ _ _ rfl
      (simp only [Act.put, List.setIfInBounds_toArray, List.set_cons_succ, List.set_cons_zero])
      (repeat (first | refine Loose.walk_skip rfl ?_ | (refine Loose.walk_plain rfl rfl rfl (fun K hK => ?_); go_big_quiet_op; refine hK _ ?_; clear hK K)))
      refine Loose.walk_nil ?_
      rintro U2 hU2 -
      clear L5 L6 L7 LS v0 v1 v2 v3 v4 v5 v6 v7 sk hy
      have hV2 := Lib.hid (hVU.out.below hU2 hVU.out.lt)
      have hW2 := Lib.hid (hWU.out.trans (hU2.mono (Nat.le_of_lt hqs)))
      clear hU2 hVU hWU
      obtain ⟨v0, v1, v2, v3, v4, v5, v6, v7⟩ := W8.at_ hV2.out
      have L1 := Later.of v1
      have L2 := Later.of v2
      go_wp2_with fail
      refine Loose.wp_region_later [(1, .row U2.heap.size 3 3 #[.int .i64 2, .int .i64 13, .int .i64 22]), (2, .is (.int .u32 (mixF x.a [2, 13, 22])))] 20 (by kernel_rfl) (by kernel_rfl) ?_
      (simp only [List.take_succ_cons, List.take_zero, List.drop_succ_cons, List.drop_zero])
      (repeat (first | refine Loose.walk_skip rfl ?_ | (refine Loose.walk_plain rfl rfl rfl (fun K hK => ?_); go_big_quiet_op; refine hK _ ?_; clear hK K)))
      refine Loose.walk_loose rfl rfl (fun W' hW' _ => Loose.loose_val (u := .slice (some ⟨W'.heap.size, 0, none⟩) 3 3) (W' := W'.alloc (.cells #[.int .i64 2, .int .i64 13, .int .i64 22] 3)) (by kernel_rfl) ((Below.refl _ _).alloc (Nat.le_refl _) _) ⟨_, rfl, hW'.size, Blk.new _ _ _⟩) ?_
      rintro _ _ _ ⟨z, rfl, hz, _⟩
      (simp only [Act.put, List.setIfInBounds_toArray, List.set_cons_succ, List.set_cons_zero])
      (repeat (first | refine Loose.walk_skip rfl ?_ | (refine Loose.walk_plain rfl rfl rfl (fun K hK => ?_); go_big_quiet_op; refine hK _ ?_; clear hK K)))
      refine Loose.walk_loose rfl rfl (fun W' hW' hF => Loose.loose_call (f := 154) (args := #[.int .u32 x.a, .slice (some ⟨z, 0, none⟩) 3 3]) (by kernel_rfl) ((mixed_any W' x.a [2, 13, 22] z (Loose.Pred.row_at (hF.get 1 (by decide) rfl rfl rfl (by decide) (by intro h; cases h))).2 (by decide) (by decide)).mono fun e w' ⟨he, hb⟩ => ⟨_, he, hb ▸ Below.refl _ _, rfl⟩)) ?_
      rintro _ _ _ rfl
      (simp only [Act.put, List.setIfInBounds_toArray, List.set_cons_succ, List.set_cons_zero])
      (repeat (first | refine Loose.walk_skip rfl ?_ | (refine Loose.walk_plain rfl rfl rfl (fun K hK => ?_); go_big_quiet_op; refine hK _ ?_; clear hK K)))
      refine Loose.walk_nil ?_
      rintro U3 hU3 -
      have hq3 := hV2.out.lt
      clear L1 L2 v0 v1 v2 v3 v4 v5 v6 v7 hz
      have hV3 := Lib.hid (hV2.out.below hU3 hq3)
      have hW3 := Lib.hid (hW2.out.trans (hU3.mono (Nat.le_of_lt hq3)))
      clear hU3 hV2 hW2
      obtain ⟨v0, v1, v2, v3, v4, v5, v6, v7⟩ := W8.at_ hV3.out
      have hf := hV3.out.frozen
      go_wp2_with fail
      have e1 : (x.h + mixF x.e [6, 11, 25] + bits BinOp.xor IntKind.u32 (bits BinOp.and IntKind.u32 x.e x.f) (bits BinOp.and IntKind.u32 (bits BinOp.xor IntKind.u32 IntKind.u32.max x.e) x.g) + num tab k + num sc k) % 4294967296 = x.t (num tab k) (num sc k) := rfl
      have e2 : (mixF x.a [2, 13, 22] + bits BinOp.xor IntKind.u32 (bits BinOp.xor IntKind.u32 (bits BinOp.and IntKind.u32 x.a x.b) (bits BinOp.and IntKind.u32 x.a x.c)) (bits BinOp.and IntKind.u32 x.b x.c)) % 4294967296 = x.u := rfl
      rw [e1, e2]
      clear e1 e2 v0 v1 v2 v3 v4 v5 v6 v7
      refine Loose.wp_region_later [] 2 (by kernel_rfl) (by kernel_rfl) ?_
      (simp only [List.take_succ_cons, List.take_zero, List.drop_succ_cons, List.drop_zero])
      (repeat (first | refine Loose.walk_skip rfl ?_ | (refine Loose.walk_plain rfl rfl rfl (fun K hK => ?_); go_big_quiet_op; refine hK _ ?_; clear hK K)))
      refine Loose.walk_nil ?_
      rintro U4 hU4 -
      have hV4 := Lib.hid (hV3.out.below hU4 hV3.out.lt)
      have hW4 := Lib.hid (hW3.out.trans (hU4.mono (Nat.le_of_lt hV3.out.lt)))
      have hcp := copy8 hV4.out
      have hV5 := hV4.out.setRow_same x.shift.cells
      have HV5 := Lib.hid hV5
      have HW5 := Lib.hid (below_setRow hW4.out (Nat.le_refl _) x.shift.cells)
      have c0 : (U4.setRow q x.shift.cells).cell? ⟨q, 0, none⟩ = some (.int .u32 x.a) := hV5.cell 0
      have c4 : (U4.setRow q x.shift.cells).cell? ⟨q, 4, none⟩ = some (.int .u32 x.d) := hV5.cell 4
      have f0 := hV5.frozen 0
      have f4 := hV5.frozen 4
      clear hV5 hf hU4 hV3 hW3 hV4
      obtain ⟨W5, hW5⟩ : ∃ W5, W5 = U4.setRow q x.shift.cells := ⟨_, rfl⟩
      rw [← hW5] at hcp HV5 HW5 c0 c4 f0 f4
      clear hW5
      have S1 := fun a b => Lib.hid ((HV5.out.set_ 0 (.int .u32 a)).set_ 4 (.int .u32 b))
      have S2 := fun a b => Lib.hid (((HW5.out.setCell (p := ⟨q, 0, none⟩) (Nat.le_refl _) (.int .u32 a))).setCell (p := ⟨q, 4, none⟩) (Nat.le_refl _) (.int .u32 b))
      go_wp2_with fail
      go_roundw
      case rel => exact ⟨k + 1, x.step (num tab k) (num sc k), by omega, by go_num, S1 _ _, S2 _ _, Lib.hid (by rw [hX.out]; rfl)⟩
      case measure => simp [intOf]; omega
    · have hk64 : k = 64 := by omega
      subst hk64
      have hqs := hV.out.lt
      have hHp : Hid (Blk wr p 181 hs) := Lib.hid (((HH.out.below HB2.out hp).below hW.out (by omega)))
      have hBp : Hid (But p w wr) := Lib.hid (But.of_below (HB2.out.trans (hW.out.mono (by omega))))
      go_wp2_with fail
      clear hW hk
      go_loopw [82] (fun i wr => ∃ (k : Nat) (cs : Array Value), k ≤ 8 ∧ i = .int .i64 k ∧ Hid (Blk wr q 181 x.cells) ∧ Hid (Blk wr p 181 cs) ∧ Hid (cs = sumN hs x.cells k) ∧ Hid (But p w wr)) (fun i _ => 8 - (intOf i).toNat)
      case atStart => exact ⟨0, _, by omega, rfl, hV, hHp, Lib.hid rfl, hBp⟩
      case round =>
        clear hV hHp hBp
        obtain ⟨k, cs, hk, rfl, hV, hP, hE, hO⟩ := hrel
        have hN : Hid (Nums 8 cs) := Lib.hid (hE.out ▸ nums_sumN HN.out _ _)
        by_cases hlt : k < 8
        · have c0 := (hV.out.cell k).trans (x.nums.at_ hlt)
          have c1 := (hP.out.cell k).trans (hN.out.at_ hlt)
          have hf := hP.out.frozen k
          go_wp2_with fail
          have L0 := Later.of c0
          have L1 := Later.of c1
          refine Loose.wp_region_later [] 11 (by kernel_rfl) (by kernel_rfl) ?_
          (simp only [List.take_succ_cons, List.take_zero, List.drop_succ_cons, List.drop_zero])
          (repeat (first | refine Loose.walk_skip rfl ?_ | (refine Loose.walk_plain rfl rfl rfl (fun K hK => ?_); go_big_quiet_op; refine hK _ ?_; clear hK K)))
          refine Loose.walk_nil ?_
          rintro U hU -
          have HVU := Lib.hid (hV.out.below hU hV.out.lt)
          have HPU := hP.out.below hU hP.out.lt
          have d := (HPU.cell k).trans (hN.out.at_ hlt)
          have hf := HPU.frozen k
          have S1 := fun y => Lib.hid (HPU.set_ k (.int .u32 y))
          have S2 := fun y => Lib.hid (HVU.out.far (p := ⟨p, k, none⟩) (by simp; omega) (.int .u32 y))
          have S3 := fun y => Lib.hid ((hO.out.trans (But.of_below hU)).setCell k (.int .u32 y))
          clear L0 L1 c0 c1 hU HPU HVU
          go_wp2_with fail
          go_roundw
          case rel => exact ⟨k + 1, _, by omega, by go_num, S2 _, S1 _, Lib.hid (by rw [hE.out]; rfl), S3 _⟩
          case measure => simp [intOf]; omega
        · have hk8 : k = 8 := by omega
          subst hk8
          go_wp2_with fail
          go_returns
          exact ⟨rfl, (by rw [hE.out, hX.out, HS.out, hx0] at hP; exact hP.out), hO.out⟩
end Go.Proofs.YtnehgpeelgjjhaaGreatDoor.Tw
namespace Go.Proofs.YtnehgpeelgjjhaaGreatDoor.Tw
open Go.RowKit
theorem index8 {tab : Array Value} (h : Nums 8 tab) (k : Nat) (hk : k < 8) (w : World) : (Instr.index 181 (.agg tab) (.int .i64 k)).run Tryz.prog w = .ok (.int .u32 (num tab k)) w := by
  have ht := h.at_ hk
  simp [Instr.index, run_underlying Tryz.underlying181, asIntOf, hk, ht, go_sem]
abbrev z32 : Array Value := #[.int .u8 0, .int .u8 0, .int .u8 0, .int .u8 0, .int .u8 0, .int .u8 0, .int .u8 0, .int .u8 0, .int .u8 0, .int .u8 0, .int .u8 0, .int .u8 0, .int .u8 0, .int .u8 0, .int .u8 0, .int .u8 0, .int .u8 0, .int .u8 0, .int .u8 0, .int .u8 0, .int .u8 0, .int .u8 0, .int .u8 0, .int .u8 0, .int .u8 0, .int .u8 0, .int .u8 0, .int .u8 0, .int .u8 0, .int .u8 0, .int .u8 0, .int .u8 0]
/-- the four bytes of a word -/
def out4 (x : Int) : List Int := [x / 16777216 % 256, x / 65536 % 256, x / 256 % 256, x % 256]
/-- the bytes of the words -/
def outB (hs : Array Value) : Nat → List Int
  | 0 => []
  | k + 1 => outB hs k ++ out4 (num hs k)
theorem outB_len (hs : Array Value) : ∀ k, (outB hs k).length = 4 * k
  | 0 => rfl
  | k + 1 => by simp [outB, outB_len hs k, out4]; omega
/-- the row cs begins with the bytes of k words -/
def OutAt (hs : Array Value) (k : Nat) (cs : Array Value) : Prop := cs.size = 32 ∧ ∀ j, j < 4 * k → cs[j]? = some (.int .u8 ((outB hs k).getD j 0))
theorem OutAt.step {hs : Array Value} {k : Nat} {cs : Array Value} (h : OutAt hs k cs) (hk : k < 8) (x : Int) (hx : x = num hs k) :
    OutAt hs (k + 1) ((((cs.setIfInBounds (4 * k) (.int .u8 (x / 16777216 % 256))).setIfInBounds (4 * k + 1) (.int .u8 (x / 65536 % 256))).setIfInBounds (4 * k + 2) (.int .u8 (x / 256 % 256))).setIfInBounds (4 * k + 3) (.int .u8 (x % 256))) := by
  subst hx
  obtain ⟨h1, h2⟩ := h
  refine ⟨by simp [h1], fun j hj => ?_⟩
  have hl := outB_len hs k
  simp only [outB, Array.getElem?_setIfInBounds, Array.size_setIfInBounds, h1]
  by_cases hj4 : j < 4 * k
  · rw [if_neg (by omega), if_neg (by omega), if_neg (by omega), if_neg (by omega), h2 j hj4]
    simp only [List.getD_eq_getElem?_getD]
    rw [List.getElem?_append_left (by omega)]
  · simp only [List.getD_eq_getElem?_getD]
    rw [List.getElem?_append_right (by omega), hl]
    obtain ⟨r, rfl⟩ := Nat.exists_eq_add_of_le (Nat.le_of_not_lt hj4)
    have hr : r < 4 := by omega
    match r, hr with
    | 0, _ => rw [if_neg (by omega), if_neg (by omega), if_neg (by omega), if_pos (by omega), if_pos (by omega)]; simp [out4]
    | 1, _ => rw [if_neg (by omega), if_neg (by omega), if_pos (by omega), if_pos (by omega)]; simp [out4]
    | 2, _ => rw [if_neg (by omega), if_pos (by omega), if_pos (by omega)]; simp [out4]
    | 3, _ => rw [if_pos (by omega), if_pos (by omega)]; simp [out4]
theorem OutAt.cell {hs : Array Value} {k : Nat} {cs : Array Value} (h : OutAt hs k cs) (j : Nat) (hj : j < 32) : ∃ v, cs[j]? = some v := ⟨cs[j]'(by rw [h.1]; exact hj), Array.getElem?_eq_getElem _⟩
set_option maxRecDepth 100000 in
set_option maxHeartbeats 2000000 in
theorem digest_any (w : World) (hs : Array Value) (hN : Nums 8 hs) :
    Calls Tryz.prog 110 #[.agg hs] w fun e w' => e = .returned (.string (strOfNums (outB hs 8))) ∧ Below w.heap.size w w' := by
  have HN := Lib.hid hN
  clear hN
  have hs8 := HN.out.size8
  have hz8 := z8_sizeE HN.out
  have hone := HN.out.one
  go_enter Tryz.func110, Tryz.ntmps110
  have hB0 := Lib.hid (Blk.new w 181 hs)
  have hB1 : Hid (Blk ((w.alloc (.cells hs 181)).alloc (.cells z32 245)) w.heap.size 181 hs) := Lib.hid (hB0.out.alloc _)
  go_wp2_with (with_reducible refine wpList_load_row rfl 181 (.tmp 1) rfl w.heap.size rfl 181 hs (0, 0) _ hB1.out.heap Tryz.underlying181 rfl hs8 ?_)
  go_loopw [8] (fun i wr => ∃ (k : Nat) (cs : Array Value), k ≤ 8 ∧ i = .int .i64 k ∧ Hid (Blk wr (w.heap.size + 1) 245 cs) ∧ Hid (OutAt hs k cs) ∧ Hid (Below w.heap.size w wr)) (fun i _ => 8 - (intOf i).toNat)
  case atStart => exact ⟨0, z32, by omega, rfl, Lib.hid (Blk.new2 _ _ _ _), Lib.hid ⟨rfl, fun j hj => absurd hj (by omega)⟩, Lib.hid (by go_grown)⟩
  case round =>
    clear hB0 hB1
    obtain ⟨k, cs, hk, rfl, hC, hO, hW⟩ := hrel
    by_cases hlt : k < 8
    · have hix := index8 HN.out k hlt
      obtain ⟨v0, h0⟩ := hO.out.cell (4 * k) (by omega)
      obtain ⟨v1, h1⟩ := hO.out.cell (4 * k + 1) (by omega)
      obtain ⟨v2, h2⟩ := hO.out.cell (4 * k + 2) (by omega)
      obtain ⟨v3, h3⟩ := hO.out.cell (4 * k + 3) (by omega)
      have c0 := (hC.out.cell (4 * k)).trans h0
      have c1 := (hC.out.cell (4 * k + 1)).trans h1
      have c2 := (hC.out.cell (4 * k + 2)).trans h2
      have c3 := (hC.out.cell (4 * k + 3)).trans h3
      have hf := hC.out.frozen
      obtain ⟨x, hx⟩ : ∃ x, x = num hs k := ⟨_, rfl⟩
      have HX := Lib.hid hx
      rw [← hx] at hix
      clear hx h0 h1 h2 h3
      have S1 := fun a b c d => Lib.hid ((((hC.out.set_ (4 * k) (.int .u8 a)).set_ (4 * k + 1) (.int .u8 b)).set_ (4 * k + 2) (.int .u8 c)).set_ (4 * k + 3) (.int .u8 d))
      have S2 := fun a b c d => Lib.hid ((((hW.out.setCell (p := ⟨w.heap.size + 1, 4 * k, none⟩) (by simp) (.int .u8 a)).setCell (p := ⟨w.heap.size + 1, 4 * k + 1, none⟩) (by simp) (.int .u8 b)).setCell (p := ⟨w.heap.size + 1, 4 * k + 2, none⟩) (by simp) (.int .u8 c)).setCell (p := ⟨w.heap.size + 1, 4 * k + 3, none⟩) (by simp) (.int .u8 d))
      go_wp2_with fail
      refine wp_loop_rounds 5 ?_
      iterate 5
        rw [rounds_succ]
        go_wp2_with fail
      go_roundw
      case rel => exact ⟨k + 1, _, by omega, by go_num, S1 _ _ _ _, Lib.hid (hO.out.step hlt x HX.out), S2 _ _ _ _⟩
      case measure => simp [intOf]; omega
    · have hk8 : k = 8 := by omega
      subst hk8
      have hcv := run_convert_bytes_arg (P := Tryz.prog) wr 129 5 Tryz.underlying129 Tryz.underlying5 (w.heap.size + 1) 0 32 32 (outB hs 8) (outB_len hs 8) (fun i hi => by rw [Nat.zero_add]; exact (hC.out.cell i).trans (hO.out.2 i (by omega))) 9 Tryz.underlying9
      go_wp2_with fail
      go_ret
      exact ⟨rfl, hW.out⟩
end Go.Proofs.YtnehgpeelgjjhaaGreatDoor.Tw
namespace Go.Proofs.YtnehgpeelgjjhaaGreatDoor.Tw
open Go.RowKit
/-- a slice of bytes that the call has made: its cells, all of them free to be written -/
def Bs (w : World) (base : Nat) (v : Value) (xs : List Int) : Prop :=
  ∃ g cap, v = .slice (some ⟨g, 0, none⟩) xs.length cap ∧ base ≤ g ∧ g < w.heap.size ∧ xs.length ≤ cap ∧ (∀ i, i < cap → (∃ u, w.cell? ⟨g, i, none⟩ = some u) ∧ w.frozen? ⟨g, i, none⟩ = false) ∧
    ∀ i x, xs[i]? = some x → w.cell? ⟨g, i, none⟩ = some (.int .u8 x)
theorem Bs.below {w w' : World} {base : Nat} {v : Value} {xs : List Int} (h : Bs w base v xs) (hb : Below w.heap.size w w') : Bs w' base v xs := by
  obtain ⟨g, cap, rfl, h1, h2, h3, h4, h5⟩ := h
  refine ⟨g, cap, rfl, h1, Nat.lt_of_lt_of_le h2 hb.size, h3, fun i hi => ?_, fun i x hx => (hb.cell h2).trans (h5 i x hx)⟩
  obtain ⟨⟨u, hu⟩, hf⟩ := h4 i hi
  exact ⟨⟨u, (hb.cell h2).trans hu⟩, (hb.frozen h2).trans hf⟩
theorem addr_add (g j : Nat) : (⟨g, 0, none⟩ : Addr).add j = ⟨g, j, none⟩ := by unfold Addr.add; split <;> simp_all
theorem info5' : (Tryz.prog.info? 5).map (fun i => (i.size, i.bytes, i.zero)) = some (1, 1, some (.int .u8 0)) := by kernel_rfl
theorem info5 : ∃ i, Tryz.prog.info? 5 = some i ∧ i.size = 1 ∧ i.bytes = 1 ∧ i.zero = some (.int .u8 0) := by
  have h := info5'
  cases hi : Tryz.prog.info? 5 with
  | none => rw [hi] at h; cases h
  | some i =>
    rw [hi] at h
    simp only [Option.map_some, Option.some.injEq, Prod.mk.injEq] at h
    exact ⟨i, rfl, h.1, h.2.1, h.2.2⟩
/-- one byte more -/
theorem Bs.append1 {w : World} {base : Nat} {v : Value} {xs : List Int} (h : Bs w base v xs) (hbase : base ≤ w.heap.size) (hl : xs.length + 1 ≤ 1099511627776) (ad : Addr) (c : Int) (cc : Nat) (hc : w.cell? ad = some (.int .u8 c)) (ty : TypeId) :
    ∃ v' w', (Builtin.append_ #[129, 129] ty #[v, .slice (some ad) 1 cc]).run Tryz.prog w = .ok v' w' ∧ Bs w' base v' (xs ++ [c]) ∧ Below base w w' := by
  obtain ⟨g, cap, rfl, h1, h2, h3, h4, h5⟩ := h
  obtain ⟨i5, hi, hs1, hb1, hz⟩ := info5
  have hnews : ∀ j v, ([Value.int .u8 c] : List Value)[j]? = some v → w.cell? (ad.add j) = some v := by
    intro j v hj
    match j with
    | 0 =>
      simp at hj
      subst hj
      rw [show ad.add 0 = ad by unfold Addr.add; split <;> simp_all]
      exact hc
    | j + 1 => simp at hj
  by_cases hroom : xs.length + 1 ≤ cap
  · have hst := run_storeCells_cells (P := Tryz.prog) g xs.length [.int .u8 c] 0 w (fun j hj => by
        have : j = 0 := by simpa using hj
        subst this
        obtain ⟨⟨u, hu⟩, _⟩ := h4 xs.length (by omega)
        show (w.cell? ⟨g, xs.length, none⟩).isSome = true
        rw [hu]; rfl) (fun j hj => by
        have : j = 0 := by simpa using hj
        subst this
        exact (h4 xs.length (by omega)).2) (by simp [Value.oneCell'])
    have hf := run_firstCells_some (P := Tryz.prog) w 1 1 ad 1 cc [.int .u8 c] rfl hnews
    have hset : w.setCells g (xs.length + 0) [.int .u8 c] = w.setCell ⟨g, xs.length, none⟩ (.int .u8 c) := rfl
    rw [hset] at hst
    refine ⟨.slice (some ⟨g, 0, none⟩) (xs.length + 1) cap, w.setCell ⟨g, xs.length, none⟩ (.int .u8 c), ?_, ⟨g, cap, by simp, h1, ?_, by simp; exact hroom, fun i hi => ?_, fun i x hx => ?_⟩, (Below.refl base w).setCell (p := ⟨g, xs.length, none⟩) h1 _⟩
    · simp [Builtin.append_, run_underlying Tryz.underlying129, sizeOf, typeInfo, hi, hs1, Builtin.lenOf, hroom, hf, addr_add, hst]
    · exact Nat.lt_of_lt_of_le h2 ((Below.refl base w).setCell (p := ⟨g, xs.length, none⟩) h1 (.int .u8 c)).size
    · obtain ⟨⟨u, hu⟩, hfz⟩ := h4 i hi
      refine ⟨?_, by rw [World.frozen?_setCell]; exact hfz⟩
      by_cases e : xs.length = i
      · subst e
        exact ⟨_, World.cell?_setCell_same w _ _ hu⟩
      · exact ⟨u, (World.cell?_setCell_other w _ _ _ (by simp)).trans hu⟩
    · by_cases e : xs.length = i
      · subst e
        obtain ⟨⟨u, hu⟩, _⟩ := h4 xs.length (by omega)
        simp at hx
        subst hx
        exact World.cell?_setCell_same w _ _ hu
      · have hlt : i < (xs ++ [c]).length := (List.getElem?_eq_some_iff.1 hx).1
        simp at hlt
        rw [List.getElem?_append_left (by omega)] at hx
        exact (World.cell?_setCell_other w _ _ _ (by simp)).trans (h5 i x hx)
  · have holds : ∀ j v, (xs.map (Value.int .u8))[j]? = some v → w.cell? ((⟨g, 0, none⟩ : Addr).add j) = some v := by
      intro j v hj
      rw [List.getElem?_map, Option.map_eq_some_iff] at hj
      obtain ⟨x, hx, rfl⟩ := hj
      rw [addr_add]
      exact h5 j x hx
    have hr := run_append_grow (P := Tryz.prog) w 129 ty 5 i5 (.int .u8 0) Tryz.underlying129 hi hz ⟨g, 0, none⟩ xs.length cap (xs.map (Value.int .u8)) (by simp [hs1]) holds ad 1 cc [.int .u8 c] (by simp [hs1]) hnews (by omega) (by omega)
      (growslice_fits (by omega) (by rw [hb1]; omega))
    obtain ⟨N, hN⟩ : ∃ N, N = grownCap w (xs.length + 1) cap 5 := ⟨_, rfl⟩
    have hge : xs.length + 1 ≤ N := by rw [hN]; exact grownCap_ge w (xs.length + 1) cap 5
    rw [← hN] at hr
    have hsize : ((xs.map (Value.int .u8)).toArray ++ [Value.int .u8 c].toArray ++ Builtin.zeroCells (Value.int .u8 0).cells (N - (xs.length + 1))).size = N := by
      simp only [Array.size_append, List.size_toArray, size_zeroCells, List.length_map]
      simp [Value.cells]
      omega
    refine ⟨_, _, hr, ⟨w.heap.size, N, by simp, hbase, by simp, by simp; exact hge, fun i hi => ?_, fun i x hx => ?_⟩, (Below.refl base w).drew.trans ((Below.refl base w.drew).alloc hbase _)⟩
    · rw [cell_of_row _ w.heap.size i _ 5 (0, 0) (heap_alloc_new w.drew _)]
      refine ⟨⟨_, Array.getElem?_eq_getElem (by rw [hsize]; exact hi)⟩, ?_⟩
      have := Blk.new w.drew 5 ((xs.map (Value.int .u8)).toArray ++ [Value.int .u8 c].toArray ++ Builtin.zeroCells (Value.int .u8 0).cells (N - (xs.length + 1)))
      exact this.frozen i
    · rw [cell_of_row _ w.heap.size i _ 5 (0, 0) (heap_alloc_new w.drew _)]
      have hlt : i < (xs ++ [c]).length := (List.getElem?_eq_some_iff.1 hx).1
      have : ((xs.map (Value.int .u8)).toArray ++ [Value.int .u8 c].toArray) = ((xs ++ [c]).map (Value.int .u8)).toArray := by simp
      rw [this, Array.getElem?_append_left (by simpa using hlt)]
      simp only [List.getElem?_toArray, List.getElem?_map, hx]
      rfl
/-- the bytes of a string -/
def bytesI (s : ByteArray) : List Int := s.data.toList.map fun b => (b.toNat : Int)
theorem bytesI_len (s : ByteArray) : (bytesI s).length = s.size := by unfold bytesI; rw [List.length_map, Array.length_toList]; rfl
theorem Bs.of_string (w : World) (s : ByteArray) : ∃ v w', (convert 9 129 (.string s)).run Tryz.prog w = .ok v w' ∧ Bs w' w.heap.size v (bytesI s) ∧ Below w.heap.size w w' := by
  have hr := run_bytes_of_string (P := Tryz.prog) w 9 129 5 s Tryz.underlying9 Tryz.underlying129 Tryz.underlying5
  obtain ⟨N, hN⟩ : ∃ N, N = grownCap w s.size 0 5 := ⟨_, rfl⟩
  have hge : s.size ≤ N := by rw [hN]; exact grownCap_ge w s.size 0 5
  rw [← hN] at hr
  have hsize : (bytesRow s N).size = N := by
    unfold bytesRow
    rw [Array.size_append, Array.size_map, Array.size_replicate]
    show s.size + (N - s.size) = N
    omega
  obtain ⟨C, hC⟩ : ∃ C, C = bytesRow s N := ⟨_, rfl⟩
  rw [← hC] at hr hsize
  have hg := heap_alloc_new w.drew (.cells C 5 (C.size, C.size + 1))
  refine ⟨_, _, hr, ⟨w.heap.size, N, by rw [bytesI_len], Nat.le_refl _, by simp, by rw [bytesI_len]; exact hge, fun i hi => ?_, fun i x hx => ?_⟩, (Below.refl _ w).drew.trans ((Below.refl _ w.drew).alloc (Nat.le_refl _) _)⟩
  · rw [cell_of_row _ w.heap.size i _ 5 _ hg]
    refine ⟨⟨_, Array.getElem?_eq_getElem (by rw [hsize]; exact hi)⟩, ?_⟩
    unfold World.frozen?
    have hg' : (w.drew.alloc (.cells C 5 (C.size, C.size + 1))).heap[w.heap.size]? = some (.cells C 5 (C.size, C.size + 1)) := hg
    rw [hg']
    simp
    omega
  · rw [cell_of_row _ w.heap.size i _ 5 _ hg, hC]
    have hlt := (List.getElem?_eq_some_iff.1 hx).1
    rw [bytesI_len] at hlt
    unfold bytesRow
    rw [Array.getElem?_append_left (by rw [Array.size_map]; exact hlt)]
    simp only [bytesI, List.getElem?_map, Option.map_eq_some_iff] at hx
    obtain ⟨b, hb, rfl⟩ := hx
    have hb' : s.data[i]? = some b := by rw [← Array.getElem?_toList]; exact hb
    rw [Array.getElem?_map, hb']
    rfl
end Go.Proofs.YtnehgpeelgjjhaaGreatDoor.Tw
namespace Go.Proofs.YtnehgpeelgjjhaaGreatDoor.Tw
open Go.RowKit Go.Shelf
attribute [local go_sem] Oper.semAt_some
/-- what lay below n, but for block p, lies as it lay -/
def KeepB (n p : Nat) (w w' : World) : Prop := w.heap.size ≤ w'.heap.size ∧ ∀ k, k < n → k ≠ p → w'.heap[k]? = w.heap[k]?
theorem KeepB.trans {n p : Nat} {a b c : World} (h : KeepB n p a b) (k : KeepB n p b c) : KeepB n p a c := ⟨Nat.le_trans h.1 k.1, fun i hi hp => (k.2 i hi hp).trans (h.2 i hi hp)⟩
theorem KeepB.refl (n p : Nat) (w : World) : KeepB n p w w := ⟨Nat.le_refl _, fun _ _ _ => rfl⟩
theorem KeepB.of_below {n p B : Nat} {w w' : World} (h : Below B w w') (hn : n ≤ B) : KeepB n p w w' := ⟨h.size, fun k hk _ => h.block k (by omega)⟩
theorem KeepB.of_but {n p : Nat} {w w' : World} (h : But p w w') (hn : n ≤ w.heap.size) : KeepB n p w w' := ⟨h.size, fun k hk hp => h.block k (by omega) hp⟩
theorem KeepB.cell {n p : Nat} {w w' : World} (h : KeepB n p w w') {b i : Nat} (hb : b < n) (hp : b ≠ p) : w'.cell? ⟨b, i, none⟩ = w.cell? ⟨b, i, none⟩ := World.cell?_of_block (h.2 b hb hp)
set_option maxRecDepth 100000 in
set_option maxHeartbeats 1000000 in
theorem chunk_iter (n : Nat) (hn : 1 ≤ n) (l b1 b2 b cap m n₀ p : Nat) (J Jx : List (Fin m) → World → Prop)
    (hJ : ∀ s (A B : World), J s A → A.grownBy B none → J s B)
    (hY : ∀ pre (x : Fin m) W, J pre W → pre.length < m → YieldAt Fence.wide (n - 1) Tryz.prog l #[.slice (some ⟨b, 64 * x.val, none⟩) 64 64] W fun e W' =>
      (e = .returned (.bool true) ∧ J (pre ++ [x]) W' ∧ KeepB n₀ p W W') ∨ (e = .returned (.bool false) ∧ Jx (pre ++ [x]) W'))
    (W : World) (h1 : W.cell? ⟨b1, 0, none⟩ = some (.slice (some ⟨b, 0, none⟩) (64 * m) cap)) (h2 : W.cell? ⟨b2, 0, none⟩ = some (.int .i64 64)) (hb1 : b1 < n₀) (hb2 : b2 < n₀) (hp1 : b1 ≠ p) (hn₀ : n₀ ≤ W.heap.size) (hp2 : b2 ≠ p) (hcap : 64 * m ≤ cap) (hm : m ≤ 1099511627776) (h0 : J [] W) :
    CallsIn Fence.wide n Tryz.prog 152 #[.func (.yield l) #[] #[], .pointer (some ⟨b1, 0, none⟩), .pointer (some ⟨b2, 0, none⟩)] W fun e W' => (∃ v, e = .returned v) ∧
      ((∃ ys, ys = List.finRange m ∧ J ys W') ∨ (∃ pre, True ∧ Jx pre W')) := by
  refine callsIn_of_wp Tryz.func152 rfl trivial ?_ rfl
  simp only [Tryz.ntmps152, List.size_toArray, List.length_cons, List.length_nil, Nat.reduceAdd, Nat.reduceSub, Array.replicate_succ, Array.replicate_zero, List.push_toArray, List.append_toArray, List.nil_append, List.cons_append]
  gi_wp2
  gi_loopw [4] (fun i wr => ∃ (k : Nat) (pre : List (Fin m)), k ≤ m ∧ i = .int .i64 ((64 * k : Nat) : Int) ∧ pre.length = k ∧ Hid (pre = (List.finRange m).take k) ∧ Hid (J pre wr) ∧ Hid (KeepB n₀ p W wr)) (fun i _ => 64 * m - (intOf i).toNat)
  case atStart => exact ⟨0, [], by omega, rfl, rfl, Lib.hid rfl, Lib.hid h0, Lib.hid (KeepB.refl _ _ _)⟩
  case round =>
    obtain ⟨k, pre, hk, rfl, hpl, hpre, hJs, hK⟩ := hrel
    have c1 := (hK.out.cell (i := 0) hb1 hp1).trans h1
    have c2 := (hK.out.cell (i := 0) hb2 hp2).trans h2
    by_cases hlt : k < m
    · gi_wp2
      have L1 := Later.of c1
      have L2 := Later.of c2
      refine wpIn_wide.2 (Loose.wp_region_later [] 7 (by kernel_rfl) (by kernel_rfl) ?_)
      (simp only [List.take_succ_cons, List.take_zero, List.drop_succ_cons, List.drop_zero])
      (repeat (first | refine Loose.walk_skip rfl ?_ | (refine Loose.walk_plain rfl rfl rfl (fun K hK => ?_); go_big_quiet_op; refine hK _ ?_; clear hK K)))
      refine Loose.walk_nil ?_
      rintro U hU -
      have hJU := hJ _ _ _ hJs.out (grown_below hU none)
      have hKU := Lib.hid (hK.out.trans (KeepB.of_below hU (Nat.le_trans hn₀ hK.out.1)))
      have d1 := (hKU.out.cell (i := 0) hb1 hp1).trans h1
      have d2 := (hKU.out.cell (i := 0) hb2 hp2).trans h2
      clear L1 L2 hU c1 c2
      obtain ⟨fn, tmps, assign, body, hy, hR⟩ := hY pre ⟨k, hlt⟩ U hJU (by omega)
      dsimp only at hy
      clear hJU hJs
      go_wp2_with fail
      gi_wp2
      refine hR.mono ?_
      rintro e W3 (⟨rfl, hJ3, hk3⟩ | ⟨rfl, hJx3⟩)
      · have hK3 := Lib.hid (hKU.out.trans hk3)
        have e2 := (hK3.out.cell (i := 0) hb2 hp2).trans h2
        have HJ := Lib.hid hJ3
        have hpre' : Hid (pre ++ [⟨k, hlt⟩] = (List.finRange m).take (k + 1)) := Lib.hid (by
          rw [List.take_succ_eq_append_getElem (by simpa using hlt), ← hpre.out]
          simp)
        clear hJ3 hk3 d1 d2 hy hR
        gi_wp2
        go_roundw
        case rel => exact ⟨k + 1, _, by omega, by go_num, by simp [hpl], hpre', HJ, hK3⟩
        case measure => simp [intOf]; omega
      · gi_wp2
        refine bodyPost_ret (results_none rfl _ _ _) rfl ?_
        exact ⟨⟨_, rfl⟩, .inr ⟨_, trivial, hJx3⟩⟩
    · gi_wp2
      go_end0
      exact ⟨⟨_, rfl⟩, .inl ⟨pre, by rw [hpre.out, List.take_of_length_le (by simp; omega)], hJs.out⟩⟩
end Go.Proofs.YtnehgpeelgjjhaaGreatDoor.Tw
