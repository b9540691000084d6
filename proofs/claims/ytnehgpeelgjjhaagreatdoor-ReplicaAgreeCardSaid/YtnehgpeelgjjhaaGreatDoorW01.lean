/- Contracts of functions of the program, and plain laws, towards the laws of replicas. Joined of the texts: Base, T2, Cmp, Cmp2, Log, Gen, Valid, Log2, Valid2, App, Clone, Own, Right, New, Counts. -/
import Derived.Test.YtnehgpeelgjjhaaGreatDoorProg
import Derived.WalkKit
import Derived.WalkLawsBesides
import Derived.WalkSpells
import Derived.Below
import Derived.Laws.OwnMore
import Derived.Deep.AppendLies
import Derived.Deep.Draws
import Derived.Deep.QuietTactic
import Derived.BigQuiet
import Derived.Lib.Hide
import Derived.RegionCalls
import Derived.Deep.RegionHeld3
import Derived.StillTailTactics
import Derived.Test.YtnehgpeelgjjhaaGreatDoorW00
import Derived.Maps.AppendAt
import Derived.RegionTactic
import Derived.OwnWalk
set_option linter.all false
namespace Go.Proofs.YtnehgpeelgjjhaaGreatDoor.Tw
open Go.RowKit

theorem block_of_add (a : Addr) (n : Nat) : (a.add n).block = a.block := by unfold Addr.add; split <;> rfl
theorem add_of_add (a : Addr) (i j : Nat) : (a.add i).add j = a.add (i + j) := by
  unfold Addr.add
  by_cases hi : i = 0 <;> by_cases hj : j = 0 <;> simp [hi, hj, Nat.add_assoc]

/-- The slice value '.slice A n c' reads as the cells xs ('size' of them an element), and lies below block B. -/
def Reads (w : World) (B size : Nat) (A : Option Addr) (n : Nat) (xs : List Value) : Prop :=
  xs.length = n * size ∧ (0 < n → ∃ b off, A = some ⟨b, off, none⟩ ∧ b < B ∧ ∀ j u, xs[j]? = some u → w.cell? ⟨b, off + j, none⟩ = some u)

section
variable {w w' : World} {B B' size n : Nat} {A : Option Addr} {xs : List Value}
theorem Reads.keep (h : Reads w B size A n xs) (hk : ∀ p : Addr, p.block < B → w'.cell? p = w.cell? p) : Reads w' B size A n xs :=
  ⟨h.1, fun hn => by
    obtain ⟨b, off, e, hb, hc⟩ := h.2 hn
    exact ⟨b, off, e, hb, fun j u hu => (hk _ hb).trans (hc j u hu)⟩⟩
theorem Reads.more (h : Reads w B size A n xs) (hB : B ≤ B') : Reads w B' size A n xs :=
  ⟨h.1, fun hn => by
    obtain ⟨b, off, e, hb, hc⟩ := h.2 hn
    exact ⟨b, off, e, by omega, hc⟩⟩
theorem Reads.below (h : Reads w B size A n xs) (hb : Below B w w') : Reads w' B size A n xs := h.keep fun _ hp => hb.cell hp
end
theorem bcell {W w1 : World} {B : Nat} (hb : Below B W w1) : (∀ b o, b < B → w1.cell? ⟨b, o, none⟩ = W.cell? ⟨b, o, none⟩) ∧ (∀ b o, b < B → w1.frozen? ⟨b, o, none⟩ = W.frozen? ⟨b, o, none⟩) :=
  ⟨fun b o h => hb.cell (p := ⟨b, o, none⟩) h, fun b o h => hb.frozen (p := ⟨b, o, none⟩) h⟩

/-! a region that draws its order, whose operations read, and whose calls hand back values that do not hang on the world -/
structure Later (w : World) where
  W : World
  is : Below w.heap.size w W
instance (w : World) : Nonempty (Later w) := ⟨⟨w, Below.refl _ _⟩⟩
theorem wp_region_later {P : Program} {id : Nat} {Q : Exit → Act → World → Prop} {a : Act} {w : World} {l : List Oper} (hm : P.follows .mixedOrders = true) (hB : Region.lexB .any l.toArray = true)
    (h : wpQuiet P l.toArray (fun w' => ∃ x : Later w, w' = x.W) (fun a' => ∀ w', (∃ x : Later w, w' = x.W) → Q .normal a' w') l a) : (Code.region id l.toArray true).wp P Q a w :=
  wp_region_quiet (C := fun w' => ∃ x : Later w, w' = x.W) hm hB ⟨⟨w.drew, (Below.refl _ _).drew⟩, rfl⟩ (by simpa using h)
theorem later_of {P : Program} {f : FuncId} {args : Array Value} {w : World} {x : Later w} {v : Value}
    (h : Calls P f args x.W fun e w' => e = .returned v ∧ Below x.W.heap.size x.W w') : Calls P f args x.W fun e w'' => e = .returned v ∧ ∃ y : Later w, w'' = y.W :=
  h.mono fun _ w2 ⟨he, hb⟩ => ⟨he, ⟨w2, x.is.trans (hb.mono x.is.size)⟩, rfl⟩
theorem later_same {P : Program} {f : FuncId} {args : Array Value} {w : World} {x : Later w} {v : Value}
    (h : Calls P f args x.W fun e w' => e = .returned v ∧ x.W = w') : Calls P f args x.W fun e w'' => e = .returned v ∧ ∃ y : Later w, w'' = y.W :=
  h.mono fun _ _ ⟨he, hb⟩ => ⟨he, x, hb.symm⟩
theorem Later.cell {w : World} {b o : Nat} {v : Value} (h : w.cell? ⟨b, o, none⟩ = some v) (hb : b < w.heap.size) : ∀ x : Later w, x.W.cell? ⟨b, o, none⟩ = some v :=
  fun x => (x.is.cell (p := ⟨b, o, none⟩) hb).trans h
theorem lt_of_cell {w : World} {b o : Nat} {v : Value} (h : w.cell? ⟨b, o, none⟩ = some v) : b < w.heap.size := World.block_lt_of_cell? w _ h
theorem Later.of {w : World} {b o : Nat} {v : Value} (h : w.cell? ⟨b, o, none⟩ = some v) : ∀ x : Later w, x.W.cell? ⟨b, o, none⟩ = some v := Later.cell h (lt_of_cell h)
end Go.Proofs.YtnehgpeelgjjhaaGreatDoor.Tw
namespace Go.Proofs.YtnehgpeelgjjhaaGreatDoor.Tw
open Go.RowKit

/-- function F has a body: a call of it enters it -/
def Enters (F : FuncId) : Prop := ∀ (args : Array Value) (w : World), (callFunc F args).run Tryz.prog w = .ok (.enter F args) w

/-- A function value that, called at whatever world later than w, tells p of each element, and writes nothing that was there. -/
def Tells (w : World) (F : FuncId) (cap : Array Value) (args : Nat → Array Value) (p : Nat → Bool) (n : Nat) : Prop :=
  Enters F ∧ ∀ i, i < n → ∀ w1 : World, Below w.heap.size w w1 → Calls Tryz.prog F (args i ++ cap) w1 fun e w2 => e = .returned (.bool (p i)) ∧ Below w1.heap.size w1 w2

/-- the first place at which p holds, from i on; -1 if there is none before n -/
def first (p : Nat → Bool) (n i : Nat) : Int := if h : i < n then (if p i then i else first p n (i + 1)) else -1
  termination_by n - i

theorem first_end {p : Nat → Bool} {n i : Nat} (h : ¬ i < n) : first p n i = -1 := by rw [first]; simp [h]
theorem first_yes {p : Nat → Bool} {n i : Nat} (h : i < n) (hp : p i = true) : first p n i = i := by rw [first]; simp [h, hp]
theorem first_no {p : Nat → Bool} {n i : Nat} (h : i < n) (hp : p i = false) : first p n i = first p n (i + 1) := by rw [first]; simp [h, hp]

theorem ret_int {k : IntKind} {a b : Int} (h : a = b) : Ending.returned (.int k a) = .returned (.int k b) := by rw [h]

set_option maxRecDepth 100000 in
set_option maxHeartbeats 400000 in
theorem indexInt (w : World) (A : Option Addr) (n c : Nat) (xs : List Int) (F : FuncId) (cap : Array Value) (p : Nat → Bool)
    (hx : Reads w w.heap.size 1 A n (xs.map (Value.int .i64))) (hn : n ≤ 16777216)
    (hp : Tells w F cap (fun i => #[.int .i64 (xs.getD i 0)]) p n) :
    Calls Tryz.prog 115 #[.slice A n c, .func (.func F) #[] cap] w fun e w' => e = .returned (.int .i64 (first p n 0)) ∧ Below w.heap.size w w' := by
  obtain ⟨hF, hp⟩ := hp
  have H := Lib.hid hp
  clear hp
  have HF := Lib.hid hF
  clear hF
  have HX := Lib.hid hx
  clear hx
  go_enter Tryz.func115, Tryz.ntmps115
  go_wp2
  go_loopw [4, 5, 8] (fun r i k wr => ∃ j : Nat, j ≤ n ∧ k = .int .i64 j ∧ Hid (first p n 0 = first p n j) ∧ Below w.heap.size w wr) (fun _ _ k _ => n - (intOf k).toNat)
  case atStart => exact ⟨0, by omega, rfl, rfl, Below.refl _ _⟩
  case round =>
    obtain ⟨j, hj, rfl, hf, hb⟩ := hrel
    by_cases hlt : j < n
    · obtain ⟨b, off, rfl, hbl, hcell⟩ := HX.out.2 (by omega)
      have hlen : xs.length = n := by have := HX.out.1; simpa using this
      have hj' : j < xs.length := by omega
      have hcall := H.out j hlt wr hb
      have hc : wr.cell? ⟨b, off + j, none⟩ = some (.int .i64 (xs.getD j 0)) := by
        rw [hb.cell (p := ⟨b, off + j, none⟩) hbl]
        refine hcell j _ ?_
        simp [List.getD_eq_getElem?_getD, List.getElem?_eq_getElem hj']
      clear hcell
      generalize xs.getD j 0 = x at hc hcall
      have HC := Lib.hid hcall
      clear hcall
      go_wp2_with fail
      rw [HF.out, Oper.upon_enter]
      refine HC.out.mono ?_
      rintro e w2 ⟨rfl, hb2⟩
      have hb3 := hb.trans (hb2.mono hb.size)
      cases hpj : p j
      · have Hpj := Lib.hid hpj
        clear hpj
        go_wp2
        go_roundw
        case rel => exact ⟨j + 1, by omega, by go_num, by unfold Hid; rw [hf.out, first_no hlt Hpj.out], hb3⟩
        case measure => simp [intOf]; omega
      · have Hpj := Lib.hid hpj
        clear hpj
        go_wp2
        go_ret
        exact ⟨ret_int (by rw [hf.out, first_yes hlt Hpj.out]), hb3⟩
    · go_wp2
      go_ret
      exact ⟨ret_int (by rw [hf.out, first_end hlt]), hb⟩
end Go.Proofs.YtnehgpeelgjjhaaGreatDoor.Tw
namespace Go.Proofs.YtnehgpeelgjjhaaGreatDoor.Tw
open Go.RowKit

theorem ret_bool {a b : Bool} (h : a = b) : Ending.returned (.bool a) = .returned (.bool b) := by rw [h]

theorem in_any (n lo hi : Int) (w : World) : Calls Tryz.prog 54 #[.int .i64 n, .int .i64 lo, .int .i64 hi] w fun e w' => e = .returned (.bool (decide (lo ≤ n) && decide (n ≤ hi))) ∧ w = w' := by
  by_cases h : n < lo
  · have h1 : ¬ lo ≤ n := by omega
    have hd : (decide (lo ≤ n) && decide (n ≤ hi)) = false := by simp [h1]
    rw [hd]
    go_enter Tryz.func54, Tryz.ntmps54
    go_wp2
    go_ret
    exact ⟨rfl, rfl⟩
  · have h1 : lo ≤ n := by omega
    have hd : (decide (lo ≤ n) && decide (n ≤ hi)) = decide (n ≤ hi) := by simp [h1]
    rw [hd]
    clear hd
    go_enter Tryz.func54, Tryz.ntmps54
    go_wp2
    go_ret
    exact ⟨rfl, rfl⟩

theorem isNaN_any (n : Int) (w : World) : Calls Tryz.prog 116 #[.int .i64 n] w fun e w' => e = .returned (.bool false) ∧ w = w' := by
  have h : (n != n) = false := by simp
  go_enter Tryz.func116, Tryz.ntmps116
  go_wp2
  go_ret
  exact ⟨rfl, rfl⟩

def cmpI (a b : Int) : Int := if a < b then -1 else if b < a then 1 else 0

theorem compare_any (a b : Int) (w : World) : Calls Tryz.prog 90 #[.int .i64 a, .int .i64 b] w fun e w' => e = .returned (.int .i64 (cmpI a b)) ∧ w = w' := by
  by_cases h : a < b
  · have hf : cmpI a b = -1 := by simp [cmpI, h]
    rw [hf]
    go_enter Tryz.func90, Tryz.ntmps90
    go_wp2_with (go_at_call 116; refine (isNaN_any _ _).mono ?_; rintro e w' ⟨rfl, rfl⟩)
    go_ret
    exact ⟨rfl, rfl⟩
  · by_cases h' : b < a
    · have hf : cmpI a b = 1 := by simp [cmpI, h, h']
      rw [hf]
      go_enter Tryz.func90, Tryz.ntmps90
      go_wp2_with (go_at_call 116; refine (isNaN_any _ _).mono ?_; rintro e w' ⟨rfl, rfl⟩)
      go_ret
      exact ⟨rfl, rfl⟩
    · have hf : cmpI a b = 0 := by simp [cmpI, h, h']
      rw [hf]
      go_enter Tryz.func90, Tryz.ntmps90
      go_wp2_with (go_at_call 116; refine (isNaN_any _ _).mono ?_; rintro e w' ⟨rfl, rfl⟩)
      go_ret
      exact ⟨rfl, rfl⟩

/-- cmp.Or of three, in a block of the caller's own -/
def or3 (a b c : Int) : Int := if a ≠ 0 then a else if b ≠ 0 then b else c

theorem or_any (w : World) (b : Nat) (x y z : Int) (h0 : w.cell? ⟨b, 0, none⟩ = some (.int .i64 x)) (h1 : w.cell? ⟨b, 1, none⟩ = some (.int .i64 y)) (h2 : w.cell? ⟨b, 2, none⟩ = some (.int .i64 z)) (c : Nat) :
    Calls Tryz.prog 89 #[.slice (some ⟨b, 0, none⟩) 3 c] w fun e w' => e = .returned (.int .i64 (or3 x y z)) ∧ w = w' := by
  by_cases hx : x = 0
  · by_cases hy : y = 0
    · by_cases hz : z = 0
      · subst hx hy hz
        go_enter Tryz.func89, Tryz.ntmps89
        go_wp2
        refine wp_loop_rounds 4 ?_
        repeat (rw [rounds_succ]; go_wp2)
        go_ret
        exact ⟨rfl, rfl⟩
      · subst hx hy
        have hf : or3 0 0 z = z := by simp [or3]
        have hz' : (z != 0) = true := by simp [hz]
        rw [hf]
        go_enter Tryz.func89, Tryz.ntmps89
        go_wp2
        refine wp_loop_rounds 4 ?_
        repeat (rw [rounds_succ]; go_wp2)
        go_ret
        exact ⟨rfl, rfl⟩
    · subst hx
      have hf : or3 0 y z = y := by simp [or3, hy]
      have hz' : (y != 0) = true := by simp [hy]
      rw [hf]
      go_enter Tryz.func89, Tryz.ntmps89
      go_wp2
      refine wp_loop_rounds 4 ?_
      repeat (rw [rounds_succ]; go_wp2)
      go_ret
      exact ⟨rfl, rfl⟩
  · have hf : or3 x y z = x := by simp [or3, hx]
    have hz' : (x != 0) = true := by simp [hx]
    rw [hf]
    go_enter Tryz.func89, Tryz.ntmps89
    go_wp2
    refine wp_loop_rounds 4 ?_
    repeat (rw [rounds_succ]; go_wp2)
    go_ret
    exact ⟨rfl, rfl⟩
end Go.Proofs.YtnehgpeelgjjhaaGreatDoor.Tw
namespace Go.Proofs.YtnehgpeelgjjhaaGreatDoor.Tw
open Go.RowKit

def cmp3 (e o n e' o' n' : Int) : Int := or3 (cmpI e e') (cmpI o o') (cmpI n n')

set_option maxRecDepth 100000 in
set_option maxHeartbeats 800000 in
theorem postCompare_any (e o n e' o' n' : Int) (s s' : ByteArray) (w : World) :
    Calls Tryz.prog 64 #[.agg #[.int .i64 e, .int .i64 o, .int .i64 n, .string s], .agg #[.int .i64 e', .int .i64 o', .int .i64 n', .string s']] w fun r w' => r = .returned (.int .i64 (cmp3 e o n e' o' n')) ∧ Below w.heap.size w w' := by
  go_enter Tryz.func64, Tryz.ntmps64
  go_wp2
  go_region_held3 (fun W => W.cell? ⟨w.heap.size, 0, none⟩ = some (.int .i64 e) ∧ W.cell? ⟨w.heap.size, 1, none⟩ = some (.int .i64 o) ∧ W.cell? ⟨w.heap.size, 2, none⟩ = some (.int .i64 n) ∧
     W.cell? ⟨w.heap.size + 1, 0, none⟩ = some (.int .i64 e') ∧ W.cell? ⟨w.heap.size + 1, 1, none⟩ = some (.int .i64 o') ∧ W.cell? ⟨w.heap.size + 1, 2, none⟩ = some (.int .i64 n'))
    (go_keep)
    ((first | (go_at_call 90; refine (compare_any _ _ _).mono ?_; rintro e w' ⟨rfl, rfl⟩) | (go_at_call 89; refine (or_any _ (w.heap.size + 2) (cmpI e e') (cmpI o o') (cmpI n n') ?c0 ?c1 ?c2 _).mono ?_; (case c0 => go_simp); (case c1 => go_simp); (case c2 => go_simp); rintro e w' ⟨rfl, rfl⟩)))
  rename_i hh; clear hh
  go_wp2
  go_ret
  exact ⟨rfl, by repeat (first | exact Below.refl _ _ | refine Below.drew ?_ | refine Below.alloc ?_ (by simp; try omega) _)⟩
end Go.Proofs.YtnehgpeelgjjhaaGreatDoor.Tw
namespace Go.Proofs.YtnehgpeelgjjhaaGreatDoor.Tw
open Go.RowKit

def Blk (w : World) (g : Nat) (t : TypeId) (cs : Array Value) : Prop := w.heap[g]? = some (.cells cs t (0, 0))

section
variable {w w' : World} {g : Nat} {t : TypeId} {cs : Array Value}
theorem Blk.lt (h : Blk w g t cs) : g < w.heap.size := by
  rcases Nat.lt_or_ge g w.heap.size with hlt | hge
  · exact hlt
  · unfold Blk at h; rw [Array.getElem?_eq_none hge] at h; cases h
theorem Blk.cell (h : Blk w g t cs) (i : Nat) : w.cell? ⟨g, i, none⟩ = cs[i]? := cell_of_row w g i cs t (0, 0) h
theorem Blk.frozen (h : Blk w g t cs) (i : Nat) : w.frozen? ⟨g, i, none⟩ = false := by
  unfold Blk at h
  simp [World.frozen?, h]
theorem Blk.new (w : World) (t : TypeId) (cs : Array Value) : Blk (w.alloc (.cells cs t)) w.heap.size t cs := heap_alloc_new w _
theorem Blk.drew (h : Blk w g t cs) : Blk w.drew g t cs := h
theorem Blk.drewN (h : Blk w g t cs) (n : Nat) : Blk (w.drewN n) g t cs := h
theorem Blk.alloc (h : Blk w g t cs) (o : Obj) : Blk (w.alloc o) g t cs := (Below.heap_alloc w o g h.lt).trans h
theorem Blk.set_ (h : Blk w g t cs) (i : Nat) (u : Value) : Blk (w.setCell ⟨g, i, none⟩ u) g t (cs.setIfInBounds i u) := by
  unfold Blk at h ⊢
  simp [World.setCell, Array.getElem?_modify, h]
theorem Blk.far (h : Blk w g t cs) {p : Addr} (hp : g ≠ p.block) (u : Value) : Blk (w.setCell p u) g t cs := (Below.heap_setCell w p u g hp).trans h
theorem Blk.below {B : Nat} (h : Blk w g t cs) (hb : Below B w w') (hg : g < B) : Blk w' g t cs := (hb.block g hg).trans h
end

def Row5 (f : Nat → Int) : Array Value := #[.int .i64 (f 0), .int .i64 (f 1), .int .i64 (f 2), .int .i64 (f 3), .int .i64 (f 4)]
theorem Row5.get {f : Nat → Int} {k : Nat} (h : k < 5) : (Row5 f)[k]? = some (.int .i64 (f k)) := by
  match k, h with
  | 0, _ => rfl
  | 1, _ => rfl
  | 2, _ => rfl
  | 3, _ => rfl
  | 4, _ => rfl
theorem Row5.set {f g : Nat → Int} {k : Nat} {v : Int} (h : k < 5) (hv : g k = v) (ho : ∀ i, i < 5 → i ≠ k → g i = f i) : (Row5 f).setIfInBounds k (.int .i64 v) = Row5 g := by
  subst hv
  match k, h with
  | 0, _ => simp [Row5, ho 1 (by omega) (by omega), ho 2 (by omega) (by omega), ho 3 (by omega) (by omega), ho 4 (by omega) (by omega)]
  | 1, _ => simp [Row5, ho 0 (by omega) (by omega), ho 2 (by omega) (by omega), ho 3 (by omega) (by omega), ho 4 (by omega) (by omega)]
  | 2, _ => simp [Row5, ho 1 (by omega) (by omega), ho 0 (by omega) (by omega), ho 3 (by omega) (by omega), ho 4 (by omega) (by omega)]
  | 3, _ => simp [Row5, ho 1 (by omega) (by omega), ho 2 (by omega) (by omega), ho 0 (by omega) (by omega), ho 4 (by omega) (by omega)]
  | 4, _ => simp [Row5, ho 1 (by omega) (by omega), ho 2 (by omega) (by omega), ho 3 (by omega) (by omega), ho 0 (by omega) (by omega)]

def encP (p : Rp.Post) : List Value := [.int .i64 p.epoch, .int .i64 p.origin, .int .i64 p.number, .string p.text]
def aggP (p : Rp.Post) : Value := .agg #[.int .i64 p.epoch, .int .i64 p.origin, .int .i64 p.number, .string p.text]
def encPs (l : List Rp.Post) : List Value := l.flatMap encP

theorem encPs_length (l : List Rp.Post) : (encPs l).length = l.length * 4 := by
  induction l with
  | nil => rfl
  | cons p l ih => simp only [encPs, List.flatMap_cons, List.length_append] at *; rw [ih]; simp [encP]; omega

theorem encPs_get : ∀ (l : List Rp.Post) (j : Nat) (p : Rp.Post) (i : Nat), l[j]? = some p → i < 4 → (encPs l)[j * 4 + i]? = (encP p)[i]?
  | [], j, p, i, h, _ => by simp at h
  | q :: l, 0, p, i, h, hi => by
    simp at h; subst h
    show (encP q ++ encPs l)[0 * 4 + i]? = _
    rw [List.getElem?_append_left (by simp [encP]; omega)]; simp
  | q :: l, j + 1, p, i, h, hi => by
    show (encP q ++ encPs l)[(j + 1) * 4 + i]? = _
    rw [List.getElem?_append_right (by simp [encP]; omega)]
    have : (j + 1) * 4 + i - (encP q).length = j * 4 + i := by simp [encP]; omega
    rw [this]
    exact encPs_get l j p i (by simpa using h) hi

/-- The cells of a post in a slice of posts. -/
theorem Reads.post {w : World} {B n : Nat} {A : Option Addr} {l : List Rp.Post} (h : Reads w B 4 A n (encPs l)) (hl : l.length = n) {j : Nat} (hj : j < n) :
    ∃ b off p, A = some ⟨b, off, none⟩ ∧ b < B ∧ l[j]? = some p ∧ w.cell? ⟨b, off + j * 4, none⟩ = some (.int .i64 p.epoch) ∧ w.cell? ⟨b, off + j * 4 + 1, none⟩ = some (.int .i64 p.origin) ∧
      w.cell? ⟨b, off + j * 4 + 2, none⟩ = some (.int .i64 p.number) ∧ w.cell? ⟨b, off + j * 4 + 3, none⟩ = some (.string p.text) := by
  obtain ⟨b, off, e, hb, hc⟩ := h.2 (by omega)
  have hp : l[j]? = some l[j] := List.getElem?_eq_getElem (by omega)
  refine ⟨b, off, l[j], e, hb, hp, ?_, ?_, ?_, ?_⟩
  · have := hc (j * 4 + 0) _ (encPs_get l j _ 0 hp (by omega)); simpa using this
  · have := hc (j * 4 + 1) _ (encPs_get l j _ 1 hp (by omega)); simpa [Nat.add_assoc] using this
  · have := hc (j * 4 + 2) _ (encPs_get l j _ 2 hp (by omega)); simpa [Nat.add_assoc] using this
  · have := hc (j * 4 + 3) _ (encPs_get l j _ 3 hp (by omega)); simpa [Nat.add_assoc] using this
end Go.Proofs.YtnehgpeelgjjhaaGreatDoor.Tw
namespace Go.Proofs.YtnehgpeelgjjhaaGreatDoor.Tw
open Go.RowKit

set_option maxRecDepth 100000 in
set_option maxHeartbeats 400000 in
theorem indexPost (w : World) (A : Option Addr) (n c : Nat) (l : List Rp.Post) (F : FuncId) (cap : Array Value) (p : Nat → Bool)
    (hx : Reads w w.heap.size 4 A n (encPs l)) (hl : l.length = n) (hn : n ≤ 16777216)
    (hp : Tells w F cap (fun i => #[aggP (l.getD i default)]) p n) :
    Calls Tryz.prog 87 #[.slice A n c, .func (.func F) #[] cap] w fun e w' => e = .returned (.int .i64 (first p n 0)) ∧ Below w.heap.size w w' := by
  obtain ⟨hF, hp⟩ := hp
  have H := Lib.hid hp
  clear hp
  have HF := Lib.hid hF
  clear hF
  have HX := Lib.hid hx
  clear hx
  have HL := Lib.hid hl
  clear hl
  go_enter Tryz.func87, Tryz.ntmps87
  go_wp2
  go_loopw [4, 5, 8] (fun r i k wr => ∃ j : Nat, j ≤ n ∧ k = .int .i64 j ∧ Hid (first p n 0 = first p n j) ∧ Below w.heap.size w wr) (fun _ _ k _ => n - (intOf k).toNat)
  case atStart => exact ⟨0, by omega, rfl, rfl, Below.refl _ _⟩
  case round =>
    obtain ⟨j, hj, rfl, hf, hb⟩ := hrel
    by_cases hlt : j < n
    · obtain ⟨b, off, q, rfl, hbl, hq, h0, h1, h2, h3⟩ := HX.out.post HL.out hlt
      have hq' : l.getD j default = q := by simp [List.getD_eq_getElem?_getD, hq]
      have hcall := H.out j hlt wr hb
      rw [hq'] at hcall
      have HC := Lib.hid hcall
      clear hcall hq hq'
      rw [← hb.cell (p := ⟨b, _, none⟩) hbl] at h0 h1 h2 h3
      go_wp2_with fail
      rw [HF.out, Oper.upon_enter]
      refine HC.out.mono ?_
      rintro e w2 ⟨rfl, hb2⟩
      have hb3 := hb.trans (hb2.mono hb.size)
      cases hpj : p j
      · have Hpj := Lib.hid hpj
        clear hpj
        go_wp2
        go_roundw
        case rel => exact ⟨j + 1, by omega, by go_num, by unfold Hid; rw [hf.out, first_no hlt Hpj.out], hb3⟩
        case measure => simp [intOf]; omega
      · have Hpj := Lib.hid hpj
        clear hpj
        go_wp2
        go_ret
        exact ⟨ret_int (by rw [hf.out, first_yes hlt Hpj.out]), hb3⟩
    · go_wp2
      go_ret
      exact ⟨ret_int (by rw [hf.out, first_end hlt]), hb⟩

def anyB (p : Nat → Bool) (n : Nat) : Bool := (List.range n).any p
theorem first_pos (p : Nat → Bool) (n : Nat) : ∀ (d i : Nat), n - i = d → (0 ≤ first p n i ↔ ∃ j, i ≤ j ∧ j < n ∧ p j = true) := by
  intro d
  induction d with
  | zero => intro i hd; rw [first_end (by omega)]; constructor
            · intro h; omega
            · rintro ⟨j, h1, h2, _⟩; omega
  | succ d ih =>
    intro i hd
    have hi : i < n := by omega
    cases hp : p i
    · rw [first_no hi hp, ih (i + 1) (by omega)]
      constructor
      · rintro ⟨j, h1, h2, h3⟩; exact ⟨j, by omega, h2, h3⟩
      · rintro ⟨j, h1, h2, h3⟩
        rcases Nat.lt_or_ge i j with h | h
        · exact ⟨j, h, h2, h3⟩
        · have : j = i := by omega
          subst this; rw [hp] at h3; cases h3
    · rw [first_yes hi hp]
      exact ⟨fun _ => ⟨i, Nat.le_refl _, hi, hp⟩, fun _ => Int.natCast_nonneg _⟩
theorem first_any (p : Nat → Bool) (n : Nat) : decide (0 ≤ first p n 0) = anyB p n := by
  rw [Bool.eq_iff_iff, decide_eq_true_eq, first_pos p n n 0 (by omega)]
  simp only [anyB, List.any_eq_true, List.mem_range]
  constructor
  · rintro ⟨j, _, h2, h3⟩; exact ⟨j, h2, h3⟩
  · rintro ⟨j, h2, h3⟩; exact ⟨j, by omega, h2, h3⟩
theorem anyB_list {α : Type} (l : List α) (d : α) (q : α → Bool) : anyB (fun i => q (l.getD i d)) l.length = l.any q := by
  rw [Bool.eq_iff_iff]
  simp only [anyB, List.any_eq_true, List.mem_range]
  constructor
  · rintro ⟨j, h1, h2⟩; exact ⟨l[j], List.getElem_mem h1, by simpa [List.getD_eq_getElem?_getD, List.getElem?_eq_getElem h1] using h2⟩
  · rintro ⟨x, hx, h⟩
    obtain ⟨j, hj⟩ := List.getElem?_of_mem hx
    have hlt : j < l.length := by
      rcases Nat.lt_or_ge j l.length with h | h
      · exact h
      · rw [List.getElem?_eq_none h] at hj; cases hj
    exact ⟨j, hlt, by simpa [List.getD_eq_getElem?_getD, hj] using h⟩

theorem containsInt (w : World) (A : Option Addr) (n c : Nat) (xs : List Int) (F : FuncId) (cap : Array Value) (p : Nat → Bool)
    (hx : Reads w w.heap.size 1 A n (xs.map (Value.int .i64))) (hn : n ≤ 16777216)
    (hp : Tells w F cap (fun i => #[.int .i64 (xs.getD i 0)]) p n) :
    Calls Tryz.prog 85 #[.slice A n c, .func (.func F) #[] cap] w fun e w' => e = .returned (.bool (anyB p n)) ∧ Below w.heap.size w w' := by
  have H := Lib.hid (indexInt w A n c xs F cap p hx hn hp)
  have HE := Lib.hid (first_any p n)
  clear hp hx
  go_enter Tryz.func85, Tryz.ntmps85
  go_wp2_with (go_at_call 115; refine H.out.mono ?_; rintro e w' ⟨rfl, hb⟩)
  go_ret
  exact ⟨ret_bool HE.out, hb⟩

theorem containsPost (w : World) (A : Option Addr) (n c : Nat) (l : List Rp.Post) (F : FuncId) (cap : Array Value) (p : Nat → Bool)
    (hx : Reads w w.heap.size 4 A n (encPs l)) (hl : l.length = n) (hn : n ≤ 16777216)
    (hp : Tells w F cap (fun i => #[aggP (l.getD i default)]) p n) :
    Calls Tryz.prog 57 #[.slice A n c, .func (.func F) #[] cap] w fun e w' => e = .returned (.bool (anyB p n)) ∧ Below w.heap.size w w' := by
  have H := Lib.hid (indexPost w A n c l F cap p hx hl hn hp)
  have HE := Lib.hid (first_any p n)
  clear hp hx hl
  go_enter Tryz.func57, Tryz.ntmps57
  go_wp2_with (go_at_call 87; refine H.out.mono ?_; rintro e w' ⟨rfl, hb⟩)
  go_ret
  exact ⟨ret_bool HE.out, hb⟩
end Go.Proofs.YtnehgpeelgjjhaaGreatDoor.Tw
namespace Go.Proofs.YtnehgpeelgjjhaaGreatDoor.Tw
open Go.RowKit

theorem enters_of {F : FuncId} {fn : Func} {c : Code} (hf : Tryz.prog.funcs[F]? = some fn) (hn : (fn.name == "runtime.NumGoroutine") = false) (hb : fn.body = some c) : Enters F := by
  intro args w
  have h1 : fn.name ≠ "runtime.NumGoroutine" := by simpa using hn
  simp [callFunc, hf, h1, hb]

theorem inr_any (n lo hi : Int) (w : World) : Calls Tryz.prog 54 #[.int .i64 n, .int .i64 lo, .int .i64 hi] w fun e w' => e = .returned (.bool (Rp.inr n lo hi)) ∧ w = w' := in_any n lo hi w

theorem heard1_any (x most : Int) (b : Nat) (w : World) (hc : w.cell? ⟨b, 0, none⟩ = some (.int .i64 most)) :
    Calls Tryz.prog 86 #[.int .i64 x, .pointer (some ⟨b, 0, none⟩)] w fun e w' => e = .returned (.bool (!Rp.inr x 0 most)) ∧ w = w' := by
  go_enter Tryz.func86, Tryz.ntmps86
  go_wp2_with (go_at_call 54; refine (inr_any _ _ _ _).mono ?_; rintro e w' ⟨rfl, rfl⟩)
  go_ret
  exact ⟨rfl, rfl⟩

theorem enters86 : Enters 86 := enters_of Tryz.func86 (by kernel_rfl) rfl
theorem enters58 : Enters 58 := enters_of Tryz.func58 (by kernel_rfl) rfl

theorem run_mf : ∀ (fn : Fn) (first cap : Array Value) (w : World), (Instr.makeFunc fn first cap).run Tryz.prog w = .ok (.func fn first cap) w := fun _ _ _ _ => rfl

theorem isHeard_any (w : World) (A : Option Addr) (n c : Nat) (xs : List Int) (many most : Int)
    (hx : Reads w w.heap.size 1 A n (xs.map (Value.int .i64))) (hn : n ≤ 16777216) :
    Calls Tryz.prog 55 #[.slice A n c, .int .i64 many, .int .i64 most] w fun e w' => e = .returned (.bool (Rp.isHeard xs many most)) ∧ Below w.heap.size w w' := by
  have hlen : xs.length = n := by have := hx.1; simpa using this
  have hmf := run_mf
  have hpure : Rp.isHeard xs many most = (decide ((n : Int) = many) && !anyB (fun i => !Rp.inr (xs.getD i 0) 0 most) n) := by
    rw [← hlen, anyB_list xs 0 (fun x => !Rp.inr x 0 most)]
    unfold Rp.isHeard
    congr 1
    rw [List.not_any_eq_all_not]
    simp
  have HP := Lib.hid hpure
  clear hpure
  have hb0 : Below w.heap.size w (w.alloc (.cells #[.int .i64 most] 3)) := (Below.refl _ _).alloc (Nat.le_refl _) _
  have hx' : Reads (w.alloc (.cells #[.int .i64 most] 3)) (w.alloc (.cells #[.int .i64 most] 3)).heap.size 1 A n (xs.map (Value.int .i64)) := (hx.below hb0).more (by simp)
  have ht : Tells (w.alloc (.cells #[.int .i64 most] 3)) 86 #[.pointer (some ⟨w.heap.size, 0, none⟩)] (fun i => #[.int .i64 (xs.getD i 0)]) (fun i => !Rp.inr (xs.getD i 0) 0 most) n := by
    refine ⟨enters86, fun i _ w1 hb => (heard1_any _ most w.heap.size w1 ?_).mono fun e w2 ⟨h1, h2⟩ => ⟨h1, h2 ▸ Below.refl _ _⟩⟩
    rw [hb.cell (p := ⟨w.heap.size, 0, none⟩) (by simp)]
    simp
  have HC := Lib.hid (containsInt _ A n c xs 86 _ _ hx' hn ht)
  clear hx ht hx'
  have HB := Lib.hid hb0
  clear hb0
  by_cases hm : (n : Int) = many
  · have hm' : ((n : Int) == many) = true := by simpa using hm
    have HM := Lib.hid hm
    clear hm
    go_enter Tryz.func55, Tryz.ntmps55
    go_wp2_with (go_at_call 85; refine HC.out.mono ?_; rintro e w' ⟨rfl, hb⟩)
    go_ret
    exact ⟨ret_bool (by rw [HP.out]; simp [HM.out]), HB.out.trans (hb.mono (by simp))⟩
  · have hm' : ((n : Int) == many) = false := by simpa using hm
    have HM := Lib.hid hm
    clear hm
    go_enter Tryz.func55, Tryz.ntmps55
    go_wp2
    go_ret
    exact ⟨ret_bool (by rw [HP.out]; simp [HM.out]), HB.out⟩
end Go.Proofs.YtnehgpeelgjjhaaGreatDoor.Tw
namespace Go.Proofs.YtnehgpeelgjjhaaGreatDoor.Tw
open Go.RowKit

theorem cmp3_before (p q : Rp.Post) : Rp.before p q = decide (cmp3 p.epoch p.origin p.number q.epoch q.origin q.number < 0) := by
  rw [Bool.eq_iff_iff, decide_eq_true_eq, Rp.before_iff]
  unfold cmp3 or3 cmpI
  split <;> split <;> (try split) <;> (try split) <;> omega

theorem drop_at {l : List Rp.Post} {j : Nat} {q : Rp.Post} (h : l[j]? = some q) : l.drop j = q :: l.drop (j + 1) ∧ l.take (j + 1) = l.take j ++ [q] := by
  obtain ⟨hlt, rfl⟩ := List.getElem?_eq_some_iff.1 h
  exact ⟨List.drop_eq_getElem_cons hlt, by rw [List.take_succ_eq_append_getElem hlt]⟩

theorem logGo_at {many : Int} {l : List Rp.Post} {j : Nat} {q : Rp.Post} (h : l[j]? = some q) :
    Rp.logGo many (l.take j) (l.drop j) = (Rp.stepOk many (l.take j) q && Rp.logGo many (l.take (j + 1)) (l.drop (j + 1))) := by
  obtain ⟨h1, h2⟩ := drop_at h
  rw [h1, h2]; rfl

theorem linked_at {l : List Rp.Post} {j : Nat} {p q : Rp.Post} (hp : l[j - 1]? = some p) (hj : 0 < j) : Rp.linked (l.take j) q = Rp.before p q := by
  obtain ⟨j, rfl⟩ : ∃ i, j = i + 1 := ⟨j - 1, by omega⟩
  simp at hp
  rw [(drop_at hp).2]
  simp [Rp.linked]

def C (l : List Rp.Post) (j : Nat) (o : Nat) : Int := Rp.count (l.take j) o
def L (l : List Rp.Post) (j : Nat) (o : Nat) : Int := Rp.lastE (l.take j) o
theorem C_succ {l : List Rp.Post} {j : Nat} {q : Rp.Post} (h : l[j]? = some q) (o : Nat) : C l (j + 1) o = C l j o + if q.origin = o then 1 else 0 := by
  unfold C; rw [(drop_at h).2, Rp.count_snoc]
theorem L_succ {l : List Rp.Post} {j : Nat} {q : Rp.Post} (h : l[j]? = some q) (o : Nat) : L l (j + 1) o = if q.origin = o then q.epoch else L l j o := by
  unfold L; rw [(drop_at h).2, Rp.lastE_snoc]
theorem C_le (l : List Rp.Post) (j o : Nat) : 0 ≤ C l j o ∧ C l j o ≤ j := by
  unfold C Rp.count
  have h1 : (Rp.own (l.take j) o).length ≤ (l.take j).length := List.length_filter_le _ _
  have h2 : (l.take j).length ≤ j := List.length_take_le _ _
  omega

set_option maxRecDepth 100000 in
set_option maxHeartbeats 1600000 in
theorem isLog_any (w : World) (A : Option Addr) (n c : Nat) (l : List Rp.Post) (many : Int)
    (hx : Reads w w.heap.size 4 A n (encPs l)) (hl : l.length = n) (hm1 : 1 ≤ many) (hm5 : many ≤ 5) (hn : n ≤ 16777216) :
    Calls Tryz.prog 56 #[.slice A n c, .int .i64 many] w fun e w' => e = .returned (.bool (Rp.isLog l many)) ∧ Below w.heap.size w w' := by
  have HX := Lib.hid hx
  clear hx
  have HL := Lib.hid hl
  clear hl
  by_cases h200 : 200 < n
  · have hr : Rp.isLog l many = false := by unfold Rp.isLog; rw [HL.out]; simp; omega
    have HR := Lib.hid hr
    clear hr
    go_enter Tryz.func56, Tryz.ntmps56
    go_wp2
    go_ret
    exact ⟨ret_bool HR.out.symm, Below.refl _ _⟩
  · have hr : Rp.isLog l many = Rp.logGo many [] l := by unfold Rp.isLog; rw [HL.out]; simp; omega
    have HR := Lib.hid hr
    clear hr
    go_enter Tryz.func56, Tryz.ntmps56
    go_wp2
    go_loopw [7, 8, 16] (fun _ _ k wr => ∃ j : Nat, j ≤ n ∧ k = .int .i64 j ∧ Hid (Rp.isLog l many = Rp.logGo many (l.take j) (l.drop j)) ∧ Below w.heap.size w wr ∧
        Blk wr w.heap.size 88 (Row5 (C l j)) ∧ Blk wr (w.heap.size + 1) 88 (Row5 (L l j))) (fun _ _ k _ => n - (intOf k).toNat)
    case atStart =>
      refine ⟨0, by omega, rfl, HR, (((Below.refl _ _).alloc (Nat.le_refl _) _).alloc (by simp) _), ?_, ?_⟩
      · exact (Blk.new w _ _).alloc _
      · have hbn := Blk.new (w.alloc (.cells #[.int .i64 0, .int .i64 0, .int .i64 0, .int .i64 0, .int .i64 0] 88)) 88 #[.int .i64 0, .int .i64 0, .int .i64 0, .int .i64 0, .int .i64 0]
        simp only [World.size_alloc] at hbn
        exact hbn
    case round =>
      obtain ⟨j, hj, rfl, hf, hb, hC, hL⟩ := hrel
      by_cases hlt : j < n
      · obtain ⟨b, off, q, rfl, hbl, hq, h0, h1, h2, h3⟩ := HX.out.post HL.out hlt
        rw [← hb.cell (p := ⟨b, _, none⟩) hbl] at h0 h1 h2 h3
        have hgo := logGo_at (many := many) hq
        rw [← hf.out] at hgo
        have HG := Lib.hid hgo
        clear hgo hf HR
        have HQ := Lib.hid hq
        clear hq
        have hbs := hb.size
        have hcs := hC.lt
        have hls := hL.lt
        by_cases e1 : Rp.inr q.epoch 1 1000000 = true
        · by_cases e2 : Rp.inr q.origin 0 (many - 1) = true
          · by_cases e3 : (20000 : Int) < (q.text.size : Int)
            · go_wp2_with (go_at_call 54; refine (inr_any _ _ _ _).mono ?_; rintro e w' ⟨rfl, rfl⟩)
              go_ret
              refine ⟨ret_bool ?_, hb.alloc hbs _⟩
              rw [HG.out]
              have : decide (q.text.size ≤ 20000) = false := by simp; omega
              simp [Rp.stepOk, Rp.formed, this]
            · obtain ⟨ep, og, nu, tx⟩ := q
              simp only at h0 h1 h2 h3 e1 e2 e3
              have e2b := Rp.inr_iff.1 e2
              obtain ⟨k, rfl⟩ : ∃ k : Nat, og = k := ⟨og.toNat, by omega⟩
              have hk5 : k < 5 := by omega
              have hCk : wr.cell? ⟨w.heap.size, k, none⟩ = some (.int .i64 (C l j k)) := (hC.cell k).trans (Row5.get hk5)
              have hLk : wr.cell? ⟨w.heap.size + 1, k, none⟩ = some (.int .i64 (L l j k)) := (hL.cell k).trans (Row5.get hk5)
              have hne : Rp.isLog l many = ((Rp.linked (l.take j) ⟨ep, k, nu, tx⟩ && (decide (nu = C l j k) && decide (L l j k < ep))) && Rp.logGo many (l.take (j + 1)) (l.drop (j + 1))) := by
                rw [HG.out]
                have : decide (tx.size ≤ 20000) = true := by simp; omega
                unfold Rp.stepOk Rp.formed
                simp only [e1, e2, this, Bool.true_and, Bool.and_true]
                rfl
              have HN := Lib.hid hne
              clear hne HG
              obtain ⟨W0, hW0⟩ : ∃ W0, W0 = wr.alloc (.cells #[.int .i64 ep, .int .i64 k, .int .i64 nu, .string tx] 57) := ⟨_, rfl⟩
              have hs0 : W0.heap.size = wr.heap.size + 1 := by rw [hW0]; simp
              have hbW : Below w.heap.size w W0 := by rw [hW0]; exact hb.alloc hbs _
              have hCW : Blk W0 w.heap.size 88 (Row5 (C l j)) := by rw [hW0]; exact hC.alloc _
              have hLW : Blk W0 (w.heap.size + 1) 88 (Row5 (L l j)) := by rw [hW0]; exact hL.alloc _
              have hBW : Blk W0 wr.heap.size 57 #[.int .i64 ep, .int .i64 k, .int .i64 nu, .string tx] := by rw [hW0]; exact Blk.new _ _ _
              have kB0 := Later.of (hBW.cell 0)
              have kB1 := Later.of (hBW.cell 1)
              have kB2 := Later.of (hBW.cell 2)
              have kB3 := Later.of (hBW.cell 3)
              have kC := Later.of ((hCW.cell k).trans (Row5.get hk5))
              have kL := Later.of ((hLW.cell k).trans (Row5.get hk5))
              have HW0 := Lib.hid hW0
              by_cases hj0 : j = 0
              · have hlk : Rp.linked (l.take j) ⟨ep, k, nu, tx⟩ = true := by subst hj0; rfl
                have HK := Lib.hid hlk
                clear hlk
                have hjn : decide (0 < j) = false := by simp; omega
                clear hj0
                by_cases g1 : nu = C l j k
                · have g1' : (nu != C l j k) = false := by simpa using g1
                  have G1 := Lib.hid g1
                  clear g1
                  by_cases g2 : ep ≤ L l j k
                  · have g2' : decide (ep ≤ L l j k) = true := by simpa using g2
                    have hx2 : ¬ L l j k < ep := by omega
                    have G2 := Lib.hid hx2
                    clear hx2 g2
                    go_wp2_with (go_at_call 54; refine (inr_any _ _ _ _).mono ?_; rintro e w' ⟨rfl, rfl⟩)
                    rw [← HW0.out]
                    refine wp_region_later (by kernel_rfl) (by kernel_rfl) ?_
                    repeat (go_big_quiet_step (fail))
                    refine wpQuiet_nil ?_
                    rintro W1 ⟨⟨_, hW1⟩, rfl⟩
                    clear kB0 kB1 kB2 kB3 kC kL
                    go_wp2
                    go_ret
                    exact ⟨ret_bool (by rw [HN.out, HK.out, decide_eq_false (show ¬ _ < ep from by have := G2.out; omega)]; simp), hbW.trans (hW1.mono hbW.size)⟩
                  · have g2' : decide (ep ≤ L l j k) = false := by simpa using g2
                    have hx2 : L l j k < ep := by omega
                    have G2 := Lib.hid hx2
                    clear hx2 g2
                    go_wp2_with (go_at_call 54; refine (inr_any _ _ _ _).mono ?_; rintro e w' ⟨rfl, rfl⟩)
                    rw [← HW0.out]
                    refine wp_region_later (by kernel_rfl) (by kernel_rfl) ?_
                    repeat (go_big_quiet_step (fail))
                    refine wpQuiet_nil ?_
                    rintro W1 ⟨⟨_, hW1⟩, rfl⟩
                    have B1 := kB1 ⟨W1, hW1⟩
                    have B0 := kB0 ⟨W1, hW1⟩
                    simp only at B0 B1
                    clear kB0 kB1 kB2 kB3 kC kL
                    have hC1 := hCW.below hW1 hCW.lt
                    have hL1 := hLW.below hW1 hLW.lt
                    have hsz := hW1.size
                    have c1 := (hC1.cell k).trans (Row5.get hk5)
                    have l1 := (hL1.cell k).trans (Row5.get hk5)
                    have f1 := hC1.frozen k
                    have f2 := hL1.frozen k
                    obtain ⟨cb0, cb1⟩ := C_le l j k
                    go_wp2
                    go_roundw
                    case rel =>
                      refine ⟨j + 1, by omega, by go_num, ?_, ?_, ?_, ?_⟩
                      · unfold Hid; rw [HN.out, HK.out, ← G1.out]; simp [G2.out]
                      · exact ((hbW.trans (hW1.mono hbW.size)).setCell (p := ⟨w.heap.size, k, none⟩) (Nat.le_refl _) _).setCell (p := ⟨w.heap.size + 1, k, none⟩) (by simp) _
                      · have h := (hC1.set_ k (.int .i64 (C l j k + 1))).far (p := ⟨w.heap.size + 1, k, none⟩) (by simp) (.int .i64 ep)
                        rw [Row5.set (g := C l (j + 1)) hk5 (by rw [C_succ HQ.out]; simp) (fun o _ ho => by rw [C_succ HQ.out]; simp; omega)] at h
                        exact h
                      · have h := ((hL1.far (p := ⟨w.heap.size, k, none⟩) (by simp) (.int .i64 (C l j k + 1)))).set_ k (.int .i64 ep)
                        rw [Row5.set (g := L l (j + 1)) hk5 (by rw [L_succ HQ.out]; simp) (fun o _ ho => by rw [L_succ HQ.out]; simp; omega)] at h
                        exact h
                    case measure => simp [intOf]; omega
                · have g1' : (nu != C l j k) = true := by simpa using g1
                  have G1 := Lib.hid g1
                  clear g1
                  go_wp2_with (go_at_call 54; refine (inr_any _ _ _ _).mono ?_; rintro e w' ⟨rfl, rfl⟩)
                  rw [← HW0.out]
                  refine wp_region_later (by kernel_rfl) (by kernel_rfl) ?_
                  repeat (go_big_quiet_step (fail))
                  refine wpQuiet_nil ?_
                  rintro W1 ⟨⟨_, hW1⟩, rfl⟩
                  clear kB0 kB1 kB2 kB3 kC kL
                  go_wp2
                  go_ret
                  exact ⟨ret_bool (by rw [HN.out, HK.out]; simp [G1.out]), hbW.trans (hW1.mono hbW.size)⟩
              · have hjn : decide (0 < j) = true := by simp; omega
                obtain ⟨b', off', q', hbo, hbl', hq', c0, c1, c2, c3⟩ := HX.out.post HL.out (show j - 1 < n by omega)
                obtain ⟨rfl, rfl⟩ : b = b' ∧ off = off' := by simpa using hbo
                clear hbo
                have hlk := linked_at (q := ⟨ep, k, nu, tx⟩) hq' (show 0 < j by omega)
                rw [cmp3_before] at hlk
                simp only at hlk
                rw [← hbW.cell (p := ⟨b, _, none⟩) hbl] at c0 c1 c2 c3
                obtain ⟨i, rfl⟩ : ∃ i, j = i + 1 := ⟨j - 1, by omega⟩
                simp only [Nat.add_sub_cancel] at c0 c1 c2 c3
                have k0 := Later.of c0
                have k1 := Later.of c1
                have k2 := Later.of c2
                have k3 := Later.of c3
                clear c0 c1 c2 c3 hq'
                by_cases g0 : cmp3 q'.epoch q'.origin q'.number ep k nu < 0
                · have g0' : decide (0 ≤ cmp3 q'.epoch q'.origin q'.number ep k nu) = false := by simp; omega
                  have hlk2 : Rp.linked (l.take (i + 1)) ⟨ep, k, nu, tx⟩ = true := by rw [hlk]; simpa using g0
                  have HK := Lib.hid hlk2
                  clear hlk hlk2 g0
                  by_cases g1 : nu = C l (i + 1) k
                  · have g1' : (nu != C l (i + 1) k) = false := by simpa using g1
                    have G1 := Lib.hid g1
                    clear g1
                    by_cases g2 : ep ≤ L l (i + 1) k
                    · have g2' : decide (ep ≤ L l (i + 1) k) = true := by simpa using g2
                      have hx2 : ¬ L l (i + 1) k < ep := by omega
                      have G2 := Lib.hid hx2
                      clear hx2 g2
                      go_wp2_with (go_at_call 54; refine (inr_any _ _ _ _).mono ?_; rintro e w' ⟨rfl, rfl⟩)
                      rw [← HW0.out]
                      refine wp_region_later (by kernel_rfl) (by kernel_rfl) ?_
                      repeat (go_big_quiet_step ((go_at_call 64; exact later_of (postCompare_any _ _ _ _ _ _ _ _ _))))
                      refine wpQuiet_nil ?_
                      rintro W1 ⟨⟨_, hW1⟩, rfl⟩
                      clear kB0 kB1 kB2 kB3 kC kL k0 k1 k2 k3
                      go_wp2
                      go_ret
                      exact ⟨ret_bool (by rw [HN.out, HK.out, decide_eq_false (show ¬ _ < ep from by have := G2.out; omega)]; simp), hbW.trans (hW1.mono hbW.size)⟩
                    · have g2' : decide (ep ≤ L l (i + 1) k) = false := by simpa using g2
                      have hx2 : L l (i + 1) k < ep := by omega
                      have G2 := Lib.hid hx2
                      clear hx2 g2
                      go_wp2_with (go_at_call 54; refine (inr_any _ _ _ _).mono ?_; rintro e w' ⟨rfl, rfl⟩)
                      rw [← HW0.out]
                      refine wp_region_later (by kernel_rfl) (by kernel_rfl) ?_
                      repeat (go_big_quiet_step ((go_at_call 64; exact later_of (postCompare_any _ _ _ _ _ _ _ _ _))))
                      refine wpQuiet_nil ?_
                      rintro W1 ⟨⟨_, hW1⟩, rfl⟩
                      have B1 := kB1 ⟨W1, hW1⟩
                      have B0 := kB0 ⟨W1, hW1⟩
                      simp only at B0 B1
                      clear kB0 kB1 kB2 kB3 kC kL k0 k1 k2 k3
                      have hC1 := hCW.below hW1 hCW.lt
                      have hL1 := hLW.below hW1 hLW.lt
                      have hsz := hW1.size
                      have c1 := (hC1.cell k).trans (Row5.get hk5)
                      have l1 := (hL1.cell k).trans (Row5.get hk5)
                      have f1 := hC1.frozen k
                      have f2 := hL1.frozen k
                      obtain ⟨cb0, cb1⟩ := C_le l (i + 1) k
                      go_wp2
                      go_roundw
                      case rel =>
                        refine ⟨(i + 1) + 1, by omega, by go_num, ?_, ?_, ?_, ?_⟩
                        · unfold Hid; rw [HN.out, HK.out, ← G1.out]; simp [G2.out]
                        · exact ((hbW.trans (hW1.mono hbW.size)).setCell (p := ⟨w.heap.size, k, none⟩) (Nat.le_refl _) _).setCell (p := ⟨w.heap.size + 1, k, none⟩) (by simp) _
                        · have h := (hC1.set_ k (.int .i64 (C l (i + 1) k + 1))).far (p := ⟨w.heap.size + 1, k, none⟩) (by simp) (.int .i64 ep)
                          rw [Row5.set (g := C l ((i + 1) + 1)) hk5 (by rw [C_succ HQ.out]; simp) (fun o _ ho => by rw [C_succ HQ.out]; simp; omega)] at h
                          exact h
                        · have h := ((hL1.far (p := ⟨w.heap.size, k, none⟩) (by simp) (.int .i64 (C l (i + 1) k + 1)))).set_ k (.int .i64 ep)
                          rw [Row5.set (g := L l ((i + 1) + 1)) hk5 (by rw [L_succ HQ.out]; simp) (fun o _ ho => by rw [L_succ HQ.out]; simp; omega)] at h
                          exact h
                      case measure => simp [intOf]; omega
                  · have g1' : (nu != C l (i + 1) k) = true := by simpa using g1
                    have G1 := Lib.hid g1
                    clear g1
                    go_wp2_with (go_at_call 54; refine (inr_any _ _ _ _).mono ?_; rintro e w' ⟨rfl, rfl⟩)
                    rw [← HW0.out]
                    refine wp_region_later (by kernel_rfl) (by kernel_rfl) ?_
                    repeat (go_big_quiet_step ((go_at_call 64; exact later_of (postCompare_any _ _ _ _ _ _ _ _ _))))
                    refine wpQuiet_nil ?_
                    rintro W1 ⟨⟨_, hW1⟩, rfl⟩
                    clear kB0 kB1 kB2 kB3 kC kL k0 k1 k2 k3
                    go_wp2
                    go_ret
                    exact ⟨ret_bool (by rw [HN.out, HK.out]; simp [G1.out]), hbW.trans (hW1.mono hbW.size)⟩
                · have g0' : decide (0 ≤ cmp3 q'.epoch q'.origin q'.number ep k nu) = true := by simp; omega
                  have hlk2 : Rp.linked (l.take (i + 1)) ⟨ep, k, nu, tx⟩ = false := by rw [hlk]; simpa using g0
                  have HK := Lib.hid hlk2
                  clear hlk hlk2 g0
                  go_wp2_with (go_at_call 54; refine (inr_any _ _ _ _).mono ?_; rintro e w' ⟨rfl, rfl⟩)
                  rw [← HW0.out]
                  refine wp_region_later (by kernel_rfl) (by kernel_rfl) ?_
                  repeat (go_big_quiet_step ((go_at_call 64; exact later_of (postCompare_any _ _ _ _ _ _ _ _ _))))
                  refine wpQuiet_nil ?_
                  rintro W1 ⟨⟨_, hW1⟩, rfl⟩
                  clear kB0 kB1 kB2 kB3 kC kL k0 k1 k2 k3
                  go_wp2
                  go_ret
                  exact ⟨ret_bool (by rw [HN.out, HK.out]; simp), hbW.trans (hW1.mono hbW.size)⟩
          · have e2' : Rp.inr q.origin 0 (many - 1) = false := by simpa using e2
            clear e2
            go_wp2_with (go_at_call 54; refine (inr_any _ _ _ _).mono ?_; rintro e w' ⟨rfl, rfl⟩)
            go_ret
            refine ⟨ret_bool ?_, hb.alloc hbs _⟩
            rw [HG.out]; simp [Rp.stepOk, Rp.formed, e2']
        · have e1' : Rp.inr q.epoch 1 1000000 = false := by simpa using e1
          clear e1
          go_wp2_with (go_at_call 54; refine (inr_any _ _ _ _).mono ?_; rintro e w' ⟨rfl, rfl⟩)
          go_ret
          refine ⟨ret_bool ?_, hb.alloc hbs _⟩
          rw [HG.out]; simp [Rp.stepOk, Rp.formed, e1']
      · have h1 : l.drop j = [] := List.drop_eq_nil_iff.2 (by rw [HL.out]; omega)
        go_wp2
        go_ret
        exact ⟨ret_bool (by rw [hf.out, h1]; rfl), hb⟩
end Go.Proofs.YtnehgpeelgjjhaaGreatDoor.Tw
namespace Go.Proofs.YtnehgpeelgjjhaaGreatDoor.Tw
open Go.RowKit

theorem valid1_any (p : Rp.Post) (b : Nat) (clock : Int) (w : World) (hc : w.cell? ⟨b, 2, none⟩ = some (.int .i64 clock)) :
    Calls Tryz.prog 58 #[aggP p, .pointer (some ⟨b, 0, none⟩)] w fun e w' => e = .returned (.bool (decide (clock < p.epoch))) ∧ Below w.heap.size w w' := by
  unfold aggP
  have hlt := lt_of_cell hc
  go_enter Tryz.func58, Tryz.ntmps58
  go_wp2
  go_ret
  exact ⟨rfl, (Below.refl _ _).alloc (Nat.le_refl _) _⟩

/-- the value of a replica -/
def repV (r : Rp.Rep) (A : Option Addr) (n c : Nat) (A' : Option Addr) (n' c' : Nat) : Value :=
  .agg #[.int .i64 r.me, .int .i64 r.many, .int .i64 r.clock, .slice A n c, .slice A' n' c']
def repB (r : Rp.Rep) (A : Option Addr) (n c : Nat) (A' : Option Addr) (n' c' : Nat) : Obj :=
  .cells #[.int .i64 r.me, .int .i64 r.many, .int .i64 r.clock, .slice A n c, .slice A' n' c'] 26

/-- what a replica's two slices read as -/
structure RepR (w : World) (B : Nat) (r : Rp.Rep) (A : Option Addr) (n : Nat) (A' : Option Addr) (n' : Nat) : Prop where
  posts : Reads w B 4 A n (encPs r.posts)
  len : r.posts.length = n
  heard : Reads w B 1 A' n' (r.heard.map (Value.int .i64))
  len' : r.heard.length = n'
  few : n ≤ 16777216
  few' : n' ≤ 16777216

theorem RepR.below {w w' : World} {B : Nat} {r : Rp.Rep} {A A' : Option Addr} {n n' : Nat} (h : RepR w B r A n A' n') (hb : Below B w w') : RepR w' B r A n A' n' :=
  ⟨h.posts.below hb, h.len, h.heard.below hb, h.len', h.few, h.few'⟩
theorem RepR.more {w : World} {B B' : Nat} {r : Rp.Rep} {A A' : Option Addr} {n n' : Nat} (h : RepR w B r A n A' n') (hB : B ≤ B') : RepR w B' r A n A' n' :=
  ⟨h.posts.more hB, h.len, h.heard.more hB, h.len', h.few, h.few'⟩

theorem any_not_all {l : List Rp.Post} {c : Int} : (l.any fun p => decide (c < p.epoch)) = !(l.all fun p => decide (p.epoch ≤ c)) := by
  rw [List.not_all_eq_any_not]
  congr 1
  funext p
  by_cases h : c < p.epoch
  · have : ¬ p.epoch ≤ c := by omega
    simp [h, this]
  · have : p.epoch ≤ c := by omega
    simp [h, this]

set_option maxRecDepth 100000 in
set_option maxHeartbeats 1600000 in
theorem valid_any (w : World) (r : Rp.Rep) (A : Option Addr) (n c : Nat) (A' : Option Addr) (n' c' : Nat) (h : RepR w w.heap.size r A n A' n') :
    Calls Tryz.prog 22 #[repV r A n c A' n' c'] w fun e w' => e = .returned (.bool (Rp.valid r)) ∧ Below w.heap.size w w' := by
  have hmf := run_mf
  obtain ⟨me, many, clock, posts, heard⟩ := r
  unfold repV
  simp only
  obtain ⟨W0, hW0⟩ : ∃ W0, W0 = w.alloc (.cells #[.int .i64 me, .int .i64 many, .int .i64 clock, .slice A n c, .slice A' n' c'] 26) := ⟨_, rfl⟩
  have hs0 : W0.heap.size = w.heap.size + 1 := by rw [hW0]; simp
  have hbW : Below w.heap.size w W0 := by rw [hW0]; exact (Below.refl _ _).alloc (Nat.le_refl _) _
  have hBW : Blk W0 w.heap.size 26 #[.int .i64 me, .int .i64 many, .int .i64 clock, .slice A n c, .slice A' n' c'] := by rw [hW0]; exact Blk.new _ _ _
  have hR := h.below hbW
  have hR0 := hR.more (show w.heap.size ≤ W0.heap.size by omega)
  have H55 := Lib.hid (isHeard_any W0 A' n' c' heard many clock hR0.heard h.few')
  have L56 : ∀ w1, Below W0.heap.size W0 w1 → 1 ≤ many → many ≤ 5 → Calls Tryz.prog 56 #[.slice A n c, .int .i64 many] w1 fun e w' => e = .returned (.bool (Rp.isLog posts many)) ∧ Below w1.heap.size w1 w' :=
    fun w1 hb h1 h5 => isLog_any w1 A n c posts many ((hR0.posts.below hb).more hb.size) h.len h1 h5 h.few
  have L57 : ∀ w1, Below W0.heap.size W0 w1 → Calls Tryz.prog 57 #[.slice A n c, .func (.func 58) #[] #[.pointer (some ⟨w.heap.size, 0, none⟩)]] w1 fun e w' => e = .returned (.bool (!posts.all fun p => decide (p.epoch ≤ clock))) ∧ Below w1.heap.size w1 w' := by
    intro w1 hb
    have ht : Tells w1 58 #[.pointer (some ⟨w.heap.size, 0, none⟩)] (fun i => #[aggP (posts.getD i default)]) (fun i => decide (clock < (posts.getD i default).epoch)) n :=
      ⟨enters58, fun i _ w2 hb2 => valid1_any _ _ _ w2 (by
        rw [hb2.cell (p := ⟨w.heap.size, 2, none⟩) (by have := hb.size; simp; omega), hb.cell (p := ⟨w.heap.size, 2, none⟩) (by simp; omega), hBW.cell 2]; rfl)⟩
    refine (containsPost w1 A n c posts 58 _ _ ((hR0.posts.below hb).more hb.size) h.len h.few ht).mono fun e w2 ⟨he, hb2⟩ => ⟨?_, hb2⟩
    rw [he, ← h.len, anyB_list posts default (fun p => decide (clock < p.epoch)), any_not_all]
  have H56 := Lib.hid L56
  have H57 := Lib.hid L57
  clear L56 L57
  have HW0 := Lib.hid hW0
  have HB := Lib.hid hbW
  have hv : Rp.valid ⟨me, many, clock, posts, heard⟩ = (Rp.inr many 1 5 && (Rp.inr me 0 (many - 1) && (Rp.inr clock 0 1000000 && (Rp.isHeard heard many clock && (Rp.isLog posts many && posts.all fun p => decide (p.epoch ≤ clock)))))) := rfl
  have HV := Lib.hid hv
  clear hv hbW hR hR0 h hBW
  by_cases e1 : Rp.inr many 1 5 = true
  · have b1 := Rp.inr_iff.1 e1
    by_cases e2 : Rp.inr me 0 (many - 1) = true
    · by_cases e3 : Rp.inr clock 0 1000000 = true
      · cases e4 : Rp.isHeard heard many clock
        · clear hs0
          subst hW0
          go_enter Tryz.func22, Tryz.ntmps22
          go_wp2_with (first | (go_at_call 54; refine (inr_any _ _ _ _).mono ?_; rintro e w' ⟨rfl, rfl⟩) | (go_at_call 55; refine H55.out.mono ?_; rintro e w1 ⟨rfl, hb1⟩))
          go_ret
          refine ⟨ret_bool ?_, HB.out.trans (hb1.mono HB.out.size)⟩
          rw [HV.out, e1, e2, e3, e4]; rfl
        · cases e5 : Rp.isLog posts many
          · clear hs0
            subst hW0
            go_enter Tryz.func22, Tryz.ntmps22
            go_wp2_with (first | (go_at_call 54; refine (inr_any _ _ _ _).mono ?_; rintro e w' ⟨rfl, rfl⟩) | (go_at_call 55; refine H55.out.mono ?_; rintro e w1 ⟨rfl, hb1⟩; have k2 := (hb1.cell (p := ⟨w.heap.size, 3, none⟩) (by simp)); have k3 := (hb1.cell (p := ⟨w.heap.size, 1, none⟩) (by simp))) |
              (go_at_call 56; refine (H56.out _ hb1 (by omega) (by omega)).mono ?_; rintro e w2 ⟨rfl, hb2⟩))
            go_ret
            refine ⟨ret_bool ?_, HB.out.trans ((hb1.trans (hb2.mono hb1.size)).mono HB.out.size)⟩
            rw [HV.out, e1, e2, e3, e4, e5]; rfl
          · clear hs0
            subst hW0
            go_enter Tryz.func22, Tryz.ntmps22
            go_wp2_with (first | (go_at_call 54; refine (inr_any _ _ _ _).mono ?_; rintro e w' ⟨rfl, rfl⟩) | (go_at_call 55; refine H55.out.mono ?_; rintro e w1 ⟨rfl, hb1⟩; have k2 := (hb1.cell (p := ⟨w.heap.size, 3, none⟩) (by simp)); have k3 := (hb1.cell (p := ⟨w.heap.size, 1, none⟩) (by simp))) |
              (go_at_call 56; refine (H56.out _ hb1 (by omega) (by omega)).mono ?_; rintro e w2 ⟨rfl, hb2⟩; have hb3 := hb1.trans (hb2.mono hb1.size); have j2 := (hb3.cell (p := ⟨w.heap.size, 3, none⟩) (by simp))) |
              (go_at_call 57; refine (H57.out _ hb3).mono ?_; rintro e w3 ⟨rfl, hb4⟩))
            go_ret
            refine ⟨ret_bool ?_, HB.out.trans ((hb3.trans (hb4.mono hb3.size)).mono HB.out.size)⟩
            rw [HV.out, e1, e2, e3, e4, e5]; simp
      · have e3' : Rp.inr clock 0 1000000 = false := by simpa using e3
        clear e3 hs0
        go_enter Tryz.func22, Tryz.ntmps22
        go_wp2_with (go_at_call 54; refine (inr_any _ _ _ _).mono ?_; rintro e w' ⟨rfl, rfl⟩)
        go_ret
        refine ⟨ret_bool ?_, by rw [← HW0.out]; exact HB.out⟩
        rw [HV.out, e1, e2, e3']; rfl
    · have e2' : Rp.inr me 0 (many - 1) = false := by simpa using e2
      clear e2 hs0
      go_enter Tryz.func22, Tryz.ntmps22
      go_wp2_with (go_at_call 54; refine (inr_any _ _ _ _).mono ?_; rintro e w' ⟨rfl, rfl⟩)
      go_ret
      refine ⟨ret_bool ?_, by rw [← HW0.out]; exact HB.out⟩
      rw [HV.out, e1, e2']; rfl
  · have e1' : Rp.inr many 1 5 = false := by simpa using e1
    clear e1 hs0
    go_enter Tryz.func22, Tryz.ntmps22
    go_wp2_with (go_at_call 54; refine (inr_any _ _ _ _).mono ?_; rintro e w' ⟨rfl, rfl⟩)
    go_ret
    refine ⟨ret_bool ?_, by rw [← HW0.out]; exact HB.out⟩
    rw [HV.out, e1']; rfl
end Go.Proofs.YtnehgpeelgjjhaaGreatDoor.Tw
namespace Go.Proofs.YtnehgpeelgjjhaaGreatDoor.Tw
open Go.RowKit
section
variable {P : Program} (w : World)

theorem run_append_of_nil (base : Nat) (t ty e : TypeId) (i : TypeInfo) (size : Nat) (ht : P.underlying t = some (.slice e)) (hi : P.info? e = some i)
    (v : Value) (n : Nat) (xs : List Value) (hown : w.ownsRow base e size v n xs) (c : Nat) : (Builtin.append_ #[t, t] ty #[v, .slice none 0 c]).run P w = .ok v w := by
  rcases hown.2 with ⟨rfl, rfl⟩ | ⟨g, cap, cur, rfl, _, _, hnc, _⟩
  · simp [Builtin.append_, run_underlying ht, sizeOf, typeInfo, hi, Builtin.lenOf, Builtin.firstCells]
  · simp [Builtin.append_, run_underlying ht, sizeOf, typeInfo, hi, Builtin.lenOf, Builtin.firstCells, hnc, storeCells]

theorem run_append_any (base : Nat) (t ty e : TypeId) (i : TypeInfo) (z : Value) (size bytes : Nat) (ht : P.underlying t = some (.slice e)) (hi : P.info? e = some i) (hz : i.zero = some z)
    (hsize : i.size = size) (hby : i.bytes = bytes) (hzs : z.cells.size = size) (hsz : 0 < size)
    (v : Value) (n : Nat) (xs : List Value) (hown : w.ownsRow base e size v n xs)
    (B : Nat) (A : Option Addr) (m c : Nat) (news : List Value) (hr : Reads w B size A m news) (h1 : ∀ u ∈ news, u.oneCell' = true)
    (h63 : n + m ≤ maxLen) (hbytes : (n + m) * bytes ≤ 140737488355328) (hbase : base ≤ w.heap.size) :
    ∃ v' w', (Builtin.append_ #[t, t] ty #[v, .slice A m c]).run P w = .ok v' w' ∧ w'.ownsRow base e size v' (n + m) (xs ++ news) ∧ w.grownBy w' v.ownBlock ∧
      (v'.ownBlock = v.ownBlock ∨ v'.ownBlock = some w.heap.size) := by
  rcases A with _ | ad
  · have hm : m = 0 := by
      rcases Nat.eq_zero_or_pos m with h0 | h0
      · exact h0
      · obtain ⟨_, _, h, _⟩ := hr.2 h0
        cases h
    subst hm
    have hn : news = [] := List.eq_nil_of_length_eq_zero (by simpa using hr.1)
    subst hn
    exact ⟨v, w, run_append_of_nil w base t ty e i size ht hi v n xs hown c, by simpa using hown, World.grownBy.refl w _, .inl rfl⟩
  · have hcells : ∀ j u, news[j]? = some u → w.cell? (ad.add j) = some u := by
      intro j u hu
      rcases Nat.eq_zero_or_pos m with h0 | h0
      · subst h0
        have hn : news = [] := List.eq_nil_of_length_eq_zero (by simpa using hr.1)
        subst hn
        simp at hu
      · obtain ⟨b, off, h, _, hc⟩ := hr.2 h0
        injection h with h
        subst h
        rw [show (⟨b, off, none⟩ : Addr).add j = ⟨b, off + j, none⟩ by unfold Addr.add; split <;> simp_all]
        exact hc j u hu
    obtain ⟨v', w', hrun, h2, h3, _, h5⟩ := run_append_own_at (P := P) w base t ty e i z size bytes ht hi hz hsize hby hzs hsz v n xs hown ad m c news hr.1 hcells h1 h63 hbytes hbase
    exact ⟨v', w', hrun, h2, h3, h5⟩

theorem wp_append_any {o : Oper} {a : Act} {K : Act → World → Prop} {Q : Exit → Act → World → Prop} (s x : Operand) (t : TypeId)
    (ho : o.op = .call { callee := .builtin .append, args := #[s, x], argTypes := #[t, t] })
    (base : Nat) (e : TypeId) (i : TypeInfo) (z : Value) (size bytes : Nat) (ht : P.underlying t = some (.slice e)) (hi : P.info? e = some i) (hz : i.zero = some z)
    (hsize : i.size = size) (hby : i.bytes = bytes) (hzs : z.cells.size = size) (hsz : 0 < size)
    (v : Value) (n : Nat) (xs : List Value) (hs : a.eval s = v) (hown : w.ownsRow base e size v n xs)
    (B : Nat) (A : Option Addr) (m c : Nat) (news : List Value) (hx : a.eval x = .slice A m c) (hr : Reads w B size A m news) (h1 : ∀ u ∈ news, u.oneCell' = true)
    (h63 : n + m ≤ maxLen) (hbytes : (n + m) * bytes ≤ 140737488355328) (hbase : base ≤ w.heap.size)
    (h : ∀ v' w', w'.ownsRow base e size v' (n + m) (xs ++ news) → w.grownBy w' v.ownBlock → (v'.ownBlock = v.ownBlock ∨ v'.ownBlock = some w.heap.size) → K (a.put o.dst v') w') : o.wp P a w K Q := by
  obtain ⟨v', w', hrun, h2, h3, h4⟩ := run_append_any (P := P) w base t o.type e i z size bytes ht hi hz hsize hby hzs hsz v n xs hown B A m c news hr h1 h63 hbytes hbase
  unfold Oper.wp execOp
  simp only [ho, resolve, invoke, builtin, Sem.run_bind, Sem.run_pure, Result.andThen_ok, List.map_toArray, List.map_cons, List.map_nil, hs, hx, hrun]
  exact h v' w' h2 h3 h4

theorem wpList_append_any {ops : Array Oper} {rest : List Oper} {o : Oper} {a : Act} {Q : Exit → Act → World → Prop} (hgd : o.guard = none) (s x : Operand) (t : TypeId)
    (ho : o.op = .call { callee := .builtin .append, args := #[s, x], argTypes := #[t, t] })
    (base : Nat) (e : TypeId) (i : TypeInfo) (z : Value) (size bytes : Nat) (ht : P.underlying t = some (.slice e)) (hi : P.info? e = some i) (hz : i.zero = some z)
    (hsize : i.size = size) (hby : i.bytes = bytes) (hzs : z.cells.size = size) (hsz : 0 < size)
    (v : Value) (n : Nat) (xs : List Value) (hs : a.eval s = v) (hown : w.ownsRow base e size v n xs)
    (B : Nat) (A : Option Addr) (m c : Nat) (news : List Value) (hx : a.eval x = .slice A m c) (hr : Reads w B size A m news) (h1 : ∀ u ∈ news, u.oneCell' = true)
    (h63 : n + m ≤ maxLen) (hbytes : (n + m) * bytes ≤ 140737488355328) (hbase : base ≤ w.heap.size)
    (h : ∀ v' w', w'.ownsRow base e size v' (n + m) (xs ++ news) → w.grownBy w' v.ownBlock → (v'.ownBlock = v.ownBlock ∨ v'.ownBlock = some w.heap.size) → wpList P ops Q rest (a.put o.dst v') w') : wpList P ops Q (o :: rest) a w :=
  wpList_plain hgd fun _ hK => wp_append_any w s x t ho base e i z size bytes ht hi hz hsize hby hzs hsz v n xs hs hown B A m c news hx hr h1 h63 hbytes hbase fun v' w' h2 h3 h4 => hK _ _ (h v' w' h2 h3 h4)

theorem step_append_any {ops : Array Oper} {o : Oper} {a : Act} {K : Act → World → Prop} {Q : Exit → Act → World → Prop} {E : Prop} (hgd : o.guard = none) (s x : Operand) (t : TypeId)
    (ho : o.op = .call { callee := .builtin .append, args := #[s, x], argTypes := #[t, t] })
    (base : Nat) (e : TypeId) (i : TypeInfo) (z : Value) (size bytes : Nat) (ht : P.underlying t = some (.slice e)) (hi : P.info? e = some i) (hz : i.zero = some z)
    (hsize : i.size = size) (hby : i.bytes = bytes) (hzs : z.cells.size = size) (hsz : 0 < size)
    (v : Value) (n : Nat) (xs : List Value) (hs : a.eval s = v) (hown : w.ownsRow base e size v n xs)
    (B : Nat) (A : Option Addr) (m c : Nat) (news : List Value) (hx : a.eval x = .slice A m c) (hr : Reads w B size A m news) (h1 : ∀ u ∈ news, u.oneCell' = true)
    (h63 : n + m ≤ maxLen) (hbytes : (n + m) * bytes ≤ 140737488355328) (hbase : base ≤ w.heap.size)
    (h : ∀ v' w', w'.ownsRow base e size v' (n + m) (xs ++ news) → w.grownBy w' v.ownBlock → (v'.ownBlock = v.ownBlock ∨ v'.ownBlock = some w.heap.size) → K (a.put o.dst v') w') :
    if Region.wanted o (yielded ops a.tmps) = true then Oper.wp P o a w K Q else E := by
  have hw : Region.wanted o (yielded ops a.tmps) = true := by simp [Region.wanted, hgd]
  rw [if_pos hw]
  exact wp_append_any w s x t ho base e i z size bytes ht hi hz hsize hby hzs hsz v n xs hs hown B A m c news hx hr h1 h63 hbytes hbase h
end
end Go.Proofs.YtnehgpeelgjjhaaGreatDoor.Tw
namespace Go.Proofs.YtnehgpeelgjjhaaGreatDoor.Tw
open Go.RowKit

theorem info3 : (Tryz.prog.info? 3).map (fun i => (i.zero, i.size, i.bytes)) = some (some (.int .i64 0), 1, 8) := by kernel_rfl
theorem info57 : (Tryz.prog.info? 57).map (fun i => (i.zero, i.size, i.bytes)) = some (some (.agg #[.int .i64 0, .int .i64 0, .int .i64 0, .string ⟨#[]⟩]), 4, 40) := by kernel_rfl

theorem one_ints (l : List Int) : ∀ u ∈ l.map (Value.int .i64), u.oneCell' = true := by
  intro u hu
  obtain ⟨x, _, rfl⟩ := List.mem_map.1 hu
  rfl
theorem one_posts (l : List Rp.Post) : ∀ u ∈ encPs l, u.oneCell' = true := by
  intro u hu
  obtain ⟨p, _, hp⟩ := List.mem_flatMap.1 hu
  simp only [encP, List.mem_cons, List.not_mem_nil, or_false] at hp
  rcases hp with rfl | rfl | rfl | rfl <;> rfl

theorem Reads.of_own {w : World} {base : Nat} {e : TypeId} {size n c : Nat} {A : Option Addr} {xs : List Value} (h : w.ownsRow base e size (.slice A n c) n xs) : Reads w w.heap.size size A n xs := by
  refine ⟨h.1, fun hn => ?_⟩
  obtain ⟨g, cap, hv, _, hlt⟩ := h.form hn
  have hA : A = some ⟨g, 0, none⟩ := by injection hv
  subst hA
  refine ⟨g, 0, rfl, hlt, fun j u hu => ?_⟩
  have := h.cells (g := g) rfl j u hu
  rw [show (⟨g, 0, none⟩ : Addr).add j = ⟨g, 0 + j, none⟩ by unfold Addr.add; split <;> simp_all] at this
  exact this

theorem own_slice {w : World} {base : Nat} {e : TypeId} {size n : Nat} {v : Value} {xs : List Value} (h : w.ownsRow base e size v n xs) : ∃ A c, v = .slice A n c ∧ n ≤ c := by
  obtain ⟨h1, h2⟩ := h
  rcases h2 with ⟨rfl, rfl⟩ | ⟨g, cap, cur, rfl, _, _, hc, _⟩
  · exact ⟨none, 0, rfl, Nat.le_refl _⟩
  · exact ⟨_, cap, rfl, hc⟩

theorem own_empty (w : World) (e : TypeId) (size : Nat) : (w.alloc (.cells #[] e)).ownsRow w.heap.size e size (.slice (some ⟨w.heap.size, 0, none⟩) 0 0) 0 [] :=
  ⟨by simp, .inr ⟨w.heap.size, 0, #[], rfl, Nat.le_refl _, heap_alloc_new w _, Nat.le_refl _, by simp [maxLen], by simp, by simp⟩⟩

theorem Reads.zero {w : World} {B size n : Nat} {xs : List Value} (h : Reads w B size none n xs) : n = 0 ∧ xs = [] := by
  rcases Nat.eq_zero_or_pos n with h0 | h0
  · subst h0; exact ⟨rfl, List.eq_nil_of_length_eq_zero (by simpa using h.1)⟩
  · obtain ⟨_, _, h, _⟩ := h.2 h0; cases h

set_option maxRecDepth 100000 in
theorem clonePost (w : World) (A : Option Addr) (n c : Nat) (l : List Rp.Post) (hx : Reads w w.heap.size 4 A n (encPs l)) (hn : n ≤ 16777216) :
    Calls Tryz.prog 46 #[.slice A n c] w fun e w' => ∃ v, e = .returned v ∧ w'.ownsRow w.heap.size 57 4 v n (encPs l) ∧ Below w.heap.size w w' := by
  obtain ⟨i0, hi0, hz0, hz1, hz2⟩ := info_parts info57
  have q23 : ∀ (w : World) (a : Option Addr) (n c n' c' : Nat), (binOp .eql 23 (.slice a n c) (.slice none n' c')).run Tryz.prog w = .ok (.bool a.isNone) w := fun w a n c n' c' => Lib.run_eql_slice_nil w _ _ a n c n' c' Tryz.underlying23
  have HX := Lib.hid hx
  clear hx
  rcases A with _ | ad
  · go_enter Tryz.func46, Tryz.ntmps46
    go_wp2
    go_ret
    obtain ⟨rfl, h2⟩ := HX.out.zero
    rw [h2]
    exact ⟨_, rfl, World.ownsRow_nil _ _ _ _, Below.refl _ _⟩
  · have hb0 : Below w.heap.size w (w.alloc (.cells #[] 57)) := (Below.refl _ _).alloc (Nat.le_refl _) _
    have HB := Lib.hid hb0
    have HO := Lib.hid (own_empty w 57 4)
    have HX1 := Lib.hid (HX.out.below hb0)
    clear hb0
    go_enter Tryz.func46, Tryz.ntmps46
    go_wp2_with (first
    | (at_builtin
       refine wpList_append_any _ rfl (.tmp 5) (.tmp 6) 23 rfl w.heap.size 57 i0 _ 4 40 Tryz.underlying23 hi0 hz0 hz1 hz2 rfl (by omega) (.slice (some ⟨w.heap.size, 0, none⟩) 0 0) 0 [] rfl
         HO.out w.heap.size (some ad) n c (encPs l) rfl HX1.out (one_posts l) (by simp only [maxLen]; omega) (by omega) (by simp) ?_
       intro v1 w1 hown1 hg1 hat1))
    go_ret
    refine ⟨v1, rfl, by simpa using hown1, HB.out.grown hg1 (by simp) (fun k hk => ?_)⟩
    simp [Value.ownBlock] at hk
    omega

set_option maxRecDepth 100000 in
theorem cloneInt (w : World) (A : Option Addr) (n c : Nat) (l : List Int) (hx : Reads w w.heap.size 1 A n (l.map (Value.int .i64))) (hn : n ≤ 16777216) :
    Calls Tryz.prog 47 #[.slice A n c] w fun e w' => ∃ v, e = .returned v ∧ w'.ownsRow w.heap.size 3 1 v n (l.map (Value.int .i64)) ∧ Below w.heap.size w w' := by
  obtain ⟨i0, hi0, hz0, hz1, hz2⟩ := info_parts info3
  have q24 : ∀ (w : World) (a : Option Addr) (n c n' c' : Nat), (binOp .eql 24 (.slice a n c) (.slice none n' c')).run Tryz.prog w = .ok (.bool a.isNone) w := fun w a n c n' c' => Lib.run_eql_slice_nil w _ _ a n c n' c' Tryz.underlying24
  have HX := Lib.hid hx
  clear hx
  rcases A with _ | ad
  · go_enter Tryz.func47, Tryz.ntmps47
    go_wp2
    go_ret
    obtain ⟨rfl, h2⟩ := HX.out.zero
    rw [h2]
    exact ⟨_, rfl, World.ownsRow_nil _ _ _ _, Below.refl _ _⟩
  · have hb0 : Below w.heap.size w (w.alloc (.cells #[] 3)) := (Below.refl _ _).alloc (Nat.le_refl _) _
    have HB := Lib.hid hb0
    have HO := Lib.hid (own_empty w 3 1)
    have HX1 := Lib.hid (HX.out.below hb0)
    clear hb0
    go_enter Tryz.func47, Tryz.ntmps47
    go_wp2_with (first
    | (at_builtin
       refine wpList_append_any _ rfl (.tmp 5) (.tmp 6) 24 rfl w.heap.size 3 i0 _ 1 8 Tryz.underlying24 hi0 hz0 hz1 hz2 rfl (by omega) (.slice (some ⟨w.heap.size, 0, none⟩) 0 0) 0 [] rfl
        HO.out w.heap.size (some ad) n c (l.map (Value.int .i64)) rfl HX1.out (one_ints l) (by simp only [maxLen]; omega) (by omega) (by simp) ?_
       intro v1 w1 hown1 hg1 hat1))
    go_ret
    refine ⟨v1, rfl, by simpa using hown1, HB.out.grown hg1 (by simp) (fun k hk => ?_)⟩
    simp [Value.ownBlock] at hk
    omega
end Go.Proofs.YtnehgpeelgjjhaaGreatDoor.Tw
namespace Go.Proofs.YtnehgpeelgjjhaaGreatDoor.Tw
open Go.RowKit

theorem own_base {w : World} {B B' : Nat} {e : TypeId} {size n : Nat} {v : Value} {xs : List Value} (h : w.ownsRow B e size v n xs) (hB : B' ≤ B) : w.ownsRow B' e size v n xs := by
  obtain ⟨h1, h2⟩ := h
  refine ⟨h1, ?_⟩
  rcases h2 with h2 | ⟨g, cap, cur, hv, hg, r⟩
  · exact .inl h2
  · exact .inr ⟨g, cap, cur, hv, by omega, r⟩
theorem own_below {w w' : World} {B : Nat} {e : TypeId} {size n : Nat} {v : Value} {xs : List Value} (h : w.ownsRow B e size v n xs) (hb : Below w.heap.size w w') : w'.ownsRow B e size v n xs := by
  obtain ⟨h1, h2⟩ := h
  refine ⟨h1, ?_⟩
  rcases h2 with h2 | ⟨g, cap, cur, hv, hg, hh, r⟩
  · exact .inl h2
  · refine .inr ⟨g, cap, cur, hv, hg, ?_, r⟩
    have hlt : g < w.heap.size := by
      rcases Nat.lt_or_ge g w.heap.size with hlt | hge
      · exact hlt
      · rw [Array.getElem?_eq_none hge] at hh; cases hh
    rw [hb.block g hlt]; exact hh

set_option maxRecDepth 100000 in
set_option maxHeartbeats 1600000 in
theorem own_any (w : World) (r : Rp.Rep) (A : Option Addr) (n c : Nat) (A' : Option Addr) (n' c' : Nat) (h : RepR w w.heap.size r A n A' n') :
    Calls Tryz.prog 42 #[repV r A n c A' n' c'] w fun e w' => ∃ A1 c1 A2 c2, e = .returned (repV r A1 n c1 A2 n' c2) ∧ w'.ownsRow w.heap.size 57 4 (.slice A1 n c1) n (encPs r.posts) ∧
      w'.ownsRow w.heap.size 3 1 (.slice A2 n' c2) n' (r.heard.map (Value.int .i64)) ∧ n ≤ c1 ∧ n' ≤ c2 ∧ Below w.heap.size w w' := by
  obtain ⟨me, many, clock, posts, heard⟩ := r
  unfold repV
  simp only
  obtain ⟨h1, h2, h3, h4, h5, h6⟩ := h
  simp only at h1 h2 h3 h4
  obtain ⟨W0, hW0⟩ : ∃ W0, W0 = (w.alloc (.cells #[.int .i64 me, .int .i64 many, .int .i64 clock, .slice A n c, .slice A' n' c'] 26)).alloc (.cells #[.int .i64 0, .int .i64 0, .int .i64 0, .slice none 0 0, .slice none 0 0] 26) := ⟨_, rfl⟩
  have hs0 : W0.heap.size = w.heap.size + 2 := by rw [hW0]; simp
  have hbW : Below w.heap.size w W0 := by rw [hW0]; exact ((Below.refl _ _).alloc (Nat.le_refl _) _).alloc (by simp) _
  have hBW : Blk W0 w.heap.size 26 #[.int .i64 me, .int .i64 many, .int .i64 clock, .slice A n c, .slice A' n' c'] := by rw [hW0]; exact (Blk.new _ _ _).alloc _
  have hRW : Blk W0 (w.heap.size + 1) 26 #[.int .i64 0, .int .i64 0, .int .i64 0, .slice none 0 0, .slice none 0 0] := by
    rw [hW0]
    have hbn := Blk.new (w.alloc (.cells #[.int .i64 me, .int .i64 many, .int .i64 clock, .slice A n c, .slice A' n' c'] 26)) 26 #[.int .i64 0, .int .i64 0, .int .i64 0, .slice none 0 0, .slice none 0 0]
    simp only [World.size_alloc] at hbn
    exact hbn
  have H1 := Lib.hid h1
  have H3 := Lib.hid h3
  clear h1 h3
  go_enter Tryz.func42, Tryz.ntmps42
  go_wp2
  rw [← hW0]
  have HW0 := Lib.hid hW0
  clear hW0
  have c3 := hBW.cell 3
  have c4 := hBW.cell 4
  have hlt0 : w.heap.size < W0.heap.size := by omega
  go_region_with ((first
    | (go_at_call 46; refine (clonePost _ _ _ _ posts ?hx h5).mono ?_; (case hx => exact ((H1.out.below hbW).more (by simp [hs0]))); rintro e w1 ⟨v1, rfl, hown1, hb1⟩; obtain ⟨A1, c1, rfl, hc1⟩ := own_slice hown1; have hB1 : Below W0.heap.size W0 w1 := (Below.refl _ _).drew.trans hb1; have hsz1 := hB1.size; have k3 := (hB1.cell (p := ⟨w.heap.size, 3, none⟩) (by simp [hs0])).trans c3; have k4 := (hB1.cell (p := ⟨w.heap.size, 4, none⟩) (by simp [hs0])).trans c4)
    | (go_at_call 47; refine (cloneInt _ _ _ _ heard ?hx h6).mono ?_; (case hx => exact ((H3.out.below (hbW.trans (hB1.mono hbW.size))).more (by omega))); rintro e w2 ⟨v2, rfl, hown2, hb2⟩; obtain ⟨A2, c2, rfl, hc2⟩ := own_slice hown2; have hB2 : Below W0.heap.size W0 w2 := hB1.trans (hb2.mono hB1.size); have j3 := (hB2.cell (p := ⟨w.heap.size, 3, none⟩) (by simp [hs0])).trans c3; have j4 := (hB2.cell (p := ⟨w.heap.size, 4, none⟩) (by simp [hs0])).trans c4; have f3 := (hB2.frozen (p := ⟨w.heap.size, 3, none⟩) (by simp [hs0])).trans (hBW.frozen 3); have f4 := (hB2.frozen (p := ⟨w.heap.size, 4, none⟩) (by simp [hs0])).trans (hBW.frozen 4))))
  all_goals
    have b0 := (hB2.cell (p := ⟨w.heap.size, 0, none⟩) (by simp [hs0])).trans (hBW.cell 0)
    have b1 := (hB2.cell (p := ⟨w.heap.size, 1, none⟩) (by simp [hs0])).trans (hBW.cell 1)
    have b2 := (hB2.cell (p := ⟨w.heap.size, 2, none⟩) (by simp [hs0])).trans (hBW.cell 2)
    have r0 := (hB2.cell (p := ⟨w.heap.size + 1, 0, none⟩) (by simp [hs0])).trans (hRW.cell 0)
    have r1 := (hB2.cell (p := ⟨w.heap.size + 1, 1, none⟩) (by simp [hs0])).trans (hRW.cell 1)
    have r2 := (hB2.cell (p := ⟨w.heap.size + 1, 2, none⟩) (by simp [hs0])).trans (hRW.cell 2)
    have r3 := (hB2.cell (p := ⟨w.heap.size + 1, 3, none⟩) (by simp [hs0])).trans (hRW.cell 3)
    have r4 := (hB2.cell (p := ⟨w.heap.size + 1, 4, none⟩) (by simp [hs0])).trans (hRW.cell 4)
    have s0 := (hB2.frozen (p := ⟨w.heap.size + 1, 0, none⟩) (by simp [hs0])).trans (hRW.frozen 0)
    have s1 := (hB2.frozen (p := ⟨w.heap.size + 1, 1, none⟩) (by simp [hs0])).trans (hRW.frozen 1)
    have s2 := (hB2.frozen (p := ⟨w.heap.size + 1, 2, none⟩) (by simp [hs0])).trans (hRW.frozen 2)
    have s3 := (hB2.frozen (p := ⟨w.heap.size + 1, 3, none⟩) (by simp [hs0])).trans (hRW.frozen 3)
    have s4 := (hB2.frozen (p := ⟨w.heap.size + 1, 4, none⟩) (by simp [hs0])).trans (hRW.frozen 4)
    simp at b0 b1 b2 r0 r1 r2 r3 r4
    have o1 : w2.ownsRow W0.heap.size 57 4 (.slice A1 n c1) n (encPs posts) := own_below hown1 hb2
    have o2 : w2.ownsRow W0.heap.size 3 1 (.slice A2 n' c2) n' (heard.map (Value.int .i64)) := own_base hown2 hB1.size
    have hB2w := hbW.trans (hB2.mono hbW.size)
    have O1 := Lib.hid o1
    have O2 := Lib.hid o2
    clear o1 o2 hown1 hown2
    go_wp2
    refine bodyPost_ret (v := .agg #[.int .i64 me, .int .i64 many, .int .i64 clock, .slice A1 n c1, .slice A2 n' c2]) (by simp [results, Tryz.results42, go_sem, r0, r1, r2, r3, r4]) rfl ⟨A1, c1, A2, c2, rfl, ?_, ?_, hc1, hc2, ?_⟩
    · refine own_base (B := W0.heap.size) ?_ (by omega)
      repeat (refine ownsRow_setCell_below ?_ (by simp; omega) _)
      exact O1.out
    · refine own_base (B := W0.heap.size) ?_ (by omega)
      repeat (refine ownsRow_setCell_below ?_ (by simp; omega) _)
      exact O2.out
    · repeat (refine Below.setCell ?_ (by simp) _)
      exact hB2w
end Go.Proofs.YtnehgpeelgjjhaaGreatDoor.Tw
namespace Go.Proofs.YtnehgpeelgjjhaaGreatDoor.Tw
open Go.RowKit

def zeroRep : Value := .agg #[.int .i64 0, .int .i64 0, .int .i64 0, .slice none 0 0, .slice none 0 0]

/-- a value with no error, or a zero value with one -/
def orErr (ok : Bool) (v z : Value) (e : Int) : Value := match ok with
  | true => .tuple #[v, .int .i64 0]
  | false => .tuple #[z, .int .i64 e]

theorem Blk.cells5 {w : World} {g : Nat} {t : TypeId} {a b c d e : Value} (h : Blk w g t #[a, b, c, d, e]) :
    w.cell? ⟨g, 0, none⟩ = some a ∧ w.cell? ⟨g, 1, none⟩ = some b ∧ w.cell? ⟨g, 2, none⟩ = some c ∧ w.cell? ⟨g, 3, none⟩ = some d ∧ w.cell? ⟨g, 4, none⟩ = some e :=
  ⟨h.cell 0, h.cell 1, h.cell 2, h.cell 3, h.cell 4⟩
theorem Blk.soft5 {w : World} {g : Nat} {t : TypeId} {cs : Array Value} (h : Blk w g t cs) :
    w.frozen? ⟨g, 0, none⟩ = false ∧ w.frozen? ⟨g, 1, none⟩ = false ∧ w.frozen? ⟨g, 2, none⟩ = false ∧ w.frozen? ⟨g, 3, none⟩ = false ∧ w.frozen? ⟨g, 4, none⟩ = false :=
  ⟨h.frozen 0, h.frozen 1, h.frozen 2, h.frozen 3, h.frozen 4⟩
theorem Blk.new2 (w : World) (o : Obj) (t : TypeId) (cs : Array Value) : Blk ((w.alloc o).alloc (.cells cs t)) (w.heap.size + 1) t cs := by
  have hbn := Blk.new (w.alloc o) t cs
  simp only [World.size_alloc] at hbn
  exact hbn

set_option maxRecDepth 100000 in
set_option maxHeartbeats 800000 in
theorem right_any (w : World) (r : Rp.Rep) (A : Option Addr) (n c : Nat) (A' : Option Addr) (n' c' : Nat) (h : RepR w w.heap.size r A n A' n') :
    Calls Tryz.prog 44 #[repV r A n c A' n' c'] w fun e w' => e = .returned (orErr (Rp.valid r) (repV r A n c A' n' c') zeroRep 310) ∧ Below w.heap.size w w' := by
  obtain ⟨me, many, clock, posts, heard⟩ := r
  obtain ⟨W0, hW0⟩ : ∃ W0, W0 = (w.alloc (.cells #[.int .i64 me, .int .i64 many, .int .i64 clock, .slice A n c, .slice A' n' c'] 26)).alloc (.cells #[.int .i64 0, .int .i64 0, .int .i64 0, .slice none 0 0, .slice none 0 0] 26) := ⟨_, rfl⟩
  have hs0 : W0.heap.size = w.heap.size + 2 := by rw [hW0]; simp
  have hbW : Below w.heap.size w W0 := by rw [hW0]; exact ((Below.refl _ _).alloc (Nat.le_refl _) _).alloc (by simp) _
  have hBW : Blk W0 w.heap.size 26 #[.int .i64 me, .int .i64 many, .int .i64 clock, .slice A n c, .slice A' n' c'] := by rw [hW0]; exact (Blk.new _ _ _).alloc _
  have hRW : Blk W0 (w.heap.size + 1) 26 #[.int .i64 0, .int .i64 0, .int .i64 0, .slice none 0 0, .slice none 0 0] := by rw [hW0]; exact Blk.new2 _ _ _ _
  have HV := Lib.hid (valid_any W0 ⟨me, many, clock, posts, heard⟩ A n c A' n' c' ((h.below hbW).more (by omega)))
  have HW0 := Lib.hid hW0
  clear h hW0
  unfold repV at *
  simp only at HV ⊢
  go_enter Tryz.func44, Tryz.ntmps44
  go_wp2_with fail
  rw [← HW0.out]
  refine HV.out.mono ?_
  rintro e w1 ⟨rfl, hb1⟩
  have hb2 := hbW.trans (hb1.mono hbW.size)
  obtain ⟨b0, b1, b2, b3, b4⟩ := (hBW.below hb1 (by omega)).cells5
  have hR1 := hRW.below hb1 (by omega)
  obtain ⟨r0, r1, r2, r3, r4⟩ := hR1.cells5
  obtain ⟨s0, s1, s2, s3, s4⟩ := hR1.soft5
  cases hv : Rp.valid ⟨me, many, clock, posts, heard⟩
  · go_wp2
    refine bodyPost_ret (v := .tuple #[zeroRep, .int .i64 310]) (by simp [zeroRep, results, Tryz.results44, go_sem, r0, r1, r2, r3, r4]) rfl ⟨by rw [hv]; rfl, ?_⟩
    repeat (refine Below.setCell ?_ (by simp) _)
    exact hb2
  · go_wp2
    refine bodyPost_ret (v := .tuple #[.agg #[.int .i64 me, .int .i64 many, .int .i64 clock, .slice A n c, .slice A' n' c'], .int .i64 0]) (by simp [results, Tryz.results44, go_sem, r0, r1, r2, r3, r4]) rfl ⟨by rw [hv]; rfl, ?_⟩
    repeat (refine Below.setCell ?_ (by simp) _)
    exact hb2
end Go.Proofs.YtnehgpeelgjjhaaGreatDoor.Tw
namespace Go.Proofs.YtnehgpeelgjjhaaGreatDoor.Tw
open Go.RowKit

/-- the slice lies in a block that is not older than B -/
def Fresh (B : Nat) (A : Option Addr) : Prop := ∀ a, A = some a → B ≤ a.block
theorem Fresh.of_own {w : World} {B B' : Nat} {e : TypeId} {s n n' c : Nat} {A : Option Addr} {xs : List Value} (h : w.ownsRow B e s (.slice A n c) n' xs) (hB : B' ≤ B) : Fresh B' A := by
  intro a ha
  rcases h.2 with ⟨h1, _⟩ | ⟨g, cap, cur, h1, hb, _⟩
  · injection h1 with h1; rw [h1] at ha; cases ha
  · injection h1 with h1; rw [h1] at ha; injection ha with ha; subst ha; exact Nat.le_trans hB hb
theorem own_cap {w : World} {B : Nat} {e : TypeId} {s n c : Nat} {A : Option Addr} {xs : List Value} (h : w.ownsRow B e s (.slice A n c) n xs) : n ≤ c := by
  rcases h.2 with ⟨_, h0⟩ | ⟨g, cap, cur, h1, _, _, hc, _⟩
  · omega
  · injection h1 with _ _ h1; omega
/-- what a function that hands back a replica and an error has come to -/
def GotRep (w w' : World) (e : Ending) (o : Option Rp.Rep) : Prop :=
  Below w.heap.size w w' ∧ match o with
    | none => e = .returned (.tuple #[zeroRep, .int .i64 310])
    | some r => ∃ A n c A' n' c', e = .returned (.tuple #[repV r A n c A' n' c', .int .i64 0]) ∧ RepR w' w'.heap.size r A n A' n' ∧ Fresh w.heap.size A ∧ Fresh w.heap.size A' ∧ n ≤ c

theorem makeInts0 : ∀ w : World, (Instr.makeSlice 24 (.int .i64 0) (.int .i64 0)).run Tryz.prog w = .ok (.slice (some ⟨w.heap.size, 0, none⟩) 0 0) (w.alloc (.cells #[] 3)) := fun _ => by kernel_rfl
theorem makeInts1 : ∀ w : World, (Instr.makeSlice 24 (.int .i64 1) (.int .i64 1)).run Tryz.prog w = .ok (.slice (some ⟨w.heap.size, 0, none⟩) 1 1) (w.alloc (.cells #[.int .i64 0] 3)) := fun _ => by kernel_rfl
theorem makeInts2 : ∀ w : World, (Instr.makeSlice 24 (.int .i64 2) (.int .i64 2)).run Tryz.prog w = .ok (.slice (some ⟨w.heap.size, 0, none⟩) 2 2) (w.alloc (.cells #[.int .i64 0, .int .i64 0] 3)) := fun _ => by kernel_rfl
theorem makeInts3 : ∀ w : World, (Instr.makeSlice 24 (.int .i64 3) (.int .i64 3)).run Tryz.prog w = .ok (.slice (some ⟨w.heap.size, 0, none⟩) 3 3) (w.alloc (.cells #[.int .i64 0, .int .i64 0, .int .i64 0] 3)) := fun _ => by kernel_rfl
theorem makeInts4 : ∀ w : World, (Instr.makeSlice 24 (.int .i64 4) (.int .i64 4)).run Tryz.prog w = .ok (.slice (some ⟨w.heap.size, 0, none⟩) 4 4) (w.alloc (.cells #[.int .i64 0, .int .i64 0, .int .i64 0, .int .i64 0] 3)) := fun _ => by kernel_rfl
theorem makeInts5 : ∀ w : World, (Instr.makeSlice 24 (.int .i64 5) (.int .i64 5)).run Tryz.prog w = .ok (.slice (some ⟨w.heap.size, 0, none⟩) 5 5) (w.alloc (.cells #[.int .i64 0, .int .i64 0, .int .i64 0, .int .i64 0, .int .i64 0] 3)) := fun _ => by kernel_rfl
theorem makeInts6 : ∀ w : World, (Instr.makeSlice 24 (.int .i64 6) (.int .i64 6)).run Tryz.prog w = .ok (.slice (some ⟨w.heap.size, 0, none⟩) 6 6) (w.alloc (.cells #[.int .i64 0, .int .i64 0, .int .i64 0, .int .i64 0, .int .i64 0, .int .i64 0] 3)) := fun _ => by kernel_rfl

theorem reads_zeros (w : World) (k : Nat) (cs : Array Value) (h : cs = Array.replicate k (.int .i64 0)) (w' : World) (hb : Below (w.heap.size + 1) (w.alloc (.cells cs 3)) w') : Reads w' w'.heap.size 1 (some ⟨w.heap.size, 0, none⟩) k ((List.replicate k (0 : Int)).map (Value.int .i64)) := by
  subst h
  refine ⟨by simp, fun _ => ⟨w.heap.size, 0, rfl, by have := hb.size; simp at this; omega, fun j u hu => ?_⟩⟩
  have h1 := (Blk.new w 3 (Array.replicate k (.int .i64 0))).cell (0 + j)
  rw [hb.cell (p := ⟨w.heap.size, 0 + j, none⟩) (by simp), h1]
  simp only [List.getElem?_map, Nat.zero_add] at hu ⊢
  rw [← Array.getElem?_toList]
  simpa [List.getElem?_replicate] using hu

theorem Reads.far {w : World} {B size n : Nat} {A : Option Addr} {xs : List Value} (h : Reads w B size A n xs) {p : Addr} (hp : ∀ a, A = some a → a.block ≠ p.block) (u : Value) : Reads (w.setCell p u) B size A n xs :=
  ⟨h.1, fun hn => by
    obtain ⟨b, off, e, hb, hc⟩ := h.2 hn
    exact ⟨b, off, e, hb, fun j v hv => (World.cell?_setCell_other w p _ u (fun e' => hp _ e (by subst e'; rfl))).trans (hc j v hv)⟩⟩
theorem RepR.far {w : World} {B : Nat} {r : Rp.Rep} {A A' : Option Addr} {n n' : Nat} (h : RepR w B r A n A' n') {p : Addr} (hp : ∀ a, A = some a → a.block ≠ p.block) (hp' : ∀ a, A' = some a → a.block ≠ p.block) (u : Value) :
    RepR (w.setCell p u) B r A n A' n' :=
  ⟨h.posts.far hp u, h.len, h.heard.far hp' u, h.len', h.few, h.few'⟩
theorem size_setCell (w : World) (p : Addr) (u : Value) : (w.setCell p u).heap.size = w.heap.size := by simp [World.setCell]

def newOf (me many : Int) : Rp.Rep := ⟨me, many, 0, [], List.replicate (min (max many 0) 6).toNat 0⟩
theorem newRep_eq (me many : Int) : Rp.newRep me many = if Rp.valid (newOf me many) then some (newOf me many) else none := rfl

set_option maxRecDepth 100000 in
set_option maxHeartbeats 800000 in
theorem new_neg (w : World) (me many : Int) (h1 : many < 0) : Calls Tryz.prog 27 #[.int .i64 me, .int .i64 many] w fun e w' => GotRep w w' e (Rp.newRep me many) := by
  have HN := Lib.hid (newRep_eq me many)
  have HR := Lib.hid (show newOf me many = ⟨me, many, 0, [], List.replicate 0 0⟩ from by unfold newOf; rw [show (min (max many 0) 6).toNat = 0 by omega])
  have hmk := makeInts0
  go_enter Tryz.func27, Tryz.ntmps27
  go_wp2_with fail
  obtain ⟨W0, hW0⟩ : ∃ W0, W0 = (w.alloc (.cells #[.int .i64 0, .int .i64 0, .int .i64 0, .slice none 0 0, .slice none 0 0] 26)).alloc (.cells #[] 3) := ⟨_, rfl⟩
  rw [← hW0]
  have hs0 : W0.heap.size = w.heap.size + 2 := by rw [hW0]; simp
  have hbW : Below w.heap.size w W0 := by rw [hW0]; exact ((Below.refl _ _).alloc (Nat.le_refl _) _).alloc (by simp) _
  have hRW : Blk W0 w.heap.size 26 #[.int .i64 0, .int .i64 0, .int .i64 0, .slice none 0 0, .slice none 0 0] := by rw [hW0]; exact (Blk.new _ _ _).alloc _
  have hrd : ∀ w', Below W0.heap.size W0 w' → Reads w' w'.heap.size 1 (some ⟨w.heap.size + 1, 0, none⟩) 0 ((List.replicate 0 (0 : Int)).map (Value.int .i64)) := by
    intro w' hb
    have := reads_zeros (w.alloc (.cells #[.int .i64 0, .int .i64 0, .int .i64 0, .slice none 0 0, .slice none 0 0] 26)) 0 #[] rfl w' (by rw [hW0] at hb; simp only [World.size_alloc] at hb ⊢; exact hb)
    simp only [World.size_alloc] at this
    exact this
  have hrep : ∀ w', Below W0.heap.size W0 w' → RepR w' w'.heap.size ⟨me, many, 0, [], List.replicate 0 0⟩ none 0 (some ⟨w.heap.size + 1, 0, none⟩) 0 :=
    fun w' hb => ⟨⟨rfl, fun h => absurd h (by omega)⟩, rfl, hrd w' hb, by simp, by omega, by omega⟩
  clear hmk hrd hW0
  refine (right_any W0 ⟨me, many, 0, [], List.replicate 0 0⟩ none 0 0 (some ⟨w.heap.size + 1, 0, none⟩) 0 0 (hrep W0 (Below.refl _ _))).mono ?_
  rintro e w1 ⟨rfl, hb1⟩
  have hb2 := hbW.trans (hb1.mono hbW.size)
  have hR1 := hRW.below hb1 (by omega)
  obtain ⟨r0, r1, r2, r3, r4⟩ := hR1.cells5
  obtain ⟨s0, s1, s2, s3, s4⟩ := hR1.soft5
  cases hv : Rp.valid ⟨me, many, 0, [], List.replicate 0 0⟩
  · unfold orErr zeroRep
    go_wp2
    refine bodyPost_ret (v := .tuple #[zeroRep, .int .i64 310]) (by simp [zeroRep, results, Tryz.results27, go_sem, r0, r1, r2, r3, r4]) rfl ⟨?_, ?_⟩
    · repeat (refine Below.setCell ?_ (by simp) _)
      exact hb2
    · rw [HN.out, HR.out, hv]; rfl
  · unfold orErr repV
    go_wp2
    refine bodyPost_ret (v := .tuple #[repV ⟨me, many, 0, [], List.replicate 0 0⟩ none 0 0 (some ⟨w.heap.size + 1, 0, none⟩) 0 0, .int .i64 0]) (by simp [repV, results, Tryz.results27, go_sem, r0, r1, r2, r3, r4]) rfl ⟨?_, ?_⟩
    · repeat (refine Below.setCell ?_ (by simp) _)
      exact hb2
    · rw [HN.out, HR.out, hv]
      refine ⟨none, 0, 0, _, _, _, rfl, ?_, (fun a h => by cases h), (fun a h => by cases h; simp), Nat.le_refl _⟩
      simp only [size_setCell]
      repeat (refine RepR.far ?_ (fun a h => by cases h) (fun a h => by cases h; simp) _)
      exact hrep _ hb1

set_option maxRecDepth 100000 in
set_option maxHeartbeats 800000 in
theorem new_case0 (w : World) (me : Int) : Calls Tryz.prog 27 #[.int .i64 me, .int .i64 0] w fun e w' => GotRep w w' e (Rp.newRep me 0) := by
  have HN := Lib.hid (newRep_eq me 0)
  have HR := Lib.hid (show newOf me 0 = ⟨me, 0, 0, [], List.replicate 0 0⟩ from rfl)
  have hmk := makeInts0
  go_enter Tryz.func27, Tryz.ntmps27
  go_wp2_with fail
  obtain ⟨W0, hW0⟩ : ∃ W0, W0 = (w.alloc (.cells #[.int .i64 0, .int .i64 0, .int .i64 0, .slice none 0 0, .slice none 0 0] 26)).alloc (.cells #[] 3) := ⟨_, rfl⟩
  rw [← hW0]
  have hs0 : W0.heap.size = w.heap.size + 2 := by rw [hW0]; simp
  have hbW : Below w.heap.size w W0 := by rw [hW0]; exact ((Below.refl _ _).alloc (Nat.le_refl _) _).alloc (by simp) _
  have hRW : Blk W0 w.heap.size 26 #[.int .i64 0, .int .i64 0, .int .i64 0, .slice none 0 0, .slice none 0 0] := by rw [hW0]; exact (Blk.new _ _ _).alloc _
  have hrd : ∀ w', Below W0.heap.size W0 w' → Reads w' w'.heap.size 1 (some ⟨w.heap.size + 1, 0, none⟩) 0 ((List.replicate 0 (0 : Int)).map (Value.int .i64)) := by
    intro w' hb
    have := reads_zeros (w.alloc (.cells #[.int .i64 0, .int .i64 0, .int .i64 0, .slice none 0 0, .slice none 0 0] 26)) 0 #[] rfl w' (by rw [hW0] at hb; simp only [World.size_alloc] at hb ⊢; exact hb)
    simp only [World.size_alloc] at this
    exact this
  have hrep : ∀ w', Below W0.heap.size W0 w' → RepR w' w'.heap.size ⟨me, 0, 0, [], List.replicate 0 0⟩ none 0 (some ⟨w.heap.size + 1, 0, none⟩) 0 :=
    fun w' hb => ⟨⟨rfl, fun h => absurd h (by omega)⟩, rfl, hrd w' hb, by simp, by omega, by omega⟩
  clear hmk hrd hW0
  refine (right_any W0 ⟨me, 0, 0, [], List.replicate 0 0⟩ none 0 0 (some ⟨w.heap.size + 1, 0, none⟩) 0 0 (hrep W0 (Below.refl _ _))).mono ?_
  rintro e w1 ⟨rfl, hb1⟩
  have hb2 := hbW.trans (hb1.mono hbW.size)
  have hR1 := hRW.below hb1 (by omega)
  obtain ⟨r0, r1, r2, r3, r4⟩ := hR1.cells5
  obtain ⟨s0, s1, s2, s3, s4⟩ := hR1.soft5
  cases hv : Rp.valid ⟨me, 0, 0, [], List.replicate 0 0⟩
  · unfold orErr zeroRep
    go_wp2
    refine bodyPost_ret (v := .tuple #[zeroRep, .int .i64 310]) (by simp [zeroRep, results, Tryz.results27, go_sem, r0, r1, r2, r3, r4]) rfl ⟨?_, ?_⟩
    · repeat (refine Below.setCell ?_ (by simp) _)
      exact hb2
    · rw [HN.out, HR.out, hv]; rfl
  · unfold orErr repV
    go_wp2
    refine bodyPost_ret (v := .tuple #[repV ⟨me, 0, 0, [], List.replicate 0 0⟩ none 0 0 (some ⟨w.heap.size + 1, 0, none⟩) 0 0, .int .i64 0]) (by simp [repV, results, Tryz.results27, go_sem, r0, r1, r2, r3, r4]) rfl ⟨?_, ?_⟩
    · repeat (refine Below.setCell ?_ (by simp) _)
      exact hb2
    · rw [HN.out, HR.out, hv]
      refine ⟨none, 0, 0, _, _, _, rfl, ?_, (fun a h => by cases h), (fun a h => by cases h; simp), Nat.le_refl _⟩
      simp only [size_setCell]
      repeat (refine RepR.far ?_ (fun a h => by cases h) (fun a h => by cases h; simp) _)
      exact hrep _ hb1

set_option maxRecDepth 100000 in
set_option maxHeartbeats 800000 in
theorem new_case1 (w : World) (me : Int) : Calls Tryz.prog 27 #[.int .i64 me, .int .i64 1] w fun e w' => GotRep w w' e (Rp.newRep me 1) := by
  have HN := Lib.hid (newRep_eq me 1)
  have HR := Lib.hid (show newOf me 1 = ⟨me, 1, 0, [], List.replicate 1 0⟩ from rfl)
  have hmk := makeInts1
  go_enter Tryz.func27, Tryz.ntmps27
  go_wp2_with fail
  obtain ⟨W0, hW0⟩ : ∃ W0, W0 = (w.alloc (.cells #[.int .i64 0, .int .i64 0, .int .i64 0, .slice none 0 0, .slice none 0 0] 26)).alloc (.cells #[.int .i64 0] 3) := ⟨_, rfl⟩
  rw [← hW0]
  have hs0 : W0.heap.size = w.heap.size + 2 := by rw [hW0]; simp
  have hbW : Below w.heap.size w W0 := by rw [hW0]; exact ((Below.refl _ _).alloc (Nat.le_refl _) _).alloc (by simp) _
  have hRW : Blk W0 w.heap.size 26 #[.int .i64 0, .int .i64 0, .int .i64 0, .slice none 0 0, .slice none 0 0] := by rw [hW0]; exact (Blk.new _ _ _).alloc _
  have hrd : ∀ w', Below W0.heap.size W0 w' → Reads w' w'.heap.size 1 (some ⟨w.heap.size + 1, 0, none⟩) 1 ((List.replicate 1 (0 : Int)).map (Value.int .i64)) := by
    intro w' hb
    have := reads_zeros (w.alloc (.cells #[.int .i64 0, .int .i64 0, .int .i64 0, .slice none 0 0, .slice none 0 0] 26)) 1 #[.int .i64 0] rfl w' (by rw [hW0] at hb; simp only [World.size_alloc] at hb ⊢; exact hb)
    simp only [World.size_alloc] at this
    exact this
  have hrep : ∀ w', Below W0.heap.size W0 w' → RepR w' w'.heap.size ⟨me, 1, 0, [], List.replicate 1 0⟩ none 0 (some ⟨w.heap.size + 1, 0, none⟩) 1 :=
    fun w' hb => ⟨⟨rfl, fun h => absurd h (by omega)⟩, rfl, hrd w' hb, by simp, by omega, by omega⟩
  clear hmk hrd hW0
  refine (right_any W0 ⟨me, 1, 0, [], List.replicate 1 0⟩ none 0 0 (some ⟨w.heap.size + 1, 0, none⟩) 1 1 (hrep W0 (Below.refl _ _))).mono ?_
  rintro e w1 ⟨rfl, hb1⟩
  have hb2 := hbW.trans (hb1.mono hbW.size)
  have hR1 := hRW.below hb1 (by omega)
  obtain ⟨r0, r1, r2, r3, r4⟩ := hR1.cells5
  obtain ⟨s0, s1, s2, s3, s4⟩ := hR1.soft5
  cases hv : Rp.valid ⟨me, 1, 0, [], List.replicate 1 0⟩
  · unfold orErr zeroRep
    go_wp2
    refine bodyPost_ret (v := .tuple #[zeroRep, .int .i64 310]) (by simp [zeroRep, results, Tryz.results27, go_sem, r0, r1, r2, r3, r4]) rfl ⟨?_, ?_⟩
    · repeat (refine Below.setCell ?_ (by simp) _)
      exact hb2
    · rw [HN.out, HR.out, hv]; rfl
  · unfold orErr repV
    go_wp2
    refine bodyPost_ret (v := .tuple #[repV ⟨me, 1, 0, [], List.replicate 1 0⟩ none 0 0 (some ⟨w.heap.size + 1, 0, none⟩) 1 1, .int .i64 0]) (by simp [repV, results, Tryz.results27, go_sem, r0, r1, r2, r3, r4]) rfl ⟨?_, ?_⟩
    · repeat (refine Below.setCell ?_ (by simp) _)
      exact hb2
    · rw [HN.out, HR.out, hv]
      refine ⟨none, 0, 0, _, _, _, rfl, ?_, (fun a h => by cases h), (fun a h => by cases h; simp), Nat.le_refl _⟩
      simp only [size_setCell]
      repeat (refine RepR.far ?_ (fun a h => by cases h) (fun a h => by cases h; simp) _)
      exact hrep _ hb1

set_option maxRecDepth 100000 in
set_option maxHeartbeats 800000 in
theorem new_case2 (w : World) (me : Int) : Calls Tryz.prog 27 #[.int .i64 me, .int .i64 2] w fun e w' => GotRep w w' e (Rp.newRep me 2) := by
  have HN := Lib.hid (newRep_eq me 2)
  have HR := Lib.hid (show newOf me 2 = ⟨me, 2, 0, [], List.replicate 2 0⟩ from rfl)
  have hmk := makeInts2
  go_enter Tryz.func27, Tryz.ntmps27
  go_wp2_with fail
  obtain ⟨W0, hW0⟩ : ∃ W0, W0 = (w.alloc (.cells #[.int .i64 0, .int .i64 0, .int .i64 0, .slice none 0 0, .slice none 0 0] 26)).alloc (.cells #[.int .i64 0, .int .i64 0] 3) := ⟨_, rfl⟩
  rw [← hW0]
  have hs0 : W0.heap.size = w.heap.size + 2 := by rw [hW0]; simp
  have hbW : Below w.heap.size w W0 := by rw [hW0]; exact ((Below.refl _ _).alloc (Nat.le_refl _) _).alloc (by simp) _
  have hRW : Blk W0 w.heap.size 26 #[.int .i64 0, .int .i64 0, .int .i64 0, .slice none 0 0, .slice none 0 0] := by rw [hW0]; exact (Blk.new _ _ _).alloc _
  have hrd : ∀ w', Below W0.heap.size W0 w' → Reads w' w'.heap.size 1 (some ⟨w.heap.size + 1, 0, none⟩) 2 ((List.replicate 2 (0 : Int)).map (Value.int .i64)) := by
    intro w' hb
    have := reads_zeros (w.alloc (.cells #[.int .i64 0, .int .i64 0, .int .i64 0, .slice none 0 0, .slice none 0 0] 26)) 2 #[.int .i64 0, .int .i64 0] rfl w' (by rw [hW0] at hb; simp only [World.size_alloc] at hb ⊢; exact hb)
    simp only [World.size_alloc] at this
    exact this
  have hrep : ∀ w', Below W0.heap.size W0 w' → RepR w' w'.heap.size ⟨me, 2, 0, [], List.replicate 2 0⟩ none 0 (some ⟨w.heap.size + 1, 0, none⟩) 2 :=
    fun w' hb => ⟨⟨rfl, fun h => absurd h (by omega)⟩, rfl, hrd w' hb, by simp, by omega, by omega⟩
  clear hmk hrd hW0
  refine (right_any W0 ⟨me, 2, 0, [], List.replicate 2 0⟩ none 0 0 (some ⟨w.heap.size + 1, 0, none⟩) 2 2 (hrep W0 (Below.refl _ _))).mono ?_
  rintro e w1 ⟨rfl, hb1⟩
  have hb2 := hbW.trans (hb1.mono hbW.size)
  have hR1 := hRW.below hb1 (by omega)
  obtain ⟨r0, r1, r2, r3, r4⟩ := hR1.cells5
  obtain ⟨s0, s1, s2, s3, s4⟩ := hR1.soft5
  cases hv : Rp.valid ⟨me, 2, 0, [], List.replicate 2 0⟩
  · unfold orErr zeroRep
    go_wp2
    refine bodyPost_ret (v := .tuple #[zeroRep, .int .i64 310]) (by simp [zeroRep, results, Tryz.results27, go_sem, r0, r1, r2, r3, r4]) rfl ⟨?_, ?_⟩
    · repeat (refine Below.setCell ?_ (by simp) _)
      exact hb2
    · rw [HN.out, HR.out, hv]; rfl
  · unfold orErr repV
    go_wp2
    refine bodyPost_ret (v := .tuple #[repV ⟨me, 2, 0, [], List.replicate 2 0⟩ none 0 0 (some ⟨w.heap.size + 1, 0, none⟩) 2 2, .int .i64 0]) (by simp [repV, results, Tryz.results27, go_sem, r0, r1, r2, r3, r4]) rfl ⟨?_, ?_⟩
    · repeat (refine Below.setCell ?_ (by simp) _)
      exact hb2
    · rw [HN.out, HR.out, hv]
      refine ⟨none, 0, 0, _, _, _, rfl, ?_, (fun a h => by cases h), (fun a h => by cases h; simp), Nat.le_refl _⟩
      simp only [size_setCell]
      repeat (refine RepR.far ?_ (fun a h => by cases h) (fun a h => by cases h; simp) _)
      exact hrep _ hb1

set_option maxRecDepth 100000 in
set_option maxHeartbeats 800000 in
theorem new_case3 (w : World) (me : Int) : Calls Tryz.prog 27 #[.int .i64 me, .int .i64 3] w fun e w' => GotRep w w' e (Rp.newRep me 3) := by
  have HN := Lib.hid (newRep_eq me 3)
  have HR := Lib.hid (show newOf me 3 = ⟨me, 3, 0, [], List.replicate 3 0⟩ from rfl)
  have hmk := makeInts3
  go_enter Tryz.func27, Tryz.ntmps27
  go_wp2_with fail
  obtain ⟨W0, hW0⟩ : ∃ W0, W0 = (w.alloc (.cells #[.int .i64 0, .int .i64 0, .int .i64 0, .slice none 0 0, .slice none 0 0] 26)).alloc (.cells #[.int .i64 0, .int .i64 0, .int .i64 0] 3) := ⟨_, rfl⟩
  rw [← hW0]
  have hs0 : W0.heap.size = w.heap.size + 2 := by rw [hW0]; simp
  have hbW : Below w.heap.size w W0 := by rw [hW0]; exact ((Below.refl _ _).alloc (Nat.le_refl _) _).alloc (by simp) _
  have hRW : Blk W0 w.heap.size 26 #[.int .i64 0, .int .i64 0, .int .i64 0, .slice none 0 0, .slice none 0 0] := by rw [hW0]; exact (Blk.new _ _ _).alloc _
  have hrd : ∀ w', Below W0.heap.size W0 w' → Reads w' w'.heap.size 1 (some ⟨w.heap.size + 1, 0, none⟩) 3 ((List.replicate 3 (0 : Int)).map (Value.int .i64)) := by
    intro w' hb
    have := reads_zeros (w.alloc (.cells #[.int .i64 0, .int .i64 0, .int .i64 0, .slice none 0 0, .slice none 0 0] 26)) 3 #[.int .i64 0, .int .i64 0, .int .i64 0] rfl w' (by rw [hW0] at hb; simp only [World.size_alloc] at hb ⊢; exact hb)
    simp only [World.size_alloc] at this
    exact this
  have hrep : ∀ w', Below W0.heap.size W0 w' → RepR w' w'.heap.size ⟨me, 3, 0, [], List.replicate 3 0⟩ none 0 (some ⟨w.heap.size + 1, 0, none⟩) 3 :=
    fun w' hb => ⟨⟨rfl, fun h => absurd h (by omega)⟩, rfl, hrd w' hb, by simp, by omega, by omega⟩
  clear hmk hrd hW0
  refine (right_any W0 ⟨me, 3, 0, [], List.replicate 3 0⟩ none 0 0 (some ⟨w.heap.size + 1, 0, none⟩) 3 3 (hrep W0 (Below.refl _ _))).mono ?_
  rintro e w1 ⟨rfl, hb1⟩
  have hb2 := hbW.trans (hb1.mono hbW.size)
  have hR1 := hRW.below hb1 (by omega)
  obtain ⟨r0, r1, r2, r3, r4⟩ := hR1.cells5
  obtain ⟨s0, s1, s2, s3, s4⟩ := hR1.soft5
  cases hv : Rp.valid ⟨me, 3, 0, [], List.replicate 3 0⟩
  · unfold orErr zeroRep
    go_wp2
    refine bodyPost_ret (v := .tuple #[zeroRep, .int .i64 310]) (by simp [zeroRep, results, Tryz.results27, go_sem, r0, r1, r2, r3, r4]) rfl ⟨?_, ?_⟩
    · repeat (refine Below.setCell ?_ (by simp) _)
      exact hb2
    · rw [HN.out, HR.out, hv]; rfl
  · unfold orErr repV
    go_wp2
    refine bodyPost_ret (v := .tuple #[repV ⟨me, 3, 0, [], List.replicate 3 0⟩ none 0 0 (some ⟨w.heap.size + 1, 0, none⟩) 3 3, .int .i64 0]) (by simp [repV, results, Tryz.results27, go_sem, r0, r1, r2, r3, r4]) rfl ⟨?_, ?_⟩
    · repeat (refine Below.setCell ?_ (by simp) _)
      exact hb2
    · rw [HN.out, HR.out, hv]
      refine ⟨none, 0, 0, _, _, _, rfl, ?_, (fun a h => by cases h), (fun a h => by cases h; simp), Nat.le_refl _⟩
      simp only [size_setCell]
      repeat (refine RepR.far ?_ (fun a h => by cases h) (fun a h => by cases h; simp) _)
      exact hrep _ hb1

set_option maxRecDepth 100000 in
set_option maxHeartbeats 800000 in
theorem new_case4 (w : World) (me : Int) : Calls Tryz.prog 27 #[.int .i64 me, .int .i64 4] w fun e w' => GotRep w w' e (Rp.newRep me 4) := by
  have HN := Lib.hid (newRep_eq me 4)
  have HR := Lib.hid (show newOf me 4 = ⟨me, 4, 0, [], List.replicate 4 0⟩ from rfl)
  have hmk := makeInts4
  go_enter Tryz.func27, Tryz.ntmps27
  go_wp2_with fail
  obtain ⟨W0, hW0⟩ : ∃ W0, W0 = (w.alloc (.cells #[.int .i64 0, .int .i64 0, .int .i64 0, .slice none 0 0, .slice none 0 0] 26)).alloc (.cells #[.int .i64 0, .int .i64 0, .int .i64 0, .int .i64 0] 3) := ⟨_, rfl⟩
  rw [← hW0]
  have hs0 : W0.heap.size = w.heap.size + 2 := by rw [hW0]; simp
  have hbW : Below w.heap.size w W0 := by rw [hW0]; exact ((Below.refl _ _).alloc (Nat.le_refl _) _).alloc (by simp) _
  have hRW : Blk W0 w.heap.size 26 #[.int .i64 0, .int .i64 0, .int .i64 0, .slice none 0 0, .slice none 0 0] := by rw [hW0]; exact (Blk.new _ _ _).alloc _
  have hrd : ∀ w', Below W0.heap.size W0 w' → Reads w' w'.heap.size 1 (some ⟨w.heap.size + 1, 0, none⟩) 4 ((List.replicate 4 (0 : Int)).map (Value.int .i64)) := by
    intro w' hb
    have := reads_zeros (w.alloc (.cells #[.int .i64 0, .int .i64 0, .int .i64 0, .slice none 0 0, .slice none 0 0] 26)) 4 #[.int .i64 0, .int .i64 0, .int .i64 0, .int .i64 0] rfl w' (by rw [hW0] at hb; simp only [World.size_alloc] at hb ⊢; exact hb)
    simp only [World.size_alloc] at this
    exact this
  have hrep : ∀ w', Below W0.heap.size W0 w' → RepR w' w'.heap.size ⟨me, 4, 0, [], List.replicate 4 0⟩ none 0 (some ⟨w.heap.size + 1, 0, none⟩) 4 :=
    fun w' hb => ⟨⟨rfl, fun h => absurd h (by omega)⟩, rfl, hrd w' hb, by simp, by omega, by omega⟩
  clear hmk hrd hW0
  refine (right_any W0 ⟨me, 4, 0, [], List.replicate 4 0⟩ none 0 0 (some ⟨w.heap.size + 1, 0, none⟩) 4 4 (hrep W0 (Below.refl _ _))).mono ?_
  rintro e w1 ⟨rfl, hb1⟩
  have hb2 := hbW.trans (hb1.mono hbW.size)
  have hR1 := hRW.below hb1 (by omega)
  obtain ⟨r0, r1, r2, r3, r4⟩ := hR1.cells5
  obtain ⟨s0, s1, s2, s3, s4⟩ := hR1.soft5
  cases hv : Rp.valid ⟨me, 4, 0, [], List.replicate 4 0⟩
  · unfold orErr zeroRep
    go_wp2
    refine bodyPost_ret (v := .tuple #[zeroRep, .int .i64 310]) (by simp [zeroRep, results, Tryz.results27, go_sem, r0, r1, r2, r3, r4]) rfl ⟨?_, ?_⟩
    · repeat (refine Below.setCell ?_ (by simp) _)
      exact hb2
    · rw [HN.out, HR.out, hv]; rfl
  · unfold orErr repV
    go_wp2
    refine bodyPost_ret (v := .tuple #[repV ⟨me, 4, 0, [], List.replicate 4 0⟩ none 0 0 (some ⟨w.heap.size + 1, 0, none⟩) 4 4, .int .i64 0]) (by simp [repV, results, Tryz.results27, go_sem, r0, r1, r2, r3, r4]) rfl ⟨?_, ?_⟩
    · repeat (refine Below.setCell ?_ (by simp) _)
      exact hb2
    · rw [HN.out, HR.out, hv]
      refine ⟨none, 0, 0, _, _, _, rfl, ?_, (fun a h => by cases h), (fun a h => by cases h; simp), Nat.le_refl _⟩
      simp only [size_setCell]
      repeat (refine RepR.far ?_ (fun a h => by cases h) (fun a h => by cases h; simp) _)
      exact hrep _ hb1

set_option maxRecDepth 100000 in
set_option maxHeartbeats 800000 in
theorem new_case5 (w : World) (me : Int) : Calls Tryz.prog 27 #[.int .i64 me, .int .i64 5] w fun e w' => GotRep w w' e (Rp.newRep me 5) := by
  have HN := Lib.hid (newRep_eq me 5)
  have HR := Lib.hid (show newOf me 5 = ⟨me, 5, 0, [], List.replicate 5 0⟩ from rfl)
  have hmk := makeInts5
  go_enter Tryz.func27, Tryz.ntmps27
  go_wp2_with fail
  obtain ⟨W0, hW0⟩ : ∃ W0, W0 = (w.alloc (.cells #[.int .i64 0, .int .i64 0, .int .i64 0, .slice none 0 0, .slice none 0 0] 26)).alloc (.cells #[.int .i64 0, .int .i64 0, .int .i64 0, .int .i64 0, .int .i64 0] 3) := ⟨_, rfl⟩
  rw [← hW0]
  have hs0 : W0.heap.size = w.heap.size + 2 := by rw [hW0]; simp
  have hbW : Below w.heap.size w W0 := by rw [hW0]; exact ((Below.refl _ _).alloc (Nat.le_refl _) _).alloc (by simp) _
  have hRW : Blk W0 w.heap.size 26 #[.int .i64 0, .int .i64 0, .int .i64 0, .slice none 0 0, .slice none 0 0] := by rw [hW0]; exact (Blk.new _ _ _).alloc _
  have hrd : ∀ w', Below W0.heap.size W0 w' → Reads w' w'.heap.size 1 (some ⟨w.heap.size + 1, 0, none⟩) 5 ((List.replicate 5 (0 : Int)).map (Value.int .i64)) := by
    intro w' hb
    have := reads_zeros (w.alloc (.cells #[.int .i64 0, .int .i64 0, .int .i64 0, .slice none 0 0, .slice none 0 0] 26)) 5 #[.int .i64 0, .int .i64 0, .int .i64 0, .int .i64 0, .int .i64 0] rfl w' (by rw [hW0] at hb; simp only [World.size_alloc] at hb ⊢; exact hb)
    simp only [World.size_alloc] at this
    exact this
  have hrep : ∀ w', Below W0.heap.size W0 w' → RepR w' w'.heap.size ⟨me, 5, 0, [], List.replicate 5 0⟩ none 0 (some ⟨w.heap.size + 1, 0, none⟩) 5 :=
    fun w' hb => ⟨⟨rfl, fun h => absurd h (by omega)⟩, rfl, hrd w' hb, by simp, by omega, by omega⟩
  clear hmk hrd hW0
  refine (right_any W0 ⟨me, 5, 0, [], List.replicate 5 0⟩ none 0 0 (some ⟨w.heap.size + 1, 0, none⟩) 5 5 (hrep W0 (Below.refl _ _))).mono ?_
  rintro e w1 ⟨rfl, hb1⟩
  have hb2 := hbW.trans (hb1.mono hbW.size)
  have hR1 := hRW.below hb1 (by omega)
  obtain ⟨r0, r1, r2, r3, r4⟩ := hR1.cells5
  obtain ⟨s0, s1, s2, s3, s4⟩ := hR1.soft5
  cases hv : Rp.valid ⟨me, 5, 0, [], List.replicate 5 0⟩
  · unfold orErr zeroRep
    go_wp2
    refine bodyPost_ret (v := .tuple #[zeroRep, .int .i64 310]) (by simp [zeroRep, results, Tryz.results27, go_sem, r0, r1, r2, r3, r4]) rfl ⟨?_, ?_⟩
    · repeat (refine Below.setCell ?_ (by simp) _)
      exact hb2
    · rw [HN.out, HR.out, hv]; rfl
  · unfold orErr repV
    go_wp2
    refine bodyPost_ret (v := .tuple #[repV ⟨me, 5, 0, [], List.replicate 5 0⟩ none 0 0 (some ⟨w.heap.size + 1, 0, none⟩) 5 5, .int .i64 0]) (by simp [repV, results, Tryz.results27, go_sem, r0, r1, r2, r3, r4]) rfl ⟨?_, ?_⟩
    · repeat (refine Below.setCell ?_ (by simp) _)
      exact hb2
    · rw [HN.out, HR.out, hv]
      refine ⟨none, 0, 0, _, _, _, rfl, ?_, (fun a h => by cases h), (fun a h => by cases h; simp), Nat.le_refl _⟩
      simp only [size_setCell]
      repeat (refine RepR.far ?_ (fun a h => by cases h) (fun a h => by cases h; simp) _)
      exact hrep _ hb1

set_option maxRecDepth 100000 in
set_option maxHeartbeats 800000 in
theorem new_case6 (w : World) (me : Int) : Calls Tryz.prog 27 #[.int .i64 me, .int .i64 6] w fun e w' => GotRep w w' e (Rp.newRep me 6) := by
  have HN := Lib.hid (newRep_eq me 6)
  have HR := Lib.hid (show newOf me 6 = ⟨me, 6, 0, [], List.replicate 6 0⟩ from rfl)
  have hmk := makeInts6
  go_enter Tryz.func27, Tryz.ntmps27
  go_wp2_with fail
  obtain ⟨W0, hW0⟩ : ∃ W0, W0 = (w.alloc (.cells #[.int .i64 0, .int .i64 0, .int .i64 0, .slice none 0 0, .slice none 0 0] 26)).alloc (.cells #[.int .i64 0, .int .i64 0, .int .i64 0, .int .i64 0, .int .i64 0, .int .i64 0] 3) := ⟨_, rfl⟩
  rw [← hW0]
  have hs0 : W0.heap.size = w.heap.size + 2 := by rw [hW0]; simp
  have hbW : Below w.heap.size w W0 := by rw [hW0]; exact ((Below.refl _ _).alloc (Nat.le_refl _) _).alloc (by simp) _
  have hRW : Blk W0 w.heap.size 26 #[.int .i64 0, .int .i64 0, .int .i64 0, .slice none 0 0, .slice none 0 0] := by rw [hW0]; exact (Blk.new _ _ _).alloc _
  have hrd : ∀ w', Below W0.heap.size W0 w' → Reads w' w'.heap.size 1 (some ⟨w.heap.size + 1, 0, none⟩) 6 ((List.replicate 6 (0 : Int)).map (Value.int .i64)) := by
    intro w' hb
    have := reads_zeros (w.alloc (.cells #[.int .i64 0, .int .i64 0, .int .i64 0, .slice none 0 0, .slice none 0 0] 26)) 6 #[.int .i64 0, .int .i64 0, .int .i64 0, .int .i64 0, .int .i64 0, .int .i64 0] rfl w' (by rw [hW0] at hb; simp only [World.size_alloc] at hb ⊢; exact hb)
    simp only [World.size_alloc] at this
    exact this
  have hrep : ∀ w', Below W0.heap.size W0 w' → RepR w' w'.heap.size ⟨me, 6, 0, [], List.replicate 6 0⟩ none 0 (some ⟨w.heap.size + 1, 0, none⟩) 6 :=
    fun w' hb => ⟨⟨rfl, fun h => absurd h (by omega)⟩, rfl, hrd w' hb, by simp, by omega, by omega⟩
  clear hmk hrd hW0
  refine (right_any W0 ⟨me, 6, 0, [], List.replicate 6 0⟩ none 0 0 (some ⟨w.heap.size + 1, 0, none⟩) 6 6 (hrep W0 (Below.refl _ _))).mono ?_
  rintro e w1 ⟨rfl, hb1⟩
  have hb2 := hbW.trans (hb1.mono hbW.size)
  have hR1 := hRW.below hb1 (by omega)
  obtain ⟨r0, r1, r2, r3, r4⟩ := hR1.cells5
  obtain ⟨s0, s1, s2, s3, s4⟩ := hR1.soft5
  cases hv : Rp.valid ⟨me, 6, 0, [], List.replicate 6 0⟩
  · unfold orErr zeroRep
    go_wp2
    refine bodyPost_ret (v := .tuple #[zeroRep, .int .i64 310]) (by simp [zeroRep, results, Tryz.results27, go_sem, r0, r1, r2, r3, r4]) rfl ⟨?_, ?_⟩
    · repeat (refine Below.setCell ?_ (by simp) _)
      exact hb2
    · rw [HN.out, HR.out, hv]; rfl
  · unfold orErr repV
    go_wp2
    refine bodyPost_ret (v := .tuple #[repV ⟨me, 6, 0, [], List.replicate 6 0⟩ none 0 0 (some ⟨w.heap.size + 1, 0, none⟩) 6 6, .int .i64 0]) (by simp [repV, results, Tryz.results27, go_sem, r0, r1, r2, r3, r4]) rfl ⟨?_, ?_⟩
    · repeat (refine Below.setCell ?_ (by simp) _)
      exact hb2
    · rw [HN.out, HR.out, hv]
      refine ⟨none, 0, 0, _, _, _, rfl, ?_, (fun a h => by cases h), (fun a h => by cases h; simp), Nat.le_refl _⟩
      simp only [size_setCell]
      repeat (refine RepR.far ?_ (fun a h => by cases h) (fun a h => by cases h; simp) _)
      exact hrep _ hb1

set_option maxRecDepth 100000 in
set_option maxHeartbeats 800000 in
theorem new_big (w : World) (me many : Int) (h1 : 6 < many) : Calls Tryz.prog 27 #[.int .i64 me, .int .i64 many] w fun e w' => GotRep w w' e (Rp.newRep me many) := by
  have HN := Lib.hid (newRep_eq me many)
  have HR := Lib.hid (show newOf me many = ⟨me, many, 0, [], List.replicate 6 0⟩ from by unfold newOf; rw [show (min (max many 0) 6).toNat = 6 by omega])
  have hmk := makeInts6
  go_enter Tryz.func27, Tryz.ntmps27
  go_wp2_with fail
  obtain ⟨W0, hW0⟩ : ∃ W0, W0 = (w.alloc (.cells #[.int .i64 0, .int .i64 0, .int .i64 0, .slice none 0 0, .slice none 0 0] 26)).alloc (.cells #[.int .i64 0, .int .i64 0, .int .i64 0, .int .i64 0, .int .i64 0, .int .i64 0] 3) := ⟨_, rfl⟩
  rw [← hW0]
  have hs0 : W0.heap.size = w.heap.size + 2 := by rw [hW0]; simp
  have hbW : Below w.heap.size w W0 := by rw [hW0]; exact ((Below.refl _ _).alloc (Nat.le_refl _) _).alloc (by simp) _
  have hRW : Blk W0 w.heap.size 26 #[.int .i64 0, .int .i64 0, .int .i64 0, .slice none 0 0, .slice none 0 0] := by rw [hW0]; exact (Blk.new _ _ _).alloc _
  have hrd : ∀ w', Below W0.heap.size W0 w' → Reads w' w'.heap.size 1 (some ⟨w.heap.size + 1, 0, none⟩) 6 ((List.replicate 6 (0 : Int)).map (Value.int .i64)) := by
    intro w' hb
    have := reads_zeros (w.alloc (.cells #[.int .i64 0, .int .i64 0, .int .i64 0, .slice none 0 0, .slice none 0 0] 26)) 6 #[.int .i64 0, .int .i64 0, .int .i64 0, .int .i64 0, .int .i64 0, .int .i64 0] rfl w' (by rw [hW0] at hb; simp only [World.size_alloc] at hb ⊢; exact hb)
    simp only [World.size_alloc] at this
    exact this
  have hrep : ∀ w', Below W0.heap.size W0 w' → RepR w' w'.heap.size ⟨me, many, 0, [], List.replicate 6 0⟩ none 0 (some ⟨w.heap.size + 1, 0, none⟩) 6 :=
    fun w' hb => ⟨⟨rfl, fun h => absurd h (by omega)⟩, rfl, hrd w' hb, by simp, by omega, by omega⟩
  clear hmk hrd hW0
  refine (right_any W0 ⟨me, many, 0, [], List.replicate 6 0⟩ none 0 0 (some ⟨w.heap.size + 1, 0, none⟩) 6 6 (hrep W0 (Below.refl _ _))).mono ?_
  rintro e w1 ⟨rfl, hb1⟩
  have hb2 := hbW.trans (hb1.mono hbW.size)
  have hR1 := hRW.below hb1 (by omega)
  obtain ⟨r0, r1, r2, r3, r4⟩ := hR1.cells5
  obtain ⟨s0, s1, s2, s3, s4⟩ := hR1.soft5
  cases hv : Rp.valid ⟨me, many, 0, [], List.replicate 6 0⟩
  · unfold orErr zeroRep
    go_wp2
    refine bodyPost_ret (v := .tuple #[zeroRep, .int .i64 310]) (by simp [zeroRep, results, Tryz.results27, go_sem, r0, r1, r2, r3, r4]) rfl ⟨?_, ?_⟩
    · repeat (refine Below.setCell ?_ (by simp) _)
      exact hb2
    · rw [HN.out, HR.out, hv]; rfl
  · unfold orErr repV
    go_wp2
    refine bodyPost_ret (v := .tuple #[repV ⟨me, many, 0, [], List.replicate 6 0⟩ none 0 0 (some ⟨w.heap.size + 1, 0, none⟩) 6 6, .int .i64 0]) (by simp [repV, results, Tryz.results27, go_sem, r0, r1, r2, r3, r4]) rfl ⟨?_, ?_⟩
    · repeat (refine Below.setCell ?_ (by simp) _)
      exact hb2
    · rw [HN.out, HR.out, hv]
      refine ⟨none, 0, 0, _, _, _, rfl, ?_, (fun a h => by cases h), (fun a h => by cases h; simp), Nat.le_refl _⟩
      simp only [size_setCell]
      repeat (refine RepR.far ?_ (fun a h => by cases h) (fun a h => by cases h; simp) _)
      exact hrep _ hb1

theorem new_any (w : World) (me many : Int) : Calls Tryz.prog 27 #[.int .i64 me, .int .i64 many] w fun e w' => GotRep w w' e (Rp.newRep me many) := by
  by_cases h1 : many < 0
  · exact new_neg w me many h1
  by_cases h2 : 6 < many
  · exact new_big w me many h2
  have h3 : many = 0 ∨ many = 1 ∨ many = 2 ∨ many = 3 ∨ many = 4 ∨ many = 5 ∨ many = 6 := by omega
  rcases h3 with rfl | rfl | rfl | rfl | rfl | rfl | rfl
  · exact new_case0 w me
  · exact new_case1 w me
  · exact new_case2 w me
  · exact new_case3 w me
  · exact new_case4 w me
  · exact new_case5 w me
  · exact new_case6 w me
end Go.Proofs.YtnehgpeelgjjhaaGreatDoor.Tw
namespace Go.Proofs.YtnehgpeelgjjhaaGreatDoor.Tw
open Go.RowKit

set_option maxRecDepth 100000 in
set_option maxHeartbeats 800000 in
theorem counts_any (w : World) (A : Option Addr) (n c : Nat) (l : List Rp.Post)
    (hx : Reads w w.heap.size 4 A n (encPs l)) (hl : l.length = n) (hn : n ≤ 16777216) (ho : ∀ p ∈ l, ∃ o : Nat, o < 5 ∧ p.origin = o) :
    Calls Tryz.prog 43 #[.slice A n c] w fun e w' => e = .returned (.agg (Row5 (C l n))) ∧ Below w.heap.size w w' := by
  have HX := Lib.hid hx
  have HL := Lib.hid hl
  have HO := Lib.hid ho
  clear hx hl ho
  go_enter Tryz.func43, Tryz.ntmps43
  go_wp2
  go_loopw [9] (fun k wr => ∃ j : Nat, j ≤ n ∧ k = .int .i64 j ∧ Below w.heap.size w wr ∧
      Blk wr w.heap.size 88 (Row5 fun _ => 0) ∧ Blk wr (w.heap.size + 1) 88 (Row5 (C l j))) (fun k _ => n - (intOf k).toNat)
  case atStart =>
    refine ⟨0, by omega, rfl, (((Below.refl _ _).alloc (Nat.le_refl _) _).alloc (by simp) _), ?_, ?_⟩
    · exact (Blk.new w _ _).alloc _
    · exact Blk.new2 _ _ _ _
  case round =>
    obtain ⟨j, hj, rfl, hb, hZ, hC⟩ := hrel
    by_cases hlt : j < n
    · obtain ⟨b, off, q, rfl, hbl, hq, h0, h1, h2, h3⟩ := HX.out.post HL.out hlt
      rw [← hb.cell (p := ⟨b, _, none⟩) hbl] at h0 h1 h2 h3
      obtain ⟨k, hk5, hk⟩ := HO.out q (List.mem_of_getElem? hq)
      have HQ := Lib.hid hq
      clear hq
      obtain ⟨ep, og, nu, tx⟩ := q
      simp only at h0 h1 h2 h3 hk
      subst hk
      have hbs := hb.size
      have hcs := hC.lt
      have c1 := (hC.cell k).trans (Row5.get hk5)
      have f1 := hC.frozen k
      have e1 := World.new_ne wr _ c1
      obtain ⟨cb0, cb1⟩ := C_le l j k
      go_wp2
      go_roundw
      case rel =>
        refine ⟨j + 1, by omega, by go_num, ?_, ?_, ?_⟩
        · exact (hb.setCell (p := ⟨w.heap.size + 1, k, none⟩) (by simp) _).alloc (by simp only [size_setCell]; exact hbs) _
        · exact (hZ.far (p := ⟨w.heap.size + 1, k, none⟩) (by simp) _).alloc _
        · have h := (hC.set_ k (.int .i64 (C l j k + 1))).alloc (.cells #[.int .i64 ep, .int .i64 k, .int .i64 nu, .string tx] 57)
          rw [Row5.set (g := C l (j + 1)) hk5 (by rw [C_succ HQ.out]; simp) (fun o _ ho => by rw [C_succ HQ.out]; simp; omega)] at h
          exact h
      case measure => simp [intOf]; omega
    · have hjn : j = n := by omega
      subst hjn
      obtain ⟨a0, a1, a2, a3, a4⟩ := (show Blk wr (w.heap.size + 1) 88 #[.int .i64 (C l j 0), .int .i64 (C l j 1), .int .i64 (C l j 2), .int .i64 (C l j 3), .int .i64 (C l j 4)] from hC).cells5
      obtain ⟨z0, z1, z2, z3, z4⟩ := (show Blk wr w.heap.size 88 #[.int .i64 0, .int .i64 0, .int .i64 0, .int .i64 0, .int .i64 0] from hZ).cells5
      obtain ⟨s0, s1, s2, s3, s4⟩ := hZ.soft5
      go_wp2
      refine bodyPost_ret (v := .agg (Row5 (C l j))) (by simp [Row5, results, Tryz.results43, go_sem, z0, z1, z2, z3, z4]) rfl ⟨rfl, ?_⟩
      repeat (refine Below.setCell ?_ (by simp) _)
      exact hb
end Go.Proofs.YtnehgpeelgjjhaaGreatDoor.Tw
