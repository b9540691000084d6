/- Contracts of functions of the program, and plain laws, towards the laws of replicas. Joined of the texts: Stable, Loose, LooseK, Write, Tell, Peq, Equal, Same. -/
import Derived.Test.YtnehgpeelgjjhaaGreatDoorW01
import Derived.Deep.MidRow
import Derived.Laws.CopyRow
import Derived.KernelRfl
import Derived.Deep.Cut
set_option linter.all false
namespace Go.Proofs.YtnehgpeelgjjhaaGreatDoor.Tw
open Go.RowKit

theorem least_take {l : List Int} {j : Nat} {x : Int} (h : l[j]? = some x) (hj : 0 < j) : Rp.least (l.take (j + 1)) = min (Rp.least (l.take j)) x := by
  obtain ⟨hlt, rfl⟩ := List.getElem?_eq_some_iff.1 h
  rw [List.take_succ_eq_append_getElem hlt]
  cases l with
  | nil => simp at hlt
  | cons a l =>
    obtain ⟨i, rfl⟩ : ∃ i, j = i + 1 := ⟨j - 1, by omega⟩
    have hl : i < l.length := by simpa using hlt
    simp only [Rp.least, List.take_succ_cons, List.cons_append]
    rw [List.foldl_append]
    rfl
theorem minE (a x : Int) : (if x < a then x else a) = min a x := by rw [Int.min_def]; split <;> split <;> omega

theorem Reads.int {w : World} {B n : Nat} {A : Option Addr} {l : List Int} (h : Reads w B 1 A n (l.map (Value.int .i64))) {j : Nat} (hj : j < n) :
    ∃ b off x, A = some ⟨b, off, none⟩ ∧ b < B ∧ l[j]? = some x ∧ w.cell? ⟨b, off + j, none⟩ = some (.int .i64 x) := by
  obtain ⟨b, off, e, hb, hc⟩ := h.2 (by omega)
  have hl : l.length = n := by have := h.1; simpa using this
  have hp : l[j]? = some l[j] := List.getElem?_eq_getElem (by omega)
  exact ⟨b, off, _, e, hb, hp, hc j _ (by simp [hp])⟩

set_option maxRecDepth 100000 in
set_option maxHeartbeats 800000 in
theorem min_any (w : World) (A : Option Addr) (n c : Nat) (l : List Int) (hx : Reads w w.heap.size 1 A n (l.map (Value.int .i64))) (h0 : 0 < n) (hn : n ≤ 16777216) :
    Calls Tryz.prog 48 #[.slice A n c] w fun e w' => e = .returned (.int .i64 (Rp.least l)) ∧ w = w' := by
  obtain ⟨b, off, x0, rfl, hbl, hx0, hc0⟩ := hx.int h0
  have hl : l.length = n := by have := hx.1; simpa using this
  have HL := Lib.hid hl
  have HX := Lib.hid hx
  have H1 := Lib.hid (show Rp.least (l.take 1) = x0 from by
    cases l with
    | nil => simp at hx0
    | cons a l => simp at hx0; subst hx0; rfl)
  clear hx hl hx0
  simp only [Nat.add_zero] at hc0
  have hnn : (1 : Int) ≤ (n : Int) := by omega
  go_enter Tryz.func48, Tryz.ntmps48
  go_wp2
  go_loopw [3, 4] (fun m i wr => ∃ j : Nat, 1 ≤ j ∧ j ≤ n ∧ m = .int .i64 (Rp.least (l.take j)) ∧ i = .int .i64 j ∧ wr = w) (fun _ i _ => n - (intOf i).toNat)
  case atStart => exact ⟨1, by omega, by omega, by rw [H1.out], rfl, rfl⟩
  case round =>
    obtain ⟨j, hj1, hj, rfl, rfl, rfl⟩ := hrel
    by_cases hlt : j < n
    · obtain ⟨b', off', x, hA, _, hxj, hcj⟩ := HX.out.int hlt
      injection hA with hA
      injection hA with hA1 hA2
      subst hA1 hA2
      have HM := Lib.hid (least_take hxj (by omega))
      clear hxj
      go_wp2
      go_roundw
      case rel => exact ⟨j + 1, by omega, by omega, by rw [HM.out, minE], by go_num, trivial⟩
      case measure => simp [intOf]; omega
    · have hjn : j = n := by omega
      subst hjn
      have HT := Lib.hid (show l.take j = l from List.take_of_length_le (by rw [HL.out]; omega))
      go_wp2
      go_ret
      exact ⟨ret_int (by rw [HT.out]), rfl⟩

def low (l : List Rp.Post) (e : Int) (j : Nat) : Nat := j + ((l.drop j).takeWhile fun p => decide (p.epoch ≤ e)).length
theorem low_zero (r : Rp.Rep) : Rp.stableN r = low r.posts (Rp.least r.heard) 0 := by simp [low, Rp.stableN]
theorem low_yes {l : List Rp.Post} {e : Int} {j : Nat} {q : Rp.Post} (h : l[j]? = some q) (hq : q.epoch ≤ e) : low l e j = low l e (j + 1) := by
  unfold low
  rw [(drop_at h).1, List.takeWhile_cons, if_pos (by simpa using hq)]
  simp; omega
theorem low_no {l : List Rp.Post} {e : Int} {j : Nat} {q : Rp.Post} (h : l[j]? = some q) (hq : ¬ q.epoch ≤ e) : low l e j = j := by
  unfold low
  rw [(drop_at h).1, List.takeWhile_cons, if_neg (by simpa using hq)]
  simp
theorem low_end {l : List Rp.Post} {e : Int} {j : Nat} (h : l.length ≤ j) : low l e j = j := by
  unfold low
  rw [List.drop_eq_nil_of_le h]
  simp

set_option maxRecDepth 100000 in
set_option maxHeartbeats 800000 in
theorem stable_any (w : World) (r : Rp.Rep) (A : Option Addr) (n c : Nat) (A' : Option Addr) (n' c' : Nat) (h : RepR w w.heap.size r A n A' n') :
    Calls Tryz.prog 16 #[repV r A n c A' n' c'] w fun e w' => e = .returned (orErr (Rp.valid r) (.int .i64 (Rp.stableN r)) (.int .i64 0) 310) ∧ Below w.heap.size w w' := by
  obtain ⟨me, many, clock, posts, heard⟩ := r
  obtain ⟨W0, hW0⟩ : ∃ W0, W0 = w.alloc (.cells #[.int .i64 me, .int .i64 many, .int .i64 clock, .slice A n c, .slice A' n' c'] 26) := ⟨_, rfl⟩
  have hs0 : W0.heap.size = w.heap.size + 1 := by rw [hW0]; simp
  have hbW : Below w.heap.size w W0 := by rw [hW0]; exact (Below.refl _ _).alloc (Nat.le_refl _) _
  have hBW : Blk W0 w.heap.size 26 #[.int .i64 me, .int .i64 many, .int .i64 clock, .slice A n c, .slice A' n' c'] := by rw [hW0]; exact Blk.new _ _ _
  have HV := Lib.hid (valid_any W0 ⟨me, many, clock, posts, heard⟩ A n c A' n' c' ((h.below hbW).more (by omega)))
  have HS := Lib.hid (low_zero ⟨me, many, clock, posts, heard⟩)
  have HW0 := Lib.hid hW0
  have HH := Lib.hid h
  clear h hW0
  unfold repV at *
  simp only at HV HS ⊢
  go_enter Tryz.func16, Tryz.ntmps16
  go_wp2_with fail
  rw [← HW0.out]
  refine HV.out.mono ?_
  rintro e w1 ⟨rfl, hb1⟩
  have hb2 := hbW.trans (hb1.mono hbW.size)
  obtain ⟨b0, b1, b2, b3, b4⟩ := (hBW.below hb1 (by omega)).cells5
  cases hv : Rp.valid ⟨me, many, clock, posts, heard⟩
  · have HVV := Lib.hid hv
    go_wp2
    exact bodyPost_ret (v := .tuple #[.int .i64 0, .int .i64 310]) (by simp [results, Tryz.results16, go_sem]) rfl ⟨by rw [HVV.out]; rfl, hb2⟩
  · have HVV := Lib.hid hv
    have hv' := Rp.valid_iff.1 hv
    obtain ⟨⟨v1, v2⟩, ⟨v3, v4⟩, ⟨v5, v6⟩, v7, v8, v9⟩ := hv'
    have v7' := (Rp.isHeard_iff.1 v7).1
    simp only at v1 v2 v3 v4 v5 v6 v7'
    have hlen : heard.length = n' := HH.out.len'
    have hplen : posts.length = n := HH.out.len
    have hfew := HH.out.few
    have hfew' := HH.out.few'
    have h0 : 0 < n' := by omega
    have HM := Lib.hid (min_any w1 A' n' c' heard ((HH.out.heard.below hb2).more hb2.size) h0 hfew')
    have HP := Lib.hid ((HH.out.posts.below hb2).more hb2.size)
    have HPL := Lib.hid hplen
    clear v1 v2 v3 v4 v5 v6 v7 v8 v9 v7' hlen hplen h0 hv
    go_wp2_with (go_at_call 48; refine HM.out.mono ?_; rintro e w2 ⟨rfl, rfl⟩)
    go_loopw [5] (fun k wr => ∃ j : Nat, j ≤ n ∧ k = .int .i64 j ∧ Hid (Rp.stableN ⟨me, many, clock, posts, heard⟩ = low posts (Rp.least heard) j) ∧ wr = w1) (fun k _ => n - (intOf k).toNat)
    case atStart => exact ⟨0, by omega, rfl, HS, rfl⟩
    case round =>
      obtain ⟨j, hj, rfl, hf, rfl⟩ := hrel
      by_cases hlt : j < n
      · have hjn : decide ((j : Int) < (n : Int)) = true := by simp; omega
        obtain ⟨b, off, q, rfl, hbl, hq, h0, h1, h2, h3⟩ := HP.out.post HPL.out hlt
        by_cases hle : q.epoch ≤ Rp.least heard
        · have HN := Lib.hid (low_yes hq hle)
          have hd : decide (q.epoch ≤ Rp.least heard) = true := by simpa using hle
          clear hle hq
          go_wp2
          go_roundw
          case rel => exact ⟨j + 1, by omega, by go_num, by unfold Hid; rw [hf.out, HN.out], trivial⟩
          case measure => simp [intOf]; omega
        · have HN := Lib.hid (low_no hq hle)
          have hd : decide (q.epoch ≤ Rp.least heard) = false := by simpa using hle
          clear hle hq
          go_wp2
          exact bodyPost_ret (v := .tuple #[.int .i64 j, .int .i64 0]) (by simp [results, Tryz.results16, go_sem]) rfl ⟨by rw [HVV.out, hf.out, HN.out]; rfl, hb2⟩
      · have hjn : decide ((j : Int) < (n : Int)) = false := by simp; omega
        have HN := Lib.hid (low_end (l := posts) (e := Rp.least heard) (j := j) (by rw [HPL.out]; omega))
        go_wp2
        exact bodyPost_ret (v := .tuple #[.int .i64 j, .int .i64 0]) (by simp [results, Tryz.results16, go_sem]) rfl ⟨by rw [HVV.out, hf.out, HN.out]; rfl, hb2⟩
end Go.Proofs.YtnehgpeelgjjhaaGreatDoor.Tw
/-!
A region that draws its order, and whose operations only make memory, read, or call what only makes memory ('loose' ones), with stores, one behind the other, at its end: ONE WALK OF THE LEXICAL ORDER SERVES EVERY ORDER, although the values of the loose operations hang on the world.
The walk: at a plain operation one value, whatever the world of the class; at a loose one ANY value that its predicate allows. A loose operation may lean on what the predicates of those before it, whose slots it reads, say of the world at hand.
-/
namespace Go.Loose
open Go Go.RowKit
set_option linter.unusedSimpArgs false

/-- operations that yield a value and enter nothing -/
def plain : Op → Bool
  | .move _ | .assign _ | .pick .. | .build .. | .load .. | .binOp .. | .unOp .. | .convert .. | .makeInterface .. | .makeFunc .. | .slice .. | .fieldAddr .. | .field .. | .indexAddr .. | .index .. | .lookup .. | .typeAssert .. | .extract .. | .nilCheck _ => true
  | .call { callee := .builtin .len, .. } | .call { callee := .builtin .cap, .. } | .call { callee := .builtin .max, .. } | .call { callee := .builtin .min, .. } => true
  | _ => false

section
variable {P : Program} {ops : Array Oper} {md : Region.Mode} {C : World → Prop} {V : Nat → Option (Value → World → Prop)}

theorem val_of {s : Sem Value} {w : World} {n : Next} {w' : World} (h : (do pure (Next.value (← s)) : Sem Next).run P w = .ok n w') : ∃ x, n = .value x := by
  rw [Sem.run_bind] at h
  cases hs : s.run P w with
  | ok x w1 => rw [hs] at h; simp [Result.andThen] at h; exact ⟨_, h.1.symm⟩
  | halt x w1 => rw [hs] at h; simp [Result.andThen] at h

theorem valued_bind {α : Type} {s : Sem α} {f : α → Sem Next} (hf : ∀ x (w : World) n w', (f x).run P w = .ok n w' → ∃ y, n = .value y) (w : World) (n : Next) (w' : World) (h : (s >>= f).run P w = .ok n w') : ∃ y, n = .value y := by
  rw [Sem.run_bind] at h
  cases hs : s.run P w with
  | ok x w1 => rw [hs] at h; exact hf x w1 n w' h
  | halt x w1 => rw [hs] at h; simp [Result.andThen] at h

theorem plain_value {ρ : Operand → Value} {o : Oper} (hp : plain o.op = true) {w : World} {n : Next} {w' : World} (h : (execOp ρ o).run P w = .ok n w') : ∃ x, n = .value x := by
  obtain ⟨dst, op, type, pos, after, guard⟩ := o
  cases op <;> simp only [plain, Bool.false_eq_true] at hp <;> simp only [execOp] at h
  case move x => simp at h; exact ⟨_, h.1.symm⟩
  case assign x => simp at h; exact ⟨_, h.1.symm⟩
  case pick c a b =>
    rw [Sem.run_bind] at h
    cases hs : (asBool (ρ c)).run P w with
    | ok x w1 => rw [hs] at h; simp [Result.andThen] at h; exact ⟨_, h.1.symm⟩
    | halt x w1 => rw [hs] at h; simp [Result.andThen] at h
  case nilCheck x =>
    split at h
    · simp [runtimePanic, Sem.run] at h
    · simp [runtimePanic, Sem.run] at h
    · simp [runtimePanic, Sem.run] at h
    · split at h
      · simp [runtimePanic, Sem.run] at h
      · refine valued_bind (fun p w n w' h => ?_) _ _ _ h
        refine valued_bind (fun r w n w' h => ?_) _ _ _ h
        split at h
        · refine valued_bind (fun r w n w' h => ?_) _ _ _ h
          simp at h; exact ⟨_, h.1.symm⟩
        · simp at h; exact ⟨_, h.1.symm⟩
      · simp at h; exact ⟨_, h.1.symm⟩
    · simp at h; exact ⟨_, h.1.symm⟩
  case call c =>
    obtain ⟨callee, args, tys⟩ := c
    cases callee with
    | value f => simp [plain] at hp
    | invoke f m => simp [plain] at hp
    | builtin b =>
      cases b <;> simp only [plain, Bool.false_eq_true] at hp <;> simp only [resolve, invoke, builtin, pure_bind, Sem.run_bind, Sem.run_pure, Result.andThen_ok] at h <;> exact val_of (by rw [Sem.run_bind]; exact h)
  all_goals exact val_of h

/-- a value, in the very world -/
def valUpon (w : World) (v : Value) : Result Next → Prop
  | .ok (.value u) w' => w' = w ∧ u = v
  | _ => False
def valAt (P : Program) (o : Oper) (a : Act) (w : World) (v : Value) : Prop := valUpon w v ((execOp a.eval o).run P w)
theorem valAt_unique {o : Oper} {a : Act} {w : World} {v u : Value} (h : valAt P o a w v) (k : valAt P o a w u) : v = u := by
  unfold valAt at *
  generalize (execOp a.eval o).run P w = r at *
  match r, h, k with
  | .ok (.value _) _, ⟨_, e1⟩, ⟨_, e2⟩ => exact e1.symm.trans e2

/-- any value that Vk allows; what lay lies as it lay -/
def looseUpon (P : Program) (Vk : Value → World → Prop) (W : World) : Result Next → Prop
  | .ok (.value u) w' => Below W.heap.size W w' ∧ Vk u w'
  | .ok .skip w' => Below W.heap.size W w' ∧ Vk undef w'
  | .ok (.enter f args) w' => w' = W ∧ Calls P f args W (fun e w'' => ∃ u, e = .returned u ∧ Below W.heap.size W w'' ∧ Vk u w'')
  | _ => False
def looseAt (P : Program) (o : Oper) (a : Act) (Vk : Value → World → Prop) (W : World) : Prop := looseUpon P Vk W ((execOp a.eval o).run P W)

/-- what the predicates of earlier loose operations, whose slots 'o' reads, say of this world -/
def Facts (ops : Array Oper) (V : Nat → Option (Value → World → Prop)) (k : Nat) (o : Oper) (a : Act) (W : World) : Prop :=
  ∀ i oi Vi d, i < k → ops[i]? = some oi → V i = some Vi → oi.dst = some d → d ∈ o.looksAt ops → a.tmps.getD d undef = undef ∨ Vi (a.tmps.getD d undef) W

/-- the walk: the operations of 'l' in their order, those that are listed left out -/
def walk (P : Program) (ops : Array Oper) (C : World → Prop) (V : Nat → Option (Value → World → Prop)) (Q : Act → (World → Prop) → Prop) (L : Nat → Bool) : Nat → List Oper → Act → (World → Prop) → Prop
  | _, [], a, F => Q a F
  | k, o :: l, a, F =>
    if L k = true then walk P ops C V Q L (k + 1) l a F else
    if Region.wanted o (yielded ops a.tmps) = true then
      match V k with
      | none => ∃ v, (∀ W, C W → valAt P o a W v) ∧ walk P ops C V Q L (k + 1) l (a.put o.dst v) F
      | some Vk => (∀ W, C W → Facts ops V k o a W → looseAt P o a Vk W) ∧ ∀ v, (∃ W, C W ∧ Vk v W) → walk P ops C V Q L (k + 1) l (a.put o.dst v) (fun W => F W ∧ Vk v W)
    else walk P ops C V Q L (k + 1) l (a.put o.dst undef) F

def Anti (Q : Act → (World → Prop) → Prop) : Prop := ∀ a (F F' : World → Prop), (∀ W, F' W → F W) → Q a F → Q a F'
variable {Q : Act → (World → Prop) → Prop} {L L' : Nat → Bool}

theorem walk_anti (hQ : Anti Q) : ∀ (l : List Oper) (k : Nat) (a : Act) (F F' : World → Prop), (∀ W, F' W → F W) → walk P ops C V Q L k l a F → walk P ops C V Q L k l a F'
  | [], _, a, F, F', h, hw => hQ a F F' h hw
  | o :: l, k, a, F, F', h, hw => by
    unfold walk at *
    split
    · rename_i hL; rw [if_pos hL] at hw; exact walk_anti hQ l _ _ F F' h hw
    · rename_i hL; rw [if_neg hL] at hw
      split
      · rename_i hwn; rw [if_pos hwn] at hw
        cases hV : V k with
        | none => rw [hV] at hw; obtain ⟨v, h1, h2⟩ := hw; exact ⟨v, h1, walk_anti hQ l _ _ F F' h h2⟩
        | some Vk => rw [hV] at hw; exact ⟨hw.1, fun v hv => walk_anti hQ l _ _ _ _ (fun W hW => ⟨h W hW.1, hW.2⟩) (hw.2 v hv)⟩
      · rename_i hwn; rw [if_neg hwn] at hw; exact walk_anti hQ l _ _ F F' h hw

theorem walk_congr : ∀ (l : List Oper) (k : Nat) (a : Act) (F : World → Prop), (∀ i, k ≤ i → i < k + l.length → L i = L' i) → walk P ops C V Q L k l a F → walk P ops C V Q L' k l a F
  | [], _, _, _, _, hw => hw
  | o :: l, k, a, F, h, hw => by
    unfold walk at *
    rw [← h k (Nat.le_refl _) (by simp)]
    have h' : ∀ i, k + 1 ≤ i → i < k + 1 + l.length → L i = L' i := fun i hi h2 => h i (by omega) (by simp; omega)
    split
    · rename_i hL; rw [if_pos hL] at hw; exact walk_congr l _ _ F h' hw
    · rename_i hL; rw [if_neg hL] at hw
      split
      · rename_i hwn; rw [if_pos hwn] at hw
        cases hV : V k with
        | none => rw [hV] at hw; obtain ⟨v, h1, h2⟩ := hw; exact ⟨v, h1, walk_congr l _ _ F h' h2⟩
        | some Vk => rw [hV] at hw; exact ⟨hw.1, fun v hv => walk_congr l _ _ _ h' (hw.2 v hv)⟩
      · rename_i hwn; rw [if_neg hwn] at hw; exact walk_congr l _ _ F h' hw

theorem getD_put {a : Act} {x : Option Tmp} {v : Value} {d : Tmp} (h : x ≠ some d) : (a.put x v).tmps.getD d undef = a.tmps.getD d undef := by
  cases x with
  | none => rfl
  | some t =>
    have hne : t ≠ d := fun e => h (by rw [e])
    simp [Act.put, Array.getElem?_setIfInBounds_ne hne]

theorem facts_put {k : Nat} {o : Oper} {a : Act} {x : Option Tmp} {v : Value} {W : World} (h : ∀ d, x = some d → d ∉ o.looksAt ops) : Facts ops V k o (a.put x v) W ↔ Facts ops V k o a W := by
  unfold Facts
  refine ⟨fun hf i oi Vi d hi h1 h2 h3 h4 => ?_, fun hf i oi Vi d hi h1 h2 h3 h4 => ?_⟩
  · have := hf i oi Vi d hi h1 h2 h3 h4
    rwa [getD_put (fun e => h d e h4)] at this
  · rw [getD_put (fun e => h d e h4)]
    exact hf i oi Vi d hi h1 h2 h3 h4

theorem valAt_put {o : Oper} (hs : ∀ cs b, o.op ≠ .select cs b) {a : Act} {x : Option Tmp} {u v : Value} {w : World} (h : ∀ d, x = some d → d ∉ o.looksAt ops) : valAt P o (a.put x u) w v ↔ valAt P o a w v := by
  unfold valAt; rw [execOp_put (ops := ops) o hs a x u h]
theorem looseAt_put {o : Oper} (hs : ∀ cs b, o.op ≠ .select cs b) {a : Act} {x : Option Tmp} {u : Value} {Vk : Value → World → Prop} {w : World} (h : ∀ d, x = some d → d ∉ o.looksAt ops) : looseAt P o (a.put x u) Vk w ↔ looseAt P o a Vk w := by
  unfold looseAt; rw [execOp_put (ops := ops) o hs a x u h]

/-- operation j, not listed, that comes up: what the walk says of it, and what is left of the walk behind it -/
def upcoming (P : Program) (ops : Array Oper) (C : World → Prop) (V : Nat → Option (Value → World → Prop)) (j : Nat) (oj : Oper) (K : Act → (World → Prop) → Prop) (a : Act) (F : World → Prop) : Prop :=
  if Region.wanted oj (yielded ops a.tmps) = true then
    match V j with
    | none => ∃ v, (∀ W, C W → valAt P oj a W v) ∧ K (a.put oj.dst v) F
    | some Vj => (∀ W, C W → Facts ops V j oj a W → looseAt P oj a Vj W) ∧ ∀ v, (∃ W, C W ∧ Vj v W) → K (a.put oj.dst v) (fun W => F W ∧ Vj v W)
  else K (a.put oj.dst undef) F


theorem getD_put_same (a : Act) (d : Tmp) (v : Value) : (a.put (some d) v).tmps.getD d undef = v ∨ (a.put (some d) v).tmps.getD d undef = undef := by
  by_cases h : d < a.tmps.size
  · left; simp [Act.put, h]
  · right; simp [Act.put, h]

/-- the predicates of what has been done, in this world -/
def Inv (ops : Array Oper) (V : Nat → Option (Value → World → Prop)) (done : Nat → Prop) (a : Act) (w : World) : Prop :=
  ∀ i oi Vi d, done i → ops[i]? = some oi → V i = some Vi → oi.dst = some d → a.tmps.getD d undef = undef ∨ Vi (a.tmps.getD d undef) w

def Distinct (ops : Array Oper) (V : Nat → Option (Value → World → Prop)) (m : Nat) : Prop :=
  ∀ i j oi oj Vi d, j < m → i ≠ j → ops[i]? = some oi → ops[j]? = some oj → V i = some Vi → oi.dst = some d → oj.dst ≠ some d
def Stable (V : Nat → Option (Value → World → Prop)) : Prop := ∀ i Vi, V i = some Vi → ∀ v W W', Vi v W → Below W.heap.size W W' → Vi v W'
def Closed (C : World → Prop) : Prop := ∀ W W', C W → Below W.heap.size W W' → C W'

/-- one operation more: its own predicate for what it yields; the others' as they were -/
theorem Inv.step {m : Nat} (hD : Distinct ops V m) (hS : Stable V) {done : Nat → Prop} {a : Act} {w w' : World} {k : Nat} (hkm : k < m) {o : Oper} {v : Value} (h : Inv ops V done a w) (hk : ops[k]? = some o) (hb : Below w.heap.size w w')
    (hv : ∀ Vk, V k = some Vk → v = undef ∨ Vk v w') : Inv ops V (fun i => done i ∨ i = k) (a.put o.dst v) w' := by
  intro i oi Vi d hd hi hVi hdst
  by_cases e : i = k
  · subst e
    rw [hk] at hi
    obtain rfl := Option.some.inj hi
    rw [hdst]
    rcases getD_put_same a d v with h1 | h1
    · rw [h1]; exact hv _ hVi
    · exact .inl h1
  · have hdi : done i := hd.resolve_right e
    rw [getD_put (hD i k oi o Vi d hkm e hi hk hVi hdst)]
    rcases h i oi Vi d hdi hi hVi hdst with h1 | h1
    · exact .inl h1
    · exact .inr (hS i Vi hVi _ _ _ h1 hb)

theorem Inv.mono {done done' : Nat → Prop} {a : Act} {w : World} (h : Inv ops V done a w) (hd : ∀ i, done' i → done i) : Inv ops V done' a w :=
  fun i oi Vi d h0 h1 h2 h3 => h i oi Vi d (hd i h0) h1 h2 h3

/-- a loose operation has some outcome -/
theorem looseAt_some {o : Oper} {a : Act} {Vk : Value → World → Prop} {w : World} (h : looseAt P o a Vk w) : ∃ v w', Below w.heap.size w w' ∧ Vk v w' := by
  unfold looseAt at h
  generalize (execOp a.eval o).run P w = r at h
  match r, h with
  | .ok (.value u) w', h => exact ⟨u, w', h.1, h.2⟩
  | .ok .skip w', h => exact ⟨undef, w', h.1, h.2⟩
  | .ok (.enter f args) w', h =>
    obtain ⟨e1, hc⟩ := h
    obtain ⟨e, w2, fr, ⟨u, _, hb, hv⟩, _⟩ := hc []
    exact ⟨u, w2, hb, hv⟩

/-- what the walk says of an operation that may come up before some others: it says it of this very state -/
def says (P : Program) (ops : Array Oper) (C : World → Prop) (V : Nat → Option (Value → World → Prop)) (j : Nat) (oj : Oper) (a : Act) : Prop :=
  Region.wanted oj (yielded ops a.tmps) = true →
    match V j with
    | none => ∃ v, ∀ W, C W → valAt P oj a W v
    | some Vj => ∀ W, C W → Facts ops V j oj a W → looseAt P oj a Vj W

theorem says_put {j : Nat} {oj : Oper} (hs : ∀ cs b, oj.op ≠ .select cs b) {a : Act} {x : Option Tmp} {u : Value} (h : ∀ d, x = some d → d ∉ oj.looksAt ops) (hh : says P ops C V j oj (a.put x u)) : says P ops C V j oj a := by
  unfold says at *
  rw [wanted_put oj a x u h] at hh
  intro hw
  have h2 := hh hw
  cases hV : V j with
  | none => rw [hV] at h2; obtain ⟨v, hv⟩ := h2; exact ⟨v, fun W hW => (valAt_put hs h).1 (hv W hW)⟩
  | some Vj => rw [hV] at h2; exact fun W hW hF => (looseAt_put hs h).1 (h2 W hW ((facts_put h).2 hF))

theorem reach (hsel : ∀ (j : Nat) (o : Oper) cs b, ops[j]? = some o → o.op ≠ .select cs b) {m : Nat} (hD : Distinct ops V m) (hS : Stable V) (hC : Closed C) {j : Nat} (hjm : j < m) {oj : Oper} (hj : ops[j]? = some oj) (hLj : L j = false) :
    ∀ (l : List Oper) (k : Nat) (a : Act) (F : World → Prop) (w : World), (∀ t o, l[t]? = some o → ops[k + t]? = some o) → k ≤ j → j < k + l.length →
      (∀ i oi, k ≤ i → i < j → L i = false → ops[i]? = some oi → oi.apart ops oj = true) → C w → Inv ops V (fun i => i < k ∨ L i = true) a w →
      walk P ops C V Q L k l a F → says P ops C V j oj a
  | [], k, a, F, w, _, hkj, hlt, _, _, _, _ => by simp at hlt; omega
  | o :: l, k, a, F, w, hl, hkj, hlt, hap, hw, hI, hwalk => by
    have h0 : ops[k]? = some o := by simpa using hl 0 o rfl
    have hl' : ∀ t o', l[t]? = some o' → ops[k + 1 + t]? = some o' := fun t o' ht => by
      have := hl (t + 1) o' (by simpa using ht)
      rwa [show k + (t + 1) = k + 1 + t by omega] at this
    unfold walk at hwalk
    by_cases hk : k = j
    · subst hk
      rw [hj] at h0
      obtain rfl := Option.some.inj h0
      rw [if_neg (by simp [hLj])] at hwalk
      intro hwn
      rw [if_pos hwn] at hwalk
      cases hV : V k with
      | none => rw [hV] at hwalk; obtain ⟨v, hv, _⟩ := hwalk; exact ⟨v, hv⟩
      | some Vk => rw [hV] at hwalk; exact hwalk.1
    · have hlt' : j < k + 1 + l.length := by simp at hlt; omega
      have hap' : ∀ i oi, k + 1 ≤ i → i < j → L i = false → ops[i]? = some oi → oi.apart ops oj = true := fun i oi h1 h2 => hap i oi (by omega) h2
      have ih := fun a' F' w' => reach hsel hD hS hC hjm hj hLj l (k + 1) a' F' w' hl' (by omega) hlt' hap'
      by_cases hL : L k = true
      · rw [if_pos hL] at hwalk
        exact ih a F w hw (hI.mono fun i hi => hi.elim (fun h => (Nat.lt_succ_iff_lt_or_eq.1 h).elim .inl (fun e => .inr (e ▸ hL))) .inr) hwalk
      · rw [if_neg hL] at hwalk
        obtain ⟨h1, _, _⟩ := Oper.apart_spec (hap k o (Nat.le_refl _) (by omega) (by simpa using hL) h0)
        have step : ∀ (v : Value) (w' : World), C w' → Below w.heap.size w w' → (∀ Vk, V k = some Vk → v = undef ∨ Vk v w') → ∀ F', walk P ops C V Q L (k + 1) l (a.put o.dst v) F' → says P ops C V j oj a := fun v w' hw' hb hv F' hwk =>
          says_put (hsel j oj · · hj) h1 (ih _ F' w' hw' ((Inv.step hD hS (by omega) hI h0 hb hv).mono fun i hi => hi.elim (fun h => (Nat.lt_succ_iff_lt_or_eq.1 h).elim (fun h => .inl (.inl h)) .inr) (fun h => .inl (.inr h))) hwk)
        by_cases hwn : Region.wanted o (yielded ops a.tmps) = true
        · rw [if_pos hwn] at hwalk
          cases hV : V k with
          | none =>
            rw [hV] at hwalk
            obtain ⟨v, _, hwk⟩ := hwalk
            exact step v w hw (Below.refl _ _) (fun Vk e => by rw [hV] at e; cases e) F hwk
          | some Vk =>
            rw [hV] at hwalk
            obtain ⟨v, w', hb, hv⟩ := looseAt_some (hwalk.1 w hw fun i oi Vi d hi h2 h3 h4 _ => hI i oi Vi d (.inl hi) h2 h3 h4)
            have hw' := hC _ _ hw hb
            exact step v w' hw' hb (fun Vk' e => by rw [hV] at e; cases e; exact .inr hv) _ (hwalk.2 v ⟨w', hw', hv⟩)
        · rw [if_neg hwn] at hwalk
          exact step undef w hw (Below.refl _ _) (fun _ _ => .inl rfl) F hwalk


/-- what operation j has come to -/
def came (P : Program) (ops : Array Oper) (C : World → Prop) (V : Nat → Option (Value → World → Prop)) (j : Nat) (oj : Oper) (a : Act) (u : Value) (X : World → Prop) : Prop :=
  (Region.wanted oj (yielded ops a.tmps) = false ∧ u = undef) ∨
  (Region.wanted oj (yielded ops a.tmps) = true ∧ V j = none ∧ ∀ W, C W → valAt P oj a W u) ∨
  (Region.wanted oj (yielded ops a.tmps) = true ∧ ∃ Vj, V j = some Vj ∧ (∃ W, C W ∧ Vj u W) ∧ ∀ W, X W → Vj u W)

theorem came_put {j : Nat} {oj : Oper} (hs : ∀ cs b, oj.op ≠ .select cs b) {a : Act} {x : Option Tmp} {v u : Value} {X : World → Prop} (h : ∀ d, x = some d → d ∉ oj.looksAt ops) (hh : came P ops C V j oj a u X) : came P ops C V j oj (a.put x v) u X := by
  unfold came at *
  rw [wanted_put oj a x v h]
  rcases hh with h1 | ⟨h1, h2, h3⟩ | h1
  · exact .inl h1
  · exact .inr (.inl ⟨h1, h2, fun W hW => (valAt_put hs h).2 (h3 W hW)⟩)
  · exact .inr (.inr h1)

theorem take (hsel : ∀ (j : Nat) (o : Oper) cs b, ops[j]? = some o → o.op ≠ .select cs b) (hQ : Anti Q) {w0 : World} (hw0 : C w0) {j : Nat} {oj : Oper} (hj : ops[j]? = some oj) (hLj : L j = false) {u : Value} {X : World → Prop} :
    ∀ (l : List Oper) (k : Nat) (a : Act) (F : World → Prop), (∀ t o, l[t]? = some o → ops[k + t]? = some o) → k ≤ j → j < k + l.length →
      (∀ i oi, k ≤ i → i < j → L i = false → ops[i]? = some oi → oi.apart ops oj = true) → came P ops C V j oj a u X →
      walk P ops C V Q L k l a F → walk P ops C V Q (fun i => decide (i = j) || L i) k l (a.put oj.dst u) (fun W => F W ∧ X W)
  | [], k, a, F, _, hkj, hlt, _, _, _ => by simp at hlt; omega
  | o :: l, k, a, F, hl, hkj, hlt, hap, hcame, hwalk => by
    have h0 : ops[k]? = some o := by simpa using hl 0 o rfl
    have hl' : ∀ t o', l[t]? = some o' → ops[k + 1 + t]? = some o' := fun t o' ht => by
      have := hl (t + 1) o' (by simpa using ht)
      rwa [show k + (t + 1) = k + 1 + t by omega] at this
    unfold walk at hwalk
    by_cases hk : k = j
    · subst hk
      rw [hj] at h0
      obtain rfl := Option.some.inj h0
      rw [if_neg (by simp [hLj])] at hwalk
      unfold walk
      rw [if_pos (by simp)]
      have cg : ∀ a F, walk P ops C V Q L (k + 1) l a F → walk P ops C V Q (fun i => decide (i = k) || L i) (k + 1) l a F := fun a F => walk_congr l (k + 1) a F fun i hi _ => by
        have : i ≠ k := by omega
        simp [this]
      rcases hcame with ⟨hwn, rfl⟩ | ⟨hwn, hV, hval⟩ | ⟨hwn, Vj, hV, hex, hX⟩
      · rw [if_neg (by simp [hwn])] at hwalk
        exact walk_anti hQ _ _ _ _ _ (fun W hW => hW.1) (cg _ _ hwalk)
      · rw [if_pos hwn, hV] at hwalk
        obtain ⟨v, hv, hwk⟩ := hwalk
        obtain rfl := valAt_unique (hv w0 hw0) (hval w0 hw0)
        exact walk_anti hQ _ _ _ _ _ (fun W hW => hW.1) (cg _ _ hwk)
      · rw [if_pos hwn, hV] at hwalk
        exact walk_anti hQ _ _ _ _ _ (fun W hW => ⟨hW.1, hX W hW.2⟩) (cg _ _ (hwalk.2 u hex))
    · have hlt' : j < k + 1 + l.length := by simp at hlt; omega
      have hap' : ∀ i oi, k + 1 ≤ i → i < j → L i = false → ops[i]? = some oi → oi.apart ops oj = true := fun i oi h1 h2 => hap i oi (by omega) h2
      have ih := fun a' F' => take hsel hQ hw0 hj hLj (u := u) (X := X) l (k + 1) a' F' hl' (by omega) hlt' hap'
      unfold walk
      by_cases hL : L k = true
      · rw [if_pos hL] at hwalk
        rw [if_pos (by simp [hL])]
        exact ih a F hcame hwalk
      · rw [if_neg hL] at hwalk
        rw [if_neg (by simp [hL, hk])]
        obtain ⟨h1, h2, h3⟩ := Oper.apart_spec (hap k o (Nat.le_refl _) (by omega) (by simpa using hL) h0)
        have hso : ∀ cs b, o.op ≠ .select cs b := fun cs b => hsel k o cs b h0
        rw [wanted_put o a oj.dst u h3]
        have ih' : ∀ v F', walk P ops C V Q L (k + 1) l (a.put o.dst v) F' → walk P ops C V Q (fun i => decide (i = j) || L i) (k + 1) l ((a.put oj.dst u).put o.dst v) (fun W => F' W ∧ X W) := fun v F' hwk => by
          have := ih _ F' (came_put (hsel j oj · · hj) h1 hcame) hwk
          rwa [Act.put_comm a v u h2] at this
        by_cases hwn : Region.wanted o (yielded ops a.tmps) = true
        · rw [if_pos hwn] at hwalk ⊢
          cases hV : V k with
          | none =>
            rw [hV] at hwalk
            obtain ⟨v, hv, hwk⟩ := hwalk
            exact ⟨v, fun W hW => (valAt_put hso h3).2 (hv W hW), ih' v F hwk⟩
          | some Vk =>
            rw [hV] at hwalk
            refine ⟨fun W hW hF => (looseAt_put hso h3).2 (hwalk.1 W hW ((facts_put h3).1 hF)), fun v hv => ?_⟩
            exact walk_anti hQ _ _ _ _ _ (fun W hW => ⟨⟨hW.1.1, hW.2⟩, hW.1.2⟩) (ih' v _ (hwalk.2 v hv))
        · rw [if_neg hwn] at hwalk ⊢
          exact ih' undef F hwalk

/-! the real run -/
theorem wp_of_val {o : Oper} {a : Act} {w : World} {u : Value} {K : Act → World → Prop} {Q' : Exit → Act → World → Prop} (h : valAt P o a w u) (hK : K (a.put o.dst u) w) : o.wp P a w K Q' := by
  unfold valAt at h
  unfold Oper.wp
  generalize (execOp a.eval o).run P w = r at h ⊢
  match r, h with
  | .ok (.value _) _, ⟨rfl, rfl⟩ => exact hK
theorem wp_of_loose {o : Oper} {a : Act} {w : World} {Vk : Value → World → Prop} {K : Act → World → Prop} {Q' : Exit → Act → World → Prop} (h : looseAt P o a Vk w) (hK : ∀ u w', Below w.heap.size w w' → Vk u w' → K (a.put o.dst u) w') : o.wp P a w K Q' := by
  unfold looseAt at h
  unfold Oper.wp
  generalize (execOp a.eval o).run P w = r at h ⊢
  match r, h with
  | .ok (.value u) w', h => exact hK u w' h.1 h.2
  | .ok .skip w', h => exact hK undef w' h.1 h.2
  | .ok (.enter f args) w', h =>
    obtain ⟨rfl, hc⟩ := h
    exact hc.mono fun e w2 ⟨u, e1, hb, hv⟩ => by subst e1; exact hK u w2 hb hv


/-! counting what is not listed -/
def left (listed : Array Bool) : Nat → Nat
  | 0 => 0
  | n + 1 => left listed n + (if listed.getD n true = true then 0 else 1)
theorem left_set_ge {listed : Array Bool} {j : Nat} : ∀ n, n ≤ j → left (listed.setIfInBounds j true) n = left listed n
  | 0, _ => rfl
  | n + 1, h => by
    unfold left
    rw [left_set_ge n (by omega)]
    have : (listed.setIfInBounds j true).getD n true = listed.getD n true := by simp [Array.getElem?_setIfInBounds_ne (show j ≠ n by omega)]
    rw [this]
theorem left_set {listed : Array Bool} {j : Nat} (hl : listed.getD j true = false) : ∀ n, j < n → left (listed.setIfInBounds j true) n + 1 = left listed n
  | 0, h => by omega
  | n + 1, h => by
    have hj : j < listed.size := by
      rcases Nat.lt_or_ge j listed.size with h1 | h1
      · exact h1
      · simp [Array.getElem?_eq_none h1] at hl
    unfold left
    by_cases e : j = n
    · subst e
      rw [left_set_ge j (Nat.le_refl _), hl]
      simp [hj]
    · have := left_set hl n (by omega)
      have h2 : (listed.setIfInBounds j true).getD n true = listed.getD n true := by simp [Array.getElem?_setIfInBounds_ne e]
      rw [h2]
      omega
theorem left_zero {listed : Array Bool} : ∀ n, left listed n = 0 → ∀ i, i < n → listed.getD i true = true
  | 0, _, i, h => by omega
  | n + 1, h, i, hi => by
    unfold left at h
    by_cases e : i = n
    · subst e
      by_cases hl : listed.getD i true = true
      · exact hl
      · rw [if_neg hl] at h; omega
    · exact left_zero n (by omega) i (by omega)

/-- what the set of the operations that 's' marks draws in -/
def clo (md : Region.Mode) (ops : Array Oper) : Nat → (Nat → Bool) → (Nat → Bool)
  | 0, s => s
  | i + 1, s => clo md ops i (fun x => s x || (s i && (match ops[i]? with | some o => o.after.any (fun e => Region.binds md e && e.on == x) | none => false)))
theorem clo_sound {md : Region.Mode} {ops : Array Oper} {p : Nat → Prop} (hp : ∀ i o e, p i → ops[i]? = some o → e ∈ o.after → Region.binds md e = true → p e.on) : ∀ (n : Nat) (s : Nat → Bool), (∀ x, s x = true → p x) → ∀ x, clo md ops n s x = true → p x
  | 0, _, hs, x, hx => hs x hx
  | n + 1, s, hs, x, hx => by
    refine clo_sound hp n _ (fun y hy => ?_) x hx
    simp only [Bool.or_eq_true, Bool.and_eq_true] at hy
    rcases hy with h | ⟨h1, h2⟩
    · exact hs y h
    · cases ho : ops[n]? with
      | none => simp [ho] at h2
      | some o =>
        simp only [ho, Array.any_eq_true] at h2
        obtain ⟨i, hi, h3⟩ := h2
        simp only [Bool.and_eq_true, beq_iff_eq] at h3
        exact h3.2 ▸ hp n o _ (hs n h1) ho (Array.getElem_mem hi) h3.1

/-- the region's own facts, by looking: operations wait for earlier ones alone; of the first m two are apart or the later waits for the earlier; whatever of the others comes up, all before it have come up -/
def fits (md : Region.Mode) (ops : Array Oper) (m : Nat) (idx : List Nat) : Bool :=
  Region.noSelect ops &&
  (List.range ops.size).all (fun k => match ops[k]? with | some o => o.after.all (fun e => !Region.binds md e || decide (e.on < k)) | none => true) &&
  (List.range m).all (fun j => (List.range j).all fun i => match ops[i]?, ops[j]? with | some oi, some oj => oj.after.any (fun e => Region.binds md e && e.on == i) || oi.apart ops oj | _, _ => false) &&
  (List.range ops.size).all (fun j => decide (j < m) || match ops[j]? with
    | some oj => let s := clo md ops j (fun x => oj.after.any (fun e => Region.binds md e && e.on == x)); (List.range j).all s
    | none => false) &&
  idx.all (fun i => (List.range m).all fun j => i == j || match ops[i]?, ops[j]? with | some oi, some oj => oi.dst.isNone || oi.dst != oj.dst | _, _ => false) &&
  decide (m ≤ ops.size)


/-- the region's facts, in words -/
structure Fits (md : Region.Mode) (ops : Array Oper) (V : Nat → Option (Value → World → Prop)) (m : Nat) : Prop where
  sel : ∀ (j : Nat) (o : Oper) cs b, ops[j]? = some o → o.op ≠ .select cs b
  early : ∀ k o e, ops[k]? = some o → e ∈ o.after → Region.binds md e = true → e.on < k
  apart : ∀ i j oi oj, i < j → j < m → ops[i]? = some oi → ops[j]? = some oj → (∃ e ∈ oj.after, Region.binds md e = true ∧ e.on = i) ∨ oi.apart ops oj = true
  last : ∀ j oj, m ≤ j → ops[j]? = some oj → ∀ p : Nat → Prop, (∀ i o e, p i → ops[i]? = some o → e ∈ o.after → Region.binds md e = true → p e.on) → (∀ e ∈ oj.after, Region.binds md e = true → p e.on) → ∀ i, i < j → p i
  distinct : Distinct ops V m
  few : m ≤ ops.size

theorem any_edge {o : Oper} {i : Nat} (h : o.after.any (fun e => Region.binds md e && e.on == i) = true) : ∃ e ∈ o.after, Region.binds md e = true ∧ e.on = i := by
  simp only [Array.any_eq_true] at h
  obtain ⟨x, hx, h3⟩ := h
  simp only [Bool.and_eq_true, beq_iff_eq] at h3
  exact ⟨_, Array.getElem_mem hx, h3⟩

theorem Fits.of {m : Nat} {idx : List Nat} (h : fits md ops m idx = true) (hi : ∀ i Vi, V i = some Vi → i ∈ idx) : Fits md ops V m := by
  simp only [fits, Bool.and_eq_true, List.all_eq_true, List.mem_range, decide_eq_true_eq] at h
  obtain ⟨⟨⟨⟨⟨h1, h2⟩, h3⟩, h4⟩, h5⟩, h6⟩ := h
  have lt : ∀ k o, ops[k]? = some o → k < ops.size := fun k o hk => (Array.getElem?_eq_some_iff.1 hk).1
  refine ⟨Region.noSelect_spec h1, fun k o e hk he hb => ?_, fun i j oi oj hij hjm hoi hoj => ?_, fun j oj hmj hoj p hp hp0 i hij => ?_, fun i j oi oj Vi d hjm hij hoi hoj hV hd => ?_, h6⟩
  · have := h2 k (lt k o hk)
    simp only [hk, Array.all_eq_true_iff_forall_mem] at this
    have := this e he
    simpa [hb] using this
  · have := h3 j hjm i hij
    simp only [hoi, hoj, Bool.or_eq_true] at this
    exact this.imp any_edge id
  · have := h4 j (lt j oj hoj)
    have hn : ¬ j < m := by omega
    simp only [hoj, hn, decide_false, Bool.false_or, List.all_eq_true, List.mem_range] at this
    refine clo_sound hp j _ (fun x hx => ?_) i (this i hij)
    obtain ⟨e, he, hb, rfl⟩ := any_edge hx
    exact hp0 e he hb
  · have := h5 i (hi i Vi hV) j hjm
    simp only [hoi, hoj, hd] at this
    intro e
    rw [e] at this
    simp at this
    exact hij this

theorem walk_all {m : Nat} : ∀ (l : List Oper) (k : Nat) (a : Act) (F : World → Prop), (∀ i, k ≤ i → i < k + l.length → L i = true) → walk P ops C V Q L k l a F → Q a F
  | [], _, _, _, _, h => h
  | o :: l, k, a, F, hL, h => by
    unfold walk at h
    rw [if_pos (hL k (Nat.le_refl _) (by simp))] at h
    exact walk_all (m := m) l (k + 1) a F (fun i h1 h2 => hL i (by omega) (by simp; omega)) h

theorem getD_true {listed : Array Bool} {i : Nat} (h : i < listed.size) : listed.getD i true = listed.getD i false := by simp [h]

theorem tail_any {m : Nat} (hF : Fits md ops V m) {Q' : Exit → Act → World → Prop} : ∀ (fuel k : Nat) (listed : Array Bool) (a : Act) (w : World), m ≤ k → k ≤ ops.size → listed.size = ops.size → left listed ops.size ≤ fuel →
    (∀ i, i < k → listed.getD i true = true) → (∀ i, k ≤ i → i < ops.size → listed.getD i true = false) → wpList P ops Q' (ops.toList.drop k) a w → wpAny P md ops Q' fuel listed a w := by
  intro fuel
  induction fuel with
  | zero =>
    intro k listed a w hmk hk hsz hle hdo hun h
    have hk' : k = ops.size := by
      rcases Nat.lt_or_ge k ops.size with h1 | h1
      · have := left_zero (listed := listed) ops.size (by omega) k h1
        rw [hun k (Nat.le_refl _) h1] at this
        cases this
      · omega
    subst hk'
    refine ⟨?_, ?_⟩
    · refine List.eq_nil_iff_forall_not_mem.2 fun j hj => ?_
      obtain ⟨h1, oj, hoj, _⟩ := mem_ready.1 hj
      rw [hdo j (Array.getElem?_eq_some_iff.1 hoj).1] at h1
      cases h1
    · rw [List.drop_eq_nil_of_le (by simp)] at h
      exact h
  | succ fuel ih =>
    intro k listed a w hmk hk hsz hle hdo hun h
    have only : ∀ j ∈ Region.ready md ops listed, j = k ∧ k < ops.size := fun j hj => by
      obtain ⟨h1, oj, hoj, hall⟩ := mem_ready.1 hj
      have hjs := (Array.getElem?_eq_some_iff.1 hoj).1
      have hkj : k ≤ j := by
        rcases Nat.lt_or_ge j k with h2 | h2
        · rw [hdo j h2] at h1; cases h1
        · exact h2
      refine ⟨?_, by omega⟩
      rcases Nat.lt_or_ge k j with h2 | h2
      · have hp := hF.last j oj (by omega) hoj (fun i => i < k) (fun i o e hi ho he hb => Nat.lt_trans (hF.early i o e ho he hb) hi) (fun e he hb => by
          rcases Nat.lt_or_ge e.on k with h3 | h3
          · exact h3
          · have h4 := hall e he hb
            have h5 : e.on < ops.size := by have := hF.early j oj e hoj he hb; omega
            have h6 := hun e.on h3 h5
            rw [getD_true (by omega)] at h6
            rw [h6] at h4; cases h4) k h2
        omega
      · omega
    rcases Nat.lt_or_ge k ops.size with hlt | hge
    · have hok : ops[k]? = some ops[k] := Array.getElem?_eq_getElem hlt
      have hkr : k ∈ Region.ready md ops listed := mem_ready.2 ⟨hun k (Nat.le_refl _) hlt, ops[k], hok, fun e he hb => by
        have h1 := hF.early k _ e hok he hb
        have := hdo e.on h1
        rwa [getD_true (by omega)] at this⟩
      refine ⟨fun h0 => (by rw [h0] at hkr; cases hkr), fun j hj => ?_⟩
      obtain ⟨rfl, _⟩ := only j hj
      have hd : ops.toList.drop j = ops[j] :: ops.toList.drop (j + 1) := by
        rw [List.drop_eq_getElem_cons (by simpa using hlt)]
        simp
      rw [hd] at h
      have hun' := hun j (Nat.le_refl _) hlt
      have hc := left_set hun' ops.size hlt
      have nxt : ∀ a w, wpList P ops Q' (ops.toList.drop (j + 1)) a w → wpAny P md ops Q' fuel (listed.setIfInBounds j true) a w := fun a w hw =>
        ih (j + 1) (listed.setIfInBounds j true) a w (by omega) (by omega) (by simpa using hsz) (by omega)
          (fun i hi => by
            by_cases e : i = j
            · subst e; simp [hsz, hlt]
            · have := hdo i (by omega)
              simpa [Array.getElem?_setIfInBounds_ne (show j ≠ i by omega)] using this)
          (fun i h1 h2 => by
            have := hun i (by omega) h2
            simpa [Array.getElem?_setIfInBounds_ne (show j ≠ i by omega)] using this) hw
      refine wpOp_mono nxt ?_
      unfold wpOp
      simp only [hok]
      exact h
    · refine ⟨fun _ => ?_, fun j hj => by have := (only j hj).2; omega⟩
      rw [List.drop_eq_nil_of_le (by simpa using hge)] at h
      exact h


theorem main {m : Nat} (hF : Fits md ops V m) (hS : Stable V) (hC : Closed C) (hQ : Anti Q) {Q' : Exit → Act → World → Prop} (hend : ∀ a F w, Q a F → C w → F w → wpList P ops Q' (ops.toList.drop m) a w) :
    ∀ (fuel : Nat) (listed : Array Bool) (a : Act) (F : World → Prop) (w : World), listed.size = ops.size → left listed ops.size ≤ fuel →
      (∀ i o e, listed.getD i false = true → ops[i]? = some o → e ∈ o.after → Region.binds md e = true → listed.getD e.on false = true) →
      (∀ i, m ≤ i → i < ops.size → listed.getD i true = false) → C w → F w → (∀ W W', F W → Below W.heap.size W W' → F W') → Inv ops V (fun i => i < m ∧ listed.getD i true = true) a w →
      walk P ops C V Q (fun i => listed.getD i true) 0 (ops.toList.take m) a F → wpAny P md ops Q' fuel listed a w := by
  intro fuel
  induction fuel with
  | zero =>
    intro listed a F w hsz hle hdown htail hw hFw hFs hI hwalk
    have hm : m = ops.size := by
      have hf := hF.few
      rcases Nat.lt_or_ge m ops.size with h1 | h1
      · have := left_zero (listed := listed) ops.size (by omega) m h1
        rw [htail m (Nat.le_refl _) h1] at this; cases this
      · omega
    have hq := walk_all (m := m) _ _ _ _ (fun i _ hi => left_zero (listed := listed) ops.size (by omega) i (by simp at hi; omega)) hwalk
    exact tail_any hF 0 m listed a w (Nat.le_refl _) hF.few hsz hle (fun i hi => left_zero (listed := listed) ops.size (by omega) i (by omega)) htail (hend a F w hq hw hFw)
  | succ fuel ih =>
    intro listed a F w hsz hle hdown htail hw hFw hFs hI hwalk
    have hf := hF.few
    by_cases hall : ∀ i, i < m → listed.getD i true = true
    · have hq := walk_all (m := m) _ _ _ _ (fun i _ hi => hall i (by simp at hi; omega)) hwalk
      exact tail_any hF (fuel + 1) m listed a w (Nat.le_refl _) hf hsz hle hall htail (hend a F w hq hw hFw)
    · have hmin : ∃ i, i < m ∧ listed.getD i true = false ∧ ∀ j, j < i → listed.getD j true = true := by
        have key : ∀ n, (∀ j, j < n → listed.getD j true = true) ∨ ∃ i, i < n ∧ listed.getD i true = false ∧ ∀ j, j < i → listed.getD j true = true := by
          intro n
          induction n with
          | zero => exact .inl fun j hj => by omega
          | succ n ihn =>
            rcases ihn with h1 | ⟨i, h1, h2, h3⟩
            · by_cases hn : listed.getD n true = true
              · exact .inl fun j hj => by
                  rcases Nat.lt_succ_iff_lt_or_eq.1 hj with h | h
                  · exact h1 j h
                  · rw [h]; exact hn
              · exact .inr ⟨n, by omega, by simpa using hn, h1⟩
            · exact .inr ⟨i, by omega, h2, h3⟩
        rcases key m with h | h
        · exact absurd h hall
        · exact h
      obtain ⟨i0, hi0, hi0u, hi0d⟩ := hmin
      have h0r : i0 ∈ Region.ready md ops listed := mem_ready.2 ⟨hi0u, ops[i0]'(by omega), Array.getElem?_eq_getElem _, fun e he hb => by
        have h1 := hF.early i0 _ e (Array.getElem?_eq_getElem (by omega)) he hb
        have := hi0d e.on h1
        rwa [getD_true (by omega)] at this⟩
      refine ⟨fun h0 => (by rw [h0] at h0r; cases h0r), fun j hj => ?_⟩
      obtain ⟨hju, oj, hoj, hjall⟩ := mem_ready.1 hj
      have hjs := (Array.getElem?_eq_some_iff.1 hoj).1
      have hjm : j < m := by
        rcases Nat.lt_or_ge j m with h1 | h1
        · exact h1
        · have := hF.last j oj h1 hoj (fun i => listed.getD i false = true) hdown hjall i0 (by omega)
          rw [getD_true (by omega)] at hi0u
          rw [hi0u] at this; cases this
      have hap : ∀ i oi, 0 ≤ i → i < j → (fun i => listed.getD i true) i = false → ops[i]? = some oi → oi.apart ops oj = true := fun i oi _ hij hun hoi => by
        rcases hF.apart i j oi oj hij hjm hoi hoj with ⟨e, he, hb, rfl⟩ | h
        · have := hjall e he hb
          simp only at hun
          rw [getD_true (by omega)] at hun
          rw [hun] at this; cases this
        · exact h
      have hl : ∀ t o, (ops.toList.take m)[t]? = some o → ops[0 + t]? = some o := fun t o ht => by
        rw [List.getElem?_take] at ht
        split at ht
        · simpa using ht
        · cases ht
      have hlen : (ops.toList.take m).length = m := by simp; omega
      have hI' : Inv ops V (fun i => i < 0 ∨ (fun i => listed.getD i true) i = true ∧ i < m) a w := hI.mono fun i hi => hi.elim (fun h => by omega) (fun h => ⟨h.2, h.1⟩)
      have hsays : says P ops C V j oj a := reach hF.sel hF.distinct hS hC hjm hoj hju _ 0 a F w hl (Nat.zero_le _) (by omega) hap hw
        (fun i oi Vi d hd hoi hVi hdst => by
          rcases hd with h | h
          · omega
          · rcases Nat.lt_or_ge i m with h1 | h1
            · exact hI i oi Vi d ⟨h1, h⟩ hoi hVi hdst
            · have := htail i h1 (Array.getElem?_eq_some_iff.1 hoi).1
              have h' : listed.getD i true = true := h
              rw [this] at h'; cases h') hwalk
      -- what follows once j has come to u, in w', X holding there
      have nxt : ∀ (u : Value) (X : World → Prop) (w' : World), came P ops C V j oj a u X → Below w.heap.size w w' → X w' → (∀ W W', X W → Below W.heap.size W W' → X W') → (∀ Vj, V j = some Vj → u = undef ∨ Vj u w') → F w' →
          wpAny P md ops Q' fuel (listed.setIfInBounds j true) (a.put oj.dst u) w' := fun u X w' hcame hb hX hXs hv hFw' => by
        have hw' := hC _ _ hw hb
        have hwk := take hF.sel hQ hw hoj hju (X := X) _ 0 a F hl (Nat.zero_le _) (by omega) hap hcame hwalk
        have hc := left_set hju ops.size hjs
        have hset : ∀ i, i ≠ j → ∀ b, (listed.setIfInBounds j true).getD i b = listed.getD i b := fun i hi b => by simp [Array.getElem?_setIfInBounds_ne (Ne.symm hi)]
        have hsetj : ∀ b, (listed.setIfInBounds j true).getD j b = true := fun b => by simp [hsz, hjs]
        refine ih _ _ (fun W => F W ∧ X W) w' (by simpa using hsz) (by omega) ?_ ?_ hw' ⟨hFw', hX⟩ (fun W W' h hb => ⟨hFs _ _ h.1 hb, hXs _ _ h.2 hb⟩) ?_ ?_
        · intro i o e hi ho he hbd
          have hon : listed.getD e.on false = true := by
            by_cases hij : i = j
            · subst hij
              rw [hoj] at ho; obtain rfl := Option.some.inj ho
              exact hjall e he hbd
            · rw [hset i hij] at hi
              exact hdown i o e hi ho he hbd
          by_cases hej : e.on = j
          · rw [hej]; exact hsetj _
          · rw [hset _ hej]; exact hon
        · intro i h1 h2
          rw [hset i (by omega)]
          exact htail i h1 h2
        · refine (Inv.step hF.distinct hS hjm hI hoj hb hv).mono fun i hi => ?_
          by_cases hij : i = j
          · exact .inr hij
          · rw [hset i hij] at hi; exact .inl hi
        · refine walk_congr _ 0 _ _ (fun i _ _ => ?_) hwk
          by_cases hij : i = j
          · subst hij; simp [hsz, hjs]
          · simp [hij, Array.getElem?_setIfInBounds_ne (Ne.symm hij)]
      unfold wpOp
      simp only [hoj]
      by_cases hwn : Region.wanted oj (yielded ops a.tmps) = true
      · rw [if_pos hwn]
        left
        have hs := hsays hwn
        cases hV : V j with
        | none =>
          rw [hV] at hs
          obtain ⟨u, hu⟩ := hs
          exact wp_of_val (hu w hw) (nxt u (fun _ => True) w (.inr (.inl ⟨hwn, hV, hu⟩)) (Below.refl _ _) trivial (fun _ _ _ _ => trivial) (fun Vj e => by rw [hV] at e; cases e) hFw)
        | some Vj =>
          rw [hV] at hs
          have hfacts : Facts ops V j oj a w := fun i oi Vi d hij hoi hVi hdst hlk => by
            by_cases hun : listed.getD i true = true
            · exact hI i oi Vi d ⟨by omega, hun⟩ hoi hVi hdst
            · obtain ⟨h1, _, _⟩ := Oper.apart_spec (hap i oi (Nat.zero_le _) hij (by simpa using hun) hoi)
              exact absurd hlk (h1 d hdst)
          exact wp_of_loose (hs w hw hfacts) fun u w' hb hu =>
            nxt u (fun W => Vj u W) w' (.inr (.inr ⟨hwn, Vj, hV, ⟨w', hC _ _ hw hb, hu⟩, fun _ h => h⟩)) hb hu (fun W W' h hb => hS j Vj hV _ _ _ h hb) (fun Vj' e => by rw [hV] at e; cases e; exact .inr hu) (hFs _ _ hFw hb)
      · rw [if_neg hwn]
        exact nxt undef (fun _ => True) w (.inl ⟨by simpa using hwn, rfl⟩) (Below.refl _ _) trivial (fun _ _ _ _ => trivial) (fun _ _ => .inl rfl) hFw


/-- a predicate that goes on holding while memory is only made -/
structure Pred where
  p : Value → World → Prop
  st : ∀ v W W', p v W → Below W.heap.size W W' → p v W'
/-- the loose operations, by their numbers -/
def at_ : List (Nat × Pred) → Nat → Option (Value → World → Prop)
  | [], _ => none
  | (i, q) :: l, k => if k = i then some q.p else at_ l k
theorem at_mem : ∀ (l : List (Nat × Pred)) (k : Nat) (Vk : Value → World → Prop), at_ l k = some Vk → k ∈ l.map (·.1)
  | [], _, _, h => by cases h
  | (i, q) :: l, k, Vk, h => by
    unfold at_ at h
    split at h
    · rename_i e; simp [e]
    · have := at_mem l k Vk h
      simp only [List.map_cons, List.mem_cons]
      exact .inr this
theorem at_stable : ∀ (l : List (Nat × Pred)), Stable (at_ l)
  | [], _, _, h => by cases h
  | (i, q) :: l, k, Vk, h => by
    unfold at_ at h
    split at h
    · obtain rfl := Option.some.inj h; exact q.st
    · exact at_stable l k Vk h

/-- **A REGION THAT DRAWS ITS ORDER: its first m operations only make memory, read, or call what does so; the others come behind them, one after another.** -/
theorem wp_region_loose {id : Nat} {l : List Oper} {Q' : Exit → Act → World → Prop} {a : Act} {w : World} (Vs : List (Nat × Pred)) (m : Nat) (hm : P.follows .mixedOrders = true) (hB : fits .any l.toArray m (Vs.map (·.1)) = true)
    (h : walk P l.toArray (fun W => Below w.heap.size w W) (at_ Vs) (fun a' F => ∀ W, Below w.heap.size w W → F W → wpList P l.toArray Q' (l.drop m) a' W) (fun _ => false) 0 (l.take m) a (fun _ => True)) :
    (Code.region id l.toArray true).wp P Q' a w := by
  refine wp_region_any hm ?_
  refine main (C := fun W => Below w.heap.size w W) (V := at_ Vs) (Q := fun a' F => ∀ W, Below w.heap.size w W → F W → wpList P l.toArray Q' (l.drop m) a' W) (Fits.of hB fun i Vi hi => at_mem Vs i Vi hi) (at_stable Vs)
    (fun W W' hW hb => hW.trans (hb.mono hW.size)) (fun a' F F' hF hq W hW hF' => hq W hW (hF W hF')) (fun a' F W hq hW hF => by simpa using hq W hW hF)
    l.toArray.size (Array.replicate l.toArray.size false) a (fun _ => True) { w with drawn := w.drawn + 1 } (by simp) ?_ ?_ ?_ (Below.refl _ _).drew trivial (fun _ _ _ _ => trivial) ?_ ?_
  · have : ∀ n, left (Array.replicate l.toArray.size false) n ≤ n := fun n => by
      induction n with
      | zero => exact Nat.le_refl _
      | succ n ih => unfold left; split <;> omega
    exact this _
  · intro i o e hi
    have : (Array.replicate l.toArray.size false).getD i false = false := by simp [Array.getElem?_replicate]; split <;> rfl
    rw [this] at hi; cases hi
  · intro i _ h2
    have h3 : i < l.length := by simpa using h2
    simp [Array.getElem?_replicate, h3]
  · intro i oi Vi d hd hoi
    have h3 : i < l.length := by simpa using (Array.getElem?_eq_some_iff.1 hoi).1
    simp [Array.getElem?_replicate, h3] at hd
  · refine walk_congr _ 0 _ _ (fun i _ hi => ?_) (by simpa using h)
    have h3 : i < l.length := by simp at hi; omega
    simp [Array.getElem?_replicate, h3]

end
end Go.Loose
/-! The loose walk, step by step. -/
namespace Go.Loose
open Go Go.RowKit Go.Proofs.YtnehgpeelgjjhaaGreatDoor.Tw

section
variable {P : Program} {ops : Array Oper} {V : Nat → Option (Value → World → Prop)} {Q : Act → (World → Prop) → Prop} {w : World} {k : Nat} {o : Oper} {l : List Oper} {a : Act} {F : World → Prop}

/-- the worlds in which all that lay in w lies as it lay -/
abbrev From (w : World) : World → Prop := fun W => ∃ x : Later w, W = x.W

theorem wp_region_later {id : Nat} {l : List Oper} {Q' : Exit → Act → World → Prop} {a : Act} {w : World} (Vs : List (Nat × Pred)) (m : Nat) (hm : P.follows .mixedOrders = true) (hB : fits .any l.toArray m (Vs.map (·.1)) = true)
    (h : walk P l.toArray (From w) (at_ Vs) (fun a' F => ∀ W, Below w.heap.size w W → F W → wpList P l.toArray Q' (l.drop m) a' W) (fun _ => false) 0 (l.take m) a (fun _ => True)) :
    (Code.region id l.toArray true).wp P Q' a w := by
  refine wp_region_any hm ?_
  refine main (C := From w) (V := at_ Vs) (Q := fun a' F => ∀ W, Below w.heap.size w W → F W → wpList P l.toArray Q' (l.drop m) a' W) (Fits.of hB fun i Vi hi => at_mem Vs i Vi hi) (at_stable Vs)
    (fun W W' ⟨x, hx⟩ hb => ⟨⟨W', x.is.trans ((hx ▸ hb).mono x.is.size)⟩, rfl⟩) (fun a' F F' hF hq W hW hF' => hq W hW (hF W hF')) (fun a' F W hq ⟨x, hx⟩ hF => by simpa using hq W (hx ▸ x.is) hF)
    l.toArray.size (Array.replicate l.toArray.size false) a (fun _ => True) { w with drawn := w.drawn + 1 } (by simp) ?_ ?_ ?_ ⟨⟨_, (Below.refl _ _).drew⟩, rfl⟩ trivial (fun _ _ _ _ => trivial) ?_ ?_
  · have : ∀ n, left (Array.replicate l.toArray.size false) n ≤ n := fun n => by
      induction n with
      | zero => exact Nat.le_refl _
      | succ n ih => unfold left; split <;> omega
    exact this _
  · intro i o e hi
    have : (Array.replicate l.toArray.size false).getD i false = false := by simp [Array.getElem?_replicate]; split <;> rfl
    rw [this] at hi; cases hi
  · intro i _ h2
    have h3 : i < l.length := by simpa using h2
    simp [Array.getElem?_replicate, h3]
  · intro i oi Vi d hd hoi
    have h3 : i < l.length := by simpa using (Array.getElem?_eq_some_iff.1 hoi).1
    simp [Array.getElem?_replicate, h3] at hd
  · refine walk_congr _ 0 _ _ (fun i _ hi => ?_) (by simpa using h)
    have h3 : i < l.length := by simp at hi; omega
    simp [Array.getElem?_replicate, h3]

theorem walk_nil {L : Nat → Bool} {C : World → Prop} (h : Q a F) : walk P ops C V Q L k [] a F := h

/-- an operation whose guard passes it over -/
theorem walk_skip {C : World → Prop} (hw : Region.wanted o (yielded ops a.tmps) = false) (h : walk P ops C V Q (fun _ => false) (k + 1) l (a.put o.dst undef) F) : walk P ops C V Q (fun _ => false) k (o :: l) a F := by
  unfold walk
  rw [if_neg (by simp), if_neg (by simp [hw])]
  exact h

/-- a plain operation: what follows behind a variable -/
theorem walk_plain {C : World → Prop} (hw : Region.wanted o (yielded ops a.tmps) = true) (hV : V k = none) (hp : plain o.op = true)
    (h : ∀ K : Act → Prop, (∀ a', walk P ops C V Q (fun _ => false) (k + 1) l a' F → K a') → o.quiet P a C K) : walk P ops C V Q (fun _ => false) k (o :: l) a F := by
  unfold walk
  rw [if_neg (by simp), if_pos hw, hV]
  obtain ⟨v, h1, h2⟩ := h _ fun _ h => h
  refine ⟨v, fun W hW => ?_, h2⟩
  have h3 := h1 W hW
  unfold Oper.quietAt at h3
  unfold valAt
  cases hr : (execOp a.eval o).run P W with
  | ok n w' =>
    rw [hr] at h3
    obtain ⟨x, rfl⟩ := plain_value hp hr
    exact h3
  | halt x w' => rw [hr] at h3; exact h3

/-- a loose one -/
theorem walk_loose {Vk : Value → World → Prop} (hw : Region.wanted o (yielded ops a.tmps) = true) (hV : V k = some Vk)
    (h1 : ∀ W, Below w.heap.size w W → Facts ops V k o a W → looseAt P o a Vk W)
    (h2 : ∀ v W, Below w.heap.size w W → Vk v W → walk P ops (From w) V Q (fun _ => false) (k + 1) l (a.put o.dst v) (fun W => F W ∧ Vk v W)) : walk P ops (From w) V Q (fun _ => false) k (o :: l) a F := by
  unfold walk
  rw [if_neg (by simp), if_pos hw, hV]
  exact ⟨fun W ⟨x, hx⟩ hF => h1 W (hx ▸ x.is) hF, fun v ⟨W, ⟨x, hx⟩, hv⟩ => h2 v W (hx ▸ x.is) hv⟩

theorem loose_call {Vk : Value → World → Prop} {W : World} {f : FuncId} {args : Array Value} (hr : (execOp a.eval o).run P W = .ok (.enter f args) W) (hc : Calls P f args W fun e w'' => ∃ u, e = .returned u ∧ Below W.heap.size W w'' ∧ Vk u w'') : looseAt P o a Vk W := by
  unfold looseAt; rw [hr]; exact ⟨rfl, hc⟩
theorem loose_val {Vk : Value → World → Prop} {W W' : World} {u : Value} (hr : (execOp a.eval o).run P W = .ok (.value u) W') (hb : Below W.heap.size W W') (hv : Vk u W') : looseAt P o a Vk W := by
  unfold looseAt; rw [hr]; exact ⟨hb, hv⟩
end

/-- 'the value is v' -/
def Pred.is (v : Value) : Pred := ⟨fun u _ => u = v, fun _ _ _ h _ => h⟩
/-- a new variable of type t at or beyond block B, its cells cs -/
def Pred.var (B : Nat) (t : TypeId) (cs : Array Value) : Pred :=
  ⟨fun u W => ∃ b, u = .pointer (some ⟨b, 0, none⟩) ∧ B ≤ b ∧ Blk W b t cs, fun _ _ _ ⟨b, e, hb, h⟩ hW => ⟨b, e, hb, h.below hW h.lt⟩⟩
/-- a new slice of n elements at or beyond block B, the cells cs of element type t -/
def Pred.row (B : Nat) (t : TypeId) (n : Nat) (cs : Array Value) : Pred :=
  ⟨fun u W => ∃ b, u = .slice (some ⟨b, 0, none⟩) n n ∧ B ≤ b ∧ Blk W b t cs, fun _ _ _ ⟨b, e, hb, h⟩ hW => ⟨b, e, hb, h.below hW h.lt⟩⟩
theorem Pred.var_at {B : Nat} {t : TypeId} {cs : Array Value} {x : Nat} {W : World} (h : (Pred.var B t cs).p (.pointer (some ⟨x, 0, none⟩)) W) : B ≤ x ∧ Blk W x t cs := by
  obtain ⟨b, e, hb, h⟩ := h
  injection e with e
  injection e with e
  injection e with e
  subst e
  exact ⟨hb, h⟩
theorem Pred.row_at {B : Nat} {t : TypeId} {n x : Nat} {cs : Array Value} {W : World} (h : (Pred.row B t n cs).p (.slice (some ⟨x, 0, none⟩) n n) W) : B ≤ x ∧ Blk W x t cs := by
  obtain ⟨b, e, hb, h⟩ := h
  injection e with e
  injection e with e
  injection e with e
  subst e
  exact ⟨hb, h⟩
/-- a whole array out of the middle of a block -/
theorem loose_loadA {P : Program} {o : Oper} {a : Act} {W : World} (ty : TypeId) (x : Operand) (ho : o.op = .load ty x) (b i : Nat) (hx : a.eval x = .pointer (some ⟨b, i, none⟩)) (cs : Array Value) {d : TypeDesc} (hc : W.rangeAt b i cs.toList)
    (hu : P.underlying ty = some d) (hd : d.isRow = true) (hi : (P.info? ty).map (·.size) = some cs.size) : looseAt P o a (Pred.is (.agg cs)).p W := by
  refine loose_val (u := .agg cs) (W' := W) ?_ (Below.refl _ _) rfl
  unfold execOp
  simp only [ho, hx, Sem.run_bind, run_loadAt_mid W b i ty cs.toList d hc hu hd (by simpa using hi)]
  simp
end Go.Loose
namespace Go.Proofs.YtnehgpeelgjjhaaGreatDoor.Tw
open Go.RowKit

theorem index5_0 : ∀ (f : Nat → Int) (w : World), (Instr.index 88 (.agg (Row5 f)) (.int .i64 0)).run Tryz.prog w = .ok (.int .i64 (f 0)) w := fun _ _ => by kernel_rfl
theorem index5_1 : ∀ (f : Nat → Int) (w : World), (Instr.index 88 (.agg (Row5 f)) (.int .i64 1)).run Tryz.prog w = .ok (.int .i64 (f 1)) w := fun _ _ => by kernel_rfl
theorem index5_2 : ∀ (f : Nat → Int) (w : World), (Instr.index 88 (.agg (Row5 f)) (.int .i64 2)).run Tryz.prog w = .ok (.int .i64 (f 2)) w := fun _ _ => by kernel_rfl
theorem index5_3 : ∀ (f : Nat → Int) (w : World), (Instr.index 88 (.agg (Row5 f)) (.int .i64 3)).run Tryz.prog w = .ok (.int .i64 (f 3)) w := fun _ _ => by kernel_rfl
theorem index5_4 : ∀ (f : Nat → Int) (w : World), (Instr.index 88 (.agg (Row5 f)) (.int .i64 4)).run Tryz.prog w = .ok (.int .i64 (f 4)) w := fun _ _ => by kernel_rfl
theorem index5 (f : Nat → Int) (k : Nat) (hk : k < 5) (w : World) : (Instr.index 88 (.agg (Row5 f)) (.int .i64 k)).run Tryz.prog w = .ok (.int .i64 (f k)) w :=
  match k, hk with
  | 0, _ => index5_0 f w
  | 1, _ => index5_1 f w
  | 2, _ => index5_2 f w
  | 3, _ => index5_3 f w
  | 4, _ => index5_4 f w

theorem C_all (l : List Rp.Post) (n : Nat) (h : l.length = n) (o : Nat) : C l n o = Rp.count l o := by
  unfold C; rw [List.take_of_length_le (by omega)]

theorem block_not {w : World} {base : Nat} {e : TypeId} {size n : Nat} {v : Value} {xs : List Value} (h : w.ownsRow base e size v n xs) {g : Nat} (hg : g < base ∨ w.heap.size ≤ g) : some g ≠ v.ownBlock := by
  rcases h.2 with ⟨rfl, _⟩ | ⟨g', cap, cur, rfl, hb, hh, _⟩
  · simp [Value.ownBlock]
  · have hlt : g' < w.heap.size := by
      rcases Nat.lt_or_ge g' w.heap.size with hlt | hge
      · exact hlt
      · rw [Array.getElem?_eq_none hge] at hh; cases hh
    simp [Value.ownBlock]; omega

theorem own_apart {w : World} {B B' : Nat} {e e' : TypeId} {s s' n n' : Nat} {v v' : Value} {xs xs' : List Value} (h : w.ownsRow B e s v n xs) (h' : w.ownsRow B' e' s' v' n' xs') (hne : e ≠ e') : v.ownBlock = none ∨ v.ownBlock ≠ v'.ownBlock := by
  rcases h.2 with ⟨rfl, _⟩ | ⟨g, cap, cur, rfl, _, hh, _⟩
  · exact .inl rfl
  · right
    rcases h'.2 with ⟨rfl, _⟩ | ⟨g', cap', cur', rfl, _, hh', _⟩
    · simp [Value.ownBlock]
    · intro e1
      simp only [Value.ownBlock, Option.some.injEq] at e1
      subst e1
      rw [hh] at hh'
      injection hh' with hh'
      injection hh' with _ h2
      exact hne h2
theorem encPs_snoc (l : List Rp.Post) (p : Rp.Post) : encPs (l ++ [p]) = encPs l ++ encP p := by simp [encPs]

theorem write_no {r : Rp.Rep} {t : ByteArray} (h : Rp.valid r = false) : Rp.write r t = none := by unfold Rp.write; rw [h]; rfl
theorem write_yes {r : Rp.Rep} {t : ByteArray} (h : Rp.valid r = true) : Rp.write r t = if Rp.valid (Rp.written r t) then some (Rp.written r t) else none := by unfold Rp.write; rw [h]; rfl

set_option maxRecDepth 100000 in
set_option maxHeartbeats 3200000 in
theorem write_any (w : World) (r : Rp.Rep) (A : Option Addr) (n c : Nat) (A' : Option Addr) (n' c' : Nat) (text : ByteArray) (h : RepR w w.heap.size r A n A' n') :
    Calls Tryz.prog 13 #[repV r A n c A' n' c', .string text] w fun e w' => GotRep w w' e (Rp.write r text) := by
  obtain ⟨i0, hi0, hz0, hz1, hz2⟩ := info_parts info57
  obtain ⟨me, many, clock, posts, heard⟩ := r
  obtain ⟨W0, hW0⟩ : ∃ W0, W0 = (w.alloc (.cells #[.int .i64 me, .int .i64 many, .int .i64 clock, .slice A n c, .slice A' n' c'] 26)).alloc (.cells #[.int .i64 0, .int .i64 0, .int .i64 0, .slice none 0 0, .slice none 0 0] 26) := ⟨_, rfl⟩
  have hs0 : W0.heap.size = w.heap.size + 2 := by rw [hW0]; simp
  have hbW : Below w.heap.size w W0 := by rw [hW0]; exact ((Below.refl _ _).alloc (Nat.le_refl _) _).alloc (by simp) _
  have hBW : Blk W0 w.heap.size 26 #[.int .i64 me, .int .i64 many, .int .i64 clock, .slice A n c, .slice A' n' c'] := by rw [hW0]; exact (Blk.new _ _ _).alloc _
  have hRW : Blk W0 (w.heap.size + 1) 26 #[.int .i64 0, .int .i64 0, .int .i64 0, .slice none 0 0, .slice none 0 0] := by rw [hW0]; exact Blk.new2 _ _ _ _
  have HV := Lib.hid (valid_any W0 ⟨me, many, clock, posts, heard⟩ A n c A' n' c' ((h.below hbW).more (by omega)))
  have HW0 := Lib.hid hW0
  have HH := Lib.hid h
  clear h hW0
  unfold repV at *
  simp only at HV ⊢
  go_enter Tryz.func13, Tryz.ntmps13
  go_wp2_with fail
  rw [← HW0.out]
  refine HV.out.mono ?_
  rintro e w1 ⟨rfl, hb1⟩
  have hb2 := hbW.trans (hb1.mono hbW.size)
  have hB1 := hBW.below hb1 (by omega)
  have hR1 := hRW.below hb1 (by omega)
  have hs1 := hb1.size
  obtain ⟨b0, b1, b2, b3, b4⟩ := hB1.cells5
  obtain ⟨r0, r1, r2, r3, r4⟩ := hR1.cells5
  obtain ⟨s0, s1, s2, s3, s4⟩ := hR1.soft5
  cases hv : Rp.valid ⟨me, many, clock, posts, heard⟩
  · have HN := Lib.hid (write_no (t := text) hv)
    go_wp2
    refine bodyPost_ret (v := .tuple #[zeroRep, .int .i64 310]) (by simp [zeroRep, results, Tryz.results13, go_sem, r0, r1, r2, r3, r4]) rfl ⟨?_, ?_⟩
    · repeat (refine Below.setCell ?_ (by simp) _)
      exact hb2
    · rw [HN.out]
  · have HN := Lib.hid (write_yes (t := text) hv)
    have HVV := Lib.hid hv
    obtain ⟨⟨v1, v2⟩, ⟨v3, v4⟩, ⟨v5, v6⟩, v7, v8, v9⟩ := Rp.valid_iff.1 hv
    simp only at v1 v2 v3 v4 v5 v6 v8
    have HOr : Hid (∀ p ∈ posts, ∃ o : Nat, o < 5 ∧ p.origin = o) := Lib.hid fun p hp => by
      obtain ⟨mn, hmn⟩ : ∃ mn : Nat, many = mn := ⟨many.toNat, by omega⟩
      subst hmn
      obtain ⟨o, ho, e⟩ := Rp.own_range v8 hp
      exact ⟨o, by omega, e⟩
    have HPL := Lib.hid HH.out.len
    have hfew := HH.out.few
    have h200 : n ≤ 200 := by
      have h1 := (Rp.isLog_iff.1 v8).1
      have h2 := HH.out.len
      simp only at h2
      omega
    simp only at HPL
    obtain ⟨k, rfl⟩ : ∃ k : Nat, me = k := ⟨me.toNat, by omega⟩
    have hk5 : k < 5 := by omega
    have HI := Lib.hid (index5 (C posts n) k hk5)
    have HOwn := Lib.hid (own_any w1 ⟨k, many, clock, posts, heard⟩ A n c A' n' c' ((HH.out.below hb2).more hb2.size))
    unfold repV at HOwn
    simp only at HOwn
    clear v3 v4 v7 v8 v9 hv
    go_wp2_with (go_at_call 42; refine HOwn.out.mono ?_; rintro e w2 ⟨A1, c1, A2, c2, rfl, o1, o2, hc1, hc2, hb3⟩)
    obtain ⟨W3, hW3⟩ : ∃ W3, W3 = w2.alloc (.cells #[.int .i64 k, .int .i64 many, .int .i64 (clock + 1), .slice A1 n c1, .slice A2 n' c2] 26) := ⟨_, rfl⟩
    rw [← hW3]
    have hs2 := hb3.size
    have hs3 : W3.heap.size = w2.heap.size + 1 := by rw [hW3]; simp
    have hb4 : Below w2.heap.size w2 W3 := by rw [hW3]; exact (Below.refl _ _).alloc (Nat.le_refl _) _
    have hG3 : Blk W3 w2.heap.size 26 #[.int .i64 k, .int .i64 many, .int .i64 (clock + 1), .slice A1 n c1, .slice A2 n' c2] := by rw [hW3]; exact Blk.new _ _ _
    have hb5 : Below w.heap.size w W3 := (hb2.trans (hb3.mono hb2.size)).trans (hb4.mono (by omega))
    have hB3 : Blk W3 w.heap.size 26 #[.int .i64 k, .int .i64 many, .int .i64 clock, .slice A n c, .slice A' n' c'] := (hB1.below hb3 (by omega)).below hb4 (by omega)
    have hR3 : Blk W3 (w.heap.size + 1) 26 #[.int .i64 0, .int .i64 0, .int .i64 0, .slice none 0 0, .slice none 0 0] := (hR1.below hb3 (by omega)).below hb4 (by omega)
    have O1 := Lib.hid (own_below o1 hb4)
    have O2 := Lib.hid (own_below o2 hb4)
    have F2 := Lib.hid (Fresh.of_own o2 hb2.size)
    have N1 := Lib.hid (block_not (own_below o1 hb4) (g := w.heap.size) (.inl (by omega)))
    have N2 := Lib.hid (block_not o1 (g := w2.heap.size) (.inr (Nat.le_refl _)))
    have N3 := Lib.hid (block_not (own_below o1 hb4) (g := w.heap.size + 1) (.inl (by omega)))
    have N4 := Lib.hid (block_not o2 (g := w2.heap.size) (.inr (Nat.le_refl _)))
    have N5 := Lib.hid (block_not (own_below o2 hb4) (g := w.heap.size + 1) (.inl (by omega)))
    have HP3 : Hid (Reads W3 W3.heap.size 4 A n (encPs posts)) := Lib.hid ((HH.out.posts.below hb5).more hb5.size)
    have HG3 := Lib.hid hG3
    have HB3 := Lib.hid hB3
    have HR3 := Lib.hid hR3
    have HBelow := Lib.hid hb5
    have g2 := hG3.cell 2
    have g3 := hG3.cell 3
    have q0 := hB3.cell 0
    have q3 := hB3.cell 3
    simp only [List.getElem?_toArray, List.getElem?_cons_zero, List.getElem?_cons_succ] at g2 g3 q0 q3
    clear hW3 o1 o2 hG3 hB3 hR3 hb5 hb1 hb2 hb3 hb4 hB1 hR1 hBW hRW hbW b0 b1 b2 b3 b4 r0 r1 r2 r3 r4 s0 s1 s2 s3 s4 HV HOwn
    have hidx := HI.out
    have L0 := Later.of g2
    have L1 := Later.of g3
    have L2 := Later.of q0
    have L3 := Later.of q3
    refine Loose.wp_region_later [(8, .is (.agg (Row5 (C posts n)))), (14, .row W3.heap.size 57 1 #[.int .i64 (clock + 1), .int .i64 k, .int .i64 (C posts n k), .string text])] 15 (by kernel_rfl) (by kernel_rfl) ?_
    (simp only [List.take_succ_cons, List.take_zero, List.drop_succ_cons, List.drop_zero])
    (repeat (first | refine Loose.walk_skip rfl ?_ | (refine Loose.walk_plain rfl rfl rfl (fun K hK => ?_); go_big_quiet_op; refine hK _ ?_; clear hK K)))
    refine Loose.walk_loose rfl rfl (fun W' hW' hF => Loose.loose_call (f := 43) (args := #[.slice A n c]) (by kernel_rfl) ((counts_any W' A n c posts ((HP3.out.below hW').more hW'.size) HPL.out hfew HOr.out).mono fun e w' ⟨he, hb⟩ => ⟨_, he, hb, rfl⟩)) ?_
    rintro _ _ _ rfl
    (simp only [Act.put, List.setIfInBounds_toArray, List.set_cons_succ, List.set_cons_zero])
    (repeat (first | refine Loose.walk_skip rfl ?_ | (refine Loose.walk_plain rfl rfl rfl (fun K hK => ?_); go_big_quiet_op; refine hK _ ?_; clear hK K)))
    refine Loose.walk_loose rfl rfl (fun W' hW' _ => Loose.loose_val (u := .slice (some ⟨W'.heap.size, 0, none⟩) 1 1) (W' := W'.alloc (.cells #[.int .i64 (clock + 1), .int .i64 k, .int .i64 (C posts n k), .string text] 57)) (by kernel_rfl) ((Below.refl _ _).alloc (Nat.le_refl _) _) ⟨_, rfl, hW'.size, Blk.new _ _ _⟩) ?_
    rintro _ _ _ ⟨x, rfl, hx, _⟩
    (simp only [Act.put, List.setIfInBounds_toArray, List.set_cons_succ, List.set_cons_zero])
    (repeat (first | refine Loose.walk_skip rfl ?_ | (refine Loose.walk_plain rfl rfl rfl (fun K hK => ?_); go_big_quiet_op; refine hK _ ?_; clear hK K)))
    refine Loose.walk_nil ?_
    rintro w4 hb6 hF
    have hrow := (Loose.Pred.row_at (B := W3.heap.size) (t := 57) (n := 1) (cs := #[.int .i64 (clock + 1), .int .i64 k, .int .i64 (C posts n k), .string text]) (x := x) (W := w4) hF.2).2
    have hs4 := hb6.size
    have k3 := (hb6.cell (p := ⟨w2.heap.size, 3, none⟩) (by simp [hs3])).trans g3
    have k2 := (hb6.cell (p := ⟨w2.heap.size, 2, none⟩) (by simp [hs3])).trans g2
    have k0 := (hb6.cell (p := ⟨w.heap.size, 0, none⟩) (by simp; omega)).trans q0
    have k9 := (hb6.cell (p := ⟨w.heap.size, 3, none⟩) (by simp; omega)).trans q3
    have o4 := Lib.hid (own_below O1.out hb6)
    have jf0 := (hb6.frozen (p := ⟨w2.heap.size, 3, none⟩) (by simp [hs3])).trans (HG3.out.frozen 3)
    clear L0 L1 L2 L3 hF
    go_upto_region 6 with (first
        | (at_builtin
           refine wpList_append_lies _ (by rfl) _ _ 23 (by rfl) w1.heap.size 57 i0 _ 4 40 Tryz.underlying23 hi0 hz0 hz1 hz2 rfl (by omega) (.slice A1 n c1) n (encPs posts) (by rfl) o4.out
            ⟨x, 0, none⟩ 1 1 [.int .i64 (clock + 1), .int .i64 k, .int .i64 (C posts n k), .string text] (by rfl) (by rfl)
            (World.news_of_block (cs := #[.int .i64 (clock + 1), .int .i64 k, .int .i64 (C posts n k), .string text]) (t := 57) (fr := (0, 0)) hrow) (by simp [Value.oneCell'])
            (by omega) (by simp only [maxLen]; omega) (by omega) (by omega) w4.heap.size rfl ?_
           intro g cap w5 hown5 hgrow hat hlt5
           have j3 := (hgrow.cell_far ⟨w2.heap.size, 3, none⟩ (by simp; omega) N2.out).trans k3
           have j2 := (hgrow.cell_far ⟨w2.heap.size, 2, none⟩ (by simp; omega) N2.out).trans k2
           have j0 := (hgrow.cell_far ⟨w.heap.size, 0, none⟩ (by simp; omega) N1.out).trans k0
           have j9 := (hgrow.cell_far ⟨w.heap.size, 3, none⟩ (by simp; omega) N1.out).trans k9
           have jf := (hgrow.frozen_far ⟨w2.heap.size, 3, none⟩ (by simp; omega) N2.out).trans jf0)
        | fail)
    all_goals
      have hgG : g ≠ w2.heap.size := by
        rcases hat with h | h
        · intro e; exact N2.out (by rw [h, e])
        · omega
      have hg1 : w1.heap.size ≤ g := (hown5.lt g rfl).1
      have own2 := own_below O2.out hb6
      have own3 := own2.kept hgrow (own_apart own2 o4.out (by decide))
      have hR6 : RepR (w5.setCell ⟨w2.heap.size, 3, none⟩ (.slice (some ⟨g, 0, none⟩) (n + 1) cap)) w5.heap.size ⟨k, many, clock + 1, posts ++ [⟨clock + 1, k, C posts n k, text⟩], heard⟩ (some ⟨g, 0, none⟩) (n + 1) A2 n' := by
        refine ⟨?_, by simp [HPL.out], ?_, HH.out.len', by omega, HH.out.few'⟩
        · simp only [encPs_snoc]
          exact (Reads.of_own hown5).far (p := ⟨w2.heap.size, 3, none⟩) (fun a e => by injection e with e; subst e; exact hgG) _
        · exact (Reads.of_own own3).far (p := ⟨w2.heap.size, 3, none⟩) (fun a e h => N4.out (by subst e; exact (congrArg some h).symm)) _
      have hlt4 : w4.heap.size ≤ w5.heap.size := hgrow.size
      have hb8 : Below w.heap.size w (w5.setCell ⟨w2.heap.size, 3, none⟩ (.slice (some ⟨g, 0, none⟩) (n + 1) cap)) :=
        ((HBelow.out.trans (hb6.mono HBelow.out.size)).grown hgrow (by first | omega | (simp; omega)) (fun j hj => by have := (o4.out.lt j hj).1; omega)).setCell (by first | omega | (simp; omega)) _
      have hR8 : Blk (w5.setCell ⟨w2.heap.size, 3, none⟩ (.slice (some ⟨g, 0, none⟩) (n + 1) cap)) (w.heap.size + 1) 26 #[.int .i64 0, .int .i64 0, .int .i64 0, .slice none 0 0, .slice none 0 0] := by
        refine Blk.far ?_ (by first | omega | (simp; omega)) _
        exact (hgrow.block (w.heap.size + 1) (by first | omega | (simp; omega)) N3.out).trans (HR3.out.below hb6 (by omega))
      have hG8 : Blk (w5.setCell ⟨w2.heap.size, 3, none⟩ (.slice (some ⟨g, 0, none⟩) (n + 1) cap)) w2.heap.size 26 #[.int .i64 k, .int .i64 many, .int .i64 (clock + 1), .slice (some ⟨g, 0, none⟩) (n + 1) cap, .slice A2 n' c2] :=
        Blk.set_ (cs := #[.int .i64 k, .int .i64 many, .int .i64 (clock + 1), .slice A1 n c1, .slice A2 n' c2]) ((hgrow.block w2.heap.size (by first | omega | (simp; omega)) N2.out).trans (HG3.out.below hb6 (by omega))) 3 _
      obtain ⟨W6, hW6⟩ : ∃ W6, W6 = w5.setCell ⟨w2.heap.size, 3, none⟩ (.slice (some ⟨g, 0, none⟩) (n + 1) cap) := ⟨_, rfl⟩
      have hs6 : W6.heap.size = w5.heap.size := by rw [hW6, size_setCell]
      rw [← hW6] at hR6 hb8 hR8 hG8 ⊢
      rw [← hs6] at hR6
      obtain ⟨x0, x1, x2, x3, x4⟩ := hG8.cells5
      have HRight := Lib.hid (right_any W6 _ _ _ cap _ _ c2 hR6)
      unfold repV at HRight
      simp only at HRight
      have HR6 := Lib.hid hR6
      have HR8 := Lib.hid hR8
      have HB8 := Lib.hid hb8
      have HCap := Lib.hid (own_cap hown5)
      clear hW6 hR6 hR8 hb8 hG8 own2 own3 hown5 hgrow hb6 j0 j2 j3 j9 jf jf0 k0 k2 k3 k9 hidx hat hrow
      have HW : Hid (Rp.written ⟨k, many, clock, posts, heard⟩ text = ⟨k, many, clock + 1, posts ++ [⟨clock + 1, k, C posts n k, text⟩], heard⟩) := Lib.hid (by unfold Rp.written; rw [C_all posts n HPL.out])
      go_wp2_with fail
      refine HRight.out.mono ?_
      rintro e w7 ⟨rfl, hb9⟩
      have hbe := HB8.out.trans (hb9.mono HB8.out.size)
      have hR9 := HR8.out.below hb9 HR8.out.lt
      obtain ⟨r0, r1, r2, r3, r4⟩ := hR9.cells5
      obtain ⟨s0, s1, s2, s3, s4⟩ := hR9.soft5
      cases hv2 : Rp.valid ⟨k, many, clock + 1, posts ++ [⟨clock + 1, k, C posts n k, text⟩], heard⟩
      · unfold orErr zeroRep
        go_wp2
        refine bodyPost_ret (v := .tuple #[zeroRep, .int .i64 310]) (by simp [zeroRep, results, Tryz.results13, go_sem, r0, r1, r2, r3, r4]) rfl ⟨?_, ?_⟩
        · repeat (refine Below.setCell ?_ (by simp) _)
          exact hbe
        · rw [HN.out, HW.out, hv2]; rfl
      · unfold orErr
        go_wp2
        refine bodyPost_ret (v := .tuple #[.agg #[.int .i64 k, .int .i64 many, .int .i64 (clock + 1), .slice (some ⟨g, 0, none⟩) (n + 1) cap, .slice A2 n' c2], .int .i64 0]) (by simp [results, Tryz.results13, go_sem, r0, r1, r2, r3, r4]) rfl ⟨?_, ?_⟩
        · repeat (refine Below.setCell ?_ (by simp) _)
          exact hbe
        · rw [HN.out, HW.out, hv2]
          refine ⟨some ⟨g, 0, none⟩, n + 1, cap, A2, n', c2, rfl, ?_, (fun a e => by injection e with e; subst e; simp; omega), F2.out, HCap.out⟩
          simp only [size_setCell]
          repeat (refine RepR.far ?_ (fun a e => by injection e with e; subst e; simp; omega) (fun a e h => N5.out (by subst e; exact (congrArg some h).symm)) _)
          exact (HR6.out.below hb9).more hb9.size

end Go.Proofs.YtnehgpeelgjjhaaGreatDoor.Tw
namespace Go.Proofs.YtnehgpeelgjjhaaGreatDoor.Tw
open Go.RowKit

/-- the value of a message -/
def msgV (m : Rp.Msg) (M : Option Addr) (N C : Nat) (M' : Option Addr) (N' C' : Nat) : Value := .agg #[.int .i64 m.src, .slice M N C, .slice M' N' C']
def zeroMsg : Value := .agg #[.int .i64 0, .slice none 0 0, .slice none 0 0]
structure MsgR (w : World) (B : Nat) (m : Rp.Msg) (M : Option Addr) (N : Nat) (M' : Option Addr) (N' : Nat) : Prop where
  posts : Reads w B 4 M N (encPs m.posts)
  len : m.posts.length = N
  heard : Reads w B 1 M' N' (m.heard.map (Value.int .i64))
  len' : m.heard.length = N'
  few : N ≤ 16777216
  few' : N' ≤ 16777216
theorem MsgR.below {w w' : World} {B : Nat} {r : Rp.Msg} {A A' : Option Addr} {n n' : Nat} (h : MsgR w B r A n A' n') (hb : Below B w w') : MsgR w' B r A n A' n' :=
  ⟨h.posts.below hb, h.len, h.heard.below hb, h.len', h.few, h.few'⟩
theorem MsgR.more {w : World} {B B' : Nat} {r : Rp.Msg} {A A' : Option Addr} {n n' : Nat} (h : MsgR w B r A n A' n') (hB : B ≤ B') : MsgR w B' r A n A' n' :=
  ⟨h.posts.more hB, h.len, h.heard.more hB, h.len', h.few, h.few'⟩
theorem MsgR.far {w : World} {B : Nat} {r : Rp.Msg} {A A' : Option Addr} {n n' : Nat} (h : MsgR w B r A n A' n') {p : Addr} (hp : ∀ a, A = some a → a.block ≠ p.block) (hp' : ∀ a, A' = some a → a.block ≠ p.block) (u : Value) :
    MsgR (w.setCell p u) B r A n A' n' :=
  ⟨h.posts.far hp u, h.len, h.heard.far hp' u, h.len', h.few, h.few'⟩

/-- what Tell has come to -/
def GotTell (w w' : World) (e : Ending) (o : Option (Rp.Rep × Rp.Msg)) : Prop :=
  Below w.heap.size w w' ∧ match o with
    | none => e = .returned (.tuple #[zeroRep, zeroMsg, .int .i64 310])
    | some (r, m) => ∃ A n c A' n' c' M N C M' N' C', e = .returned (.tuple #[repV r A n c A' n' c', msgV m M N C M' N' C', .int .i64 0]) ∧ RepR w' w'.heap.size r A n A' n' ∧ MsgR w' w'.heap.size m M N M' N' ∧ N ≤ C ∧ ((Fresh w.heap.size A ∧ Fresh w.heap.size A') ∧ n ≤ c) ∧ Fresh w.heap.size M ∧ Fresh w.heap.size M'

theorem own_far {w : World} {B : Nat} {e : TypeId} {s n : Nat} {v : Value} {xs : List Value} (h : w.ownsRow B e s v n xs) {p : Addr} (hp : v.ownBlock ≠ some p.block) (u : Value) : (w.setCell p u).ownsRow B e s v n xs := by
  refine ⟨h.1, ?_⟩
  rcases h.2 with h2 | ⟨g, cap, cur, rfl, hb, hh, r⟩
  · exact .inl h2
  · refine .inr ⟨g, cap, cur, rfl, hb, ?_, r⟩
    rw [Below.heap_setCell w p u g (by intro e; exact hp (by simp [Value.ownBlock, e]))]
    exact hh
theorem tell_no {r : Rp.Rep} (h : Rp.valid r = false) : Rp.tell r = none := by unfold Rp.tell; rw [h]; rfl
theorem tell_yes {r : Rp.Rep} (h : Rp.valid r = true) : Rp.tell r = some (Rp.told r, Rp.message r) := by unfold Rp.tell; rw [h]; rfl

set_option maxRecDepth 100000 in
set_option maxHeartbeats 3200000 in
theorem tell_any (w : World) (r : Rp.Rep) (A : Option Addr) (n c : Nat) (A' : Option Addr) (n' c' : Nat) (h : RepR w w.heap.size r A n A' n') :
    Calls Tryz.prog 15 #[repV r A n c A' n' c'] w fun e w' => GotTell w w' e (Rp.tell r) := by
  obtain ⟨me, many, clock, posts, heard⟩ := r
  obtain ⟨W0, hW0⟩ : ∃ W0, W0 = ((w.alloc (.cells #[.int .i64 me, .int .i64 many, .int .i64 clock, .slice A n c, .slice A' n' c'] 26)).alloc (.cells #[.int .i64 0, .int .i64 0, .int .i64 0, .slice none 0 0, .slice none 0 0] 26)).alloc (.cells #[.int .i64 0, .slice none 0 0, .slice none 0 0] 28) := ⟨_, rfl⟩
  have hs0 : W0.heap.size = w.heap.size + 3 := by rw [hW0]; simp
  have hbW : Below w.heap.size w W0 := by rw [hW0]; exact (((Below.refl _ _).alloc (Nat.le_refl _) _).alloc (by simp) _).alloc (by simp; omega) _
  have hBW : Blk W0 w.heap.size 26 #[.int .i64 me, .int .i64 many, .int .i64 clock, .slice A n c, .slice A' n' c'] := by rw [hW0]; exact ((Blk.new _ _ _).alloc _).alloc _
  have hRW : Blk W0 (w.heap.size + 1) 26 #[.int .i64 0, .int .i64 0, .int .i64 0, .slice none 0 0, .slice none 0 0] := by rw [hW0]; exact (Blk.new2 _ _ _ _).alloc _
  have hMW : Blk W0 (w.heap.size + 1 + 1) 28 #[.int .i64 0, .slice none 0 0, .slice none 0 0] := by
    rw [hW0]
    have hbn := Blk.new2 (w.alloc (.cells #[.int .i64 me, .int .i64 many, .int .i64 clock, .slice A n c, .slice A' n' c'] 26)) (.cells #[.int .i64 0, .int .i64 0, .int .i64 0, .slice none 0 0, .slice none 0 0] 26) 28 #[.int .i64 0, .slice none 0 0, .slice none 0 0]
    simp only [World.size_alloc] at hbn
    exact hbn
  have HV := Lib.hid (valid_any W0 ⟨me, many, clock, posts, heard⟩ A n c A' n' c' ((h.below hbW).more (by omega)))
  have HW0 := Lib.hid hW0
  have HH := Lib.hid h
  clear h hW0
  unfold repV at *
  simp only at HV ⊢
  go_enter Tryz.func15, Tryz.ntmps15
  go_wp2_with fail
  rw [← HW0.out]
  refine HV.out.mono ?_
  rintro e w1 ⟨rfl, hb1⟩
  have hb2 := hbW.trans (hb1.mono hbW.size)
  have hB1 := hBW.below hb1 (by omega)
  have hR1 := hRW.below hb1 (by omega)
  have hM1 := hMW.below hb1 (by omega)
  have hs1 := hb1.size
  obtain ⟨b0, b1, b2, b3, b4⟩ := hB1.cells5
  obtain ⟨r0, r1, r2, r3, r4⟩ := hR1.cells5
  obtain ⟨s0, s1, s2, s3, s4⟩ := hR1.soft5
  have y0 := hM1.cell 0
  have y1 := hM1.cell 1
  have y2 := hM1.cell 2
  simp only [List.getElem?_toArray, List.getElem?_cons_zero, List.getElem?_cons_succ] at y0 y1 y2
  have z0 := hM1.frozen 0
  have z1 := hM1.frozen 1
  have z2 := hM1.frozen 2
  cases hv : Rp.valid ⟨me, many, clock, posts, heard⟩
  · have HN := Lib.hid (tell_no hv)
    go_wp2
    refine bodyPost_ret (v := .tuple #[zeroRep, zeroMsg, .int .i64 310]) (by simp [zeroRep, zeroMsg, y0, y1, y2, results, Tryz.results15, go_sem, r0, r1, r2, r3, r4]) rfl ⟨?_, ?_⟩
    · repeat (refine Below.setCell ?_ (by simp; try omega) _)
      exact hb2
    · rw [HN.out]
  · have HN := Lib.hid (tell_yes hv)
    have HVV := Lib.hid hv
    obtain ⟨⟨v1, v2⟩, ⟨v3, v4⟩, ⟨v5, v6⟩, v7, v8, v9⟩ := Rp.valid_iff.1 hv
    simp only at v1 v2 v3 v4 v5 v6 v8
    have HOr : Hid (∀ p ∈ posts, ∃ o : Nat, o < 5 ∧ p.origin = o) := Lib.hid fun p hp => by
      obtain ⟨mn, hmn⟩ : ∃ mn : Nat, many = mn := ⟨many.toNat, by omega⟩
      subst hmn
      obtain ⟨o, ho, e⟩ := Rp.own_range v8 hp
      exact ⟨o, by omega, e⟩
    have HPL := Lib.hid HH.out.len
    have hfew := HH.out.few
    have h200 : n ≤ 200 := by
      have h1 := (Rp.isLog_iff.1 v8).1
      have h2 := HH.out.len
      simp only at h2
      omega
    simp only at HPL
    obtain ⟨k, rfl⟩ : ∃ k : Nat, me = k := ⟨me.toNat, by omega⟩
    have hk5 : k < 5 := by omega
    have HOwn := Lib.hid (own_any w1 ⟨k, many, clock, posts, heard⟩ A n c A' n' c' ((HH.out.below hb2).more hb2.size))
    unfold repV at HOwn
    simp only at HOwn
    clear v3 v8 v9 hv
    have hpos : 0 < n' := by
      have := HH.out.len'
      have h2 := (Rp.isHeard_iff.1 v7).1
      simp only at this h2
      omega
    have hkn : (k : Int) < (n' : Int) := by
      have := HH.out.len'
      have h2 := (Rp.isHeard_iff.1 v7).1
      simp only at this h2
      omega
    clear v7 v4
    go_wp2_with fail
    refine HOwn.out.mono ?_
    rintro e w2 ⟨A1, c1, A2, c2, rfl, o1, o2, hc1, hc2, hb3⟩
    obtain ⟨g2, cap2, e2, hg2, hl2⟩ := o2.form hpos
    injection e2 with e2 _ e2c
    subst e2 e2c
    have hs2 := hb3.size
    have hB2 := hB1.below hb3 (by omega)
    have q0 := hB2.cell 0
    simp only [List.getElem?_toArray, List.getElem?_cons_zero] at q0
    have q2 := hB2.cell 2
    simp only [List.getElem?_toArray, List.getElem?_cons_zero, List.getElem?_cons_succ] at q2
    have e0 := World.new_ne w2 _ q0
    have q2a : ∀ o, (w2.alloc o).cell? ⟨w.heap.size, 2, none⟩ = some (.int .i64 clock) := fun o => (World.cell?_alloc_some w2 _ o (by rw [q2]; rfl)).trans q2
    have hk1 : k < n' * 1 := by omega
    have hgx : g2 < w2.heap.size := hl2
    have t1 := o2.cellAt k hk1
    have hklen : k < heard.length := by have := o2.1; simp at this; omega
    rw [List.getElem?_map, List.getElem?_eq_getElem hklen] at t1
    simp only [Option.map_some] at t1
    have t2 := o2.frozenAt k
    have t3 := World.new_ne w2 _ t1
    have q0a : ∀ o, (w2.alloc o).cell? ⟨w.heap.size, 0, none⟩ = some (.int .i64 k) := fun o => (World.cell?_alloc_some w2 _ o (by rw [q0]; rfl)).trans q0
    have t1a : ∀ o, (w2.alloc o).cell? ⟨g2, k, none⟩ = some (.int .i64 heard[k]) := fun o => (World.cell?_alloc_some w2 _ o (by rw [t1]; rfl)).trans t1
    have t2a : ∀ o, (w2.alloc o).frozen? ⟨g2, k, none⟩ = false := fun o => (((Below.refl w2.heap.size w2).alloc (Nat.le_refl _) o).frozen (p := ⟨g2, k, none⟩) hgx).trans t2
    go_wp2
    obtain ⟨W3, hW3⟩ : ∃ W3, W3 = (w2.setCell ⟨g2, k, none⟩ (.int .i64 clock)).alloc (.cells #[.int .i64 k, .int .i64 many, .int .i64 clock, .slice A1 n c1, .slice (some ⟨g2, 0, none⟩) n' c2] 26) := ⟨_, rfl⟩
    rw [← hW3]
    have hs3 : W3.heap.size = w2.heap.size + 1 := by rw [hW3]; simp
    have hG3 : Blk W3 w2.heap.size 26 #[.int .i64 k, .int .i64 many, .int .i64 clock, .slice A1 n c1, .slice (some ⟨g2, 0, none⟩) n' c2] := by
      rw [hW3]
      have hbn := Blk.new (w2.setCell ⟨g2, k, none⟩ (.int .i64 clock)) 26 #[.int .i64 k, .int .i64 many, .int .i64 clock, .slice A1 n c1, .slice (some ⟨g2, 0, none⟩) n' c2]
      rw [size_setCell] at hbn
      exact hbn
    have hb5 : Below w.heap.size w W3 := by
      rw [hW3]
      exact ((hb2.trans (hb3.mono hb2.size)).setCell (p := ⟨g2, k, none⟩) (by simp; omega) _).alloc (by simp only [size_setCell]; omega) _
    have hB3 : Blk W3 w.heap.size 26 #[.int .i64 k, .int .i64 many, .int .i64 clock, .slice A n c, .slice A' n' c'] := by rw [hW3]; exact (hB2.far (by simp; omega) _).alloc _
    have hR3 : Blk W3 (w.heap.size + 1) 26 #[.int .i64 0, .int .i64 0, .int .i64 0, .slice none 0 0, .slice none 0 0] := by rw [hW3]; exact ((hR1.below hb3 (by omega)).far (by simp; omega) _).alloc _
    have hM3 : Blk W3 (w.heap.size + 1 + 1) 28 #[.int .i64 0, .slice none 0 0, .slice none 0 0] := by rw [hW3]; exact ((hM1.below hb3 (by omega)).far (by simp; omega) _).alloc _
    have o2' := (o2.stored k (.int .i64 clock)).1.alloc (.cells #[.int .i64 k, .int .i64 many, .int .i64 clock, .slice A1 n c1, .slice (some ⟨g2, 0, none⟩) n' c2] 26)
    have o1' := (own_far o1 (p := ⟨g2, k, none⟩) (fun e => (own_apart o1 o2 (by decide)).elim (fun h => by rw [h] at e; cases e) (fun h => h e)) (.int .i64 clock)).alloc (.cells #[.int .i64 k, .int .i64 many, .int .i64 clock, .slice A1 n c1, .slice (some ⟨g2, 0, none⟩) n' c2] 26)
    rw [← hW3, ← List.map_set] at o2'
    rw [← hW3] at o1'
    have O1 := Lib.hid o1'
    have F1 := Lib.hid (Fresh.of_own o1 hb2.size)
    have HCap := Lib.hid (own_cap o1)
    have O2 := Lib.hid o2'
    have HB5 := Lib.hid hb5
    have HR3 := Lib.hid hR3
    have HM3 := Lib.hid hM3
    have HO1 : Hid (Reads W3.drew W3.drew.heap.size 4 A1 n (encPs posts)) := Lib.hid (Reads.of_own o1' : Reads W3 W3.heap.size 4 A1 n (encPs posts))
    have HO2 : Hid (Reads W3 W3.heap.size 1 (some ⟨g2, 0, none⟩) n' ((heard.set k clock).map (Value.int .i64))) := Lib.hid (Reads.of_own o2')
    have g1b := Lib.hid hg2
    have hf' := HH.out.few'
    obtain ⟨p0, p1, p2, p3, p4⟩ := hG3.cells5
    have q := hB3.cell 0
    simp only [List.getElem?_toArray, List.getElem?_cons_zero] at q
    have u1 : w.heap.size + 1 ≠ w2.heap.size := by omega
    have u2 : w.heap.size + 1 + 1 ≠ w2.heap.size := by omega
    have u3 : w.heap.size ≠ w2.heap.size := by omega
    have u4 : w.heap.size + 1 + 1 ≠ w.heap.size := by omega
    have u5 : w.heap.size + 1 ≠ w.heap.size := by omega
    have u4' := u4.symm
    have u5' := u5.symm
    have u1' := u1.symm
    have u2' := u2.symm
    have u3' := u3.symm
    have hGs : w2.heap.size < W3.heap.size := by omega
    have hBs : w.heap.size + 1 + 1 < W3.heap.size := by omega
    clear hW3 o1' o2' o1 o2 hB3 hR3 hM3 hb5 hb1 hb2 hb3 hB1 hB2 hR1 hM1 hBW hRW hMW hbW b0 b1 b2 b3 b4 r0 r1 r2 r3 r4 s0 s1 s2 s3 s4 y0 y1 y2 z0 z1 z2 HV HOwn q0 q2 q0a q2a t1 t1a t2 t2a t3 e0
    go_region_held3 (fun w' => w'.cell? ⟨w2.heap.size, 0, none⟩ = some (.int .i64 k) ∧ w'.cell? ⟨w2.heap.size, 1, none⟩ = some (.int .i64 many) ∧ w'.cell? ⟨w2.heap.size, 2, none⟩ = some (.int .i64 clock) ∧
        w'.cell? ⟨w2.heap.size, 3, none⟩ = some (.slice A1 n c1) ∧ w'.cell? ⟨w2.heap.size, 4, none⟩ = some (.slice (some ⟨g2, 0, none⟩) n' c2) ∧ w'.cell? ⟨w.heap.size, 0, none⟩ = some (.int .i64 k))
      (go_keep)
      (first
        | (go_at_call 46
           refine (clonePost W3.drew A1 n c1 posts HO1.out hfew).mono ?_
           rintro e w4 ⟨v1, rfl, own4, hb4⟩
           obtain ⟨A3, c3, rfl, hc3⟩ := own_slice own4
           have hb6 : Below W3.heap.size W3 w4 := (Below.refl _ _).drew.trans hb4
           have hs4 := hb6.size
           have k0 := (hb6.cell (p := ⟨w2.heap.size, 0, none⟩) hGs).trans p0
           have k1 := (hb6.cell (p := ⟨w2.heap.size, 1, none⟩) hGs).trans p1
           have k2 := (hb6.cell (p := ⟨w2.heap.size, 2, none⟩) hGs).trans p2
           have k3 := (hb6.cell (p := ⟨w2.heap.size, 3, none⟩) hGs).trans p3
           have k4 := (hb6.cell (p := ⟨w2.heap.size, 4, none⟩) hGs).trans p4
           have k9 := (hb6.cell (p := ⟨w.heap.size, 0, none⟩) (by simp; omega)).trans q
           have hl4 : W3.heap.size ≤ w4.heap.size := hs4)
        | (go_at_call 47
           refine (cloneInt w4 (some ⟨g2, 0, none⟩) n' c2 (heard.set k clock) ((HO2.out.below hb6).more hl4) hf').mono ?_
           rintro e w5 ⟨v2, rfl, own5, hb8⟩
           obtain ⟨A4, c4, rfl, hc4⟩ := own_slice own5
           have hb9 : Below W3.heap.size W3 w5 := hb6.trans (hb8.mono hl4)
           have j0 := (hb9.cell (p := ⟨w2.heap.size, 0, none⟩) hGs).trans p0
           have j1 := (hb9.cell (p := ⟨w2.heap.size, 1, none⟩) hGs).trans p1
           have j2 := (hb9.cell (p := ⟨w2.heap.size, 2, none⟩) hGs).trans p2
           have j3 := (hb9.cell (p := ⟨w2.heap.size, 3, none⟩) hGs).trans p3
           have j4 := (hb9.cell (p := ⟨w2.heap.size, 4, none⟩) hGs).trans p4
           have j9 := (hb9.cell (p := ⟨w.heap.size, 0, none⟩) (by simp; omega)).trans q
           have hR5 := HR3.out.below hb9 (by omega)
           have hM5 := HM3.out.below hb9 (by omega)
           obtain ⟨r0, r1, r2, r3, r4⟩ := hR5.cells5
           obtain ⟨s0, s1, s2, s3, s4⟩ := hR5.soft5
           have y0 := hM5.cell 0
           have y1 := hM5.cell 1
           have y2 := hM5.cell 2
           simp only [List.getElem?_toArray, List.getElem?_cons_zero, List.getElem?_cons_succ] at y0 y1 y2
           have z0 := hM5.frozen 0
           have z1 := hM5.frozen 1
           have z2 := hM5.frozen 2))
    have HB9 := Lib.hid (HB5.out.trans (hb9.mono HB5.out.size))
    have o1e := own_below O1.out hb9
    have o2e := own_below O2.out hb9
    have o4e := own_below own4 hb8
    have N1 : ∀ (b : Nat), b < w1.heap.size → ∀ a, A1 = some a → a.block ≠ b := fun b hb a e h => block_not o1e (g := b) (.inl hb) (by subst e; exact (congrArg some h).symm)
    have N3 : ∀ (b : Nat), b < W3.heap.size → ∀ a, A3 = some a → a.block ≠ b := fun b hb a e h => block_not o4e (g := b) (.inl hb) (by subst e; exact (congrArg some h).symm)
    have N4 : ∀ (b : Nat), b < W3.heap.size → ∀ a, A4 = some a → a.block ≠ b := fun b hb a e h => block_not own5 (g := b) (.inl (by omega)) (by subst e; exact (congrArg some h).symm)
    have hw1 : w.heap.size + 1 + 1 < w1.heap.size := by omega
    have hsw : w.heap.size ≤ W3.heap.size := by omega
    have F3 := Lib.hid (Fresh.of_own own4 (B' := w.heap.size) hsw)
    have F4 := Lib.hid (Fresh.of_own own5 (B' := w.heap.size) (by omega))
    have HE := Lib.hid (show RepR w5 w5.heap.size ⟨k, many, clock, posts, heard.set k clock⟩ A1 n (some ⟨g2, 0, none⟩) n' from
      ⟨Reads.of_own o1e, HPL.out, Reads.of_own o2e, by simp; exact HH.out.len', hfew, hf'⟩)
    have HF := Lib.hid (show MsgR w5 w5.heap.size ⟨k, posts, heard.set k clock⟩ A3 n A4 n' from
      ⟨Reads.of_own o4e, HPL.out, Reads.of_own own5, by simp; exact HH.out.len', hfew, hf'⟩)
    have G1 := Lib.hid g1b.out
    clear o1e o2e o4e own4 own5
    go_wp2
    refine bodyPost_ret (v := .tuple #[.agg #[.int .i64 k, .int .i64 many, .int .i64 clock, .slice A1 n c1, .slice (some ⟨g2, 0, none⟩) n' c2], .agg #[.int .i64 k, .slice A3 n c3, .slice A4 n' c4], .int .i64 0])
      (by simp [results, Tryz.results15, go_sem, r0, r1, r2, r3, r4, y0, y1, y2]) rfl ⟨?_, ?_⟩
    · repeat (refine Below.setCell ?_ (by simp; try omega) _)
      exact HB9.out
    · rw [HN.out]
      refine ⟨A1, n, c1, some ⟨g2, 0, none⟩, n', c2, A3, n, c3, A4, n', c4, rfl, ?_, ?_, hc3, ⟨⟨F1.out, fun a e => by injection e with e; subst e; have := G1.out; simp; omega⟩, HCap.out⟩, F3.out, F4.out⟩
      · simp only [size_setCell]
        repeat (refine RepR.far ?_ (N1 _ (by simp; try omega)) (fun a e => by injection e with e; subst e; simp; omega) _)
        exact HE.out
      · simp only [size_setCell]
        repeat (refine MsgR.far ?_ (N3 _ (by simp; try omega)) (N4 _ (by simp; try omega)) _)
        exact HF.out
end Go.Proofs.YtnehgpeelgjjhaaGreatDoor.Tw
namespace Go.Proofs.YtnehgpeelgjjhaaGreatDoor.Tw
open Go.RowKit
theorem toList_inj {a b : ByteArray} : a.toList = b.toList ↔ a = b := by
  constructor
  · intro h
    rw [Go.ByteArray.toList_eq, Go.ByteArray.toList_eq] at h
    cases a; cases b
    simpa [Array.toList_inj] using h
  · rintro rfl; rfl
theorem post_eq_iff (p q : Rp.Post) : p = q ↔ p.epoch = q.epoch ∧ p.origin = q.origin ∧ p.number = q.number ∧ p.text = q.text := by
  cases p; cases q; simp
theorem post_eql (p q : Rp.Post) (w : World) : (binOp .eql 57 (aggP p) (aggP q)).run Tryz.prog w = .ok (.bool (decide (p = q))) w := by
  have h := post_eq_iff p q
  unfold aggP
  go_simp
  by_cases h1 : p.epoch = q.epoch <;> by_cases h2 : p.origin = q.origin <;> by_cases h3 : p.number = q.number <;> by_cases h4 : p.text = q.text <;>
    simp_all [toList_inj]
theorem post_neq (p q : Rp.Post) (w : World) : (binOp .neq 57 (aggP p) (aggP q)).run Tryz.prog w = .ok (.bool (!decide (p = q))) w := by
  have h := post_eq_iff p q
  unfold aggP
  go_simp
  by_cases h1 : p.epoch = q.epoch <;> by_cases h2 : p.origin = q.origin <;> by_cases h3 : p.number = q.number <;> by_cases h4 : p.text = q.text <;>
    simp_all [toList_inj]

set_option maxRecDepth 100000 in
set_option maxHeartbeats 800000 in
/-- Hear's two small functions -/
theorem hear1_any (p q : Rp.Post) (w : World) : Calls Tryz.prog 63 #[aggP p, aggP q] w fun e w' => e = .returned (.int .i64 (cmp3 p.epoch p.origin p.number q.epoch q.origin q.number)) ∧ Below w.heap.size w w' := by
  unfold aggP
  obtain ⟨W0, hW0⟩ : ∃ W0, W0 = (w.alloc (.cells #[.int .i64 p.epoch, .int .i64 p.origin, .int .i64 p.number, .string p.text] 57)).alloc (.cells #[.int .i64 q.epoch, .int .i64 q.origin, .int .i64 q.number, .string q.text] 57) := ⟨_, rfl⟩
  have hb : Below w.heap.size w W0 := by rw [hW0]; exact ((Below.refl _ _).alloc (Nat.le_refl _) _).alloc (by simp) _
  have HW0 := Lib.hid hW0
  clear hW0
  go_enter Tryz.func63, Tryz.ntmps63
  go_wp2_with fail
  rw [← HW0.out]
  refine (postCompare_any _ _ _ _ _ _ _ _ _).mono ?_
  rintro e w1 ⟨rfl, hb1⟩
  go_wp2
  go_ret
  exact ⟨rfl, hb.trans (hb1.mono hb.size)⟩

set_option maxRecDepth 100000 in
set_option maxHeartbeats 800000 in
theorem hear2_any (p q : Rp.Post) (w : World) : Calls Tryz.prog 66 #[aggP p, aggP q] w fun e w' => e = .returned (.bool (decide (p = q))) ∧ Below w.heap.size w w' := by
  have he := post_eql p q
  unfold aggP at *
  have hb : Below w.heap.size w ((w.alloc (.cells #[.int .i64 p.epoch, .int .i64 p.origin, .int .i64 p.number, .string p.text] 57)).alloc (.cells #[.int .i64 q.epoch, .int .i64 q.origin, .int .i64 q.number, .string q.text] 57)) := ((Below.refl _ _).alloc (Nat.le_refl _) _).alloc (by simp) _
  have HB := Lib.hid hb
  clear hb
  go_enter Tryz.func66, Tryz.ntmps66
  go_wp2
  trace_state
  go_ret
  exact ⟨rfl, HB.out⟩
end Go.Proofs.YtnehgpeelgjjhaaGreatDoor.Tw
namespace Go.Proofs.YtnehgpeelgjjhaaGreatDoor.Tw
open Go.RowKit

theorem drop_cons {α : Type} {l : List α} {j : Nat} {q : α} (h : l[j]? = some q) : l.drop j = q :: l.drop (j + 1) := by
  obtain ⟨hlt, rfl⟩ := List.getElem?_eq_some_iff.1 h
  exact List.drop_eq_getElem_cons hlt

def sameFrom {α : Type} [DecidableEq α] (l l' : List α) (j : Nat) : Bool := decide (l.drop j = l'.drop j)
section
variable {α : Type} [DecidableEq α] {l l' : List α} {j : Nat} {q q' : α}
theorem sameFrom_zero : decide (l = l') = sameFrom l l' 0 := by simp [sameFrom]
theorem sameFrom_yes (h : l[j]? = some q) (h' : l'[j]? = some q') (e : q = q') : sameFrom l l' j = sameFrom l l' (j + 1) := by
  unfold sameFrom; rw [drop_cons h, drop_cons h']; subst e; simp
theorem sameFrom_no (h : l[j]? = some q) (h' : l'[j]? = some q') (e : ¬ q = q') : sameFrom l l' j = false := by
  unfold sameFrom; rw [drop_cons h, drop_cons h']; simp [e]
theorem sameFrom_end (h : l.length ≤ j) (h' : l'.length ≤ j) : sameFrom l l' j = true := by
  unfold sameFrom; rw [List.drop_eq_nil_of_le h, List.drop_eq_nil_of_le h']; simp
theorem same_len (h : l.length ≠ l'.length) : decide (l = l') = false := by
  simp; rintro rfl; exact h rfl
end

set_option maxRecDepth 100000 in
set_option maxHeartbeats 800000 in
theorem equalInt (w : World) (A : Option Addr) (n c : Nat) (l : List Int) (A' : Option Addr) (n' c' : Nat) (l' : List Int)
    (hx : Reads w w.heap.size 1 A n (l.map (Value.int .i64))) (hx' : Reads w w.heap.size 1 A' n' (l'.map (Value.int .i64))) (hn : n ≤ 16777216) (hn' : n' ≤ 16777216) :
    Calls Tryz.prog 62 #[.slice A n c, .slice A' n' c'] w fun e w' => e = .returned (.bool (decide (l = l'))) ∧ Below w.heap.size w w' := by
  have hl : l.length = n := by have := hx.1; simpa using this
  have hl' : l'.length = n' := by have := hx'.1; simpa using this
  have HL := Lib.hid hl
  have HL' := Lib.hid hl'
  have HX := Lib.hid hx
  have HX' := Lib.hid hx'
  have H0 := Lib.hid (sameFrom_zero (l := l) (l' := l'))
  clear hx hx' hl hl'
  by_cases hne : n = n'
  · subst hne
    go_enter Tryz.func62, Tryz.ntmps62
    go_wp2
    go_loopw [13] (fun k wr => ∃ j : Nat, j ≤ n ∧ k = .int .i64 j ∧ Hid (decide (l = l') = sameFrom l l' j) ∧ Below w.heap.size w wr) (fun k _ => n - (intOf k).toNat)
    case atStart => exact ⟨0, by omega, rfl, H0, Below.refl _ _⟩
    case round =>
      obtain ⟨j, hj, rfl, hf, hb⟩ := hrel
      by_cases hlt : j < n
      · obtain ⟨b, off, x, rfl, hbl, hq, h0⟩ := HX.out.int hlt
        obtain ⟨b', off', x', rfl, hbl', hq', h0'⟩ := HX'.out.int hlt
        rw [← hb.cell (p := ⟨b, _, none⟩) hbl] at h0
        rw [← hb.cell (p := ⟨b', _, none⟩) hbl'] at h0'
        have k0 := Later.of h0
        have k0' := Later.of h0'
        by_cases e1 : x = x'
        · have HE := Lib.hid (sameFrom_yes hq hq' e1)
          have e2 : (x != x') = false := by simpa using e1
          clear e1 hq hq'
          go_wp2
          refine wp_region_later (by kernel_rfl) (by kernel_rfl) ?_
          repeat (go_big_quiet_step (fail))
          refine wpQuiet_nil ?_
          rintro W1 ⟨⟨_, hW1⟩, rfl⟩
          clear k0 k0'
          have hb1 := hb.trans (hW1.mono hb.size)
          go_wp2
          go_roundw
          case rel => exact ⟨j + 1, by omega, by go_num, by unfold Hid; rw [hf.out, HE.out], hb1⟩
          case measure => simp [intOf]; omega
        · have HE := Lib.hid (sameFrom_no hq hq' e1)
          have e2 : (x != x') = true := by simpa using e1
          clear e1 hq hq'
          go_wp2
          refine wp_region_later (by kernel_rfl) (by kernel_rfl) ?_
          repeat (go_big_quiet_step (fail))
          refine wpQuiet_nil ?_
          rintro W1 ⟨⟨_, hW1⟩, rfl⟩
          clear k0 k0'
          have hb1 := hb.trans (hW1.mono hb.size)
          go_wp2
          go_ret
          exact ⟨ret_bool (by rw [hf.out, HE.out]), hb1⟩
      · have HE := Lib.hid (sameFrom_end (l := l) (l' := l') (j := j) (by rw [HL.out]; omega) (by rw [HL'.out]; omega))
        go_wp2
        go_ret
        exact ⟨ret_bool (by rw [hf.out, HE.out]), hb⟩
  · have HE := Lib.hid (same_len (l := l) (l' := l') (by rw [HL.out, HL'.out]; exact hne))
    have hne' : ((n : Int) != (n' : Int)) = true := by simp; omega
    clear hne
    go_enter Tryz.func62, Tryz.ntmps62
    go_wp2
    go_ret
    exact ⟨ret_bool HE.out.symm, Below.refl _ _⟩
end Go.Proofs.YtnehgpeelgjjhaaGreatDoor.Tw
namespace Go.Proofs.YtnehgpeelgjjhaaGreatDoor.Tw
open Go.RowKit

set_option maxRecDepth 100000 in
set_option maxHeartbeats 800000 in
theorem equalPost (w : World) (A : Option Addr) (n c : Nat) (l : List Rp.Post) (A' : Option Addr) (n' c' : Nat) (l' : List Rp.Post)
    (hx : Reads w w.heap.size 4 A n (encPs l)) (hl : l.length = n) (hx' : Reads w w.heap.size 4 A' n' (encPs l')) (hl' : l'.length = n') (hn : n ≤ 16777216) (hn' : n' ≤ 16777216) :
    Calls Tryz.prog 61 #[.slice A n c, .slice A' n' c'] w fun e w' => e = .returned (.bool (decide (l = l'))) ∧ Below w.heap.size w w' := by
  have HL := Lib.hid hl
  have HL' := Lib.hid hl'
  have HX := Lib.hid hx
  have HX' := Lib.hid hx'
  have H0 := Lib.hid (sameFrom_zero (l := l) (l' := l'))
  clear hx hx' hl hl'
  by_cases hne : n = n'
  · subst hne
    go_enter Tryz.func61, Tryz.ntmps61
    go_wp2
    go_loopw [13] (fun k wr => ∃ j : Nat, j ≤ n ∧ k = .int .i64 j ∧ Hid (decide (l = l') = sameFrom l l' j) ∧ Below w.heap.size w wr) (fun k _ => n - (intOf k).toNat)
    case atStart => exact ⟨0, by omega, rfl, H0, Below.refl _ _⟩
    case round =>
      obtain ⟨j, hj, rfl, hf, hb⟩ := hrel
      by_cases hlt : j < n
      · obtain ⟨b, off, x, rfl, hbl, hq, h0, h1, h2, h3⟩ := HX.out.post HL.out hlt
        obtain ⟨b', off', x', rfl, hbl', hq', h0', h1', h2', h3'⟩ := HX'.out.post HL'.out hlt
        rw [← hb.cell (p := ⟨b, _, none⟩) hbl] at h0 h1 h2 h3
        rw [← hb.cell (p := ⟨b', _, none⟩) hbl'] at h0' h1' h2' h3'
        have k0 := Later.of h0
        have k1 := Later.of h1
        have k2 := Later.of h2
        have k3 := Later.of h3
        have k0' := Later.of h0'
        have k1' := Later.of h1'
        have k2' := Later.of h2'
        have k3' := Later.of h3'
        have hp := post_neq x x'
        unfold aggP at hp
        by_cases e1 : x = x'
        · have HE := Lib.hid (sameFrom_yes hq hq' e1)
          have e2 : (!decide (x = x')) = false := by simpa using e1
          rw [e2] at hp
          clear e1 hq hq' e2
          go_wp2
          refine wp_region_later (by kernel_rfl) (by kernel_rfl) ?_
          repeat (go_big_quiet_step (fail))
          refine wpQuiet_nil ?_
          rintro W1 ⟨⟨_, hW1⟩, rfl⟩
          clear k0 k0' k1 k1' k2 k2' k3 k3'
          have hb1 := hb.trans (hW1.mono hb.size)
          go_wp2
          go_roundw
          case rel => exact ⟨j + 1, by omega, by go_num, by unfold Hid; rw [hf.out, HE.out], hb1⟩
          case measure => simp [intOf]; omega
        · have HE := Lib.hid (sameFrom_no hq hq' e1)
          have e2 : (!decide (x = x')) = true := by simpa using e1
          rw [e2] at hp
          clear e1 hq hq' e2
          go_wp2
          refine wp_region_later (by kernel_rfl) (by kernel_rfl) ?_
          repeat (go_big_quiet_step (fail))
          refine wpQuiet_nil ?_
          rintro W1 ⟨⟨_, hW1⟩, rfl⟩
          clear k0 k0' k1 k1' k2 k2' k3 k3'
          have hb1 := hb.trans (hW1.mono hb.size)
          go_wp2
          go_ret
          exact ⟨ret_bool (by rw [hf.out, HE.out]), hb1⟩
      · have HE := Lib.hid (sameFrom_end (l := l) (l' := l') (j := j) (by rw [HL.out]; omega) (by rw [HL'.out]; omega))
        go_wp2
        go_ret
        exact ⟨ret_bool (by rw [hf.out, HE.out]), hb⟩
  · have HE := Lib.hid (same_len (l := l) (l' := l') (by rw [HL.out, HL'.out]; exact hne))
    have hne' : ((n : Int) != (n' : Int)) = true := by simp; omega
    clear hne
    go_enter Tryz.func61, Tryz.ntmps61
    go_wp2
    go_ret
    exact ⟨ret_bool HE.out.symm, Below.refl _ _⟩
end Go.Proofs.YtnehgpeelgjjhaaGreatDoor.Tw
