/- Contracts of functions of the program, and plain laws, towards the laws of replicas. Joined of the texts: Reach, Tab0. -/
import Derived.KernelRfl
import GoSem.ClaimFn
import GoSem.ClaimGoes
import GoSem.ClaimSevenParts
import Derived.Test.YtnehgpeelgjjhaaGreatDoorProg
set_option linter.all false
/- A function's reach, reckoned out of a table: what the model's closure is, with the seen ones kept as bits of one number. No program in it. -/
namespace Go.Reach
abbrev Row := List Nat × Option String × List Nat × Option String
def rowFn (P : Program) (fn : Func) : Row :=
  (P.leadsTo fn, (if fn.ours || fn.body.isNone || fn.name == "runtime.NumGoroutine" then some fn.name else none), fn.body.elim [] Code.globalsNamed, (if fn.body.isNone then entryReads.lookup fn.name else none))
def rowOf (P : Program) (k : Nat) : Row := (P.funcs[k]?).elim ([], none, [], none) (rowFn P)
def closM (T : Nat → List Nat) : Nat → List Nat → List Nat → Nat → List Nat
  | 0, _, seen, _ => seen.reverse
  | _ + 1, [], seen, _ => seen.reverse
  | n + 1, f :: todo, seen, m => if m.testBit f then closM T n todo seen m else closM T n (T f ++ todo) (f :: seen) (m ||| 2 ^ f)
theorem leads_row {P : Program} (k : Nat) : (P.funcs[k]?).elim [] P.leadsTo = (rowOf P k).1 := by
  unfold rowOf
  cases P.funcs[k]? <;> rfl
theorem closureVia_eq (P : Program) (T : Nat → List Nat) (hT : ∀ k, (rowOf P k).1 = T k) :
    ∀ (n : Nat) (todo seen : List Nat) (m : Nat), (∀ k, m.testBit k = seen.contains k) → P.closureVia n todo seen = closM T n todo seen m
  | 0, _, _, _, _ => by simp [Program.closureVia, closM]
  | n + 1, [], seen, m, _ => by simp [Program.closureVia, closM]
  | n + 1, f :: todo, seen, m, hm => by
    have h := hm f
    unfold Program.closureVia closM
    by_cases hs : seen.contains f = true
    · rw [if_pos hs, if_pos (h.trans hs)]
      exact closureVia_eq P T hT n todo seen m hm
    · have h2 : ¬ (m.testBit f = true) := by rw [h]; exact hs
      rw [if_neg hs, if_neg h2, leads_row f, hT f]
      refine closureVia_eq P T hT n (T f ++ todo) (f :: seen) (m ||| 2 ^ f) fun k => ?_
      rw [Nat.testBit_or, hm k, List.contains_cons, Nat.testBit_two_pow]
      by_cases e : k = f
      · subst e; simp
      · have e2 : ¬ (f = k) := fun h => e h.symm
        simp [e, e2]
theorem rows_eq (P : Program) : P.funcs.toList.map (rowFn P) = (List.range P.funcs.size).map (rowOf P) := by
  refine List.ext_getElem? fun i => ?_
  rw [List.getElem?_map, List.getElem?_map, Array.getElem?_toList]
  by_cases h : i < P.funcs.size
  · rw [List.getElem?_range h, Array.getElem?_eq_getElem h]
    simp [rowOf, h]
  · rw [Array.getElem?_eq_none (by omega), List.getElem?_eq_none (by simp; omega)]
    rfl
/-- what a table of rows says of a function's reach -/
structure Tabled (P : Program) (tab : List Row) (fuel : Nat) : Prop where
  rows : (List.range P.funcs.size).map (rowOf P) = tab
  sum : 1 + (tab.map fun r => r.1.length + 1).sum = fuel
def look (tab : List Row) (k : Nat) : Row := tab.getD k ([], none, [], none)
theorem Tabled.row {P : Program} {tab : List Row} {fuel : Nat} (h : Tabled P tab fuel) (k : Nat) : rowOf P k = look tab k := by
  unfold look
  rw [← h.rows, List.getD_eq_getElem?_getD, List.getElem?_map]
  by_cases hk : k < P.funcs.size
  · rw [List.getElem?_range hk]; rfl
  · rw [List.getElem?_eq_none (by simp; omega)]
    unfold rowOf
    rw [Array.getElem?_eq_none (by omega)]
    rfl
theorem Tabled.closure {P : Program} {tab : List Row} {fuel : Nat} (h : Tabled P tab fuel) (f : Nat) : P.closure f = closM (fun k => (look tab k).1) fuel [f] [] 0 := by
  unfold Program.closure
  have e : (P.funcs.toList.map fun g => (P.leadsTo g).length + 1) = tab.map fun r => r.1.length + 1 := by
    rw [← h.rows, ← rows_eq, List.map_map]
    rfl
  rw [e, h.sum]
  exact closureVia_eq P _ (fun k => by rw [h.row k]) fuel [f] [] 0 (fun k => by simp)
theorem Tabled.inPlace {P : Program} {tab : List Row} {fuel : Nat} (h : Tabled P tab fuel) (f : Nat) : P.inPlace f = (closM (fun k => (look tab k).1) fuel [f] [] 0).filterMap fun k => (look tab k).2.1 := by
  unfold Program.inPlace
  rw [h.closure]
  congr 1
  funext k
  rw [← h.row k]
  unfold rowOf
  cases P.funcs[k]? <;> rfl
theorem Tabled.varsNamed {P : Program} {tab : List Row} {fuel : Nat} (h : Tabled P tab fuel) (f : Nat) {L : List Nat} (hL : closM (fun k => (look tab k).1) fuel [f] [] 0 = L) :
    P.varsNamed f = (((L.flatMap fun k => (look tab k).2.2.1).eraseDups).filterMap (fun g => (P.globals[g]?).map (·.name)) ++ L.filterMap fun k => (look tab k).2.2.2).eraseDups := by
  have e1 : (fun g : Nat => ((P.funcs[g]?).bind (·.body)).elim [] Code.globalsNamed) = fun k => (look tab k).2.2.1 := by
    funext k
    rw [← h.row k]
    unfold rowOf
    cases P.funcs[k]? <;> rfl
  have e2 : (fun g : Nat => (P.funcs[g]?).bind fun fn => if fn.body.isNone then entryReads.lookup fn.name else none) = fun k => (look tab k).2.2.2 := by
    funext k
    rw [← h.row k]
    unfold rowOf
    cases P.funcs[k]? <;> rfl
  unfold Program.varsNamed
  rw [h.closure, hL, e1, e2]
theorem Tabled.unfollowed {P : Program} {tab : List Row} {fuel : Nat} (h : Tabled P tab fuel) (f g : Nat) (hg : (closM (fun k => (look tab k).1) fuel [f] [] 0).contains g = true)
    (hu : ((P.funcs[g]?).any fun fn => match fn.body with | some c => c.unfollowed | none => entryCalls fn) = true) : P.unfollowed f = true := by
  unfold Program.unfollowed
  rw [h.closure, List.any_eq_true]
  exact ⟨g, by simpa using hg, hu⟩
theorem recurses_of {P : Program} {f : Nat} (h : P.unfollowed f = true) : P.recurses f = true := by
  unfold Program.recurses
  rw [h]
  rfl
theorem range_cut {α : Type} (F : Nat → α) (a b c : Nat) (X Y : List α) (h1 : (List.range' a b).map F = X) (h2 : (List.range' (a + b) c).map F = Y) : (List.range' a (b + c)).map F = X ++ Y := by
  rw [← h1, ← h2, ← List.map_append, List.range'_append_1]
theorem all_cut {F : Nat → Bool} (a b c : Nat) (h1 : (List.range' a b).all F = true) (h2 : (List.range' (a + b) c).all F = true) : (List.range' a (b + c)).all F = true := by
  rw [← List.range'_append_1, List.all_append, h1, h2]
  rfl
def still (P : Program) (k : Nat) : Bool := !(P.funcs[k]?).any Func.goes
theorem goes_false {P : Program} {n : Nat} (hn : P.funcs.size = n) (h : (List.range' 0 n).all (still P) = true) (f : Nat) : P.goes f = false := by
  have hk : ∀ k : Nat, (P.funcs[k]?).any Func.goes = false := fun k => by
    by_cases hlt : k < n
    · have := List.all_eq_true.1 h k (by rw [List.mem_range'_1]; omega)
      unfold still at this
      simpa using this
    · rw [Array.getElem?_eq_none (by omega)]; rfl
  have h1 : ((P.closure f).any fun g => (P.funcs[g]?).any Func.goes) = false := by
    rw [List.any_eq_false]
    intro g _
    rw [hk g]; simp
  have h2 : P.funcs.any Func.goes = false := by
    rw [Array.any_eq_false]
    intro i hi
    have := hk i
    rw [Array.getElem?_eq_getElem hi] at this
    simpa using this
  unfold Program.goes
  rw [h1, h2]
  simp
theorem looks_true {P : Program} (g : Nat) (hg : g < P.funcs.size) (h : ((P.funcs[g]?).any fun fn => match fn.body with | some c => c.looks P | none => false) = true) : P.looks [] = true := by
  unfold Program.looks
  rw [List.any_eq_true]
  exact ⟨g, by simpa using hg, h⟩
end Go.Reach
set_option maxRecDepth 100000
namespace Go.Proofs.YtnehgpeelgjjhaaGreatDoor.Tw
open Go.Reach
theorem rows_0 : (List.range' 0 25).map (rowOf Tryz.prog) = [([], (some "main.main"), [], none), ([], (some "gosem.cut"), [], none), ([1], none, [], none), ([6, 8, 8, 9, 7, 10, 11, 12, 13, 14, 15, 11, 16, 17, 18, 19, 20, 20, 21, 22, 23, 24, 20, 24, 20, 25, 26, 20, 27, 28, 20], none, [], none), ([6, 8, 9, 29, 8, 29, 8, 29, 16, 30, 30], none, [], none), ([6, 8, 9, 32, 31, 32, 31, 29, 29, 16, 33, 33], none, [], none), ([27, 27, 13, 15, 13, 13, 25, 15, 25, 16, 18, 29, 29, 27, 34, 35, 36, 33, 37, 22, 24, 24, 22], none, [], none), ([38, 39, 28, 14, 11, 26], none, [], none), ([], none, [], none), ([40, 40, 40, 40], none, [], none), ([], none, [], none), ([23, 41, 41], none, [], none), ([10], none, [], none), ([22, 42, 43, 44], none, [], none), ([23, 41, 45, 23], none, [], none), ([22, 42, 46, 47], none, [], none), ([22, 48], none, [], none), ([23], none, [], none), ([22, 49, 50, 51], none, [], none), ([23, 52, 53], none, [], none), ([33, 37], none, [], none), ([33, 37], none, [], none), ([54, 54, 54, 55, 56, 58, 57], none, [], none), ([38, 38, 38, 59, 60], none, [], none), ([61, 62], none, [], none)] := by kernel_rfl
theorem rows_1 : (List.range' 25 25).map (rowOf Tryz.prog) = [([22, 54, 56, 55, 43, 43, 63, 42, 65, 66, 44], none, [], none), ([23, 38, 59, 60, 67, 45, 45, 41, 23], none, [], none), ([44], none, [], none), ([23], none, [], none), ([54, 68, 54, 54, 27, 68], none, [], none), ([], none, [], none), ([], none, [], none), ([], none, [], none), ([], none, [], none), ([35, 22, 69], none, [], none), ([70, 71], none, [], none), ([72, 73], none, [], none), ([], none, [], none), ([], none, [], none), ([38, 38], none, [], none), ([], none, [], none), ([], none, [], none), ([46, 47], none, [], none), ([], none, [], none), ([22], none, [], none), ([], none, [], none), ([], none, [], none), ([], none, [], none), ([], none, [], none), ([74], none, [], none)] := by kernel_rfl
theorem rows_2 : (List.range' 50 25).map (rowOf Tryz.prog) = [([49], none, [], none), ([75, 76, 77, 78, 76], none, [], none), ([79, 80], none, [], none), ([81, 82, 83, 53, 53, 84], none, [], none), ([], none, [], none), ([86, 85], none, [], none), ([54, 54, 64], none, [], none), ([87], none, [], none), ([], none, [], none), ([38, 38, 88, 45], none, [], none), ([38], none, [], none), ([], none, [], none), ([], none, [], none), ([64], none, [], none), ([90, 90, 90, 89], none, [], none), ([], none, [], none), ([], none, [], none), ([88, 59], none, [], none), ([91, 92, 93], none, [], none), ([94], none, [], none), ([97, 99, 98], none, [], none), ([100, 101], none, [], none), ([102, 103, 104], none, [], none), ([], none, [], none), ([106], none, [], none)] := by kernel_rfl
theorem rows_3 : (List.range' 75 25).map (rowOf Tryz.prog) = [([107], none, [], none), ([107], none, [], none), ([108, 109, 110], none, [], none), ([111], none, [], none), ([112], none, [], none), ([79], none, [], none), ([113, 114], none, [], none), ([81], none, [], none), ([], none, [], none), ([81], none, [], none), ([115], none, [], none), ([54], none, [], none), ([], none, [], none), ([], none, [], none), ([], none, [], none), ([116, 116], none, [], none), ([13], none, [], none), ([15], none, [], none), ([25], none, [], none), ([95, 96], none, [], none), ([117, 118], none, [], none), ([119, 120, 121, 122, 123, 124, 126, 125], none, [], none), ([127, 128, 129, 130, 131, 134, 135, 137, 138], none, [], none), ([139, 77], none, [], none), ([140, 141, 47], none, [], none)] := by kernel_rfl
theorem rows_4 : (List.range' 100 25).map (rowOf Tryz.prog) = [([142], none, [], none), ([143, 144, 145, 146, 147], none, [], none), ([], none, [], none), ([], none, [], none), ([62, 105], none, [], none), ([148, 149, 62], none, [], none), ([], none, [], none), ([150], none, [], none), ([152], none, [], none), ([153, 154, 154], none, [0], none), ([], none, [], none), ([], none, [], none), ([], none, [], none), ([], none, [], none), ([155, 155, 155, 155, 156, 155, 155, 155, 155, 155, 155], none, [], none), ([], none, [], none), ([], none, [], none), ([157, 125], none, [], none), ([158, 159, 161, 160, 158, 159, 165, 164, 119, 166], none, [], none), ([168, 170, 167, 171, 167, 172], none, [], none), ([173, 175, 176], none, [], none), ([], none, [], none), ([177, 178, 179, 180, 181], none, [], none), ([182, 178, 71, 166, 179, 183], none, [], none), ([184, 178, 166, 179, 180, 180, 185, 178, 181], none, [], none)] := by kernel_rfl
theorem rows_5 : (List.range' 125 25).map (rowOf Tryz.prog) = [([186], none, [], none), ([], none, [], none), ([], none, [], none), ([], none, [], none), ([], none, [], none), ([], none, [], none), ([132, 133, 133], none, [], none), ([187, 187, 187, 187, 187], none, [], none), ([188], none, [], none), ([189], none, [], none), ([136], none, [], none), ([187, 187], none, [], none), ([190], none, [], none), ([191, 192, 193, 85], none, [], none), ([97, 195, 194], none, [], none), ([], none, [], none), ([], none, [], none), ([198], none, [], none), ([199, 200], none, [], none), ([201, 202, 200], none, [], none), ([203], none, [], none), ([204, 205, 47, 206, 207, 208, 47], none, [], none), ([198], none, [], none), ([], none, [], none), ([], none, [], none)] := by kernel_rfl
theorem rows_6 : (List.range' 150 25).map (rowOf Tryz.prog) = [([151, 77], none, [], none), ([209, 210, 210, 210, 211], none, [], none), ([], none, [], none), ([154, 154], none, [], none), ([212], none, [], none), ([], none, [], none), ([], none, [], none), ([], none, [], none), ([213, 214], none, [], none), ([215, 216], none, [], none), ([158, 167, 166], none, [], none), ([162, 163], none, [], none), ([178], none, [], none), ([218, 217], none, [], none), ([158, 167, 166], none, [], none), ([158, 158, 158, 167, 166], none, [], none), ([], none, [], none), ([], none, [], none), ([169], none, [], none), ([222, 194], none, [], none), ([167, 167], none, [], none), ([223], none, [], none), ([224], none, [], none), ([174], none, [], none), ([225, 167, 167], none, [], none)] := by kernel_rfl
theorem rows_7 : (List.range' 175 25).map (rowOf Tryz.prog) = [([226], none, [], none), ([227, 97, 98], none, [], none), ([176, 228, 229, 230], none, [], none), ([166], none, [], none), ([232, 231, 166], none, [], none), ([], none, [], none), ([233, 100, 178, 234, 178, 235, 166], none, [], none), ([176, 228, 236, 237, 176], none, [], none), ([238, 239], none, [], none), ([176, 228, 228, 240, 241, 236, 236, 230], none, [], none), ([97, 97, 242, 243, 244, 243, 244, 245, 246, 245, 246, 247, 62, 47], none, [], none), ([], none, [], none), ([], none, [], none), ([248, 249], none, [], none), ([], none, [], none), ([], none, [], none), ([], none, [], none), ([], none, [], none), ([133], none, [], none), ([250, 217, 211], none, [], none), ([196, 196, 196, 197, 196, 196], none, [], none), ([49, 251, 210], none, [], none), ([196], none, [], none), ([252], none, [], none), ([97, 253], none, [], none)] := by kernel_rfl
theorem rows_8 : (List.range' 200 25).map (rowOf Tryz.prog) = [([254, 255], none, [], none), ([256], none, [], none), ([201, 257], none, [], none), ([], none, [], none), ([258, 189, 97], none, [], none), ([], none, [], none), ([], none, [], none), ([259, 260, 262, 263, 261], none, [], none), ([264], none, [], none), ([265, 266], none, [], none), ([265], none, [], none), ([], none, [], none), ([], none, [], none), ([178], none, [], none), ([], none, [], none), ([178], none, [], none), ([214], none, [], none), ([267], none, [], none), ([219, 219, 219, 220, 219, 219, 219, 221, 219, 221], none, [], none), ([214, 251], none, [], none), ([219, 219, 219, 219, 187, 251, 219, 219], none, [], none), ([219, 187, 251], none, [], none), ([196, 197, 196, 196, 196, 196], none, [], none), ([], none, [], none), ([], none, [], none)] := by kernel_rfl
theorem rows_9 : (List.range' 225 25).map (rowOf Tryz.prog) = [([], none, [], none), ([], none, [], none), ([268, 85], none, [], none), ([269, 270], none, [], none), ([97, 140, 141, 47, 272], none, [], none), ([236, 98], none, [], none), ([], none, [], none), ([], none, [], none), ([273], none, [], none), ([274, 275], none, [], none), ([276, 278, 277, 279, 280, 62, 277, 281, 277, 282, 277, 283, 281, 277, 145, 284, 285, 257, 277, 286, 277, 287, 49, 286, 277], none, [], none), ([47, 99, 288], none, [], none), ([289, 290], none, [], none), ([], (some "slices.overlaps[clearway/api.Trust]"), [], none), ([291], none, [], none), ([176, 292, 292], none, [], none), ([97, 97, 97, 243, 244, 243, 244, 243, 244, 293, 245, 246, 245, 246, 245, 246, 294, 62, 62, 62, 295, 296, 297, 85, 298, 297, 47], none, [], none), ([], none, [], none), ([], none, [], none), ([], none, [], none), ([], none, [], none), ([], none, [], none), ([], none, [], none), ([], none, [], none), ([90], none, [], none)] := by kernel_rfl
theorem rows_10 : (List.range' 250 25).map (rowOf Tryz.prog) = [([], none, [], none), ([299], none, [], none), ([300, 301, 302, 303, 304, 305, 306, 307, 308, 309, 310, 311, 312, 313, 314, 315, 316, 317, 318, 319, 320], none, [], none), ([321], none, [], none), ([324, 326, 327, 325, 328], none, [], none), ([329, 330, 331], none, [], none), ([332, 85], none, [], none), ([256, 333, 333], none, [], none), ([], none, [], none), ([], none, [], none), ([335, 334], none, [], none), ([115], none, [], none), ([], none, [], none), ([], none, [], none), ([], none, [], none), ([336], none, [], none), ([337], none, [], none), ([], none, [], none), ([], none, [], none), ([], none, [], none), ([271], none, [], none), ([338, 338], none, [], none), ([97, 339, 140, 141, 47, 340, 217], none, [], none), ([], none, [], none), ([201, 229, 100, 342, 343], none, [], none)] := by kernel_rfl
theorem rows_11 : (List.range' 275 25).map (rowOf Tryz.prog) = [([199, 345, 344, 202, 345, 344, 47, 47], none, [], none), ([], none, [], none), ([], none, [], none), ([346, 347], none, [], none), ([348, 277, 85, 349, 277, 350, 277, 47, 351, 277, 277, 277, 282, 281, 277, 352, 353, 97, 277, 287, 277], none, [], none), ([354, 277, 281, 277, 272, 277, 277], none, [], none), ([208], none, [], none), ([355, 189], none, [], none), ([206, 207], none, [], none), ([348, 277, 85, 356, 277, 357, 277, 208, 62, 277], none, [], none), ([282, 282, 358, 62, 287, 287, 283, 85, 208, 277, 359, 360, 277, 147, 359, 147], none, [], none), ([361, 326, 327, 325, 362, 363, 361], none, [], none), ([282, 364], none, [], none), ([], none, [], none), ([], (some "slices.overlaps[clearway/api.Branch]"), [], none), ([365], none, [], none), ([366, 366, 366], none, [], none), ([], none, [], none), ([367, 295], none, [], none), ([368, 295], none, [], none), ([], none, [], none), ([], none, [], none), ([260], none, [], none), ([260], none, [], none), ([], none, [], none)] := by kernel_rfl
theorem rows_12 : (List.range' 300 25).map (rowOf Tryz.prog) = [([97, 369], none, [], none), ([370, 371, 259], none, [], none), ([370], none, [], none), ([97, 372, 373, 374, 375, 375, 376, 375, 206, 377], none, [], none), ([378, 379, 380, 381, 137, 207, 378, 381, 377, 378, 382, 378, 382, 383, 383], none, [], none), ([378], none, [], none), ([97, 384, 385], none, [], none), ([386, 387, 137, 389, 390, 391, 392, 393], none, [1], none), ([389, 390], none, [], none), ([97, 394], none, [], none), ([395, 396], none, [], none), ([395, 397, 397], none, [], none), ([398, 399, 208, 400, 399, 400, 401], none, [], none), ([402, 403, 207, 402, 403, 259, 402, 400], none, [], none), ([402, 404, 190], none, [], none), ([97, 405, 406, 406, 407, 408, 409, 411, 411, 411, 412], none, [], none), ([413, 414, 415, 259, 413, 415, 416, 417, 418, 417, 418, 419], none, [], none), ([413, 259], none, [], none), ([97, 420, 421, 422, 423, 47], none, [], none), ([424, 425, 426], none, [], none), ([], none, [], none), ([322, 323, 323, 323], none, [], none), ([206, 323, 323], none, [], none), ([49, 210, 211], none, [], none), ([], none, [], none)] := by kernel_rfl
theorem rows_13 : (List.range' 325 25).map (rowOf Tryz.prog) = [([], none, [], none), ([], none, [], none), ([], none, [], none), ([427], none, [], none), ([], none, [], none), ([329, 49, 77], none, [], none), ([329, 329, 329, 77], none, [], none), ([], none, [], none), ([49, 210, 211], none, [], none), ([428, 429, 430, 431, 432, 433, 434, 435, 436, 334, 334], none, [], none), ([437, 438], none, [], none), ([], (some "internal/abi.NoEscape"), [], none), ([], (some "internal/bytealg.MakeNoZero"), [], none), ([], none, [], none), ([], none, [], none), ([341], none, [], none), ([439, 441, 443, 446, 448, 450, 451, 453, 454, 455], none, [], none), ([201, 201, 457, 456], none, [], none), ([461, 462, 463, 462, 272, 462, 207, 462, 62, 364, 364, 345, 207, 462, 207, 462], none, [], none), ([254, 325, 255, 47, 465, 466, 464], none, [], none), ([], none, [], none), ([256, 256, 468, 469, 459], none, [], none), ([90], none, [], none), ([361], none, [], none), ([], none, [], none)] := by kernel_rfl
theorem rows_14 : (List.range' 350 25).map (rowOf Tryz.prog) = [([471, 470], none, [], none), ([474, 470], none, [], none), ([335, 479], none, [], none), ([], none, [], none), ([480, 481, 482, 483, 484, 484, 484, 485, 486, 487], none, [], none), ([], none, [], none), ([], none, [], none), ([489, 490, 491, 492], none, [], none), ([208], none, [], none), ([283, 208, 277, 493, 146, 277], none, [], none), ([198], none, [], none), ([494, 495, 325, 496, 496, 497, 498, 464], none, [], none), ([], none, [], none), ([434, 499, 499], none, [], none), ([204, 322], none, [], none), ([500, 500, 500], none, [], none), ([], none, [], none), ([], none, [], none), ([], none, [], none), ([206, 259, 206, 259], none, [], none), ([], none, [], none), ([501, 502, 137], none, [], none), ([503, 504, 504, 377, 505, 505], none, [], none), ([], none, [], none), ([], none, [], none)] := by kernel_rfl
theorem rows_15 : (List.range' 375 25).map (rowOf Tryz.prog) = [([47], none, [], none), ([377], none, [], none), ([506], none, [], none), ([508, 507], none, [], none), ([], none, [], none), ([], none, [], none), ([], none, [], none), ([], none, [], none), ([], none, [], none), ([509, 510, 511], none, [], none), ([509, 509, 512, 514, 513, 391], none, [], none), ([], none, [], none), ([388], none, [], none), ([515], none, [], none), ([], none, [], none), ([85, 516], none, [], none), ([392], none, [], none), ([517], none, [], none), ([518, 519], none, [], none), ([521, 520, 522], none, [], none), ([523, 525, 526, 85, 259, 85], none, [], none), ([527, 527, 397, 397, 528], none, [], none), ([527], none, [], none), ([97, 529, 530, 208], none, [], none), ([401, 531], none, [], none)] := by kernel_rfl
theorem rows_16 : (List.range' 400 25).map (rowOf Tryz.prog) = [([], none, [], none), ([], none, [], none), ([532, 507], none, [], none), ([], none, [], none), ([], none, [], none), ([533, 534, 535, 536, 538], none, [], none), ([539], none, [], none), ([], none, [], none), ([540], none, [], none), ([410, 410, 90], none, [], none), ([], none, [], none), ([], none, [], none), ([411], none, [], none), ([541, 507], none, [], none), ([542, 543, 137], none, [], none), ([], none, [], none), ([419], none, [], none), ([418], none, [], none), ([], none, [], none), ([], none, [], none), ([544, 426], none, [], none), ([545, 545], none, [], none), ([546], none, [], none), ([547, 548, 190], none, [], none), ([549, 550, 137], none, [], none)] := by kernel_rfl
theorem rows_17 : (List.range' 425 25).map (rowOf Tryz.prog) = [([], none, [], none), ([520, 552], none, [], none), ([], none, [], none), ([434], none, [], none), ([553, 553], none, [], none), ([554, 555], none, [], none), ([556, 556, 556, 557], none, [], none), ([], none, [], none), ([434, 434, 434], none, [], none), ([116, 116], none, [], none), ([434, 434], none, [], none), ([434, 434, 434, 434], none, [], none), ([], none, [], none), ([], none, [], none), ([440], none, [], none), ([188, 136, 251, 558], none, [], none), ([206, 251, 442], none, [], none), ([188, 208, 251, 559], none, [], none), ([444, 132, 133, 133, 251, 445], none, [], none), ([560, 561], none, [], none), ([562, 563], none, [], none), ([444, 251, 447], none, [], none), ([], none, [], none), ([187, 251, 449], none, [], none), ([444, 251], none, [], none)] := by kernel_rfl
theorem rows_18 : (List.range' 450 25).map (rowOf Tryz.prog) = [([187, 251, 449], none, [], none), ([133, 251, 442, 452], none, [], none), ([], none, [], none), ([133, 191, 192, 251, 440, 452, 251], none, [], none), ([188, 187, 251], none, [], none), ([47, 138, 251], none, [], none), ([], none, [], none), ([458, 458, 459, 460], none, [], none), ([564, 507], none, [], none), ([62], none, [], none), ([47, 47], none, [], none), ([565, 566, 567, 568, 569, 570, 571, 572, 573, 575], none, [], none), ([], none, [], none), ([577], none, [], none), ([578], none, [], none), ([], none, [], none), ([467, 427], none, [], none), ([], none, [], none), ([], none, [], none), ([], none, [], none), ([579], none, [], none), ([472, 473, 472, 473, 472, 473], none, [], none), ([214, 473], none, [], none), ([], none, [], none), ([472, 472, 472, 473, 475, 476, 477, 137, 137, 478, 97, 473], none, [], none)] := by kernel_rfl
theorem rows_19 : (List.range' 475 25).map (rowOf Tryz.prog) = [([472, 472, 472, 472, 473, 472, 472], none, [], none), ([259], none, [], none), ([], none, [], none), ([207, 352, 580], none, [], none), ([581, 582, 583, 584, 585, 586, 587, 588, 479, 479], none, [], none), ([], none, [], none), ([], none, [], none), ([], none, [], none), ([], none, [], none), ([488], none, [], none), ([], none, [], none), ([283], none, [], none), ([488], none, [], none), ([589, 190, 277], none, [], none), ([], none, [], none), ([], none, [], none), ([590, 590], none, [], none), ([], none, [], none), ([], none, [], none), ([], none, [], none), ([], none, [], none), ([591], none, [], none), ([329], none, [], none), ([330], none, [], none), ([], none, [], none)] := by kernel_rfl
theorem rows_20 : (List.range' 500 25).map (rowOf Tryz.prog) = [([], none, [], none), ([], none, [], none), ([], none, [], none), ([377], none, [], none), ([], none, [], none), ([377], none, [], none), ([], none, [], none), ([], none, [], none), ([], none, [], none), ([47, 392], none, [], none), ([512, 513, 592], none, [], none), ([512, 513, 592, 392], none, [], none), ([], none, [], none), ([512, 392], none, [], none), ([], none, [], none), ([], none, [], none), ([], none, [], none), ([], none, [], none), ([], none, [], none), ([], none, [], none), ([335, 593], none, [], none), ([90, 90, 89], none, [], none), ([594, 595, 596], none, [], none), ([524, 507], none, [], none), ([], none, [], none)] := by kernel_rfl
theorem rows_21 : (List.range' 525 25).map (rowOf Tryz.prog) = [([], none, [], none), ([597, 598, 137], none, [], none), ([], none, [], none), ([521], none, [], none), ([401, 399, 400], none, [], none), ([406, 600, 599, 601, 260], none, [], none), ([], none, [], none), ([], none, [], none), ([417, 418, 418, 406], none, [], none), ([602, 603, 605, 604, 609, 608, 611, 611, 612, 613], none, [], none), ([335, 614], none, [], none), ([537, 537, 90, 410, 410, 90, 89], none, [], none), ([], none, [3], none), ([411, 615, 617, 616, 411, 411, 607, 618, 538, 538], none, [], none), ([619, 620], none, [], none), ([621, 621, 622, 622], none, [], none), ([], none, [], none), ([], none, [], none), ([], none, [], none), ([], none, [], none), ([], none, [], none), ([], none, [], none), ([], none, [], none), ([], none, [], none), ([], none, [], none)] := by kernel_rfl
theorem rows_22 : (List.range' 550 25).map (rowOf Tryz.prog) = [([551], none, [], none), ([623], none, [], none), ([], none, [], none), ([434, 434], none, [], none), ([335], none, [], none), ([], none, [], none), ([557], none, [], none), ([624, 624, 624], none, [], none), ([625, 626], none, [], none), ([], none, [], none), ([], none, [], none), ([90], none, [], none), ([], (some "slices.overlaps[clearway/api.Edge]"), [], none), ([627], none, [], none), ([], none, [], none), ([], none, [], none), ([], none, [], none), ([], none, [], none), ([], none, [], none), ([], none, [], none), ([], none, [], none), ([], none, [], none), ([], none, [], none), ([206, 574], none, [], none), ([], none, [], none)] := by kernel_rfl
theorem rows_23 : (List.range' 575 25).map (rowOf Tryz.prog) = [([576], none, [], none), ([], none, [], none), ([208], none, [], none), ([331], none, [], none), ([], none, [], none), ([], none, [], none), ([], none, [], none), ([628, 628], none, [], none), ([554, 555], none, [], none), ([629, 629, 629, 630], none, [], none), ([], none, [], none), ([], none, [], none), ([], none, [], none), ([], none, [], none), ([], none, [], none), ([214, 492], none, [], none), ([], none, [], none), ([], none, [], none), ([631, 632, 633, 634, 635, 636, 637, 638, 593, 593], none, [], none), ([], none, [], none), ([259], none, [], none), ([639], none, [], none), ([], none, [], none), ([], none, [], none), ([], none, [], none)] := by kernel_rfl
theorem rows_24 : (List.range' 600 25).map (rowOf Tryz.prog) = [([], none, [], none), ([], none, [], none), ([411, 410, 410, 610, 607, 640, 641, 85], none, [], none), ([642], none, [], none), ([], none, [], none), ([606, 607, 607], none, [], none), ([], none, [], none), ([411, 411], none, [], none), ([], none, [], none), ([610], none, [], none), ([], none, [], none), ([644, 643], none, [], none), ([643], none, [], none), ([], none, [], none), ([621, 645, 646, 647, 648, 649, 650, 651, 614, 614], none, [], none), ([411, 411, 410], none, [], none), ([643], none, [], none), ([], none, [], none), ([], none, [], none), ([], none, [], none), ([], none, [], none), ([], none, [], none), ([652, 622, 622], none, [], none), ([], none, [], none), ([434], none, [], none)] := by kernel_rfl
theorem rows_25 : (List.range' 625 25).map (rowOf Tryz.prog) = [([], (some "slices.overlaps[clearway/api.Vertex]"), [], none), ([653], none, [], none), ([654, 654, 654], none, [], none), ([], none, [], none), ([630], none, [], none), ([655, 655, 655], none, [], none), ([], none, [], none), ([656, 656], none, [], none), ([554, 555], none, [], none), ([657, 657, 657, 658], none, [], none), ([], none, [], none), ([], none, [], none), ([], none, [], none), ([], none, [], none), ([], none, [], none), ([659, 659], none, [], none), ([], none, [], none), ([], none, [], none), ([], none, [], none), ([], none, [], none), ([660, 660], none, [], none), ([554, 555], none, [], none), ([661, 661, 661, 662], none, [], none), ([], none, [], none), ([], none, [], none)] := by kernel_rfl
theorem rows_26 : (List.range' 650 25).map (rowOf Tryz.prog) = [([], none, [], none), ([], none, [], none), ([663, 663, 663], none, [], none), ([664, 664, 664], none, [], none), ([], none, [], none), ([], none, [], none), ([], none, [], none), ([658], none, [], none), ([665, 665, 665], none, [], none), ([666, 667, 667], none, [], none), ([], none, [], none), ([662], none, [], none), ([668, 668, 668], none, [], none), ([], none, [], none), ([], none, [], none), ([], none, [], none), ([], none, [], none), ([], none, [], none), ([], none, [], none), ([], (some "(runtime.boundsError).Error"), [], none), ([], (some "(runtime.boundsError).RuntimeError"), [], none), ([], (some "(runtime.errorString).Error"), [], none), ([], (some "(runtime.errorString).RuntimeError"), [], none), ([], (some "(runtime.plainError).Error"), [], none), ([], (some "(runtime.plainError).RuntimeError"), [], none)] := by kernel_rfl
theorem rows_27 : (List.range' 675 24).map (rowOf Tryz.prog) = [([], (some "(runtime.errorAddressString).Error"), [], none), ([], (some "(runtime.errorAddressString).RuntimeError"), [], none), ([], (some "(*runtime.TypeAssertionError).Error"), [], none), ([], (some "(*runtime.TypeAssertionError).RuntimeError"), [], none), ([], (some "(*runtime.PanicNilError).Error"), [], none), ([], (some "(*runtime.PanicNilError).RuntimeError"), [], none), ([], (some "(*internal/abi.Type).Align"), [], none), ([], (some "(internal/runtime/maps.unhashableTypeError).Error"), [], none), ([], (some "(internal/runtime/maps.unhashableTypeError).RuntimeError"), [], none), ([], (some "(*strings.Builder).Reset"), [], none), ([518, 690], none, [], none), ([], (some "(clearway/cert.maybe).text"), [], none), ([], (some "(internal/abi.Kind).String"), [], none), ([], none, [], none), ([518, 691, 692, 518], none, [], none), ([], none, [], none), ([], none, [], none), ([], none, [], none), ([], (some "var's door: clearway/digest.round is laid by its own initialiser, plain data (look 11)"), [], none), ([], (some "var's door: clearway/dist.checks is laid by its own initialiser, plain data and functions by name (funcs 1)"), [], none), ([], (some "var's door: gosem.cut.vars holds initialisers alone; see the manifest's row cutvarsword (look 11, test files too)"), [], none), ([], (some "var's door: math/bits.deBruijn32tab is laid by its own initialiser, plain data (look 11)"), [], none), ([], (some "var's door: the look of gosem.cut.vars went over the folder that the caller named as the repository's root (look 11)"), [], none), ([688, 689, 685], none, [3, 0, 1], none)] := by kernel_rfl
def tab : List Row := [([], (some "main.main"), [], none),
  ([], (some "gosem.cut"), [], none),
  ([1], none, [], none),
  ([6, 8, 8, 9, 7, 10, 11, 12, 13, 14, 15, 11, 16, 17, 18, 19, 20, 20, 21, 22, 23, 24, 20, 24, 20, 25, 26, 20, 27, 28, 20], none, [], none),
  ([6, 8, 9, 29, 8, 29, 8, 29, 16, 30, 30], none, [], none),
  ([6, 8, 9, 32, 31, 32, 31, 29, 29, 16, 33, 33], none, [], none),
  ([27, 27, 13, 15, 13, 13, 25, 15, 25, 16, 18, 29, 29, 27, 34, 35, 36, 33, 37, 22, 24, 24, 22], none, [], none),
  ([38, 39, 28, 14, 11, 26], none, [], none),
  ([], none, [], none),
  ([40, 40, 40, 40], none, [], none),
  ([], none, [], none),
  ([23, 41, 41], none, [], none),
  ([10], none, [], none),
  ([22, 42, 43, 44], none, [], none),
  ([23, 41, 45, 23], none, [], none),
  ([22, 42, 46, 47], none, [], none),
  ([22, 48], none, [], none),
  ([23], none, [], none),
  ([22, 49, 50, 51], none, [], none),
  ([23, 52, 53], none, [], none),
  ([33, 37], none, [], none),
  ([33, 37], none, [], none),
  ([54, 54, 54, 55, 56, 58, 57], none, [], none),
  ([38, 38, 38, 59, 60], none, [], none),
  ([61, 62], none, [], none),
  ([22, 54, 56, 55, 43, 43, 63, 42, 65, 66, 44], none, [], none),
  ([23, 38, 59, 60, 67, 45, 45, 41, 23], none, [], none),
  ([44], none, [], none),
  ([23], none, [], none),
  ([54, 68, 54, 54, 27, 68], none, [], none),
  ([], none, [], none),
  ([], none, [], none),
  ([], none, [], none),
  ([], none, [], none),
  ([35, 22, 69], none, [], none),
  ([70, 71], none, [], none),
  ([72, 73], none, [], none),
  ([], none, [], none),
  ([], none, [], none),
  ([38, 38], none, [], none),
  ([], none, [], none),
  ([], none, [], none),
  ([46, 47], none, [], none),
  ([], none, [], none),
  ([22], none, [], none),
  ([], none, [], none),
  ([], none, [], none),
  ([], none, [], none),
  ([], none, [], none),
  ([74], none, [], none),
  ([49], none, [], none),
  ([75, 76, 77, 78, 76], none, [], none),
  ([79, 80], none, [], none),
  ([81, 82, 83, 53, 53, 84], none, [], none),
  ([], none, [], none),
  ([86, 85], none, [], none),
  ([54, 54, 64], none, [], none),
  ([87], none, [], none),
  ([], none, [], none),
  ([38, 38, 88, 45], none, [], none),
  ([38], none, [], none),
  ([], none, [], none),
  ([], none, [], none),
  ([64], none, [], none),
  ([90, 90, 90, 89], none, [], none),
  ([], none, [], none),
  ([], none, [], none),
  ([88, 59], none, [], none),
  ([91, 92, 93], none, [], none),
  ([94], none, [], none),
  ([97, 99, 98], none, [], none),
  ([100, 101], none, [], none),
  ([102, 103, 104], none, [], none),
  ([], none, [], none),
  ([106], none, [], none),
  ([107], none, [], none),
  ([107], none, [], none),
  ([108, 109, 110], none, [], none),
  ([111], none, [], none),
  ([112], none, [], none),
  ([79], none, [], none),
  ([113, 114], none, [], none),
  ([81], none, [], none),
  ([], none, [], none),
  ([81], none, [], none),
  ([115], none, [], none),
  ([54], none, [], none),
  ([], none, [], none),
  ([], none, [], none),
  ([], none, [], none),
  ([116, 116], none, [], none),
  ([13], none, [], none),
  ([15], none, [], none),
  ([25], none, [], none),
  ([95, 96], none, [], none),
  ([117, 118], none, [], none),
  ([119, 120, 121, 122, 123, 124, 126, 125], none, [], none),
  ([127, 128, 129, 130, 131, 134, 135, 137, 138], none, [], none),
  ([139, 77], none, [], none),
  ([140, 141, 47], none, [], none),
  ([142], none, [], none),
  ([143, 144, 145, 146, 147], none, [], none),
  ([], none, [], none),
  ([], none, [], none),
  ([62, 105], none, [], none),
  ([148, 149, 62], none, [], none),
  ([], none, [], none),
  ([150], none, [], none),
  ([152], none, [], none),
  ([153, 154, 154], none, [0], none),
  ([], none, [], none),
  ([], none, [], none),
  ([], none, [], none),
  ([], none, [], none),
  ([155, 155, 155, 155, 156, 155, 155, 155, 155, 155, 155], none, [], none),
  ([], none, [], none),
  ([], none, [], none),
  ([157, 125], none, [], none),
  ([158, 159, 161, 160, 158, 159, 165, 164, 119, 166], none, [], none),
  ([168, 170, 167, 171, 167, 172], none, [], none),
  ([173, 175, 176], none, [], none),
  ([], none, [], none),
  ([177, 178, 179, 180, 181], none, [], none),
  ([182, 178, 71, 166, 179, 183], none, [], none),
  ([184, 178, 166, 179, 180, 180, 185, 178, 181], none, [], none),
  ([186], none, [], none),
  ([], none, [], none),
  ([], none, [], none),
  ([], none, [], none),
  ([], none, [], none),
  ([], none, [], none),
  ([132, 133, 133], none, [], none),
  ([187, 187, 187, 187, 187], none, [], none),
  ([188], none, [], none),
  ([189], none, [], none),
  ([136], none, [], none),
  ([187, 187], none, [], none),
  ([190], none, [], none),
  ([191, 192, 193, 85], none, [], none),
  ([97, 195, 194], none, [], none),
  ([], none, [], none),
  ([], none, [], none),
  ([198], none, [], none),
  ([199, 200], none, [], none),
  ([201, 202, 200], none, [], none),
  ([203], none, [], none),
  ([204, 205, 47, 206, 207, 208, 47], none, [], none),
  ([198], none, [], none),
  ([], none, [], none),
  ([], none, [], none),
  ([151, 77], none, [], none),
  ([209, 210, 210, 210, 211], none, [], none),
  ([], none, [], none),
  ([154, 154], none, [], none),
  ([212], none, [], none),
  ([], none, [], none),
  ([], none, [], none),
  ([], none, [], none),
  ([213, 214], none, [], none),
  ([215, 216], none, [], none),
  ([158, 167, 166], none, [], none),
  ([162, 163], none, [], none),
  ([178], none, [], none),
  ([218, 217], none, [], none),
  ([158, 167, 166], none, [], none),
  ([158, 158, 158, 167, 166], none, [], none),
  ([], none, [], none),
  ([], none, [], none),
  ([169], none, [], none),
  ([222, 194], none, [], none),
  ([167, 167], none, [], none),
  ([223], none, [], none),
  ([224], none, [], none),
  ([174], none, [], none),
  ([225, 167, 167], none, [], none),
  ([226], none, [], none),
  ([227, 97, 98], none, [], none),
  ([176, 228, 229, 230], none, [], none),
  ([166], none, [], none),
  ([232, 231, 166], none, [], none),
  ([], none, [], none),
  ([233, 100, 178, 234, 178, 235, 166], none, [], none),
  ([176, 228, 236, 237, 176], none, [], none),
  ([238, 239], none, [], none),
  ([176, 228, 228, 240, 241, 236, 236, 230], none, [], none),
  ([97, 97, 242, 243, 244, 243, 244, 245, 246, 245, 246, 247, 62, 47], none, [], none),
  ([], none, [], none),
  ([], none, [], none),
  ([248, 249], none, [], none),
  ([], none, [], none),
  ([], none, [], none),
  ([], none, [], none),
  ([], none, [], none),
  ([133], none, [], none),
  ([250, 217, 211], none, [], none),
  ([196, 196, 196, 197, 196, 196], none, [], none),
  ([49, 251, 210], none, [], none),
  ([196], none, [], none),
  ([252], none, [], none),
  ([97, 253], none, [], none),
  ([254, 255], none, [], none),
  ([256], none, [], none),
  ([201, 257], none, [], none),
  ([], none, [], none),
  ([258, 189, 97], none, [], none),
  ([], none, [], none),
  ([], none, [], none),
  ([259, 260, 262, 263, 261], none, [], none),
  ([264], none, [], none),
  ([265, 266], none, [], none),
  ([265], none, [], none),
  ([], none, [], none),
  ([], none, [], none),
  ([178], none, [], none),
  ([], none, [], none),
  ([178], none, [], none),
  ([214], none, [], none),
  ([267], none, [], none),
  ([219, 219, 219, 220, 219, 219, 219, 221, 219, 221], none, [], none),
  ([214, 251], none, [], none),
  ([219, 219, 219, 219, 187, 251, 219, 219], none, [], none),
  ([219, 187, 251], none, [], none),
  ([196, 197, 196, 196, 196, 196], none, [], none),
  ([], none, [], none),
  ([], none, [], none),
  ([], none, [], none),
  ([], none, [], none),
  ([268, 85], none, [], none),
  ([269, 270], none, [], none),
  ([97, 140, 141, 47, 272], none, [], none),
  ([236, 98], none, [], none),
  ([], none, [], none),
  ([], none, [], none),
  ([273], none, [], none),
  ([274, 275], none, [], none),
  ([276, 278, 277, 279, 280, 62, 277, 281, 277, 282, 277, 283, 281, 277, 145, 284, 285, 257, 277, 286, 277, 287, 49, 286, 277], none, [], none),
  ([47, 99, 288], none, [], none),
  ([289, 290], none, [], none),
  ([], (some "slices.overlaps[clearway/api.Trust]"), [], none),
  ([291], none, [], none),
  ([176, 292, 292], none, [], none),
  ([97, 97, 97, 243, 244, 243, 244, 243, 244, 293, 245, 246, 245, 246, 245, 246, 294, 62, 62, 62, 295, 296, 297, 85, 298, 297, 47], none, [], none),
  ([], none, [], none),
  ([], none, [], none),
  ([], none, [], none),
  ([], none, [], none),
  ([], none, [], none),
  ([], none, [], none),
  ([], none, [], none),
  ([90], none, [], none),
  ([], none, [], none),
  ([299], none, [], none),
  ([300, 301, 302, 303, 304, 305, 306, 307, 308, 309, 310, 311, 312, 313, 314, 315, 316, 317, 318, 319, 320], none, [], none),
  ([321], none, [], none),
  ([324, 326, 327, 325, 328], none, [], none),
  ([329, 330, 331], none, [], none),
  ([332, 85], none, [], none),
  ([256, 333, 333], none, [], none),
  ([], none, [], none),
  ([], none, [], none),
  ([335, 334], none, [], none),
  ([115], none, [], none),
  ([], none, [], none),
  ([], none, [], none),
  ([], none, [], none),
  ([336], none, [], none),
  ([337], none, [], none),
  ([], none, [], none),
  ([], none, [], none),
  ([], none, [], none),
  ([271], none, [], none),
  ([338, 338], none, [], none),
  ([97, 339, 140, 141, 47, 340, 217], none, [], none),
  ([], none, [], none),
  ([201, 229, 100, 342, 343], none, [], none),
  ([199, 345, 344, 202, 345, 344, 47, 47], none, [], none),
  ([], none, [], none),
  ([], none, [], none),
  ([346, 347], none, [], none),
  ([348, 277, 85, 349, 277, 350, 277, 47, 351, 277, 277, 277, 282, 281, 277, 352, 353, 97, 277, 287, 277], none, [], none),
  ([354, 277, 281, 277, 272, 277, 277], none, [], none),
  ([208], none, [], none),
  ([355, 189], none, [], none),
  ([206, 207], none, [], none),
  ([348, 277, 85, 356, 277, 357, 277, 208, 62, 277], none, [], none),
  ([282, 282, 358, 62, 287, 287, 283, 85, 208, 277, 359, 360, 277, 147, 359, 147], none, [], none),
  ([361, 326, 327, 325, 362, 363, 361], none, [], none),
  ([282, 364], none, [], none),
  ([], none, [], none),
  ([], (some "slices.overlaps[clearway/api.Branch]"), [], none),
  ([365], none, [], none),
  ([366, 366, 366], none, [], none),
  ([], none, [], none),
  ([367, 295], none, [], none),
  ([368, 295], none, [], none),
  ([], none, [], none),
  ([], none, [], none),
  ([260], none, [], none),
  ([260], none, [], none),
  ([], none, [], none),
  ([97, 369], none, [], none),
  ([370, 371, 259], none, [], none),
  ([370], none, [], none),
  ([97, 372, 373, 374, 375, 375, 376, 375, 206, 377], none, [], none),
  ([378, 379, 380, 381, 137, 207, 378, 381, 377, 378, 382, 378, 382, 383, 383], none, [], none),
  ([378], none, [], none),
  ([97, 384, 385], none, [], none),
  ([386, 387, 137, 389, 390, 391, 392, 393], none, [1], none),
  ([389, 390], none, [], none),
  ([97, 394], none, [], none),
  ([395, 396], none, [], none),
  ([395, 397, 397], none, [], none),
  ([398, 399, 208, 400, 399, 400, 401], none, [], none),
  ([402, 403, 207, 402, 403, 259, 402, 400], none, [], none),
  ([402, 404, 190], none, [], none),
  ([97, 405, 406, 406, 407, 408, 409, 411, 411, 411, 412], none, [], none),
  ([413, 414, 415, 259, 413, 415, 416, 417, 418, 417, 418, 419], none, [], none),
  ([413, 259], none, [], none),
  ([97, 420, 421, 422, 423, 47], none, [], none),
  ([424, 425, 426], none, [], none),
  ([], none, [], none),
  ([322, 323, 323, 323], none, [], none),
  ([206, 323, 323], none, [], none),
  ([49, 210, 211], none, [], none),
  ([], none, [], none),
  ([], none, [], none),
  ([], none, [], none),
  ([], none, [], none),
  ([427], none, [], none),
  ([], none, [], none),
  ([329, 49, 77], none, [], none),
  ([329, 329, 329, 77], none, [], none),
  ([], none, [], none),
  ([49, 210, 211], none, [], none),
  ([428, 429, 430, 431, 432, 433, 434, 435, 436, 334, 334], none, [], none),
  ([437, 438], none, [], none),
  ([], (some "internal/abi.NoEscape"), [], none),
  ([], (some "internal/bytealg.MakeNoZero"), [], none),
  ([], none, [], none),
  ([], none, [], none),
  ([341], none, [], none),
  ([439, 441, 443, 446, 448, 450, 451, 453, 454, 455], none, [], none),
  ([201, 201, 457, 456], none, [], none),
  ([461, 462, 463, 462, 272, 462, 207, 462, 62, 364, 364, 345, 207, 462, 207, 462], none, [], none),
  ([254, 325, 255, 47, 465, 466, 464], none, [], none),
  ([], none, [], none),
  ([256, 256, 468, 469, 459], none, [], none),
  ([90], none, [], none),
  ([361], none, [], none),
  ([], none, [], none),
  ([471, 470], none, [], none),
  ([474, 470], none, [], none),
  ([335, 479], none, [], none),
  ([], none, [], none),
  ([480, 481, 482, 483, 484, 484, 484, 485, 486, 487], none, [], none),
  ([], none, [], none),
  ([], none, [], none),
  ([489, 490, 491, 492], none, [], none),
  ([208], none, [], none),
  ([283, 208, 277, 493, 146, 277], none, [], none),
  ([198], none, [], none),
  ([494, 495, 325, 496, 496, 497, 498, 464], none, [], none),
  ([], none, [], none),
  ([434, 499, 499], none, [], none),
  ([204, 322], none, [], none),
  ([500, 500, 500], none, [], none),
  ([], none, [], none),
  ([], none, [], none),
  ([], none, [], none),
  ([206, 259, 206, 259], none, [], none),
  ([], none, [], none),
  ([501, 502, 137], none, [], none),
  ([503, 504, 504, 377, 505, 505], none, [], none),
  ([], none, [], none),
  ([], none, [], none),
  ([47], none, [], none),
  ([377], none, [], none),
  ([506], none, [], none),
  ([508, 507], none, [], none),
  ([], none, [], none),
  ([], none, [], none),
  ([], none, [], none),
  ([], none, [], none),
  ([], none, [], none),
  ([509, 510, 511], none, [], none),
  ([509, 509, 512, 514, 513, 391], none, [], none),
  ([], none, [], none),
  ([388], none, [], none),
  ([515], none, [], none),
  ([], none, [], none),
  ([85, 516], none, [], none),
  ([392], none, [], none),
  ([517], none, [], none),
  ([518, 519], none, [], none),
  ([521, 520, 522], none, [], none),
  ([523, 525, 526, 85, 259, 85], none, [], none),
  ([527, 527, 397, 397, 528], none, [], none),
  ([527], none, [], none),
  ([97, 529, 530, 208], none, [], none),
  ([401, 531], none, [], none),
  ([], none, [], none),
  ([], none, [], none),
  ([532, 507], none, [], none),
  ([], none, [], none),
  ([], none, [], none),
  ([533, 534, 535, 536, 538], none, [], none),
  ([539], none, [], none),
  ([], none, [], none),
  ([540], none, [], none),
  ([410, 410, 90], none, [], none),
  ([], none, [], none),
  ([], none, [], none),
  ([411], none, [], none),
  ([541, 507], none, [], none),
  ([542, 543, 137], none, [], none),
  ([], none, [], none),
  ([419], none, [], none),
  ([418], none, [], none),
  ([], none, [], none),
  ([], none, [], none),
  ([544, 426], none, [], none),
  ([545, 545], none, [], none),
  ([546], none, [], none),
  ([547, 548, 190], none, [], none),
  ([549, 550, 137], none, [], none),
  ([], none, [], none),
  ([520, 552], none, [], none),
  ([], none, [], none),
  ([434], none, [], none),
  ([553, 553], none, [], none),
  ([554, 555], none, [], none),
  ([556, 556, 556, 557], none, [], none),
  ([], none, [], none),
  ([434, 434, 434], none, [], none),
  ([116, 116], none, [], none),
  ([434, 434], none, [], none),
  ([434, 434, 434, 434], none, [], none),
  ([], none, [], none),
  ([], none, [], none),
  ([440], none, [], none),
  ([188, 136, 251, 558], none, [], none),
  ([206, 251, 442], none, [], none),
  ([188, 208, 251, 559], none, [], none),
  ([444, 132, 133, 133, 251, 445], none, [], none),
  ([560, 561], none, [], none),
  ([562, 563], none, [], none),
  ([444, 251, 447], none, [], none),
  ([], none, [], none),
  ([187, 251, 449], none, [], none),
  ([444, 251], none, [], none),
  ([187, 251, 449], none, [], none),
  ([133, 251, 442, 452], none, [], none),
  ([], none, [], none),
  ([133, 191, 192, 251, 440, 452, 251], none, [], none),
  ([188, 187, 251], none, [], none),
  ([47, 138, 251], none, [], none),
  ([], none, [], none),
  ([458, 458, 459, 460], none, [], none),
  ([564, 507], none, [], none),
  ([62], none, [], none),
  ([47, 47], none, [], none),
  ([565, 566, 567, 568, 569, 570, 571, 572, 573, 575], none, [], none),
  ([], none, [], none),
  ([577], none, [], none),
  ([578], none, [], none),
  ([], none, [], none),
  ([467, 427], none, [], none),
  ([], none, [], none),
  ([], none, [], none),
  ([], none, [], none),
  ([579], none, [], none),
  ([472, 473, 472, 473, 472, 473], none, [], none),
  ([214, 473], none, [], none),
  ([], none, [], none),
  ([472, 472, 472, 473, 475, 476, 477, 137, 137, 478, 97, 473], none, [], none),
  ([472, 472, 472, 472, 473, 472, 472], none, [], none),
  ([259], none, [], none),
  ([], none, [], none),
  ([207, 352, 580], none, [], none),
  ([581, 582, 583, 584, 585, 586, 587, 588, 479, 479], none, [], none),
  ([], none, [], none),
  ([], none, [], none),
  ([], none, [], none),
  ([], none, [], none),
  ([488], none, [], none),
  ([], none, [], none),
  ([283], none, [], none),
  ([488], none, [], none),
  ([589, 190, 277], none, [], none),
  ([], none, [], none),
  ([], none, [], none),
  ([590, 590], none, [], none),
  ([], none, [], none),
  ([], none, [], none),
  ([], none, [], none),
  ([], none, [], none),
  ([591], none, [], none),
  ([329], none, [], none),
  ([330], none, [], none),
  ([], none, [], none),
  ([], none, [], none),
  ([], none, [], none),
  ([], none, [], none),
  ([377], none, [], none),
  ([], none, [], none),
  ([377], none, [], none),
  ([], none, [], none),
  ([], none, [], none),
  ([], none, [], none),
  ([47, 392], none, [], none),
  ([512, 513, 592], none, [], none),
  ([512, 513, 592, 392], none, [], none),
  ([], none, [], none),
  ([512, 392], none, [], none),
  ([], none, [], none),
  ([], none, [], none),
  ([], none, [], none),
  ([], none, [], none),
  ([], none, [], none),
  ([], none, [], none),
  ([335, 593], none, [], none),
  ([90, 90, 89], none, [], none),
  ([594, 595, 596], none, [], none),
  ([524, 507], none, [], none),
  ([], none, [], none),
  ([], none, [], none),
  ([597, 598, 137], none, [], none),
  ([], none, [], none),
  ([521], none, [], none),
  ([401, 399, 400], none, [], none),
  ([406, 600, 599, 601, 260], none, [], none),
  ([], none, [], none),
  ([], none, [], none),
  ([417, 418, 418, 406], none, [], none),
  ([602, 603, 605, 604, 609, 608, 611, 611, 612, 613], none, [], none),
  ([335, 614], none, [], none),
  ([537, 537, 90, 410, 410, 90, 89], none, [], none),
  ([], none, [3], none),
  ([411, 615, 617, 616, 411, 411, 607, 618, 538, 538], none, [], none),
  ([619, 620], none, [], none),
  ([621, 621, 622, 622], none, [], none),
  ([], none, [], none),
  ([], none, [], none),
  ([], none, [], none),
  ([], none, [], none),
  ([], none, [], none),
  ([], none, [], none),
  ([], none, [], none),
  ([], none, [], none),
  ([], none, [], none),
  ([551], none, [], none),
  ([623], none, [], none),
  ([], none, [], none),
  ([434, 434], none, [], none),
  ([335], none, [], none),
  ([], none, [], none),
  ([557], none, [], none),
  ([624, 624, 624], none, [], none),
  ([625, 626], none, [], none),
  ([], none, [], none),
  ([], none, [], none),
  ([90], none, [], none),
  ([], (some "slices.overlaps[clearway/api.Edge]"), [], none),
  ([627], none, [], none),
  ([], none, [], none),
  ([], none, [], none),
  ([], none, [], none),
  ([], none, [], none),
  ([], none, [], none),
  ([], none, [], none),
  ([], none, [], none),
  ([], none, [], none),
  ([], none, [], none),
  ([206, 574], none, [], none),
  ([], none, [], none),
  ([576], none, [], none),
  ([], none, [], none),
  ([208], none, [], none),
  ([331], none, [], none),
  ([], none, [], none),
  ([], none, [], none),
  ([], none, [], none),
  ([628, 628], none, [], none),
  ([554, 555], none, [], none),
  ([629, 629, 629, 630], none, [], none),
  ([], none, [], none),
  ([], none, [], none),
  ([], none, [], none),
  ([], none, [], none),
  ([], none, [], none),
  ([214, 492], none, [], none),
  ([], none, [], none),
  ([], none, [], none),
  ([631, 632, 633, 634, 635, 636, 637, 638, 593, 593], none, [], none),
  ([], none, [], none),
  ([259], none, [], none),
  ([639], none, [], none),
  ([], none, [], none),
  ([], none, [], none),
  ([], none, [], none),
  ([], none, [], none),
  ([], none, [], none),
  ([411, 410, 410, 610, 607, 640, 641, 85], none, [], none),
  ([642], none, [], none),
  ([], none, [], none),
  ([606, 607, 607], none, [], none),
  ([], none, [], none),
  ([411, 411], none, [], none),
  ([], none, [], none),
  ([610], none, [], none),
  ([], none, [], none),
  ([644, 643], none, [], none),
  ([643], none, [], none),
  ([], none, [], none),
  ([621, 645, 646, 647, 648, 649, 650, 651, 614, 614], none, [], none),
  ([411, 411, 410], none, [], none),
  ([643], none, [], none),
  ([], none, [], none),
  ([], none, [], none),
  ([], none, [], none),
  ([], none, [], none),
  ([], none, [], none),
  ([652, 622, 622], none, [], none),
  ([], none, [], none),
  ([434], none, [], none),
  ([], (some "slices.overlaps[clearway/api.Vertex]"), [], none),
  ([653], none, [], none),
  ([654, 654, 654], none, [], none),
  ([], none, [], none),
  ([630], none, [], none),
  ([655, 655, 655], none, [], none),
  ([], none, [], none),
  ([656, 656], none, [], none),
  ([554, 555], none, [], none),
  ([657, 657, 657, 658], none, [], none),
  ([], none, [], none),
  ([], none, [], none),
  ([], none, [], none),
  ([], none, [], none),
  ([], none, [], none),
  ([659, 659], none, [], none),
  ([], none, [], none),
  ([], none, [], none),
  ([], none, [], none),
  ([], none, [], none),
  ([660, 660], none, [], none),
  ([554, 555], none, [], none),
  ([661, 661, 661, 662], none, [], none),
  ([], none, [], none),
  ([], none, [], none),
  ([], none, [], none),
  ([], none, [], none),
  ([663, 663, 663], none, [], none),
  ([664, 664, 664], none, [], none),
  ([], none, [], none),
  ([], none, [], none),
  ([], none, [], none),
  ([658], none, [], none),
  ([665, 665, 665], none, [], none),
  ([666, 667, 667], none, [], none),
  ([], none, [], none),
  ([662], none, [], none),
  ([668, 668, 668], none, [], none),
  ([], none, [], none),
  ([], none, [], none),
  ([], none, [], none),
  ([], none, [], none),
  ([], none, [], none),
  ([], none, [], none),
  ([], (some "(runtime.boundsError).Error"), [], none),
  ([], (some "(runtime.boundsError).RuntimeError"), [], none),
  ([], (some "(runtime.errorString).Error"), [], none),
  ([], (some "(runtime.errorString).RuntimeError"), [], none),
  ([], (some "(runtime.plainError).Error"), [], none),
  ([], (some "(runtime.plainError).RuntimeError"), [], none),
  ([], (some "(runtime.errorAddressString).Error"), [], none),
  ([], (some "(runtime.errorAddressString).RuntimeError"), [], none),
  ([], (some "(*runtime.TypeAssertionError).Error"), [], none),
  ([], (some "(*runtime.TypeAssertionError).RuntimeError"), [], none),
  ([], (some "(*runtime.PanicNilError).Error"), [], none),
  ([], (some "(*runtime.PanicNilError).RuntimeError"), [], none),
  ([], (some "(*internal/abi.Type).Align"), [], none),
  ([], (some "(internal/runtime/maps.unhashableTypeError).Error"), [], none),
  ([], (some "(internal/runtime/maps.unhashableTypeError).RuntimeError"), [], none),
  ([], (some "(*strings.Builder).Reset"), [], none),
  ([518, 690], none, [], none),
  ([], (some "(clearway/cert.maybe).text"), [], none),
  ([], (some "(internal/abi.Kind).String"), [], none),
  ([], none, [], none),
  ([518, 691, 692, 518], none, [], none),
  ([], none, [], none),
  ([], none, [], none),
  ([], none, [], none),
  ([], (some "var's door: clearway/digest.round is laid by its own initialiser, plain data (look 11)"), [], none),
  ([], (some "var's door: clearway/dist.checks is laid by its own initialiser, plain data and functions by name (funcs 1)"), [], none),
  ([], (some "var's door: gosem.cut.vars holds initialisers alone; see the manifest's row cutvarsword (look 11, test files too)"), [], none),
  ([], (some "var's door: math/bits.deBruijn32tab is laid by its own initialiser, plain data (look 11)"), [], none),
  ([], (some "var's door: the look of gosem.cut.vars went over the folder that the caller named as the repository's root (look 11)"), [], none),
  ([688, 689, 685], none, [3, 0, 1], none)]
theorem prog_size : Tryz.prog.funcs.size = 699 := by kernel_rfl
theorem tab_rows : (List.range' 0 699).map (rowOf Tryz.prog) = tab := (range_cut (rowOf Tryz.prog) 0 675 24 _ _ (range_cut (rowOf Tryz.prog) 0 650 25 _ _ (range_cut (rowOf Tryz.prog) 0 625 25 _ _ (range_cut (rowOf Tryz.prog) 0 600 25 _ _ (range_cut (rowOf Tryz.prog) 0 575 25 _ _ (range_cut (rowOf Tryz.prog) 0 550 25 _ _ (range_cut (rowOf Tryz.prog) 0 525 25 _ _ (range_cut (rowOf Tryz.prog) 0 500 25 _ _ (range_cut (rowOf Tryz.prog) 0 475 25 _ _ (range_cut (rowOf Tryz.prog) 0 450 25 _ _ (range_cut (rowOf Tryz.prog) 0 425 25 _ _ (range_cut (rowOf Tryz.prog) 0 400 25 _ _ (range_cut (rowOf Tryz.prog) 0 375 25 _ _ (range_cut (rowOf Tryz.prog) 0 350 25 _ _ (range_cut (rowOf Tryz.prog) 0 325 25 _ _ (range_cut (rowOf Tryz.prog) 0 300 25 _ _ (range_cut (rowOf Tryz.prog) 0 275 25 _ _ (range_cut (rowOf Tryz.prog) 0 250 25 _ _ (range_cut (rowOf Tryz.prog) 0 225 25 _ _ (range_cut (rowOf Tryz.prog) 0 200 25 _ _ (range_cut (rowOf Tryz.prog) 0 175 25 _ _ (range_cut (rowOf Tryz.prog) 0 150 25 _ _ (range_cut (rowOf Tryz.prog) 0 125 25 _ _ (range_cut (rowOf Tryz.prog) 0 100 25 _ _ (range_cut (rowOf Tryz.prog) 0 75 25 _ _ (range_cut (rowOf Tryz.prog) 0 50 25 _ _ (range_cut (rowOf Tryz.prog) 0 25 25 _ _ rows_0 rows_1) rows_2) rows_3) rows_4) rows_5) rows_6) rows_7) rows_8) rows_9) rows_10) rows_11) rows_12) rows_13) rows_14) rows_15) rows_16) rows_17) rows_18) rows_19) rows_20) rows_21) rows_22) rows_23) rows_24) rows_25) rows_26) rows_27)
theorem tabled : Tabled Tryz.prog tab 2110 where
  rows := by rw [prog_size, List.range_eq_range']; exact tab_rows
  sum := by kernel_rfl
def reach3 : List Nat := [3, 6, 27, 44, 22, 54, 55, 86, 85, 115, 56, 64, 90, 116, 89, 58, 57, 87, 13, 42, 46, 47, 43, 15, 25, 63, 65, 66, 16, 48, 18, 49, 74, 106, 50, 51, 75, 107, 150, 151, 209, 265, 336, 266, 337, 210, 211, 77, 108, 152, 109, 153, 154, 212, 110, 76, 78, 111, 29, 68, 91, 92, 93, 34, 35, 70, 97, 127, 128, 129, 130, 131, 132, 187, 133, 188, 248, 249, 134, 189, 135, 136, 137, 190, 138, 191, 192, 193, 99, 140, 141, 98, 139, 195, 196, 251, 299, 197, 194, 250, 217, 267, 71, 100, 142, 198, 252, 300, 369, 206, 259, 301, 370, 371, 501, 502, 302, 303, 372, 503, 377, 506, 504, 505, 373, 374, 375, 376, 304, 378, 508, 507, 379, 380, 381, 207, 260, 335, 437, 438, 334, 428, 434, 429, 553, 430, 554, 555, 431, 556, 557, 624, 432, 433, 435, 436, 262, 263, 261, 382, 383, 305, 306, 384, 509, 392, 517, 510, 512, 513, 592, 511, 385, 514, 391, 307, 386, 387, 388, 515, 389, 390, 516, 393, 518, 519, 308, 309, 394, 521, 520, 593, 631, 632, 656, 633, 634, 657, 658, 665, 635, 636, 637, 638, 522, 594, 595, 596, 639, 310, 395, 523, 524, 525, 526, 597, 598, 396, 527, 397, 528, 311, 312, 398, 529, 401, 399, 531, 400, 530, 406, 539, 619, 620, 600, 599, 601, 208, 264, 313, 402, 532, 403, 314, 404, 315, 405, 533, 417, 418, 534, 602, 411, 410, 610, 607, 640, 659, 666, 667, 641, 603, 642, 605, 606, 604, 609, 608, 611, 644, 643, 612, 613, 535, 614, 621, 645, 660, 646, 647, 661, 662, 668, 648, 649, 650, 651, 536, 537, 538, 615, 617, 616, 618, 407, 408, 540, 622, 652, 663, 409, 412, 316, 413, 541, 414, 542, 543, 415, 416, 419, 317, 318, 420, 544, 426, 552, 421, 545, 422, 546, 423, 547, 548, 319, 424, 549, 550, 551, 623, 425, 320, 101, 143, 199, 253, 321, 322, 323, 200, 254, 324, 326, 327, 325, 328, 427, 255, 329, 330, 331, 144, 201, 256, 332, 202, 257, 333, 145, 203, 146, 204, 258, 205, 147, 69, 94, 95, 117, 157, 125, 186, 118, 158, 213, 178, 166, 214, 159, 215, 216, 161, 162, 163, 218, 219, 220, 221, 160, 167, 165, 164, 119, 168, 169, 222, 170, 171, 223, 172, 224, 96, 120, 173, 174, 225, 175, 226, 176, 227, 268, 121, 122, 177, 228, 269, 270, 271, 338, 229, 272, 339, 340, 341, 439, 440, 558, 625, 626, 653, 664, 441, 442, 559, 443, 444, 560, 561, 445, 562, 563, 627, 654, 446, 447, 448, 449, 450, 451, 452, 453, 454, 455, 230, 236, 288, 179, 232, 231, 180, 181, 233, 273, 234, 274, 342, 457, 458, 564, 459, 62, 460, 456, 343, 461, 565, 566, 567, 568, 569, 570, 571, 572, 573, 574, 575, 576, 462, 463, 577, 364, 345, 275, 344, 465, 466, 467, 464, 578, 235, 276, 278, 346, 468, 469, 347, 277, 279, 348, 361, 494, 495, 496, 591, 497, 498, 349, 350, 471, 472, 473, 470, 579, 351, 474, 475, 476, 477, 478, 352, 479, 581, 582, 628, 583, 584, 629, 630, 655, 585, 586, 587, 588, 580, 282, 355, 281, 353, 287, 280, 354, 480, 481, 482, 483, 484, 488, 589, 485, 486, 283, 487, 284, 356, 357, 489, 490, 491, 590, 492, 285, 358, 359, 493, 360, 286, 362, 363, 499, 123, 182, 237, 289, 290, 365, 500, 183, 238, 239, 291, 366, 124, 184, 240, 292, 241, 243, 244, 293, 367, 295, 245, 246, 294, 368, 296, 297, 298, 185, 242, 247, 126, 36, 72, 102, 103, 104, 105, 148, 149, 73, 33, 37, 24, 61, 8, 9, 40, 7, 38, 39, 28, 23, 59, 88, 45, 60, 14, 41, 11, 26, 67, 10, 12, 17, 19, 52, 79, 112, 80, 53, 81, 113, 114, 155, 156, 82, 83, 84, 20, 21]
theorem reach_eq3 : closM (fun k => (Go.Reach.look tab k).1) 2110 [3] [] 0 = reach3 := by kernel_rfl
theorem place3 : Tryz.prog.inPlace 3 = ["internal/abi.NoEscape", "internal/bytealg.MakeNoZero", "slices.overlaps[clearway/api.Vertex]", "slices.overlaps[clearway/api.Edge]", "slices.overlaps[clearway/api.Branch]", "slices.overlaps[clearway/api.Trust]"] := by rw [tabled.inPlace, reach_eq3]; kernel_rfl
theorem vars3 : Tryz.prog.varsNamed 3 = ["clearway/digest.round", "clearway/dist.checks", "math/bits.deBruijn32tab"] := by rw [tabled.varsNamed 3 reach_eq3]; kernel_rfl
theorem follow3 : Tryz.prog.unfollowed 3 = true := tabled.unfollowed 3 307 (by rw [reach_eq3]; kernel_rfl) (by rw [Tryz.func307]; kernel_rfl)
theorem recur3 : Tryz.prog.recurses 3 = true := recurses_of follow3
def reach4 : List Nat := [4, 6, 27, 44, 22, 54, 55, 86, 85, 115, 56, 64, 90, 116, 89, 58, 57, 87, 13, 42, 46, 47, 43, 15, 25, 63, 65, 66, 16, 48, 18, 49, 74, 106, 50, 51, 75, 107, 150, 151, 209, 265, 336, 266, 337, 210, 211, 77, 108, 152, 109, 153, 154, 212, 110, 76, 78, 111, 29, 68, 91, 92, 93, 34, 35, 70, 97, 127, 128, 129, 130, 131, 132, 187, 133, 188, 248, 249, 134, 189, 135, 136, 137, 190, 138, 191, 192, 193, 99, 140, 141, 98, 139, 195, 196, 251, 299, 197, 194, 250, 217, 267, 71, 100, 142, 198, 252, 300, 369, 206, 259, 301, 370, 371, 501, 502, 302, 303, 372, 503, 377, 506, 504, 505, 373, 374, 375, 376, 304, 378, 508, 507, 379, 380, 381, 207, 260, 335, 437, 438, 334, 428, 434, 429, 553, 430, 554, 555, 431, 556, 557, 624, 432, 433, 435, 436, 262, 263, 261, 382, 383, 305, 306, 384, 509, 392, 517, 510, 512, 513, 592, 511, 385, 514, 391, 307, 386, 387, 388, 515, 389, 390, 516, 393, 518, 519, 308, 309, 394, 521, 520, 593, 631, 632, 656, 633, 634, 657, 658, 665, 635, 636, 637, 638, 522, 594, 595, 596, 639, 310, 395, 523, 524, 525, 526, 597, 598, 396, 527, 397, 528, 311, 312, 398, 529, 401, 399, 531, 400, 530, 406, 539, 619, 620, 600, 599, 601, 208, 264, 313, 402, 532, 403, 314, 404, 315, 405, 533, 417, 418, 534, 602, 411, 410, 610, 607, 640, 659, 666, 667, 641, 603, 642, 605, 606, 604, 609, 608, 611, 644, 643, 612, 613, 535, 614, 621, 645, 660, 646, 647, 661, 662, 668, 648, 649, 650, 651, 536, 537, 538, 615, 617, 616, 618, 407, 408, 540, 622, 652, 663, 409, 412, 316, 413, 541, 414, 542, 543, 415, 416, 419, 317, 318, 420, 544, 426, 552, 421, 545, 422, 546, 423, 547, 548, 319, 424, 549, 550, 551, 623, 425, 320, 101, 143, 199, 253, 321, 322, 323, 200, 254, 324, 326, 327, 325, 328, 427, 255, 329, 330, 331, 144, 201, 256, 332, 202, 257, 333, 145, 203, 146, 204, 258, 205, 147, 69, 94, 95, 117, 157, 125, 186, 118, 158, 213, 178, 166, 214, 159, 215, 216, 161, 162, 163, 218, 219, 220, 221, 160, 167, 165, 164, 119, 168, 169, 222, 170, 171, 223, 172, 224, 96, 120, 173, 174, 225, 175, 226, 176, 227, 268, 121, 122, 177, 228, 269, 270, 271, 338, 229, 272, 339, 340, 341, 439, 440, 558, 625, 626, 653, 664, 441, 442, 559, 443, 444, 560, 561, 445, 562, 563, 627, 654, 446, 447, 448, 449, 450, 451, 452, 453, 454, 455, 230, 236, 288, 179, 232, 231, 180, 181, 233, 273, 234, 274, 342, 457, 458, 564, 459, 62, 460, 456, 343, 461, 565, 566, 567, 568, 569, 570, 571, 572, 573, 574, 575, 576, 462, 463, 577, 364, 345, 275, 344, 465, 466, 467, 464, 578, 235, 276, 278, 346, 468, 469, 347, 277, 279, 348, 361, 494, 495, 496, 591, 497, 498, 349, 350, 471, 472, 473, 470, 579, 351, 474, 475, 476, 477, 478, 352, 479, 581, 582, 628, 583, 584, 629, 630, 655, 585, 586, 587, 588, 580, 282, 355, 281, 353, 287, 280, 354, 480, 481, 482, 483, 484, 488, 589, 485, 486, 283, 487, 284, 356, 357, 489, 490, 491, 590, 492, 285, 358, 359, 493, 360, 286, 362, 363, 499, 123, 182, 237, 289, 290, 365, 500, 183, 238, 239, 291, 366, 124, 184, 240, 292, 241, 243, 244, 293, 367, 295, 245, 246, 294, 368, 296, 297, 298, 185, 242, 247, 126, 36, 72, 102, 103, 104, 105, 148, 149, 73, 33, 37, 24, 61, 8, 9, 40, 30]
theorem reach_eq4 : closM (fun k => (Go.Reach.look tab k).1) 2110 [4] [] 0 = reach4 := by kernel_rfl
theorem place4 : Tryz.prog.inPlace 4 = ["internal/abi.NoEscape", "internal/bytealg.MakeNoZero", "slices.overlaps[clearway/api.Vertex]", "slices.overlaps[clearway/api.Edge]", "slices.overlaps[clearway/api.Branch]", "slices.overlaps[clearway/api.Trust]"] := by rw [tabled.inPlace, reach_eq4]; kernel_rfl
theorem vars4 : Tryz.prog.varsNamed 4 = ["clearway/digest.round", "clearway/dist.checks", "math/bits.deBruijn32tab"] := by rw [tabled.varsNamed 4 reach_eq4]; kernel_rfl
theorem follow4 : Tryz.prog.unfollowed 4 = true := tabled.unfollowed 4 307 (by rw [reach_eq4]; kernel_rfl) (by rw [Tryz.func307]; kernel_rfl)
theorem recur4 : Tryz.prog.recurses 4 = true := recurses_of follow4
def reach5 : List Nat := [5, 6, 27, 44, 22, 54, 55, 86, 85, 115, 56, 64, 90, 116, 89, 58, 57, 87, 13, 42, 46, 47, 43, 15, 25, 63, 65, 66, 16, 48, 18, 49, 74, 106, 50, 51, 75, 107, 150, 151, 209, 265, 336, 266, 337, 210, 211, 77, 108, 152, 109, 153, 154, 212, 110, 76, 78, 111, 29, 68, 91, 92, 93, 34, 35, 70, 97, 127, 128, 129, 130, 131, 132, 187, 133, 188, 248, 249, 134, 189, 135, 136, 137, 190, 138, 191, 192, 193, 99, 140, 141, 98, 139, 195, 196, 251, 299, 197, 194, 250, 217, 267, 71, 100, 142, 198, 252, 300, 369, 206, 259, 301, 370, 371, 501, 502, 302, 303, 372, 503, 377, 506, 504, 505, 373, 374, 375, 376, 304, 378, 508, 507, 379, 380, 381, 207, 260, 335, 437, 438, 334, 428, 434, 429, 553, 430, 554, 555, 431, 556, 557, 624, 432, 433, 435, 436, 262, 263, 261, 382, 383, 305, 306, 384, 509, 392, 517, 510, 512, 513, 592, 511, 385, 514, 391, 307, 386, 387, 388, 515, 389, 390, 516, 393, 518, 519, 308, 309, 394, 521, 520, 593, 631, 632, 656, 633, 634, 657, 658, 665, 635, 636, 637, 638, 522, 594, 595, 596, 639, 310, 395, 523, 524, 525, 526, 597, 598, 396, 527, 397, 528, 311, 312, 398, 529, 401, 399, 531, 400, 530, 406, 539, 619, 620, 600, 599, 601, 208, 264, 313, 402, 532, 403, 314, 404, 315, 405, 533, 417, 418, 534, 602, 411, 410, 610, 607, 640, 659, 666, 667, 641, 603, 642, 605, 606, 604, 609, 608, 611, 644, 643, 612, 613, 535, 614, 621, 645, 660, 646, 647, 661, 662, 668, 648, 649, 650, 651, 536, 537, 538, 615, 617, 616, 618, 407, 408, 540, 622, 652, 663, 409, 412, 316, 413, 541, 414, 542, 543, 415, 416, 419, 317, 318, 420, 544, 426, 552, 421, 545, 422, 546, 423, 547, 548, 319, 424, 549, 550, 551, 623, 425, 320, 101, 143, 199, 253, 321, 322, 323, 200, 254, 324, 326, 327, 325, 328, 427, 255, 329, 330, 331, 144, 201, 256, 332, 202, 257, 333, 145, 203, 146, 204, 258, 205, 147, 69, 94, 95, 117, 157, 125, 186, 118, 158, 213, 178, 166, 214, 159, 215, 216, 161, 162, 163, 218, 219, 220, 221, 160, 167, 165, 164, 119, 168, 169, 222, 170, 171, 223, 172, 224, 96, 120, 173, 174, 225, 175, 226, 176, 227, 268, 121, 122, 177, 228, 269, 270, 271, 338, 229, 272, 339, 340, 341, 439, 440, 558, 625, 626, 653, 664, 441, 442, 559, 443, 444, 560, 561, 445, 562, 563, 627, 654, 446, 447, 448, 449, 450, 451, 452, 453, 454, 455, 230, 236, 288, 179, 232, 231, 180, 181, 233, 273, 234, 274, 342, 457, 458, 564, 459, 62, 460, 456, 343, 461, 565, 566, 567, 568, 569, 570, 571, 572, 573, 574, 575, 576, 462, 463, 577, 364, 345, 275, 344, 465, 466, 467, 464, 578, 235, 276, 278, 346, 468, 469, 347, 277, 279, 348, 361, 494, 495, 496, 591, 497, 498, 349, 350, 471, 472, 473, 470, 579, 351, 474, 475, 476, 477, 478, 352, 479, 581, 582, 628, 583, 584, 629, 630, 655, 585, 586, 587, 588, 580, 282, 355, 281, 353, 287, 280, 354, 480, 481, 482, 483, 484, 488, 589, 485, 486, 283, 487, 284, 356, 357, 489, 490, 491, 590, 492, 285, 358, 359, 493, 360, 286, 362, 363, 499, 123, 182, 237, 289, 290, 365, 500, 183, 238, 239, 291, 366, 124, 184, 240, 292, 241, 243, 244, 293, 367, 295, 245, 246, 294, 368, 296, 297, 298, 185, 242, 247, 126, 36, 72, 102, 103, 104, 105, 148, 149, 73, 33, 37, 24, 61, 8, 9, 40, 32, 31]
theorem reach_eq5 : closM (fun k => (Go.Reach.look tab k).1) 2110 [5] [] 0 = reach5 := by kernel_rfl
theorem place5 : Tryz.prog.inPlace 5 = ["internal/abi.NoEscape", "internal/bytealg.MakeNoZero", "slices.overlaps[clearway/api.Vertex]", "slices.overlaps[clearway/api.Edge]", "slices.overlaps[clearway/api.Branch]", "slices.overlaps[clearway/api.Trust]"] := by rw [tabled.inPlace, reach_eq5]; kernel_rfl
theorem vars5 : Tryz.prog.varsNamed 5 = ["clearway/digest.round", "clearway/dist.checks", "math/bits.deBruijn32tab"] := by rw [tabled.varsNamed 5 reach_eq5]; kernel_rfl
theorem follow5 : Tryz.prog.unfollowed 5 = true := tabled.unfollowed 5 307 (by rw [reach_eq5]; kernel_rfl) (by rw [Tryz.func307]; kernel_rfl)
theorem recur5 : Tryz.prog.recurses 5 = true := recurses_of follow5
end Go.Proofs.YtnehgpeelgjjhaaGreatDoor.Tw
