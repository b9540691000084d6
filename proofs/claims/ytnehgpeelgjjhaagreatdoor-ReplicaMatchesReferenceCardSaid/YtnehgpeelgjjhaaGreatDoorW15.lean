/- Contracts of functions of the program, and plain laws, towards the laws of replicas. Joined of the texts: D1, E1, E2, E3, Arr, E4, E5, E6, E7, E8, E9, S1, S2, S3, D2, D3, D4. -/
import Derived.Test.YtnehgpeelgjjhaaGreatDoorW04
import Derived.Handy
import Derived.Outline
import Derived.WalkMore
import Derived.Laws.IdiomRangeMap
import Derived.Deep.WholeRow
import Derived.Test.YtnehgpeelgjjhaaGreatDoorW05
import Derived.Laws.EntriesVeiled
import Derived.Deep.RegionHeld3
import Derived.Deep.MidRow
import Derived.Deep.DeepCutAuto
import Derived.Laws.BytesArg
set_option linter.all false
set_option maxRecDepth 100000
set_option maxHeartbeats 12800000
open Go.Lib (hid)
namespace Go.Proofs.YtnehgpeelgjjhaaGreatDoor.Tw
open Go.Proofs.Tryz
section
open Go.RowKit
theorem and31 (n:Nat)(h1:1<=n)(h2:n<=31):bits BinOp.and IntKind.u64 (IntKind.u64.wrap (-(n:Int))) 31=32 - n:=by
 have key:∀n:Fin 32,1<=n.val->bits BinOp.and IntKind.u64 (IntKind.u64.wrap (-(n.val:Int))) 31=32 - n.val:=by decide +kernel
 exact key ⟨n,by omega⟩ h1
def rotl (x:Int)(n:Nat):Int:=bits BinOp.or IntKind.u32 (x*2 ^ (32 - n)%4294967296) (x / 2 ^ (32 - (32 - n)))
theorem rot_any (w:World)(x:Int)(n:Nat)(h1:1<=n)(h2:n<=31):Calls prog 212 #[.int .u32 x,.int .i64 (-n)] w λe w'=>e=.returned (.int .u32 (rotl x n))/\w=w':=by
 have hb:=and31 n h1 h2
 go_enter func212,ntmps212
 go_wp2;go_ret;exact⟨rfl,rfl⟩
def mixF (x:Int)(l:List Nat):Int:=l.foldl (λout n=>bits BinOp.xor IntKind.u32 out (rotl x n)) 0
theorem mix_take (x:Int)(l:List Nat)(k:Nat)(h:k<l.length):mixF x (l.take (k+1))=bits BinOp.xor IntKind.u32 (mixF x (l.take k)) (rotl x l[k]):=by
 unfold mixF;rw[List.take_succ_eq_append_getElem h,List.foldl_append];rfl
theorem mixed_any (w:World)(x:Int)(l:List Nat)(b:Nat)(hB:Blk w b 3 (l.map λn:Nat=>Value.int .i64 (n:Int)).toArray)(hl:l.length<=100)(hr:∀n∈l,1<=n/\n<=31) :
 Calls prog 154 #[.int .u32 x,.slice (some ⟨b,0,none⟩) l.length l.length] w λe w'=>e=.returned (.int .u32 (mixF x l))/\w=w':=by
 have HR:=hid hr;clear hr;obtain⟨n,hn⟩:∃n,n=l.length:=⟨_,rfl⟩;have HN:=hid hn;have hn':n<=100:=by omega
 rw[<- hn];clear hn hl
 go_enter func154,ntmps154
 go_wp2
 go_loop [5,10] (λo i=>∃k:Nat,k<=n/\i=.int .i64 k/\o=.int .u32 (mixF x (l.take k))) (λ_ i=>n - (intOf i).toNat)
 case atStart=>exact⟨0,by omega,rfl,rfl⟩
 case round =>
  obtain⟨k,hk,rfl,rfl⟩:=hrel
  by_cases hlt:k<n
  ·have hkl:k<l.length:=by rw[<- HN.out];exact hlt
   have hc:w.cell? ⟨b,k,none⟩=some (.int .i64 (l[k]:Nat)):=by
    rw[hB.cell];simp[List.getElem?_toArray,hkl]
   obtain⟨r1,r2⟩:=HR.out l[k] (List.getElem_mem hkl);have HM:=hid (mix_take x l k hkl);generalize l[k]=q at *
   go_wp2_with (go_at_call 212;refine(rot_any _ _ q r1 r2).mono ?_;rintro e w' ⟨rfl,rfl⟩)
   go_round
   case rel=>exact⟨k+1,by omega,by go_num,by rw[HM.out]⟩
   case measure=>simp[intOf];omega
  ·have hkn:k=n:=by omega
   subst hkn;have HT:=hid (show l.take k=l from List.take_of_length_le (by rw[<- HN.out];exact Nat.le_refl _));go_wp2;go_ret;exact⟨congrArg (λl=>Ending.returned (Value.int .u32 (mixF x l))) HT.out,rfl⟩
end
section
open Go.RowKit
abbrev nilS :Value:=.slice none 0 0
abbrev g0 :Value:=.agg #[nilS,nilS,nilS]
theorem Blk.three {w:World}{g:Nat}{t:TypeId}{a b c:Value}(h:Blk w g t #[a,b,c]) :
 w.cell? ⟨g,0,none⟩=some a/\w.cell? ⟨g,1,none⟩=some b/\w.cell? ⟨g,2,none⟩=some c:=⟨h.cell 0,h.cell 1,h.cell 2⟩
theorem valid0 (w:World):Calls prog 97 #[g0] w λe w'=>e=.returned (.bool true)/\Below w.heap.size w w':=by
 go_enter func97,ntmps97
 go_wp2
 repeat(go_rounds 1)
 go_ret;exact⟨rfl,by go_grown⟩
theorem next_map0 {P:Program}(W:World)(it bm since c0 clock:Nat)(ty:TypeId)(hi:W.heap[it]?=some (.mapIter (some bm) since #[] c0))(hb:W.heap[bm]?=some (.map #[] clock)) :
 (Instr.next (.pointer (some ⟨it,0,none⟩)) false ty).run P W=.ok (.tuple #[.bool false]) W:=by
 have hf:∀p:MapEntry->Bool,Array.filter p (#[]:Array MapEntry)=#[]:=λp=>by simp[Array.filter]
 simp only[Instr.next,getObj,Sem.run_bind,Sem.run,hi,hb,Result.andThen,hf];simp[choose,Sem.run,Question.forced]
theorem heap_new (w:World)(o:Obj):(w.alloc o).heap[w.heap.size]?=some o:=heap_alloc_new w o
theorem heap_new' (w:World)(o:Obj){n:Nat}(h:n=w.heap.size):(w.alloc o).heap[n]?=some o:=by subst h;exact heap_new w o
theorem heap_old {w:World}{r:Nat}{x:Obj}(o:Obj)(h:w.heap[r]?=some x):(w.alloc o).heap[r]?=some x:=by
 have hlt:r<w.heap.size:=by
  rcases Nat.lt_or_ge r w.heap.size with h1|h1
  ·exact h1
  ·rw[Array.getElem?_eq_none h1]at h;cases h
 rw[heap_alloc_old w o hlt,h]
end
section
open Go.RowKit
theorem len0 (w:World):Calls prog 335 #[.int .u64 0] w λe w'=>e=.returned (.int .i64 0)/\w=w':=by
 go_enter func335,ntmps335
 go_wp2;go_ret;exact⟨by kernel_rfl,rfl⟩
theorem mul10 (w:World):Calls prog 539 #[.int .u64 1,.int .u64 0] w λe w'=>e=.returned (.tuple #[.int .u64 0,.int .u64 0])/\w=w':=by
 go_enter func539,ntmps539
 go_wp2;go_ret2;exact⟨by kernel_rfl,rfl⟩
theorem sortOdd0 (w:World)(f:Value):Calls prog 535 #[nilS,f] w λe w'=>e=.returned (.tuple #[])/\w=w':=by
 go_enter func535,ntmps535
 go_wp2_with (first|(go_at_call 335;refine(len0 _).mono ?_;rintro e w1 ⟨rfl,rfl⟩)|go_in)
 repeat(go_rounds 1)
 go_returns;exact⟨rfl,rfl⟩
end
section
open Go.RowKit
theorem mk0 :∀w,(Instr.makeSlice 24 (.int .i64 0) (.int .i64 0)).run prog w=.ok (.slice (some ⟨w.heap.size,0,none⟩) 0 0) (w.alloc (.cells #[] 3)):=λ_=>by kernel_rfl
theorem copy00 :∀(b:Nat) (A:Option Addr) (c d:Nat) w,(Builtin.copy_ #[24,24] 3 #[.slice (some ⟨b,0,none⟩) 0 c,.slice A 1 d]).run prog w=.ok (.int .i64 0) w:=λ_ A _ _ _=>by cases A<;>kernel_rfl
theorem repeat0 (w:World)(A:Option Addr)(c:Nat):Calls prog 406 #[.slice A 1 c,.int .i64 0] w λe w'=>(∃b,e=.returned (.slice (some ⟨b,0,none⟩) 0 0))/\Below w.heap.size w w':=by
 have hmk:=mk0;have hcp:=copy00
 go_enter func406,ntmps406
 go_wp2_with (go_at_call 539;refine(mul10 _).mono ?_;rintro e w1 ⟨rfl,rfl⟩)
 repeat(go_rounds 1)
 go_ret;exact⟨⟨_,rfl⟩,by go_grown⟩
end
section
open Go.RowKit
theorem wpList_store_last {P:Program}{ops:Array Oper}{rest:List Oper}{o:Oper}{a:Act}{W:World}{Q:Exit->Act->World->Prop}{c:Array Value}{t:TypeId}(hgd:o.guard=none)(ty:TypeId)(x y:Operand)(ho:o.op=.store ty x y)
 (c':Array Value) (g:Nat) (hx:a.eval x=.pointer (some ⟨g,0,none⟩)) (hy:a.eval y=.agg c') (hg:g=W.heap.size)
 (hi:(P.info? ty).map (·.size)=some c'.size) (hold:c.size=c'.size) (h1:c'.all (·.oneCell')=true)
 (h:wpList P ops Q rest (a.put o.dst undef) (W.alloc (.cells c' t))):wpList P ops Q (o::rest) a (W.alloc (.cells c t)):=by
 subst hg;refine wpList_store_row hgd ty x y ho W.heap.size c' hx hy t c (heap_alloc_last W _) hi hold h1 ?_;rw[World.setRow_alloc_new];exact h
abbrev z24 :Array Value:=#[.int .i64 0,.int .i64 0,.int .i64 0,.int .i64 0,.int .i64 0,.int .i64 0,.int .i64 0,.int .i64 0,.int .i64 0,.int .i64 0,.int .i64 0,.int .i64 0,.int .i64 0,.int .i64 0,.int .i64 0,.int .i64 0,.int .i64 0,.int .i64 0,.int .i64 0,.int .i64 0,.int .i64 0,.int .i64 0,.int .i64 0,.int .i64 0]
theorem one24 :z24.all (·.oneCell')=true:=by kernel_rfl
theorem size24 :(prog.info? 494).map (·.size)=some z24.size:=by kernel_rfl
end
section
open Go.RowKit
theorem blossomBegin0 (w:World):Calls prog 533 #[g0] w λe w'=>∃p b,e=.returned (.tuple #[.pointer (some ⟨p,0,none⟩),.bool false])/\w.heap.size<=p/\Blk w' p 550 #[nilS,nilS,.slice (some ⟨b,0,none⟩) 0 0,nilS]/\Below w.heap.size w w':=by
 go_enter func533,ntmps533
 go_wp2_with (with_reducible refine wpList_store_last rfl 494 (.tmp 5) (.tmp 13) rfl z24 _ rfl rfl (by simp) size24 rfl one24 ?_)
 refine wp_loop_rounds 1 ?_;rw[rounds_succ]
 go_wp2_with fail
 refine wp_loop_rounds 1 ?_;rw[rounds_succ]
 go_wp2_with fail
 obtain⟨W0,hW0⟩:∃W0,W0=((((w.alloc (.cells #[nilS,nilS,nilS] 79)).alloc (.cells #[nilS,nilS,nilS,nilS] 550)).alloc (.cells z24 494)).alloc (.cells #[.int .i64 0] 3)):=⟨_,rfl⟩;have hB0:Blk W0 (w.heap.size+1) 550 #[nilS,nilS,nilS,nilS]:=by rw[hW0];exact((Blk.new2 _ _ _ _).alloc _).alloc _
 have hb0:Below w.heap.size w W0:=by rw[hW0];go_grown
 rw[<- hW0];clear hW0;refine(repeat0 _ _ _).mono ?_;rintro e w1 ⟨⟨b,rfl⟩,h1⟩;have hB1:=hB0.below h1 hB0.lt;have hb1:=hb0.trans (h1.mono hb0.size);have hb1':=hB1.set_ 2 (.slice (some ⟨b,0,none⟩) 0 0);have HB1':=hid hb1';have c2:=hB1.cell 2;have f2:=hB1.frozen 2;clear hB0 hB1 hb1';simp only[List.getElem?_toArray,List.getElem?_cons_zero,List.getElem?_cons_succ]at c2
 go_wp2_with fail
 go_outline;go_ret2;exact⟨_,_,rfl,by omega,HB1'.out,hb1.setCell (by simp) _⟩
end
section
open Go.RowKit
theorem mkf :∀(fn:Fn) (first cap:Array Value) (w:World),(Instr.makeFunc fn first cap).run prog w=.ok (.func fn first cap) w:=λ_ _ _ _=>rfl
theorem Blk.four {w:World}{g:Nat}{t:TypeId}{a b c d:Value}(h:Blk w g t #[a,b,c,d]) :
 w.cell? ⟨g,0,none⟩=some a/\w.cell? ⟨g,1,none⟩=some b/\w.cell? ⟨g,2,none⟩=some c/\w.cell? ⟨g,3,none⟩=some d:=⟨h.cell 0,h.cell 1,h.cell 2,h.cell 3⟩
theorem belowN {B:Nat}{w w':World}{n:Nat}(h:Below B w w'):Below B w (w'.drewN n):=by
 induction n with
 | zero=>exact h
 | succ n ih=>exact ih.drew
theorem same {P:Program}{f:FuncId}{args:Array Value}{w:World}{v:Value}(h:Calls P f args w λe w'=>e=.returned v/\w=w'):Calls P f args w λe w'=>e=.returned v/\w'=w :=
 h.mono λ_ _ ⟨a,b⟩=>⟨a,b.symm⟩
theorem hasOdd0 (w:World)(F:Fn)(a b:Array Value):Calls prog 616 #[nilS,.func F a b] w λe w'=>e=.returned (.bool false)/\w=w':=by
 go_enter func616,ntmps616
 go_wp2
 repeat(go_rounds 1)
 go_ret;exact⟨rfl,rfl⟩
theorem match0 (w:World)(p:Nat)(B:Option Addr)(hB:Blk w p 550 #[nilS,nilS,.slice B 0 0,nilS]) :
 Calls prog 538 #[.pointer (some ⟨p,0,none⟩),.int .i64 0,.int .u32 0,nilS] w λe w'=>e=.returned (.tuple #[nilS,.bool true])/\Below w.heap.size w w':=by
 have hmf:=mkf;obtain⟨b0,b1,b2,b3⟩:=hB.four;have hlt:=hB.lt
 go_enter func538,ntmps538
 go_wp2
 go_rounds 1
 go_quiet ((go_at_call 616;exact Calls.quiet_of_same (same (hasOdd0 _ _ _ _))))
 go_wp2;go_ret2;exact⟨rfl,belowN (by go_grown)⟩
theorem blossomSolve0 (w:World):Calls prog 405 #[g0] w λe w'=>∃p b,e=.returned (.tuple #[.pointer (some ⟨p,0,none⟩),nilS])/\w.heap.size<=p/\Blk w' p 550 #[nilS,nilS,.slice (some ⟨b,0,none⟩) 0 0,nilS]/\Below w.heap.size w w':=by
 go_enter func405,ntmps405
 go_wp2_with fail
 obtain⟨W0,hW0⟩:∃W0,W0=w.alloc (.cells #[nilS,nilS,nilS] 79):=⟨_,rfl⟩;have hb0:Below w.heap.size w W0:=by rw[hW0];go_grown
 rw[<- hW0];clear hW0;refine(blossomBegin0 _).mono ?_;rintro e w1 ⟨p,b,rfl,hp,hB,h1⟩;have hb1:=hb0.trans (h1.mono hb0.size);have HB:=hid hB;obtain⟨c0,c1,c2,c3⟩:=hB.four;clear hB;have hz:=hb0.size
 go_wp2_with fail
 refine wp_loop_rounds 1 ?_;rw[rounds_succ]
 go_wp2_with fail
 refine(sortOdd0 _ _).mono ?_;rintro e w2 ⟨rfl,rfl⟩
 go_wp2_with fail
 refine(match0 _ _ _ HB.out).mono ?_;rintro e w2 ⟨rfl,h2⟩;have hb2:=hb1.trans (h2.mono hb1.size);have hB2:=hid (HB.out.below h2 HB.out.lt)
 go_wp2_with fail
 go_ret2;exact⟨_,_,rfl,by omega,hB2.out,hb2⟩
end
section
open Go.RowKit
theorem eqnil (T E:TypeId)(h:prog.underlying T=some (.slice E)):∀(w:World),(binOp .eql T nilS nilS).run prog w=.ok (.bool true) w:=λw=>Lib.run_eql_slice_nil w _ _ none 0 0 0 0 h
theorem cloneInt0 (w:World):Calls prog 47 #[nilS] w λe w'=>e=.returned nilS/\w=w':=by
 have he:=eqnil 24 _ underlying24
 go_enter func47,ntmps47
 go_wp2;go_ret;exact⟨rfl,rfl⟩
theorem cloneVertex0 (w:World):Calls prog 140 #[nilS] w λe w'=>e=.returned nilS/\w=w':=by
 have he:=eqnil 76 _ underlying76
 go_enter func140,ntmps140
 go_wp2;go_ret;exact⟨rfl,rfl⟩
theorem cloneEdge0 (w:World):Calls prog 141 #[nilS] w λe w'=>e=.returned nilS/\w=w':=by
 have he:=eqnil 77 _ underlying77
 go_enter func141,ntmps141
 go_wp2;go_ret;exact⟨rfl,rfl⟩
theorem cloneOdd0 (w:World):Calls prog 407 #[nilS] w λe w'=>e=.returned nilS/\w=w':=by
 have he:=eqnil 548 _ underlying548
 go_enter func407,ntmps407
 go_wp2;go_ret;exact⟨rfl,rfl⟩
theorem stableOdd0 (w:World)(f:Value):Calls prog 408 #[nilS,f] w λe w'=>e=.returned (.tuple #[])/\w=w':=by
 go_enter func408,ntmps408
 go_wp2
 repeat(go_rounds 1)
 go_returns;exact⟨rfl,rfl⟩
theorem blossom0 (w:World):Calls prog 315 #[g0] w λe w'=>e=.returned (.tuple #[nilS,.int .i64 0])/\Below w.heap.size w w':=by
 obtain⟨W0,hW0⟩:∃W0,W0=w.alloc (.cells #[nilS,nilS,nilS] 79):=⟨_,rfl⟩;have hb0:Below w.heap.size w W0:=by rw[hW0];go_grown
 have hB0:Blk W0 w.heap.size 79 #[nilS,nilS,nilS]:=by rw[hW0];exact Blk.new _ _ _
 have HW0:=hid hW0;clear hW0;obtain⟨b0,b1,b2⟩:=hB0.three
 go_enter func315,ntmps315
 go_wp2_with fail
 rw[<- HW0.out];refine(valid0 _).mono ?_;rintro e w1 ⟨rfl,h1⟩;have hB1:=hB0.below h1 hB0.lt;have hb1:=hb0.trans (h1.mono hb0.size);clear b0 b1 b2;obtain⟨b0,b1,b2⟩:=hB1.three
 go_wp2_with fail
 refine(blossomSolve0 _).mono ?_;rintro e w2 ⟨p,b,rfl,hp,hD,h2⟩;have hb2:=hb1.trans (h2.mono hb1.size);clear b0 b1 b2;obtain⟨d0,d1,d2,d3⟩:=hD.four;have hlt:=hD.lt
 go_wp2_with fail
 go_region_held3 (λw'=>w'.cell? ⟨p,0,none⟩=some nilS) (go_keep) ((go_at_call 406;refine(repeat0 _ _ _).mono ?_;rintro e w3 ⟨⟨b3,rfl⟩,h3⟩;have hs3:=h3.size;(try simp only[World.size_alloc,World.size_drew]at hs3);have k3:=(bcell h3).1 p 0 (by first|omega|(simp only[World.size_alloc,World.size_drew];omega));have h4:Below w2.heap.size w2 w3:=Below.trans (by go_grown) (h3.mono (by first|omega|(simp only[World.size_alloc,World.size_drew];omega)))))
 all_goals
  have hD3:=hD.below h4 hlt;have hb3:=hb2.trans (h4.mono hb2.size);clear d0 d1 d2 d3 k3;obtain⟨d0,d1,d2,d3⟩:=hD3.four
  go_wp2_with fail
  refine wp_loop_rounds 1 ?_;rw[rounds_succ]
  go_wp2_with fail
  refine(cloneOdd0 _).mono ?_;rintro e w4 ⟨rfl,rfl⟩
  go_wp2_with fail
  refine(stableOdd0 _ _).mono ?_;rintro e w4 ⟨rfl,rfl⟩
  go_wp2_with fail
  refine wp_loop_rounds 1 ?_;rw[rounds_succ]
  go_wp2_with fail
  go_ret2;exact⟨rfl,hb3⟩
end
section
open Go.RowKit
noncomputable abbrev mk576 (m:Nat):Array Value:=Tryz.zeroCells576.setIfInBounds 24 (.map (some m))
theorem mk576_map (m:Nat):(mk576 m)[24]?=some (.map (some m)):=by kernel_rfl
theorem lenMap0 {P:Program}{t k e ty:TypeId}{W:World}{m c:Nat}(ht:P.underlying t=some (.map k e))(h:W.heap[m]?=some (.map #[] c)):(Builtin.len_ #[t] ty #[.map (some m)]).run P W=.ok (.int .i64 0) W:=by
 simp[Builtin.len_,run_underlying ht,getObj,Sem.run,Result.andThen,h,goInt]
theorem tradeOpen0 (w:World):Calls prog 420 #[g0] w λe w'=>∃p m,e=.returned (.pointer (some ⟨p,0,none⟩))/\Blk w' p 576 (mk576 m)/\w'.heap[m]?=some (.map #[] 0)/\w.heap.size<=p/\w.heap.size<=m/\Below w.heap.size w w':=by
 have hmm:=@run_makeMap prog;have hmf:=mkf
 go_enter func420,ntmps420
 go_wp2_with fail
 refine wp_loop_rounds 1 ?_;rw[rounds_succ]
 go_wp2_with fail
 refine wp_loop_rounds 1 ?_;rw[rounds_succ]
 go_wp2_with fail
 go_ret;exact⟨w.heap.size+1+1,w.heap.size+1,rfl,heap_new' _ _ (by simp),heap_old _ (heap_new' _ _ (by simp)),by omega,by omega,by go_grown⟩
theorem tradePlay0 (w:World)(p m:Nat)(hB:Blk w p 576 (mk576 m))(hm:w.heap[m]?=some (.map #[] 0)):Calls prog 421 #[.pointer (some ⟨p,0,none⟩)] w λe w'=>e=.returned nilS/\w=w':=by
 have hc:=(hB.cell 24).trans (mk576_map m)
 go_enter func421,ntmps421
 go_wp2_with fail
 refine wp_loop_rounds 1 ?_;rw[rounds_succ]
 go_wp2_with fail
 rw[lenMap0 underlying573 hm]
 go_wp2_with fail
 go_ret;exact⟨rfl,rfl⟩
theorem concat0 (w:World):Calls prog 422 #[nilS] w λe w'=>e=.returned nilS/\w=w':=by
 go_enter func422,ntmps422
 go_wp2
 repeat(go_rounds 1)
 go_ret;exact⟨rfl,rfl⟩
theorem trade0 (w:World):Calls prog 318 #[g0] w λe w'=>e=.returned (.tuple #[nilS,.int .i64 0])/\Below w.heap.size w w':=by
 obtain⟨W0,hW0⟩:∃W0,W0=w.alloc (.cells #[nilS,nilS,nilS] 79):=⟨_,rfl⟩;have hb0:Below w.heap.size w W0:=by rw[hW0];go_grown
 have hB0:Blk W0 w.heap.size 79 #[nilS,nilS,nilS]:=by rw[hW0];exact Blk.new _ _ _
 have HW0:=hid hW0;clear hW0;obtain⟨b0,b1,b2⟩:=hB0.three
 go_enter func318,ntmps318
 go_wp2_with fail
 rw[<- HW0.out];refine(valid0 _).mono ?_;rintro e w1 ⟨rfl,h1⟩;have hB1:=hB0.below h1 hB0.lt;have hb1:=hb0.trans (h1.mono hb0.size);clear b0 b1 b2;obtain⟨b0,b1,b2⟩:=hB1.three
 go_wp2_with fail
 refine(tradeOpen0 _).mono ?_;rintro e w2 ⟨p,m,rfl,hP,hm,hp,hm',h2⟩;have hB2:=hB1.below h2 hB1.lt;have hb2:=hb1.trans (h2.mono hb1.size);clear b0 b1 b2;obtain⟨b0,b1,b2⟩:=hB2.three;have HP:=hid hP;have HM:=hid hm;clear hP hm hp hm'
 go_wp2_with fail
 refine(tradePlay0 _ p m HP.out HM.out).mono ?_;rintro e w3 ⟨rfl,rfl⟩
 go_wp2_with fail
 refine(concat0 _).mono ?_;rintro e w3 ⟨rfl,rfl⟩
 go_wp2_with fail
 refine wp_loop_rounds 1 ?_;rw[rounds_succ]
 go_wp2_with fail
 refine wp_loop_rounds 1 ?_;rw[rounds_succ]
 go_wp2_with fail
 go_ret2;exact⟨rfl,hb2⟩
end
section
open Go.RowKit
theorem spanRound0 (w:World)(p m q:Nat)(h0:w.cell? ⟨p,0,none⟩=some nilS):Calls prog 522 #[.pointer (some ⟨p,0,none⟩),.map (some m),.pointer (some ⟨q,0,none⟩)] w λe w'=>e=.returned (.tuple #[])/\Below w.heap.size w w':=by
 have hmm:=@run_makeMap prog;have h0a:∀o,(w.alloc o).cell? ⟨p,0,none⟩=some nilS:=λo=>(World.cell?_alloc_some w _ o (by rw[h0];rfl)).trans h0
 go_enter func522,ntmps522
 go_wp2_with fail
 refine wp_loop_rounds 1 ?_;rw[rounds_succ]
 go_wp2_with fail
 rw[run_range_map (P:=prog) _ 704 _ _ _ #[] 0 underlying704 (heap_new' _ _ (by simp))]
 go_wp2_with fail
 refine wp_loop_rounds 1 ?_;rw[rounds_succ]
 go_wp2_with fail
 rw[next_map0 _ _ _ _ _ _ _ (heap_new' _ _ (by simp)) (heap_old _ (heap_new' _ _ (by simp)))]
 go_wp2_with fail
 refine wp_loop_rounds 1 ?_;rw[rounds_succ]
 go_wp2_with fail
 go_returns;exact⟨rfl,by go_grown⟩
theorem sortEdge0 (w:World)(f:Value):Calls prog 520 #[nilS,f] w λe w'=>e=.returned (.tuple #[])/\w=w':=by
 go_enter func520,ntmps520
 go_wp2_with (first|(go_at_call 335;refine(len0 _).mono ?_;rintro e w1 ⟨rfl,rfl⟩)|go_in)
 repeat(go_rounds 1)
 go_returns;exact⟨rfl,rfl⟩
abbrev zb24 :Array Value:=#[.bool false,.bool false,.bool false,.bool false,.bool false,.bool false,.bool false,.bool false,.bool false,.bool false,.bool false,.bool false,.bool false,.bool false,.bool false,.bool false,.bool false,.bool false,.bool false,.bool false,.bool false,.bool false,.bool false,.bool false]
theorem oneb24 :zb24.all (·.oneCell')=true:=by kernel_rfl
theorem sizeb24 :(prog.info? 400).map (·.size)=some zb24.size:=by kernel_rfl
theorem spanGrow0 (w:World):Calls prog 394 #[g0] w λe w'=>∃m,e=.returned (.tuple #[.map (some m),nilS])/\Below w.heap.size w w':=by
 have hmm:=@run_makeMap prog;have hmf:=mkf
 go_enter func394,ntmps394
 go_wp2_with fail
 refine wp_loop_rounds 1 ?_;rw[rounds_succ]
 go_wp2_with fail
 obtain⟨W0,cs,hW0,hcs,hn,hc0,hc28⟩:∃W0 cs,W0=(w.alloc (.cells #[nilS,nilS,nilS] 79)).alloc (.cells cs 658)/\cs=#[nilS,nilS,nilS,nilS,.int .i64 0,.int .i64 0,.int .i64 0,.int .i64 0,.int .i64 0,.int .i64 0,.int .i64 0,.int .i64 0,.int .i64 0,.int .i64 0,.int .i64 0,.int .i64 0,.int .i64 0,.int .i64 0,.int .i64 0,.int .i64 0,.int .i64 0,.int .i64 0,.int .i64 0,.int .i64 0,.int .i64 0,.int .i64 0,.int .i64 0,.int .i64 0,nilS]/\cs.size=29/\cs[0]?=some nilS/\cs[28]?=some nilS:=⟨_,_,rfl,rfl,rfl,rfl,rfl⟩;have hB0:Blk W0 (w.heap.size+1) 658 cs:=by rw[hW0];exact Blk.new2 _ _ _ _
 have hb0:Below w.heap.size w W0:=by rw[hW0];go_grown
 have HB0:=hid hB0;have HN:=hid hn;have HC0:=hid hc0;have HC28:=hid hc28;rw[<- hcs,<- hW0];clear hcs hW0 hB0 hn hc0 hc28;refine(sortEdge0 _ _).mono ?_;rintro e w1 ⟨rfl,rfl⟩
 go_wp2_with fail
 go_loopw [7,43] (λ_ i wr=>∃(k:Nat) (cs:Array Value),k<=24/\i=.int .i64 k/\Hid (Blk wr (w.heap.size+1) 658 cs)/\Hid (cs.size=29)/\Hid (cs[0]?=some nilS)/\Hid (cs[28]?=some nilS)/\Hid (Below w.heap.size w wr)) (λ_ i _=>24 - (intOf i).toNat)
 case atStart=>exact⟨0,cs,by omega,rfl,HB0,HN,HC0,HC28,hid hb0⟩
 case round =>
  obtain⟨k,cs,hk,rfl,hB,hn,hc0,hc28,hb⟩:=hrel
  by_cases hlt:k<24
  ·obtain⟨v,hv⟩:∃v,wr.cell? ⟨w.heap.size+1,4+k,none⟩=some v:=⟨cs[4+k]'(by rw[hn.out];omega),by rw[hB.out.cell];exact Array.getElem?_eq_getElem _⟩
   have hf:=hB.out.frozen (4+k);have S1:=hid (hB.out.set_ (4+k) (.int .i64 k));have S2:=hid (hb.out.setCell (p:=⟨w.heap.size+1,4+k,none⟩) (by simp) (.int .i64 k))
   go_wp2_with fail
   go_roundw
   case rel=>exact⟨k+1,_,by omega,by go_num,S1,by unfold Hid;simp only[Array.size_setIfInBounds];exact hn.out,by unfold Hid;rw[Array.getElem?_setIfInBounds_ne (by omega)];exact hc0.out,by unfold Hid;rw[Array.getElem?_setIfInBounds_ne (by omega)];exact hc28.out,S2⟩
   case measure=>simp[intOf];omega
  ·have hk24:k=24:=by omega
   subst hk24;have h0:=(hB.out.cell 0).trans hc0.out;have h28:=(hB.out.cell 28).trans hc28.out;have hlt:=hB.out.lt
   go_wp2_with (with_reducible refine wpList_store_last rfl 400 (.tmp 9) (.tmp 54) rfl zb24 _ rfl rfl (by simp) sizeb24 rfl oneb24 ?_)
   obtain⟨W0,hW0⟩:∃W0,W0=(wr.alloc (.map #[] 0)).alloc (.cells zb24 400):=⟨_,rfl⟩;have hB0:Below wr.heap.size wr W0:=by rw[hW0];go_grown
   have hz:wr.heap.size<=W0.heap.size:=hB0.size;rw[<- hW0];clear hW0
   go_loopw [55] (λi ws=>∃j:Nat,j<=6/\i=.int .i64 j/\Hid (Below wr.heap.size wr ws)) (λi _=>6 - (intOf i).toNat)
   case atStart=>exact⟨0,by omega,rfl,hid hB0⟩
   case round =>
    obtain⟨j,hj,rfl,hws⟩:=hrel;rename_i ws _;have k0:=(hws.out.cell (p:=⟨w.heap.size+1,0,none⟩) hlt).trans h0;have k28:=(hws.out.cell (p:=⟨w.heap.size+1,28,none⟩) hlt).trans h28
    by_cases hj6:j<6
    ·go_wp2_with fail
     refine(spanRound0 _ _ _ _ k0).mono ?_;rintro e w2 ⟨rfl,h2⟩;have S:=hid (hws.out.trans (h2.mono hws.out.size))
     go_wp2_with fail
     go_roundw
     case rel=>exact⟨j+1,by omega,by go_num,S⟩
     case measure=>simp[intOf];omega
    ·go_wp2_with fail
     go_quiet (fail)
     go_wp2_with fail
     go_ret2;exact⟨_,rfl,belowN (hb.out.trans (hws.out.mono hb.out.size))⟩
theorem span0 (w:World):Calls prog 309 #[g0] w λe w'=>e=.returned (.tuple #[nilS,.int .i64 0])/\Below w.heap.size w w':=by
 obtain⟨W0,hW0⟩:∃W0,W0=w.alloc (.cells #[nilS,nilS,nilS] 79):=⟨_,rfl⟩;have hb0:Below w.heap.size w W0:=by rw[hW0];go_grown
 have hB0:Blk W0 w.heap.size 79 #[nilS,nilS,nilS]:=by rw[hW0];exact Blk.new _ _ _
 have HW0:=hid hW0;clear hW0;obtain⟨b0,b1,b2⟩:=hB0.three
 go_enter func309,ntmps309
 go_wp2_with fail
 rw[<- HW0.out];refine(valid0 _).mono ?_;rintro e w1 ⟨rfl,h1⟩;have hB1:=hB0.below h1 hB0.lt;have hb1:=hb0.trans (h1.mono hb0.size);clear b0 b1 b2;obtain⟨b0,b1,b2⟩:=hB1.three
 go_wp2_with fail
 refine(spanGrow0 _).mono ?_;rintro e w2 ⟨m,rfl,h2⟩;have hB2:=hB1.below h2 hB1.lt;have hb2:=hb1.trans (h2.mono hb1.size);clear b0 b1 b2;obtain⟨b0,b1,b2⟩:=hB2.three
 go_wp2_with fail
 refine wp_loop_rounds 1 ?_;rw[rounds_succ]
 go_wp2_with fail
 go_ret2;exact⟨rfl,hb2⟩
end
section
open Go.RowKit
theorem forestGrow0 (w:World):Calls prog 369 #[g0] w λe w'=>∃m,e=.returned (.map (some m))/\Below w.heap.size w w':=by
 have hmm:=@run_makeMap prog
 go_enter func369,ntmps369
 go_wp2;go_step3;go_wp2
 repeat(go_rounds 1)
 go_step3;go_wp2;rw[run_range_map (P:=prog) _ 489 _ _ _ #[] 0 underlying489 (heap_new' _ _ (by simp))];go_wp2;refine wp_loop_rounds 1 ?_;rw[rounds_succ];go_wp2;rw[next_map0 _ _ _ _ _ _ _ (heap_new' _ _ (by simp)) (heap_old _ (heap_new' _ _ (by simp)))];go_wp2;rw[Exit.noGoto_ret];go_ret;exact⟨_,rfl,by go_grown⟩
theorem forest0 (w:World):Calls prog 300 #[g0] w λe w'=>e=.returned (.tuple #[nilS,.int .i64 0])/\Below w.heap.size w w':=by
 obtain⟨W0,hW0⟩:∃W0,W0=w.alloc (.cells #[nilS,nilS,nilS] 79):=⟨_,rfl⟩;have hb0:Below w.heap.size w W0:=by rw[hW0];go_grown
 have hB0:Blk W0 w.heap.size 79 #[nilS,nilS,nilS]:=by rw[hW0];exact Blk.new _ _ _
 have HW0:=hid hW0;clear hW0;obtain⟨b0,b1,b2⟩:=hB0.three
 go_enter func300,ntmps300
 go_wp2_with fail
 rw[<- HW0.out];refine(valid0 _).mono ?_;rintro e w1 ⟨rfl,h1⟩;have hB1:=hB0.below h1 hB0.lt;have hb1:=hb0.trans (h1.mono hb0.size);clear b0 b1 b2;obtain⟨b0,b1,b2⟩:=hB1.three
 go_wp2_with fail
 refine(forestGrow0 _).mono ?_;rintro e w2 ⟨m,rfl,h2⟩;have hB2:=hB1.below h2 hB1.lt;have hb2:=hb1.trans (h2.mono hb1.size);clear b0 b1 b2;obtain⟨b0,b1,b2⟩:=hB2.three;go_wp2
 repeat(go_rounds 1)
 go_ret2;exact⟨rfl,hb2⟩
theorem distCycles0 (w:World):Calls prog 384 #[g0] w λe w'=>∃m n,e=.returned (.tuple #[.map (some m),.map (some n)])/\Below w.heap.size w w':=by
 have hmm:=@run_makeMap prog
 go_enter func384,ntmps384
 go_wp2_with fail
 refine wp_loop_rounds 1 ?_;rw[rounds_succ]
 go_wp2_with fail
 refine wp_loop_rounds 1 ?_;rw[rounds_succ]
 go_wp2_with fail
 go_ret2;exact⟨_,_,rfl,by go_grown⟩
theorem dist0 (w:World):Calls prog 306 #[g0] w λe w'=>e=.returned (.tuple #[nilS,.int .i64 0])/\Below w.heap.size w w':=by
 obtain⟨W0,hW0⟩:∃W0,W0=w.alloc (.cells #[nilS,nilS,nilS] 79):=⟨_,rfl⟩;have hb0:Below w.heap.size w W0:=by rw[hW0];go_grown
 have hB0:Blk W0 w.heap.size 79 #[nilS,nilS,nilS]:=by rw[hW0];exact Blk.new _ _ _
 have HW0:=hid hW0;clear hW0;obtain⟨b0,b1,b2⟩:=hB0.three
 go_enter func306,ntmps306
 go_wp2_with fail
 rw[<- HW0.out];refine(valid0 _).mono ?_;rintro e w1 ⟨rfl,h1⟩;have hB1:=hB0.below h1 hB0.lt;have hb1:=hb0.trans (h1.mono hb0.size);clear b0 b1 b2;obtain⟨b0,b1,b2⟩:=hB1.three
 go_wp2_with fail
 refine(distCycles0 _).mono ?_;rintro e w2 ⟨m,n,rfl,h2⟩;have hB2:=hB1.below h2 hB1.lt;have hb2:=hb1.trans (h2.mono hb1.size);clear b0 b1 b2;obtain⟨b0,b1,b2⟩:=hB2.three;go_wp2
 repeat(go_rounds 1)
 go_outline;go_ret2;exact⟨rfl,hb2⟩
end
section
open Go.RowKit
abbrev zu24 :Array Value:=#[.int .u32 0,.int .u32 0,.int .u32 0,.int .u32 0,.int .u32 0,.int .u32 0,.int .u32 0,.int .u32 0,.int .u32 0,.int .u32 0,.int .u32 0,.int .u32 0,.int .u32 0,.int .u32 0,.int .u32 0,.int .u32 0,.int .u32 0,.int .u32 0,.int .u32 0,.int .u32 0,.int .u32 0,.int .u32 0,.int .u32 0,.int .u32 0]
theorem oneu24 :zu24.all (·.oneCell')=true:=by kernel_rfl
theorem sizeu24 :(prog.info? 632).map (·.size)=some zu24.size:=by kernel_rfl
theorem eqlu24 :∀w,(binOp .eql 632 (.agg zu24) (.agg zu24)).run prog w=.ok (.bool true) w:=λ_=>by kernel_rfl
theorem enters506 :∀args w,(callFunc 506 args).run prog w=.ok (.enter 506 args) w:=Go.Proofs.enters_of func506 (by kernel_rfl) rfl
theorem arcs0 (w:World):Calls prog 377 #[nilS] w λe w'=>∃b,e=.returned (.func (.func 506) #[] #[.pointer (some ⟨b,0,none⟩)])/\Blk w' b 77 #[nilS]/\w.heap.size<=b/\Below w.heap.size w w':=by
 have hmf:=mkf
 go_enter func377,ntmps377
 go_wp2;go_ret;exact⟨_,rfl,Blk.new _ _ _,by omega,by go_grown⟩
theorem arcsIter0 (w:World)(y:Value)(b:Nat)(hB:Blk w b 77 #[nilS]):Calls prog 506 #[y,.pointer (some ⟨b,0,none⟩)] w λe w'=>(∃v,e=.returned v)/\Below w.heap.size w w':=by
 have h0:=hB.cell 0;simp only[List.getElem?_toArray,List.getElem?_cons_zero]at h0
 go_enter func506,ntmps506
 go_wp2
 go_rounds 1
 go_returns;exact⟨⟨_,rfl⟩,by go_grown⟩
theorem reaches0 (w:World):Calls prog 503 #[g0] w λe w'=>e=.returned (.agg zu24)/\Below w.heap.size w w':=by
 have heq:=eqlu24;refine calls_of_marks func503 rfl ?_;simp only[ntmps503,List.size_toArray,List.length_cons,List.length_nil,Nat.reduceAdd,Nat.reduceSub,Array.replicate_succ,Array.replicate_zero,List.push_toArray,List.append_toArray,List.nil_append,List.cons_append];obtain⟨W0,hW0⟩:∃W0,W0=((w.alloc (.cells #[nilS,nilS,nilS] 79)).alloc (.cells zu24 632)).alloc (.cells zu24 632):=⟨_,rfl⟩;have hA0:Blk W0 w.heap.size 79 #[nilS,nilS,nilS]:=by rw[hW0];exact((Blk.new _ _ _).alloc _).alloc _
 have hB0:Blk W0 (w.heap.size+1) 632 zu24:=by rw[hW0];exact(Blk.new2 _ _ _ _).alloc _
 have hC0:Blk W0 (w.heap.size+1+1) 632 zu24:=by rw[hW0];exact heap_new' _ _ (by simp)
 have hb0:Below w.heap.size w W0:=by rw[hW0];go_grown
 obtain⟨a0,a1,a2⟩:=hA0.three
 go_wp2_with fail
 rw[<- hW0];have HB:=hid hB0;have HC:=hid hC0;have HA:=hid hA0;clear hW0 hB0 hC0 hA0;refine wp_loop_rounds 1 ?_;rw[rounds_succ]
 go_wp2_with fail
 refine wp_loop_rounds 1 ?_;rw[rounds_succ];have q1:∀o,(W0.alloc o).cell? ⟨w.heap.size,1,none⟩=some nilS:=λo=>(World.cell?_alloc_some W0 _ o (by rw[a1];rfl)).trans a1
 go_wp2_with (first
  | (with_reducible refine wpList_load_row rfl 632 (.tmp 3) rfl (w.heap.size+1+1) rfl 632 zu24 (0,0) _ HC.out.heap underlying632 rfl sizeu24 ?_)
  | (with_reducible refine wpList_store_last rfl 632 (.tmp 6) (.tmp 26) rfl zu24 _ rfl rfl rfl sizeu24 rfl oneu24 ?_))
 refine(arcs0 _).mono ?_;rintro e w1 ⟨b,rfl,hb,hlb,h1⟩
 go_wp2_with fail
 refine wp_range_never rfl enters506 (λl W hW=>arcsIter0 W _ b (hb.below hW hb.lt)) ?_;intro D W hD h2 hK;have hlt1:=hb.lt;have hA:=HA.out.lt;have hBl:=HB.out.lt;have hCl:=HC.out.lt;have hs1:=h1.size;simp only[World.size_alloc]at hs1;have hX:Below (W0.heap.size+1) (W0.alloc (.cells zu24 632)) W:=(h1.mono (by simp)).trans (h2.mono (by omega));have HB2:=hid ((HB.out.alloc (.cells zu24 632)).below hX (by omega));have HC2:=hid ((HC.out.alloc (.cells zu24 632)).below hX (by omega));have HT2:=hid ((Blk.new W0 632 zu24).below hX (by omega));have HB3:=hid (HB2.out.setRow_same zu24);have HK:=hid ((setRow_other W (w.heap.size+1) D zu24 (by omega)).trans hK);have HW:=hid (below_setRow (hb0.trans (((Below.refl W0.heap.size W0).alloc (Nat.le_refl _) (.cells zu24 632)).trans ((hX.mono (by omega))) |>.mono hb0.size)) (g:=w.heap.size+1) (by omega) zu24);clear hX h1 h2 hK hb q1
 go_wp2_with (first
  | (with_reducible refine wpList_load_row rfl 632 (.tmp 3) rfl (w.heap.size+1+1) rfl 632 zu24 (0,0) _ HC2.out.heap underlying632 rfl sizeu24 ?_)
  | (with_reducible refine wpList_load_row rfl 632 (.tmp 6) rfl W0.heap.size rfl 632 zu24 (0,0) _ HT2.out.heap underlying632 rfl sizeu24 ?_)
  | (with_reducible refine wpList_store_row rfl 632 (.tmp 2) (.tmp 45) rfl (w.heap.size+1) zu24 rfl rfl 632 zu24 HB2.out.heap sizeu24 rfl oneu24 ?_))
 exact leaves_mark HK.out (results_cell_row rfl _ _ (w.heap.size+1) 632 zu24 (0,0) _ rfl (HB3.out.putObj (by omega) _).heap underlying632 rfl sizeu24) ⟨rfl,below_putObj HW.out (by omega) _⟩
end
section
open Go.RowKit
noncomputable abbrev fin0:Array Value:=((Tryz.zeroCells497.setIfInBounds 0 nilS).setIfInBounds 1 nilS).setIfInBounds 2 nilS
theorem wpList_load_midA {P:Program}{ops:Array Oper}{rest:List Oper}{o:Oper}{a:Act}{w:World}{Q:Exit->Act->World->Prop}(hgd:o.guard=none)(ty:TypeId)(x:Operand)(ho:o.op=.load ty x)
 (b i:Nat) (hx:a.eval x=.pointer (some ⟨b,i,none⟩)) (cs:Array Value) (d:TypeDesc) (hc:w.rangeAt b i cs.toList)
 (hu:P.underlying ty=some d) (hd:d.isRow=true) (hi:(P.info? ty).map (·.size)=some cs.size)
 (h:wpList P ops Q rest (a.put o.dst (.agg cs)) w):wpList P ops Q (o::rest) a w :=
 wpList_load_mid hgd ty x ho b i hx cs.toList d hc hu hd (by simpa using hi) (by simpa using h)
theorem fin_rank :fin0.extract 27 (27+24)=z24:=by kernel_rfl
theorem fin0_0 :fin0[0]?=some nilS:=by kernel_rfl
theorem fin0_1 :fin0[1]?=some nilS:=by kernel_rfl
theorem fin_range {w:World}{p:Nat}(h:Blk w p 497 fin0):w.rangeAt p 27 z24.toList:=by have:=World.rangeAt_of_block h 27 24;rwa [fin_rank]at this
theorem ranks0 (w:World)(p:Nat)(hF:Blk w p 497 fin0):Calls prog 505 #[.pointer (some ⟨p,0,none⟩)] w λe w'=>e=.returned (.agg z24)/\Below w.heap.size w w':=by
 have hp:=hF.lt;refine calls_of_marks func505 rfl ?_;simp only[ntmps505,List.size_toArray,List.length_cons,List.length_nil,Nat.reduceAdd,Nat.reduceSub,Array.replicate_succ,Array.replicate_zero,List.push_toArray,List.append_toArray,List.nil_append,List.cons_append];obtain⟨W0,hW0⟩:∃W0,W0=(w.alloc (.cells #[.pointer (some ⟨p,0,none⟩)] 492)).alloc (.cells z24 494):=⟨_,rfl⟩;have hA0:Blk W0 w.heap.size 492 #[.pointer (some ⟨p,0,none⟩)]:=by rw[hW0];exact(Blk.new _ _ _).alloc _
 have hB0:Blk W0 (w.heap.size+1) 494 z24:=by rw[hW0];exact Blk.new2 _ _ _ _
 have hb0:Below w.heap.size w W0:=by rw[hW0];go_grown
 have hF0:Blk W0 p 497 fin0:=hF.below hb0 hp;have hs0:w.heap.size+2<=W0.heap.size:=by rw[hW0];simp
 have HR:=hid ((fin_range hF0))
 go_upto_region 1 with (fail)
 rw[<- hW0];have a0:=hA0.cell 0;have f1:=(hF0.cell 1).trans fin0_1;have a0':∀o,(W0.alloc o).cell? ⟨w.heap.size,0,none⟩=some (.pointer (some ⟨p,0,none⟩)):=λo=>(World.cell?_alloc_some W0 _ o (by rw[a0];rfl)).trans a0
 have f1':∀o,(W0.alloc o).cell? ⟨p,1,none⟩=some nilS:=λo=>(World.cell?_alloc_some W0 _ o (by rw[f1];rfl)).trans f1
 have HA:=hid hA0;have HB:=hid hB0;have HF:=hid hF0;clear hA0 hB0 hF0 hF hW0
 go_wp2_with (first
  | (with_reducible refine wpList_load_midA rfl 494 (.tmp 11) rfl p 27 rfl z24 _ HR.out underlying494 rfl size24 ?_)
  | (with_reducible refine wpList_store_last rfl 494 (.tmp 3) (.tmp 12) rfl z24 _ rfl rfl rfl size24 rfl one24 ?_))
 refine(arcs0 _).mono ?_;rintro e w1 ⟨b,rfl,hb,hlb,h1⟩
 go_wp2_with fail
 refine wp_range_never rfl enters506 (λl W hW=>arcsIter0 W _ b (hb.below hW hb.lt)) ?_;intro D W hD h2 hK;have hlt1:=hb.lt;have hs1:=h1.size;simp only[World.size_alloc]at hs1;have hX:Below (W0.heap.size+1) (W0.alloc (.cells z24 494)) W:=(h1.mono (by simp)).trans (h2.mono (by omega));have HB2:=hid ((HB.out.alloc (.cells z24 494)).below hX (by omega));have HT2:=hid ((Blk.new W0 494 z24).below hX (by omega));have HB3:=hid (HB2.out.setRow_same z24);have HK:=hid ((setRow_other W (w.heap.size+1) D z24 (by omega)).trans hK);have HW:=hid (below_setRow (hb0.trans (((Below.refl W0.heap.size W0).alloc (Nat.le_refl _) (.cells z24 494)).trans ((hX.mono (by omega))) |>.mono hb0.size)) (g:=w.heap.size+1) (by omega) z24);clear hX h1 h2 hK hb
 go_wp2_with (first
  | (with_reducible refine wpList_load_row rfl 494 (.tmp 3) rfl W0.heap.size rfl 494 z24 (0,0) _ HT2.out.heap underlying494 rfl size24 ?_)
  | (with_reducible refine wpList_store_row rfl 494 (.tmp 2) (.tmp 68) rfl (w.heap.size+1) z24 rfl rfl 494 z24 HB2.out.heap size24 rfl one24 ?_))
 exact leaves_mark HK.out (results_cell_row rfl _ _ (w.heap.size+1) 494 z24 (0,0) _ rfl (HB3.out.putObj (by omega) _).heap underlying494 rfl size24) ⟨rfl,below_putObj HW.out (by omega) _⟩
end
section
open Go.RowKit
theorem all_set {cs:Array Value}{p:Value->Bool}(h:cs.all p=true){v:Value}(hv:p v=true)(i:Nat):(cs.setIfInBounds i v).all p=true:=by
 rw[Array.all_eq_true_iff_forall_mem]at *;intro x hx;rcases Array.mem_or_eq_of_mem_setIfInBounds hx with h1|h1
 ·exact h x h1
 ·rw[h1];exact hv
def Row24 (cs:Array Value):Prop:=cs.size=24/\cs.all (·.oneCell')=true
theorem Row24.size {cs:Array Value}(h:Row24 cs):(prog.info? 494).map (·.size)=some cs.size:=by rw[h.1];exact size24
theorem Row24.one {cs:Array Value}(h:Row24 cs):cs.all (·.oneCell')=true:=h.2
theorem row24_z :Row24 z24:=⟨rfl,one24⟩
theorem Row24.set {cs:Array Value}(h:Row24 cs)(i:Nat)(n:Int):Row24 (cs.setIfInBounds i (.int .i64 n)):=⟨by rw[Array.size_setIfInBounds];exact h.1,all_set h.2 rfl i⟩
theorem search0 (w:World)(f:Value):Calls prog 375 #[nilS,f] w λe w'=>∃cs,e=.returned (.agg cs)/\Row24 cs/\Below w.heap.size w w':=by
 go_enter func375,ntmps375
 go_wp2_with fail
 have hB0:Blk (w.alloc (.cells z24 494)) w.heap.size 494 z24:=Blk.new _ _ _
 go_loopw [5,11] (λ_ i wr=>∃(k:Nat) (cs:Array Value),k<=24/\i=.int .i64 k/\Hid (Blk wr w.heap.size 494 cs)/\Hid (Row24 cs)/\Hid (Below w.heap.size w wr)) (λ_ i _=>24 - (intOf i).toNat)
 case atStart=>exact⟨0,_,by omega,rfl,hid hB0,hid row24_z,hid ((Below.refl _ _).alloc (Nat.le_refl _) _)⟩
 case round =>
  obtain⟨k,cs,hk,rfl,hB,hR,hb⟩:=hrel
  by_cases hlt:k<24
  ·obtain⟨v,hv⟩:∃v,wr.cell? ⟨w.heap.size,k,none⟩=some v:=⟨cs[k]'(by have:=hR.out.1;omega),by rw[hB.out.cell];exact Array.getElem?_eq_getElem _⟩
   have hf:=hB.out.frozen k;have S1:=hid (hB.out.set_ k (.int .i64 1048576));have S2:=hid (hb.out.setCell (p:=⟨w.heap.size,k,none⟩) (by simp) (.int .i64 1048576))
   go_wp2_with fail
   go_roundw
   case rel=>exact⟨k+1,_,by omega,by go_num,S1,hid (hR.out.set _ _),S2⟩
   case measure=>simp[intOf];omega
  ·go_wp2_with fail
   refine(cloneInt0 _).mono ?_;rintro e w1 ⟨rfl,rfl⟩;have HS:=hid (hB.out.setRow_same cs);have HW:=hid (below_setRow hb.out (g:=w.heap.size) (by omega) cs)
   go_wp2_with fail
   refine wp_loop_rounds 1 ?_;rw[rounds_succ]
   go_wp2_with fail
   refine wp_loop_rounds 1 ?_;rw[rounds_succ]
   go_wp2_with (first
    | (with_reducible refine wpList_load_row rfl 494 (.tmp 4) rfl w.heap.size rfl 494 cs (0,0) _ hB.out.heap underlying494 rfl hR.out.size ?_)
    | (with_reducible refine wpList_store_row rfl 494 (.tmp 4) (.tmp 60) rfl w.heap.size cs rfl rfl 494 cs hB.out.heap hR.out.size rfl hR.out.one ?_))
   exact bodyPost_ret (results_cell_row rfl _ _ w.heap.size 494 cs (0,0) _ rfl HS.out.heap underlying494 rfl hR.out.size) rfl ⟨cs,rfl,hR.out,HW.out⟩
end
section
open Go.RowKit
theorem _root_.Go.Loose.Facts.get {ops:Array Oper}{V:Nat->Option (Value->World->Prop)}{k:Nat}{o:Oper}{a:Act}{W:World}(h:Loose.Facts ops V k o a W)(i:Nat){oi:Oper}{Vi:Value->World->Prop}{d:Tmp}(hi:i<k)(ho:ops[i]?=some oi)(hv:V i=some Vi)(hd:oi.dst=some d)(hl:d∈o.looksAt ops)(hu:a.tmps.getD d undef≠undef):Vi (a.tmps.getD d undef) W :=
 (h i oi Vi d hi ho hv hd hl).resolve_left hu
def num (cs:Array Value)(i:Nat):Int:=intOf (cs.getD i undef)
def Nums (n:Nat)(cs:Array Value):Prop:=cs.size=n/\cs.all (·.oneCell')=true/\∀i,i<n->cs[i]?=some (.int .u32 (num cs i))
def Bytes (w:World)(b off n:Nat)(f:Nat->Int):Prop:=∀i,i<n->w.cell? ⟨b,off+i,none⟩=some (.int .u8 (f i))
abbrev z64 :Array Value:=#[.int .u32 0,.int .u32 0,.int .u32 0,.int .u32 0,.int .u32 0,.int .u32 0,.int .u32 0,.int .u32 0,.int .u32 0,.int .u32 0,.int .u32 0,.int .u32 0,.int .u32 0,.int .u32 0,.int .u32 0,.int .u32 0,.int .u32 0,.int .u32 0,.int .u32 0,.int .u32 0,.int .u32 0,.int .u32 0,.int .u32 0,.int .u32 0,.int .u32 0,.int .u32 0,.int .u32 0,.int .u32 0,.int .u32 0,.int .u32 0,.int .u32 0,.int .u32 0,.int .u32 0,.int .u32 0,.int .u32 0,.int .u32 0,.int .u32 0,.int .u32 0,.int .u32 0,.int .u32 0,.int .u32 0,.int .u32 0,.int .u32 0,.int .u32 0,.int .u32 0,.int .u32 0,.int .u32 0,.int .u32 0,.int .u32 0,.int .u32 0,.int .u32 0,.int .u32 0,.int .u32 0,.int .u32 0,.int .u32 0,.int .u32 0,.int .u32 0,.int .u32 0,.int .u32 0,.int .u32 0,.int .u32 0,.int .u32 0,.int .u32 0,.int .u32 0]
theorem Nums.set {n:Nat}{cs:Array Value}(h:Nums n cs)(i:Nat)(x:Int):Nums n (cs.setIfInBounds i (.int .u32 x)):=by
 refine⟨by rw[Array.size_setIfInBounds];exact h.1,all_set h.2.1 rfl i,λj hj=>?_⟩;have:=h.2.2 j hj
 by_cases hij:i=j
 ·subst hij
  have hlt:i<cs.size:=by rw[h.1];exact hj
  simp only[num,Array.getD_eq_getD_getElem?,Array.getElem?_setIfInBounds_self_of_lt hlt];rfl
 ·rw[Array.getElem?_setIfInBounds_ne hij,this]
  have hn:num (cs.setIfInBounds i (.int .u32 x)) j=num cs j:=by simp only[num,Array.getD_eq_getD_getElem?,Array.getElem?_setIfInBounds_ne hij]
  rw[hn]
theorem size64 :(prog.info? 242).map (·.size)=some 64:=by kernel_rfl
theorem Nums.one {n:Nat}{cs:Array Value}(h:Nums n cs):cs.all (·.oneCell')=true:=h.2.1
theorem Nums.at_ {n:Nat}{cs:Array Value}(h:Nums n cs){i:Nat}(hi:i<n):cs[i]?=some (.int .u32 (num cs i)):=h.2.2 i hi
theorem Nums.size64 {cs:Array Value}(h:Nums 64 cs):(prog.info? 242).map (·.size)=some cs.size:=by rw[h.1];exact Tw.size64
def word (f:Nat->Int)(k:Nat):Int:=bits BinOp.or IntKind.u32 (bits BinOp.or IntKind.u32 (bits BinOp.or IntKind.u32 (f (4*k)%4294967296*16777216%4294967296) (f (4*k+1)%4294967296*65536%4294967296)) (f (4*k+2)%4294967296*256%4294967296)) (f (4*k+3)%4294967296)
def sched1 (f:Nat->Int):Nat->Array Value
 | 0=>z64
 | k+1=>(sched1 f k).setIfInBounds k (.int .u32 (word f k))
def next (a b c d:Int):Int:=(a+bits BinOp.xor IntKind.u32 (mixF b [7,18]) (b / 8)+c+bits BinOp.xor IntKind.u32 (mixF d [17,19]) (d / 1024))%4294967296
def stepN (cs:Array Value)(n:Nat):Array Value:=cs.setIfInBounds n (.int .u32 (next (num cs (n - 16)) (num cs (n - 15)) (num cs (n - 7)) (num cs (n - 2))))
def sched2 (f:Nat->Int):Nat->Array Value
 | 0=>sched1 f 16
 | k+1=>stepN (sched2 f k) (16+k)
theorem sched2_succ (f:Nat->Int)(n:Nat)(h:16<=n):sched2 f (n+1 - 16)=stepN (sched2 f (n - 16)) n:=by
 obtain⟨k,rfl⟩:=Nat.exists_eq_add_of_le h;rw[show 16+k+1 - 16=k+1 from by omega,show 16+k - 16=k from by omega];rfl
theorem nums_z :Nums 64 z64:=by
 refine⟨rfl,by kernel_rfl,?_⟩;have:∀i:Fin 64,z64[i.val]?=some (.int .u32 (num z64 i.val)):=by
  intro i;have h:i.val<64:=i.isLt;have h1:∀n,n<64->z64[n]?=some (.int .u32 0):=by
   intro n hn;have:z64=Array.replicate 64 (.int .u32 0):=rfl;rw[this,Array.getElem?_replicate,if_pos hn]
  simp only[num,Array.getD_eq_getD_getElem?,h1 _ h];rfl
 exact λi hi=>this ⟨i,hi⟩
theorem nums_sched1 (f:Nat->Int):∀k,Nums 64 (sched1 f k)
 | 0=>nums_z
 | k+1=>(nums_sched1 f k).set _ _
theorem nums_sched2 (f:Nat->Int):∀k,Nums 64 (sched2 f k)
 | 0=>nums_sched1 f 16
 | k+1=>(nums_sched2 f k).set _ _
theorem sched_any (w:World)(b off:Nat)(f:Nat->Int)(hB:Bytes w b off 64 f)(hb:b<w.heap.size) :
 Calls prog 153 #[.slice (some ⟨b,off,none⟩) 64 64] w λe w'=>e=.returned (.agg (sched2 f 48))/\Below w.heap.size w w':=by
 have HB:=hid hB;clear hB
 go_enter func153,ntmps153
 go_wp2_with fail
 go_loopw [3,7] (λ_ i wr=>∃(k:Nat) (cs:Array Value),k<=16/\i=.int .i64 k/\Hid (Blk wr w.heap.size 242 cs)/\Hid (cs=sched1 f k)/\Hid (Below w.heap.size w wr)) (λ_ i _=>16 - (intOf i).toNat)
 case atStart=>exact⟨0,_,by omega,rfl,hid (Blk.new w 242 _),hid rfl,hid ((Below.refl _ _).alloc (Nat.le_refl _) _)⟩
 case round =>
  obtain⟨k,cs,hk,rfl,hC,hE,hW⟩:=hrel;have hN:Hid (Nums 64 cs):=hid (hE.out▸nums_sched1 f k)
  by_cases hlt:k<16
  ·have c0:=(hW.out.cell (p:=⟨b,off+4*k,none⟩) hb).trans (HB.out (4*k) (by omega))
   have c1:=(hW.out.cell (p:=⟨b,off+(4*k+1),none⟩) hb).trans (HB.out (4*k+1) (by omega));have c2:=(hW.out.cell (p:=⟨b,off+(4*k+2),none⟩) hb).trans (HB.out (4*k+2) (by omega));have c3:=(hW.out.cell (p:=⟨b,off+(4*k+3),none⟩) hb).trans (HB.out (4*k+3) (by omega));have d:=(hC.out.cell k).trans (hN.out.2.2 k (by omega));have hf:=hC.out.frozen k;have S1:=λx=>hid (hC.out.set_ k (.int .u32 x))
   have S2:=λx=>hid (hW.out.setCell (p:=⟨w.heap.size,k,none⟩) (by simp) (.int .u32 x))
   have L0:=Later.of c0;have L1:=Later.of c1;have L2:=Later.of c2;have L3:=Later.of c3;have LD:=Later.of d;have LF:=hC.out
   go_wp2_with fail
   refine Loose.wp_region_later [] 35 (by kernel_rfl) (by kernel_rfl) ?_;simp only[List.take_succ_cons,List.take_zero,List.drop_succ_cons,List.drop_zero]
   repeat(first|refine Loose.walk_skip rfl ?_|(refine Loose.walk_plain rfl rfl rfl λK h=>?_;go_big_quiet_op;refine h _ ?_;clear h K))
   refine Loose.walk_nil ?_;rintro U hU -;have HU:=hC.out.below hU hC.out.lt;have d:=(HU.cell k).trans (hN.out.2.2 k (by omega));have hf:=HU.frozen k;have S1:=λx=>hid (HU.set_ k (.int .u32 x))
   have S2:=λx=>hid ((hW.out.trans (hU.mono hW.out.size)).setCell (p:=⟨w.heap.size,k,none⟩) (by simp) (.int .u32 x))
   clear L0 L1 L2 L3 LD LF c0 c1 c2 c3 hU HU
   go_wp2_with fail
   go_roundw
   case rel=>exact⟨k+1,_,by omega,by go_num,S1 _,hid (by rw[hE.out];rfl),S2 _⟩
   case measure=>simp[intOf];omega
  ·have hk16:k=16:=by omega
   subst hk16
   go_wp2_with fail
   clear hN
   go_loopw [4,5,6] (λi _ _ wr=>∃(n:Nat) (cs:Array Value),16<=n/\n<=64/\i=.int .i64 n/\Hid (Blk wr w.heap.size 242 cs)/\Hid (cs=sched2 f (n - 16))/\Hid (Below w.heap.size w wr)) (λi _ _ _=>64 - (intOf i).toNat)
   case atStart=>exact⟨16,_,by omega,by omega,rfl,hC,hE,hW⟩
   case round =>
    obtain⟨n,cs,hl,hk,rfl,hC,hE,hW⟩:=hrel;have hN:Hid (Nums 64 cs):=hid (hE.out▸nums_sched2 f _)
    by_cases hlt:n<64
    ·have c0:=(hC.out.cell (n - 16)).trans (hN.out.2.2 (n - 16) (by omega))
     have c1:=(hC.out.cell (n - 15)).trans (hN.out.2.2 (n - 15) (by omega));have c2:=(hC.out.cell (n - 7)).trans (hN.out.2.2 (n - 7) (by omega));have c3:=(hC.out.cell (n - 2)).trans (hN.out.2.2 (n - 2) (by omega));have L0:=Later.of c0;have L1:=Later.of c1;have L2:=Later.of c2;have L3:=Later.of c3
     go_wp2_with fail
     refine Loose.wp_region_later [] 10 (by kernel_rfl) (by kernel_rfl) ?_;simp only[List.take_succ_cons,List.take_zero,List.drop_succ_cons,List.drop_zero]
     repeat(first|refine Loose.walk_skip rfl ?_|(refine Loose.walk_plain rfl rfl rfl λK h=>?_;go_big_quiet_op;refine h _ ?_;clear h K))
     refine Loose.walk_nil ?_;rintro U hU -;have HC:=hid (hC.out.below hU hC.out.lt);have HW:=hid (hW.out.trans (hU.mono hW.out.size));have hbU:w.heap.size<U.heap.size:=HC.out.lt;have c0:=(HC.out.cell (n - 16)).trans (hN.out.2.2 (n - 16) (by omega));have c2:=(HC.out.cell (n - 7)).trans (hN.out.2.2 (n - 7) (by omega));clear L0 L1 L2 L3 c1 c3 hU hW hC;have L0:=Later.of c0;have L2:=Later.of c2
     go_wp2_with fail
     refine Loose.wp_region_later [(6,.row U.heap.size 3 2 #[.int .i64 7,.int .i64 18]),(7,.is (.int .u32 (mixF (num cs (n - 15)) [7,18]))),(18,.row U.heap.size 3 2 #[.int .i64 17,.int .i64 19]),(19,.is (.int .u32 (mixF (num cs (n - 2)) [17,19])))] 25 (by kernel_rfl) (by kernel_rfl) ?_
     (simp only[List.take_succ_cons,List.take_zero,List.drop_succ_cons,List.drop_zero])
     (repeat(first|refine Loose.walk_skip rfl ?_|(refine Loose.walk_plain rfl rfl rfl λK h=>?_;go_big_quiet_op;refine h _ ?_;clear h K)))
     refine Loose.walk_loose rfl rfl (λW' hW' _=>Loose.loose_val (u:=.slice (some ⟨W'.heap.size,0,none⟩) 2 2) (W':=W'.alloc (.cells #[.int .i64 7,.int .i64 18] 3)) (by kernel_rfl) ((Below.refl _ _).alloc (Nat.le_refl _) _) ⟨_,rfl,hW'.size,Blk.new _ _ _⟩) ?_;rintro _ _ _ ⟨x,rfl,hx,_⟩
     (simp only[Act.put,List.setIfInBounds_toArray,List.set_cons_succ,List.set_cons_zero])
     (repeat(first|refine Loose.walk_skip rfl ?_|(refine Loose.walk_plain rfl rfl rfl λK h=>?_;go_big_quiet_op;refine h _ ?_;clear h K)))
     refine Loose.walk_loose rfl rfl (λW' hW' hF=>Loose.loose_call (f:=154) (args:=#[.int .u32 (num cs (n - 15)),.slice (some ⟨x,0,none⟩) 2 2]) (by kernel_rfl) ((mixed_any W' (num cs (n - 15)) [7,18] x (Loose.Pred.row_at (hF.get 6 (by decide) rfl rfl rfl (by decide) (by intro h;cases h))).2 (by decide) (by decide)).mono λe w' ⟨he,hb⟩=>⟨_,he,hb▸Below.refl _ _,rfl⟩)) ?_;rintro _ _ _ rfl
     (simp only[Act.put,List.setIfInBounds_toArray,List.set_cons_succ,List.set_cons_zero])
     (repeat(first|refine Loose.walk_skip rfl ?_|(refine Loose.walk_plain rfl rfl rfl λK h=>?_;go_big_quiet_op;refine h _ ?_;clear h K)))
     refine Loose.walk_loose rfl rfl (λW' hW' _=>Loose.loose_val (u:=.slice (some ⟨W'.heap.size,0,none⟩) 2 2) (W':=W'.alloc (.cells #[.int .i64 17,.int .i64 19] 3)) (by kernel_rfl) ((Below.refl _ _).alloc (Nat.le_refl _) _) ⟨_,rfl,hW'.size,Blk.new _ _ _⟩) ?_;rintro _ _ _ ⟨y,rfl,hy,_⟩
     (simp only[Act.put,List.setIfInBounds_toArray,List.set_cons_succ,List.set_cons_zero])
     (repeat(first|refine Loose.walk_skip rfl ?_|(refine Loose.walk_plain rfl rfl rfl λK h=>?_;go_big_quiet_op;refine h _ ?_;clear h K)))
     refine Loose.walk_loose rfl rfl (λW' hW' hF=>Loose.loose_call (f:=154) (args:=#[.int .u32 (num cs (n - 2)),.slice (some ⟨y,0,none⟩) 2 2]) (by kernel_rfl) ((mixed_any W' (num cs (n - 2)) [17,19] y (Loose.Pred.row_at (hF.get 18 (by decide) rfl rfl rfl (by decide) (by intro h;cases h))).2 (by decide) (by decide)).mono λe w' ⟨he,hb⟩=>⟨_,he,hb▸Below.refl _ _,rfl⟩)) ?_;rintro _ _ _ rfl
     (simp only[Act.put,List.setIfInBounds_toArray,List.set_cons_succ,List.set_cons_zero])
     (repeat(first|refine Loose.walk_skip rfl ?_|(refine Loose.walk_plain rfl rfl rfl λK h=>?_;go_big_quiet_op;refine h _ ?_;clear h K)))
     refine Loose.walk_nil ?_;rintro V hV -;have HV:=HC.out.below hV HC.out.lt;have d:=(HV.cell n).trans (hN.out.at_ hlt);have hf:=HV.frozen n;have S1:=λx=>hid (HV.set_ n (.int .u32 x))
     have S2:=λx=>hid ((HW.out.trans (hV.mono HW.out.size)).setCell (p:=⟨w.heap.size,n,none⟩) (by simp) (.int .u32 x))
     clear L0 L2 c0 c2 hV HV hx hy
     go_wp2_with fail
     go_roundw
     case rel=>exact⟨n+1,_,by omega,by omega,by go_num,S1 _,hid (by rw[sched2_succ f n hl,<- hE.out];rfl),S2 _⟩
     case measure=>simp[intOf];omega
    ·have hk48:n=64:=by omega
     subst hk48;have HS:=hid (hC.out.setRow_same cs);have HW:=hid (below_setRow hW.out (g:=w.heap.size) (by omega) cs)
     go_wp2_with (first
      | (with_reducible refine wpList_load_row rfl 242 (.tmp 2) rfl w.heap.size rfl 242 cs (0,0) _ hC.out.heap underlying242 rfl hN.out.size64 ?_)
      | (with_reducible refine wpList_store_row rfl 242 (.tmp 2) (.tmp 83) rfl w.heap.size cs rfl rfl 242 cs hC.out.heap hN.out.size64 rfl hN.out.one ?_))
     exact bodyPost_ret (results_cell_row rfl _ _ w.heap.size 242 cs (0,0) _ rfl HS.out.heap underlying242 rfl hN.out.size64) rfl ⟨congrArg (λx=>Ending.returned (.agg x)) hE.out,HW.out⟩
end
section
open Go.RowKit
structure But (p:Nat) (w w':World):Prop where
 os:w'.os=w.os
 tape:w'.tape=w.tape
 output:w'.output=w.output
 size:w.heap.size<=w'.heap.size
 block:∀k,k<w.heap.size->k≠p->w'.heap[k]?=w.heap[k]?
theorem But.of_below {p:Nat}{w w':World}(h:Below w.heap.size w w'):But p w w':=⟨h.os,h.tape,h.output,h.size,λk hk _=>h.block k hk⟩
theorem But.trans {p:Nat}{a b c:World}(h:But p a b)(k:But p b c):But p a c :=
 ⟨k.os.trans h.os,k.tape.trans h.tape,k.output.trans h.output,Nat.le_trans h.size k.size,λi hi hp=>(k.block i (Nat.lt_of_lt_of_le hi h.size) hp).trans (h.block i hi hp)⟩
theorem But.blk {p:Nat}{w w':World}(h:But p w w'){g:Nat}{t:TypeId}{cs:Array Value}(hB:Blk w g t cs)(hg:g≠p):Blk w' g t cs:=(h.block g hB.lt hg).trans hB
structure W8 where (a b c d e f g h:Int)
def W8.cells (x:W8):Array Value:=#[.int .u32 x.a,.int .u32 x.b,.int .u32 x.c,.int .u32 x.d,.int .u32 x.e,.int .u32 x.f,.int .u32 x.g,.int .u32 x.h]
def W8.of (cs:Array Value):W8:=⟨num cs 0,num cs 1,num cs 2,num cs 3,num cs 4,num cs 5,num cs 6,num cs 7⟩
theorem W8.of_cells {cs:Array Value}(h:Nums 8 cs):cs=(W8.of cs).cells:=by
 apply Array.ext_getElem?;intro i
 by_cases hi:i<8
 ·rw[h.at_ hi]
  have:∀i:Fin 8,some (Value.int .u32 (num cs i.val))=(W8.of cs).cells[i.val]?:=by
   intro i;rcases i with ⟨i,hi⟩
   match i,hi with
   | 0,_|1,_|2,_|3,_|4,_|5,_|6,_|7,_=>rfl
  exact this ⟨i,hi⟩
 ·rw[Array.getElem?_eq_none (by rw[h.1];omega),Array.getElem?_eq_none (by simp[W8.cells];omega)]
theorem W8.nums (x:W8):Nums 8 x.cells:=⟨rfl,by kernel_rfl,λi hi=>by
 match i,hi with
 | 0,_|1,_|2,_|3,_|4,_|5,_|6,_|7,_=>rfl⟩
theorem size8 :(prog.info? 181).map (·.size)=some 8:=by kernel_rfl
theorem Nums.size8 {cs:Array Value}(h:Nums 8 cs):(prog.info? 181).map (·.size)=some cs.size:=by rw[h.1];exact Tw.size8
def BlkA (w:World)(g:Nat)(cs:Array Value):Prop:=∃t,Blk w g t cs
theorem BlkA.lt {w:World}{g:Nat}{cs:Array Value}(h:BlkA w g cs):g<w.heap.size:=by obtain⟨_,h⟩:=h;exact h.lt
theorem BlkA.below {w w':World}{g B:Nat}{cs:Array Value}(h:BlkA w g cs)(hb:Below B w w')(hg:g<B):BlkA w' g cs:=by obtain⟨t,h⟩:=h;exact⟨t,h.below hb hg⟩
theorem BlkA.alloc {w:World}{g:Nat}{cs:Array Value}(h:BlkA w g cs)(o:Obj):BlkA (w.alloc o) g cs:=by obtain⟨t,h⟩:=h;exact⟨t,h.alloc o⟩
def Tab (w:World)(tab:Array Value):Prop:=BlkA w 0 tab/\Nums 64 tab
theorem z64_sizeE {cs:Array Value}(h:Nums 64 cs):z64.size=cs.size:=by rw[h.1];rfl
abbrev z8 :Array Value:=#[.int .u32 0,.int .u32 0,.int .u32 0,.int .u32 0,.int .u32 0,.int .u32 0,.int .u32 0,.int .u32 0]
theorem z8_sizeE {cs:Array Value}(h:Nums 8 cs):z8.size=cs.size:=by rw[h.1];rfl
theorem W8.at_ {w:World}{q:Nat}{x:W8}(h:Blk w q 181 x.cells):w.cell? ⟨q,0,none⟩=some (.int .u32 x.a)/\w.cell? ⟨q,1,none⟩=some (.int .u32 x.b)/\w.cell? ⟨q,2,none⟩=some (.int .u32 x.c)/\w.cell? ⟨q,3,none⟩=some (.int .u32 x.d) /\
 w.cell? ⟨q,4,none⟩=some (.int .u32 x.e)/\w.cell? ⟨q,5,none⟩=some (.int .u32 x.f)/\w.cell? ⟨q,6,none⟩=some (.int .u32 x.g)/\w.cell? ⟨q,7,none⟩=some (.int .u32 x.h) :=
 ⟨h.cell 0,h.cell 1,h.cell 2,h.cell 3,h.cell 4,h.cell 5,h.cell 6,h.cell 7⟩
def W8.t (x:W8)(k w:Int):Int:=(x.h+mixF x.e [6,11,25]+bits BinOp.xor IntKind.u32 (bits BinOp.and IntKind.u32 x.e x.f) (bits BinOp.and IntKind.u32 (bits BinOp.xor IntKind.u32 IntKind.u32.max x.e) x.g)+k+w)%4294967296
def W8.u (x:W8):Int:=(mixF x.a [2,13,22]+bits BinOp.xor IntKind.u32 (bits BinOp.xor IntKind.u32 (bits BinOp.and IntKind.u32 x.a x.b) (bits BinOp.and IntKind.u32 x.a x.c)) (bits BinOp.and IntKind.u32 x.b x.c))%4294967296
def W8.shift (x:W8):W8:=⟨x.a,x.a,x.b,x.c,x.d,x.e,x.f,x.g⟩
theorem copy8 {w:World}{q:Nat}{x:W8}(h:Blk w q 181 x.cells)(ty:TypeId):(Builtin.copy_ #[189,189] ty #[.slice (some ⟨q,1,none⟩) 7 7,.slice (some ⟨q,0,none⟩) 7 8]).run prog w=.ok (goInt 7) (w.setRow q x.shift.cells) :=
 run_copy_row (P:=prog) w 189 189 ty 179 q 1 7 7 ⟨q,0,none⟩ 7 8 x.cells 181 [.int .u32 x.a,.int .u32 x.b,.int .u32 x.c,.int .u32 x.d,.int .u32 x.e,.int .u32 x.f,.int .u32 x.g] underlying189 (by kernel_rfl) h rfl
  (λj v hj=>by
    have:j<7:=(List.getElem?_eq_some_iff.1 hj).1
    match j,this with
    | 0,_|1,_|2,_|3,_|4,_|5,_|6,_=>exact(h.cell _).trans hj)
  (by simp[W8.cells]) (λv hv=>by simp at hv;rcases hv with rfl|rfl|rfl|rfl|rfl|rfl|rfl<;>rfl)
def W8.step (x:W8)(k w:Int):W8:=⟨(x.t k w+x.u)%4294967296,x.a,x.b,x.c,(x.d+x.t k w)%4294967296,x.e,x.f,x.g⟩
def rounds8 (tab sc:Array Value)(x:W8):Nat->W8
 | 0=>x
 | k+1=>(rounds8 tab sc x k).step (num tab k) (num sc k)
def sumN (cs ds:Array Value):Nat->Array Value
 | 0=>cs
 | k+1=>(sumN cs ds k).setIfInBounds k (.int .u32 ((num (sumN cs ds k) k+num ds k)%4294967296))
theorem nums_sumN {cs:Array Value}(h:Nums 8 cs)(ds:Array Value):∀k,Nums 8 (sumN cs ds k)
 | 0=>h
 | k+1=>(nums_sumN h ds k).set _ _
def addF (tab:Array Value)(f:Nat->Int)(hs:Array Value):Array Value:=sumN hs (rounds8 tab (sched2 f 48) (W8.of hs) 64).cells 8
theorem nums_addF (tab:Array Value)(f:Nat->Int){hs:Array Value}(h:Nums 8 hs):Nums 8 (addF tab f hs):=nums_sumN h _ 8
theorem But.setCell {p:Nat}{w w':World}(h:But p w w')(i:Nat)(v:Value):But p w (w'.setCell ⟨p,i,none⟩ v) :=
 have hb:Below p w' (w'.setCell ⟨p,i,none⟩ v):=(Below.refl p w').setCell (p:=⟨p,i,none⟩) (Nat.le_refl _) v
 ⟨hb.os.trans h.os,hb.tape.trans h.tape,hb.output.trans h.output,Nat.le_trans h.size hb.size,λk hk hp=>(Below.heap_setCell w' ⟨p,i,none⟩ v k hp).trans (h.block k hk hp)⟩
theorem index_any {tab:Array Value}(h:Nums 64 tab)(k:Nat)(hk:k<64)(w:World):(Instr.index 242 (.agg tab) (.int .i64 k)).run prog w=.ok (.int .u32 (num tab k)) w:=by
 have ht:=h.at_ hk;simp[Instr.index,run_underlying underlying242,asIntOf,hk,ht,go_sem]
theorem add_any (w:World)(p b off:Nat)(f:Nat->Int)(hs tab:Array Value)(hT:Tab w tab)(hH:Blk w p 181 hs)(hN:Nums 8 hs)(hB:Bytes w b off 64 f)(hb:b<w.heap.size) :
 Calls prog 109 #[.pointer (some ⟨p,0,none⟩),.slice (some ⟨b,off,none⟩) 64 64] w λe w'=>e=.returned (.tuple #[])/\Blk w' p 181 (addF tab f hs)/\But p w w':=by
 have HB:=hid hB;have HH:=hid hH;have HN:=hid hN;have HT:=hid hT;have hp:=hH.lt;clear hB hH hN hT;have hM:=nums_sched2 f 48;have hz64:=z64_sizeE hM;have hz8:=z8_sizeE HN.out
 go_enter func109,ntmps109
 obtain⟨sc,hsc⟩:∃sc,sc=sched2 f 48:=⟨_,rfl⟩;have HS:=hid hsc;rw[<- hsc]at hM hz64;clear hsc
 go_wp2_with fail
 refine(sched_any _ b off f HB.out hb).mono ?_;rw[<- HS.out];rintro e w1 ⟨rfl,h1⟩
 go_upto_region 1 with (with_reducible refine wpList_store_last rfl 242 (.tmp 4) (.tmp 14) rfl sc _ rfl rfl rfl hM.size64 hz64 hM.one ?_)
 obtain⟨W1,hW1⟩:∃W1,W1=w1.alloc (.cells sc 242):=⟨_,rfl⟩;have hA1:Blk W1 w1.heap.size 242 sc:=by rw[hW1];exact Blk.new _ _ _
 have hb1:Below w.heap.size w W1:=by rw[hW1];exact h1.alloc h1.size _
 have hz1:w1.heap.size<W1.heap.size:=by rw[hW1];simp
 have HH1:=hid (HH.out.below hb1 hp);obtain⟨tT,hTT⟩:=(HT.out.1.below hb1 (by omega)).alloc (.cells hs 181);have HT1:=hid hTT;clear hTT;have hsT:=HT.out.2.size64;rw[<- hW1];clear hW1
 go_wp2_with (first
  | (with_reducible refine wpList_load_row rfl 181 (.tmp 16) rfl p rfl 181 hs (0,0) _ HH1.out.heap underlying181 rfl HN.out.size8 ?_)
  | (with_reducible refine wpList_store_last rfl 181 (.tmp 5) (.tmp 17) rfl hs _ rfl rfl rfl HN.out.size8 hz8 HN.out.one ?_)
  | (with_reducible refine wpList_load_row rfl 242 (.global 0) rfl 0 rfl tT tab (0,0) _ HT1.out.heap underlying242 rfl hsT ?_))
 obtain⟨W2,hW2⟩:∃W2,W2=W1.alloc (.cells hs 181):=⟨_,rfl⟩;have hA2:=hid (hA1.alloc (.cells hs 181));have hV2:=hid (Blk.new W1 181 hs);have hb2:Below w.heap.size w (W1.alloc (.cells hs 181)):=hb1.alloc hb1.size _;have hz2:W1.heap.size<(W1.alloc (.cells hs 181)).heap.size:=by simp
 rw[<- hW2]at hA2 hV2 hb2 hz2;rw[<- hW2];have HB2:=hid hb2;have hz0:=h1.size;clear hW2 hA1 hb1 HH1 HT1 hb2 h1;generalize W1.heap.size=q at *;generalize w1.heap.size=s at *;obtain⟨x0,hx0⟩:∃x0:W8,x0=W8.of hs:=⟨_,rfl⟩;have hV3:Hid (Blk W2 q 181 x0.cells):=hid (by rw[hx0,<- W8.of_cells HN.out];exact hV2.out);clear hV2
 go_loopw [19] (λi wr=>∃(k:Nat) (x:W8),k<=64/\i=.int .i64 k/\Hid (Blk wr q 181 x.cells)/\Hid (Below q W2 wr)/\Hid (x=rounds8 tab sc x0 k)) (λi _=>64 - (intOf i).toNat)
 case atStart=>exact⟨0,x0,by omega,rfl,hV3,hid (Below.refl _ _),hid rfl⟩
 case round =>
  clear hV3;obtain⟨k,x,hk,rfl,hV,hW,hX⟩:=hrel
  by_cases hlt:k<64
  ·have hix:=index_any HT.out.2 k hlt
   obtain⟨v0,v1,v2,v3,v4,v5,v6,v7⟩:=W8.at_ hV.out;have L0:=Later.of v0;have L4:=Later.of v4
   go_wp2_with fail
   refine Loose.wp_region_later [] 6 (by kernel_rfl) (by kernel_rfl) ?_
   (simp only[List.take_succ_cons,List.take_zero,List.drop_succ_cons,List.drop_zero])
   (repeat(first|refine Loose.walk_skip rfl ?_|(refine Loose.walk_plain rfl rfl rfl λK h=>?_;go_big_quiet_op;refine h _ ?_;clear h K)))
   refine Loose.walk_nil ?_;rintro U hU -;clear L0 L4;have hVU:=hid (hV.out.below hU hV.out.lt);have hWU:=hid (hW.out.trans (hU.mono (Nat.le_of_lt hV.out.lt)));clear v0 v1 v2 v3 v4 v5 v6 v7 hU hV hW;obtain⟨v0,v1,v2,v3,v4,v5,v6,v7⟩:=W8.at_ hVU.out;have hqs:=hVU.out.lt;have sk:=(((hA2.out.below hWU.out (by omega)).cell k).trans (hM.at_ hlt));have L5:=Later.of v5;have L6:=Later.of v6;have L7:=Later.of v7;have LS:=Later.of sk
   go_wp2_with fail
   refine Loose.wp_region_later [(3,.row U.heap.size 3 3 #[.int .i64 6,.int .i64 11,.int .i64 25]),(4,.is (.int .u32 (mixF x.e [6,11,25])))] 24 (by kernel_rfl) (by kernel_rfl) ?_
   (simp only[List.take_succ_cons,List.take_zero,List.drop_succ_cons,List.drop_zero])
   (repeat(first|refine Loose.walk_skip rfl ?_|(refine Loose.walk_plain rfl rfl rfl λK h=>?_;go_big_quiet_op;refine h _ ?_;clear h K)))
   refine Loose.walk_loose rfl rfl (λW' hW' _=>Loose.loose_val (u:=.slice (some ⟨W'.heap.size,0,none⟩) 3 3) (W':=W'.alloc (.cells #[.int .i64 6,.int .i64 11,.int .i64 25] 3)) (by kernel_rfl) ((Below.refl _ _).alloc (Nat.le_refl _) _) ⟨_,rfl,hW'.size,Blk.new _ _ _⟩) ?_;rintro _ _ _ ⟨y,rfl,hy,_⟩
   (simp only[Act.put,List.setIfInBounds_toArray,List.set_cons_succ,List.set_cons_zero])
   (repeat(first|refine Loose.walk_skip rfl ?_|(refine Loose.walk_plain rfl rfl rfl λK h=>?_;go_big_quiet_op;refine h _ ?_;clear h K)))
   (repeat(first|refine Loose.walk_skip rfl ?_|(refine Loose.walk_plain rfl rfl rfl λK h=>?_;go_big_quiet_op;refine h _ ?_;clear h K)))
   refine Loose.walk_loose rfl rfl (λW' hW' hF=>Loose.loose_call (f:=154) (args:=#[.int .u32 x.e,.slice (some ⟨y,0,none⟩) 3 3]) (by kernel_rfl) ((mixed_any W' x.e [6,11,25] y (Loose.Pred.row_at (hF.get 3 (by decide) rfl rfl rfl (by decide) (by intro h;cases h))).2 (by decide) (by decide)).mono λe w' ⟨he,hb⟩=>⟨_,he,hb▸Below.refl _ _,rfl⟩)) ?_;rintro _ _ _ rfl
   (simp only[Act.put,List.setIfInBounds_toArray,List.set_cons_succ,List.set_cons_zero])
   (repeat(first|refine Loose.walk_skip rfl ?_|(refine Loose.walk_plain rfl rfl rfl λK h=>?_;go_big_quiet_op;refine h _ ?_;clear h K)))
   refine Loose.walk_nil ?_;rintro U2 hU2 -;clear L5 L6 L7 LS v0 v1 v2 v3 v4 v5 v6 v7 sk hy;have hV2:=hid (hVU.out.below hU2 hVU.out.lt);have hW2:=hid (hWU.out.trans (hU2.mono (Nat.le_of_lt hqs)));clear hU2 hVU hWU;obtain⟨v0,v1,v2,v3,v4,v5,v6,v7⟩:=W8.at_ hV2.out;have L1:=Later.of v1;have L2:=Later.of v2
   go_wp2_with fail
   refine Loose.wp_region_later [(1,.row U2.heap.size 3 3 #[.int .i64 2,.int .i64 13,.int .i64 22]),(2,.is (.int .u32 (mixF x.a [2,13,22])))] 20 (by kernel_rfl) (by kernel_rfl) ?_
   (simp only[List.take_succ_cons,List.take_zero,List.drop_succ_cons,List.drop_zero])
   (repeat(first|refine Loose.walk_skip rfl ?_|(refine Loose.walk_plain rfl rfl rfl λK h=>?_;go_big_quiet_op;refine h _ ?_;clear h K)))
   refine Loose.walk_loose rfl rfl (λW' hW' _=>Loose.loose_val (u:=.slice (some ⟨W'.heap.size,0,none⟩) 3 3) (W':=W'.alloc (.cells #[.int .i64 2,.int .i64 13,.int .i64 22] 3)) (by kernel_rfl) ((Below.refl _ _).alloc (Nat.le_refl _) _) ⟨_,rfl,hW'.size,Blk.new _ _ _⟩) ?_;rintro _ _ _ ⟨z,rfl,hz,_⟩
   (simp only[Act.put,List.setIfInBounds_toArray,List.set_cons_succ,List.set_cons_zero])
   (repeat(first|refine Loose.walk_skip rfl ?_|(refine Loose.walk_plain rfl rfl rfl λK h=>?_;go_big_quiet_op;refine h _ ?_;clear h K)))
   refine Loose.walk_loose rfl rfl (λW' hW' hF=>Loose.loose_call (f:=154) (args:=#[.int .u32 x.a,.slice (some ⟨z,0,none⟩) 3 3]) (by kernel_rfl) ((mixed_any W' x.a [2,13,22] z (Loose.Pred.row_at (hF.get 1 (by decide) rfl rfl rfl (by decide) (by intro h;cases h))).2 (by decide) (by decide)).mono λe w' ⟨he,hb⟩=>⟨_,he,hb▸Below.refl _ _,rfl⟩)) ?_;rintro _ _ _ rfl
   (simp only[Act.put,List.setIfInBounds_toArray,List.set_cons_succ,List.set_cons_zero])
   (repeat(first|refine Loose.walk_skip rfl ?_|(refine Loose.walk_plain rfl rfl rfl λK h=>?_;go_big_quiet_op;refine h _ ?_;clear h K)))
   refine Loose.walk_nil ?_;rintro U3 hU3 -;have hq3:=hV2.out.lt;clear L1 L2 v0 v1 v2 v3 v4 v5 v6 v7 hz;have hV3:=hid (hV2.out.below hU3 hq3);have hW3:=hid (hW2.out.trans (hU3.mono (Nat.le_of_lt hq3)));clear hU3 hV2 hW2;obtain⟨v0,v1,v2,v3,v4,v5,v6,v7⟩:=W8.at_ hV3.out;have hf:=hV3.out.frozen
   go_wp2_with fail
   have e1:(x.h+mixF x.e [6,11,25]+bits BinOp.xor IntKind.u32 (bits BinOp.and IntKind.u32 x.e x.f) (bits BinOp.and IntKind.u32 (bits BinOp.xor IntKind.u32 IntKind.u32.max x.e) x.g)+num tab k+num sc k)%4294967296=x.t (num tab k) (num sc k):=rfl;have e2:(mixF x.a [2,13,22]+bits BinOp.xor IntKind.u32 (bits BinOp.xor IntKind.u32 (bits BinOp.and IntKind.u32 x.a x.b) (bits BinOp.and IntKind.u32 x.a x.c)) (bits BinOp.and IntKind.u32 x.b x.c))%4294967296=x.u:=rfl;rw[e1,e2];clear e1 e2 v0 v1 v2 v3 v4 v5 v6 v7;refine Loose.wp_region_later [] 2 (by kernel_rfl) (by kernel_rfl) ?_
   (simp only[List.take_succ_cons,List.take_zero,List.drop_succ_cons,List.drop_zero])
   (repeat(first|refine Loose.walk_skip rfl ?_|(refine Loose.walk_plain rfl rfl rfl λK h=>?_;go_big_quiet_op;refine h _ ?_;clear h K)))
   refine Loose.walk_nil ?_;rintro U4 hU4 -;have hV4:=hid (hV3.out.below hU4 hV3.out.lt);have hW4:=hid (hW3.out.trans (hU4.mono (Nat.le_of_lt hV3.out.lt)));have hcp:=copy8 hV4.out;have hV5:=hV4.out.setRow_same x.shift.cells;have HV5:=hid hV5;have HW5:=hid (below_setRow hW4.out (Nat.le_refl _) x.shift.cells);have c0:(U4.setRow q x.shift.cells).cell? ⟨q,0,none⟩=some (.int .u32 x.a):=hV5.cell 0;have c4:(U4.setRow q x.shift.cells).cell? ⟨q,4,none⟩=some (.int .u32 x.d):=hV5.cell 4;have f0:=hV5.frozen 0;have f4:=hV5.frozen 4;clear hV5 hf hU4 hV3 hW3 hV4;obtain⟨W5,hW5⟩:∃W5,W5=U4.setRow q x.shift.cells:=⟨_,rfl⟩;rw[<- hW5]at hcp HV5 HW5 c0 c4 f0 f4;clear hW5;have S1:=λa b=>hid ((HV5.out.set_ 0 (.int .u32 a)).set_ 4 (.int .u32 b))
   have S2:=λa b=>hid (((HW5.out.setCell (p:=⟨q,0,none⟩) (Nat.le_refl _) (.int .u32 a))).setCell (p:=⟨q,4,none⟩) (Nat.le_refl _) (.int .u32 b))
   go_wp2_with fail
   go_roundw
   case rel=>exact⟨k+1,x.step (num tab k) (num sc k),by omega,by go_num,S1 _ _,S2 _ _,hid (by rw[hX.out];rfl)⟩
   case measure=>simp[intOf];omega
  ·have hk64:k=64:=by omega
   subst hk64;have hqs:=hV.out.lt;have hHp:Hid (Blk wr p 181 hs):=hid (((HH.out.below HB2.out hp).below hW.out (by omega)));have hBp:Hid (But p w wr):=hid (But.of_below (HB2.out.trans (hW.out.mono (by omega))))
   go_wp2_with fail
   clear hW hk
   go_loopw [82] (λi wr=>∃(k:Nat) (cs:Array Value),k<=8/\i=.int .i64 k/\Hid (Blk wr q 181 x.cells)/\Hid (Blk wr p 181 cs)/\Hid (cs=sumN hs x.cells k)/\Hid (But p w wr)) (λi _=>8 - (intOf i).toNat)
   case atStart=>exact⟨0,_,by omega,rfl,hV,hHp,hid rfl,hBp⟩
   case round =>
    clear hV hHp hBp;obtain⟨k,cs,hk,rfl,hV,hP,hE,hO⟩:=hrel;have hN:Hid (Nums 8 cs):=hid (hE.out▸nums_sumN HN.out _ _)
    by_cases hlt:k<8
    ·have c0:=(hV.out.cell k).trans (x.nums.at_ hlt)
     have c1:=(hP.out.cell k).trans (hN.out.at_ hlt);have hf:=hP.out.frozen k
     go_wp2_with fail
     have L0:=Later.of c0;have L1:=Later.of c1;refine Loose.wp_region_later [] 11 (by kernel_rfl) (by kernel_rfl) ?_
     (simp only[List.take_succ_cons,List.take_zero,List.drop_succ_cons,List.drop_zero])
     (repeat(first|refine Loose.walk_skip rfl ?_|(refine Loose.walk_plain rfl rfl rfl λK h=>?_;go_big_quiet_op;refine h _ ?_;clear h K)))
     refine Loose.walk_nil ?_;rintro U hU -;have HVU:=hid (hV.out.below hU hV.out.lt);have HPU:=hP.out.below hU hP.out.lt;have d:=(HPU.cell k).trans (hN.out.at_ hlt);have hf:=HPU.frozen k;have S1:=λy=>hid (HPU.set_ k (.int .u32 y))
     have S2:=λy=>hid (HVU.out.far (p:=⟨p,k,none⟩) (by simp;omega) (.int .u32 y))
     have S3:=λy=>hid ((hO.out.trans (But.of_below hU)).setCell k (.int .u32 y))
     clear L0 L1 c0 c1 hU HPU HVU
     go_wp2_with fail
     go_roundw
     case rel=>exact⟨k+1,_,by omega,by go_num,S2 _,S1 _,hid (by rw[hE.out];rfl),S3 _⟩
     case measure=>simp[intOf];omega
    ·have hk8:k=8:=by omega
     subst hk8
     go_wp2_with fail
     go_returns;exact⟨rfl,(by rw[hE.out,hX.out,HS.out,hx0]at hP;exact hP.out),hO.out⟩
end
section
open Go.RowKit
theorem index8 {tab:Array Value}(h:Nums 8 tab)(k:Nat)(hk:k<8)(w:World):(Instr.index 181 (.agg tab) (.int .i64 k)).run prog w=.ok (.int .u32 (num tab k)) w:=by
 have ht:=h.at_ hk;simp[Instr.index,run_underlying underlying181,asIntOf,hk,ht,go_sem]
abbrev z32 :Array Value:=#[.int .u8 0,.int .u8 0,.int .u8 0,.int .u8 0,.int .u8 0,.int .u8 0,.int .u8 0,.int .u8 0,.int .u8 0,.int .u8 0,.int .u8 0,.int .u8 0,.int .u8 0,.int .u8 0,.int .u8 0,.int .u8 0,.int .u8 0,.int .u8 0,.int .u8 0,.int .u8 0,.int .u8 0,.int .u8 0,.int .u8 0,.int .u8 0,.int .u8 0,.int .u8 0,.int .u8 0,.int .u8 0,.int .u8 0,.int .u8 0,.int .u8 0,.int .u8 0]
def out4 (x:Int):List Int:=[x / 16777216%256,x / 65536%256,x / 256%256,x%256]
def outB (hs:Array Value):Nat->List Int
 | 0=>[]
 | k+1=>outB hs k++out4 (num hs k)
theorem outB_len (hs:Array Value):∀k,(outB hs k).length=4*k
 | 0=>rfl
 | k+1=>by simp[outB,outB_len hs k,out4];omega
def OutAt (hs:Array Value)(k:Nat)(cs:Array Value):Prop:=cs.size=32/\∀j,j<4*k->cs[j]?=some (.int .u8 ((outB hs k).getD j 0))
theorem OutAt.step {hs:Array Value}{k:Nat}{cs:Array Value}(h:OutAt hs k cs)(hk:k<8)(x:Int)(hx:x=num hs k) :
 OutAt hs (k+1) ((((cs.setIfInBounds (4*k) (.int .u8 (x / 16777216%256))).setIfInBounds (4*k+1) (.int .u8 (x / 65536%256))).setIfInBounds (4*k+2) (.int .u8 (x / 256%256))).setIfInBounds (4*k+3) (.int .u8 (x%256))):=by
 subst hx;obtain⟨h1,h2⟩:=h;refine⟨by simp[h1],λj hj=>?_⟩;have hl:=outB_len hs k;simp only[outB,Array.getElem?_setIfInBounds,Array.size_setIfInBounds,h1]
 by_cases hj4:j<4*k
 ·rw[if_neg (by omega),if_neg (by omega),if_neg (by omega),if_neg (by omega),h2 j hj4]
  simp only[List.getD_eq_getElem?_getD];rw[List.getElem?_append_left (by omega)]
 ·simp only[List.getD_eq_getElem?_getD]
  rw[List.getElem?_append_right (by omega),hl];obtain⟨r,rfl⟩:=Nat.exists_eq_add_of_le (Nat.le_of_not_lt hj4);have hr:r<4:=by omega
  match r,hr with
  | 0,_=>rw[if_neg (by omega),if_neg (by omega),if_neg (by omega),if_pos (by omega),if_pos (by omega)];simp[out4]
  | 1,_=>rw[if_neg (by omega),if_neg (by omega),if_pos (by omega),if_pos (by omega)];simp[out4]
  | 2,_=>rw[if_neg (by omega),if_pos (by omega),if_pos (by omega)];simp[out4]
  | 3,_=>rw[if_pos (by omega),if_pos (by omega)];simp[out4]
theorem OutAt.cell {hs:Array Value}{k:Nat}{cs:Array Value}(h:OutAt hs k cs)(j:Nat)(hj:j<32):∃v,cs[j]?=some v:=⟨cs[j]'(by rw[h.1];exact hj),Array.getElem?_eq_getElem _⟩
theorem digest_any (w:World)(hs:Array Value)(hN:Nums 8 hs) :
 Calls prog 110 #[.agg hs] w λe w'=>e=.returned (.string (strOfNums (outB hs 8)))/\Below w.heap.size w w':=by
 have HN:=hid hN;clear hN;have hs8:=HN.out.size8;have hz8:=z8_sizeE HN.out;have hone:=HN.out.one
 go_enter func110,ntmps110
 have hB0:=hid (Blk.new w 181 hs);have hB1:Hid (Blk ((w.alloc (.cells hs 181)).alloc (.cells z32 245)) w.heap.size 181 hs):=hid (hB0.out.alloc _)
 go_wp2_with (with_reducible refine wpList_load_row rfl 181 (.tmp 1) rfl w.heap.size rfl 181 hs (0,0) _ hB1.out.heap underlying181 rfl hs8 ?_)
 go_loopw [8] (λi wr=>∃(k:Nat) (cs:Array Value),k<=8/\i=.int .i64 k/\Hid (Blk wr (w.heap.size+1) 245 cs)/\Hid (OutAt hs k cs)/\Hid (Below w.heap.size w wr)) (λi _=>8 - (intOf i).toNat)
 case atStart=>exact⟨0,z32,by omega,rfl,hid (Blk.new2 _ _ _ _),hid ⟨rfl,λj hj=>absurd hj (by omega)⟩,hid (by go_grown)⟩
 case round =>
  clear hB0 hB1;obtain⟨k,cs,hk,rfl,hC,hO,hW⟩:=hrel
  by_cases hlt:k<8
  ·have hix:=index8 HN.out k hlt
   obtain⟨v0,h0⟩:=hO.out.cell (4*k) (by omega);obtain⟨v1,h1⟩:=hO.out.cell (4*k+1) (by omega);obtain⟨v2,h2⟩:=hO.out.cell (4*k+2) (by omega);obtain⟨v3,h3⟩:=hO.out.cell (4*k+3) (by omega);have c0:=(hC.out.cell (4*k)).trans h0;have c1:=(hC.out.cell (4*k+1)).trans h1;have c2:=(hC.out.cell (4*k+2)).trans h2;have c3:=(hC.out.cell (4*k+3)).trans h3;have hf:=hC.out.frozen;obtain⟨x,hx⟩:∃x,x=num hs k:=⟨_,rfl⟩;have HX:=hid hx;rw[<- hx]at hix;clear hx h0 h1 h2 h3;have S1:=λa b c d=>hid ((((hC.out.set_ (4*k) (.int .u8 a)).set_ (4*k+1) (.int .u8 b)).set_ (4*k+2) (.int .u8 c)).set_ (4*k+3) (.int .u8 d))
   have S2:=λa b c d=>hid ((((hW.out.setCell (p:=⟨w.heap.size+1,4*k,none⟩) (by simp) (.int .u8 a)).setCell (p:=⟨w.heap.size+1,4*k+1,none⟩) (by simp) (.int .u8 b)).setCell (p:=⟨w.heap.size+1,4*k+2,none⟩) (by simp) (.int .u8 c)).setCell (p:=⟨w.heap.size+1,4*k+3,none⟩) (by simp) (.int .u8 d))
   go_wp2_with fail
   refine wp_loop_rounds 5 ?_
   iterate 5
    rw[rounds_succ]
    go_wp2_with fail
   go_roundw
   case rel=>exact⟨k+1,_,by omega,by go_num,S1 _ _ _ _,hid (hO.out.step hlt x HX.out),S2 _ _ _ _⟩
   case measure=>simp[intOf];omega
  ·have hk8:k=8:=by omega
   subst hk8;have hcv:=run_convert_bytes_arg (P:=prog) wr 129 5 underlying129 underlying5 (w.heap.size+1) 0 32 32 (outB hs 8) (outB_len hs 8) (λi hi=>by rw[Nat.zero_add];exact(hC.out.cell i).trans (hO.out.2 i (by omega))) 9 underlying9
   go_wp2_with fail
   go_ret;exact⟨rfl,hW.out⟩
end
end Go.Proofs.YtnehgpeelgjjhaaGreatDoor.Tw
