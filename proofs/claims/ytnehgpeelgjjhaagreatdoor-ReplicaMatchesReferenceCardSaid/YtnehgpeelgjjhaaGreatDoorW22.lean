/- Contracts of functions of the program, and plain laws, towards the laws of replicas. Joined of the texts: V3, V1, V4, V5, V6, V7, V10, V11, V15, V15b. -/
import Derived.Test.YtnehgpeelgjjhaaGreatDoorW21
import Derived.Test.YtnehgpeelgjjhaaGreatDoorW15
import Derived.Test.YtnehgpeelgjjhaaGreatDoorW16
import Derived.Test.YtnehgpeelgjjhaaGreatDoorW20
import Derived.Test.YtnehgpeelgjjhaaGreatDoorW19
import Derived.Test.YtnehgpeelgjjhaaGreatDoorW06
import Derived.ChangeKeysEq
import Derived.Test.YtnehgpeelgjjhaaGreatDoorW12
import Derived.Deep.DeepCutAuto
import Derived.Test.YtnehgpeelgjjhaaGreatDoorW18
import Derived.Test.YtnehgpeelgjjhaaGreatDoorW00
import Derived.Test.YtnehgpeelgjjhaaGreatDoorW08
import Derived.Handy
set_option linter.all false
set_option maxRecDepth 100000
set_option maxHeartbeats 12800000
open Go.Lib (hid)
namespace Go.Proofs.YtnehgpeelgjjhaaGreatDoor.Tw
open Go.Proofs.Tryz
section
open Go.RowKit Go.Shelf
attribute [local go_sem] Oper.semAt_some
theorem results_cells2 {P:Program}{fn:Func}{p q:Tmp}{ty ty2:TypeId}(h:fn.results=#[.cell p ty,.cell q ty2])(tmps:Array Value)(w:World)(g g2:Nat)(t t2:TypeId)(cs:Array Value)(v:Value)(d:TypeDesc)
 (hp:tmps.getD p undef=.pointer (some ⟨g,0,none⟩)) (hq:tmps.getD q undef=.pointer (some ⟨g2,0,none⟩)) (hg:Blk w g t cs) (hg2:Blk w g2 t2 #[v])
 (hu:P.underlying ty=some d) (hd:(match d with|.struct _|.array _ _=>true|_=>false)=true) (hi:(P.info? ty).map (·.size)=some cs.size) (hv:∀w:World,w.cell? ⟨g2,0,none⟩=some v->(loadVar ty2 ⟨g2,0,none⟩).run P w=.ok v w) :
 (results fn tmps).run P w=.ok (.tuple #[.agg cs,v]) w:=by
 have hp':tmps[p]?.getD undef=.pointer (some ⟨g,0,none⟩):=by simpa using hp
 have hq':tmps[q]?.getD undef=.pointer (some ⟨g2,0,none⟩):=by simpa using hq
 simp[results,h,hp',hq',asAddr,run_loadVar_row w g t ty cs (0,0) d hg.heap hu hd hi,hv w (hg2.cell 0)]
theorem size124 :(prog.info? 124).map (·.size)=some 18:=by kernel_rfl
def trust0 (tab:Array Value):Array Value:=#[.int .i64 0,.string (rootF tab [(63,hdr)]),.string ⟨#[]⟩,.string (rootF tab []),.string (rootF tab []),.string (rootF tab []),.string (rootF tab []),.string (rootF tab []),.string (rootF tab []),.string (rootF tab []),.int .i64 0,.int .i64 0,.int .i64 0,.int .i64 0,.int .i64 0,.int .i64 0,.int .i64 0,.int .i64 0]
abbrev zt18 :Array Value:=#[.int .i64 0,.string ⟨#[]⟩,.string ⟨#[]⟩,.string ⟨#[]⟩,.string ⟨#[]⟩,.string ⟨#[]⟩,.string ⟨#[]⟩,.string ⟨#[]⟩,.string ⟨#[]⟩,.string ⟨#[]⟩,.int .i64 0,.int .i64 0,.int .i64 0,.int .i64 0,.int .i64 0,.int .i64 0,.int .i64 0,.int .i64 0]
theorem zt_size :(prog.info? 124).map (·.size)=some zt18.size:=by kernel_rfl
theorem zt_one :zt18.all (·.oneCell')=true:=by kernel_rfl
theorem runTo {P:Program}{ops:Array Oper}{rest:List Oper}{o:Oper}{a:Act}{w:World}{Q:Exit->Act->World->Prop}(op:Op)(v:Value)(w':World)(hg:o.guard=none)(ho:o.op=op)(hrun:(execOp a.eval o).run P w=.ok (.value v) w')
 (h:wpList P ops Q rest (a.put o.dst v) w'):wpList P ops Q (o::rest) a w:=by
 refine wpList_plain hg λK hK=>?_
 unfold Oper.wp;rw[hrun];exact hK _ _ h
def zt18d :Array Value:=zt18
theorem ztd_size :(prog.info? 124).map (·.size)=some zt18d.size:=zt_size
theorem ztd_old :zt18d.size=zt18d.size:=rfl
theorem ztd_one :zt18d.all (·.oneCell')=true:=zt_one
abbrev tr18 (p r:ByteArray):Array Value:=#[.int .i64 0,.string p,.string ⟨#[]⟩,.string r,.string r,.string r,.string r,.string r,.string r,.string r,.int .i64 0,.int .i64 0,.int .i64 0,.int .i64 0,.int .i64 0,.int .i64 0,.int .i64 0,.int .i64 0]
def nineW (W:World)(s:Nat)(p r:ByteArray):World:=(((((((((W.setCell ⟨s,1,none⟩ (.string p)).setCell ⟨s,2,none⟩ (.string ⟨#[]⟩)).setCell ⟨s,3,none⟩ (.string r)).setCell ⟨s,4,none⟩ (.string r)).setCell ⟨s,5,none⟩ (.string r)).setCell ⟨s,6,none⟩ (.string r)).setCell ⟨s,7,none⟩ (.string r)).setCell ⟨s,8,none⟩ (.string r)).setCell ⟨s,9,none⟩ (.string r))
theorem nine_row {W:World}{s:Nat}(p r:ByteArray)(hS:Blk W s 124 zt18d):Blk (nineW W s p r) s 124 (tr18 p r):=by
 have h:=(((((((((hS.set_ 1 (.string p)).set_ 2 (.string ⟨#[]⟩)).set_ 3 (.string r)).set_ 4 (.string r)).set_ 5 (.string r)).set_ 6 (.string r)).set_ 7 (.string r)).set_ 8 (.string r)).set_ 9 (.string r));have e:(((((((((zt18d.setIfInBounds 1 (.string p)).setIfInBounds 2 (.string ⟨#[]⟩)).setIfInBounds 3 (.string r)).setIfInBounds 4 (.string r)).setIfInBounds 5 (.string r)).setIfInBounds 6 (.string r)).setIfInBounds 7 (.string r)).setIfInBounds 8 (.string r)).setIfInBounds 9 (.string r))=tr18 p r:=by kernel_rfl
 rw[e]at h;exact h
theorem nine_far {W:World}{s g:Nat}{t:TypeId}{cs:Array Value}(p r:ByteArray)(h:Blk W g t cs)(hg:g≠s):Blk (nineW W s p r) g t cs :=
 ((((((((h.far (p:=⟨s,1,none⟩) hg _).far (p:=⟨s,2,none⟩) hg _).far (p:=⟨s,3,none⟩) hg _).far (p:=⟨s,4,none⟩) hg _).far (p:=⟨s,5,none⟩) hg _).far (p:=⟨s,6,none⟩) hg _).far (p:=⟨s,7,none⟩) hg _).far (p:=⟨s,8,none⟩) hg _).far (p:=⟨s,9,none⟩) hg _
theorem nine_below {B:Nat}{A W:World}{s:Nat}(p r:ByteArray)(h:Below B A W)(hs:B<=s):Below B A (nineW W s p r) :=
 ((((((((h.setCell (p:=⟨s,1,none⟩) hs _).setCell (p:=⟨s,2,none⟩) hs _).setCell (p:=⟨s,3,none⟩) hs _).setCell (p:=⟨s,4,none⟩) hs _).setCell (p:=⟨s,5,none⟩) hs _).setCell (p:=⟨s,6,none⟩) hs _).setCell (p:=⟨s,7,none⟩) hs _).setCell (p:=⟨s,8,none⟩) hs _).setCell (p:=⟨s,9,none⟩) hs _
theorem nine_size (W:World)(s:Nat)(p r:ByteArray):(nineW W s p r).heap.size=W.heap.size:=by simp[nineW]
theorem rr_lit (r:ByteArray):rr r 7=#[.string ⟨#[]⟩,.string r,.string r,.string r,.string r,.string r,.string r,.string r]:=by kernel_rfl
def OI (w:World)(p r:ByteArray){β:Type}(_:β)(W:World):Prop:=Blk W (w.heap.size+4) 124 (tr18 p r)/\Blk W w.heap.size 79 #[nilS,nilS,nilS]/\Blk W (w.heap.size+2) 124 zt18/\Blk W (w.heap.size+3) 32 #[.int .i64 0]/\Below w.heap.size w W
theorem OI.own {w:World}{p r:ByteArray}{β:Type}{B:Nat}(hB:w.heap.size<=B):OwnFrom B (OI w p r (β:=β)):=by
 rintro s A C row ⟨h1,h2,h3,h4,h5⟩ hg hr;refine⟨blk_own B _ _ _ () A C row h1 hg hr,blk_own B _ _ _ () A C row h2 hg hr,blk_own B _ _ _ () A C row h3 hg hr,blk_own B _ _ _ () A C row h4 hg hr,?_⟩;refine⟨hg.os.trans h5.os,hg.tape.trans h5.tape,hg.output.trans h5.output,Nat.le_trans h5.size hg.size,λk hk=>?_⟩;have hnk:some k≠row:=λe=>by have:=(hr k e.symm).1;omega
 exact(hg.block k (Nat.lt_of_lt_of_le hk h5.size) hnk).trans (h5.block k hk)
attribute [local irreducible] rootF rr
theorem of0 (w:World)(tab:Array Value)(hT:Tab w tab):Calls prog 101 #[g0,cert0,.int .i64 0] w λe w'=>e=.returned (.tuple #[.agg (trust0 tab),.int .i64 0])/\Below w.heap.size w w':=by
 have HT:=hid hT;have ht0:=hT.1.lt;clear hT;obtain⟨W0,hW0⟩:∃W0,W0=(((w.alloc (.cells #[nilS,nilS,nilS] 79)).alloc (.cells nil8 167)).alloc (.cells zt18 124)).alloc (.cells #[.int .i64 0] 32):=⟨_,rfl⟩;have hA:=hid (show Blk W0 w.heap.size 79 #[nilS,nilS,nilS] by rw[hW0];exact(((Blk.new w 79 _).alloc _).alloc _).alloc _);have hC:=hid (show Blk W0 (w.heap.size+1) 167 nil8 by rw[hW0];exact((Blk.new2 w _ 167 nil8).alloc _).alloc _);have hR:=hid (show Blk W0 (w.heap.size+2) 124 zt18 by rw[hW0];exact(Blk.new' _ 124 zt18 (by simp)).alloc _);have hE:=hid (show Blk W0 (w.heap.size+3) 32 #[.int .i64 0] by rw[hW0];exact Blk.new' _ 32 _ (by simp));have hW:=hid (show Below w.heap.size w W0 by rw[hW0];exact((((Below.refl _ w).alloc (Nat.le_refl _) _).alloc (by simp) _).alloc (by simp;omega) _).alloc (by simp;omega) _);have hz:=show W0.heap.size=w.heap.size+4 by rw[hW0];simp
 have HZ0:=hid hz;refine calls_of_marks func101 rfl ?_;simp only[ntmps101,List.size_toArray,List.length_cons,List.length_nil,Nat.reduceAdd,Nat.reduceSub,Array.replicate_succ,Array.replicate_zero,List.push_toArray,List.append_toArray,List.nil_append,List.cons_append]
 go_upto_region 1 with (fail)
 rw[<- hW0];clear hW0 hz
 go_upto_region 2 with (first
  | (with_reducible refine runTo (.build 124 #[(0,.tmp 18)]) (.agg zt18d) _ rfl rfl (by kernel_rfl) ?_)
  | (with_reducible refine runTo (.alloc 124) (.pointer (some ⟨W0.heap.size,0,none⟩)) (W0.alloc (.cells zt18d 124)) rfl rfl (by kernel_rfl) ?_)
  | (with_reducible refine wpList_store_last rfl 124 (.tmp 8) (.tmp 19) rfl zt18d _ rfl rfl rfl ztd_size ztd_old ztd_one ?_))
 (simp only[Act.put,List.setIfInBounds_toArray,List.set_cons_succ,List.set_cons_zero])
 generalize Value.agg (#[.int .i64 0,.string ⟨#[]⟩,.string ⟨#[]⟩,.string ⟨#[]⟩,.string ⟨#[]⟩,.string ⟨#[]⟩,.string ⟨#[]⟩,.string ⟨#[]⟩,.string ⟨#[]⟩,.string ⟨#[]⟩,.int .i64 0,.int .i64 0,.int .i64 0,.int .i64 0,.int .i64 0,.int .i64 0,.int .i64 0,.int .i64 0]:Array Value)=z19;have hA1:=hid (hA.out.alloc (.cells zt18d 124));have hC1:=hid (hC.out.alloc (.cells zt18d 124));have hR1:=hid (hR.out.alloc (.cells zt18d 124));have hE1:=hid (hE.out.alloc (.cells zt18d 124));have hS1:=hid (Blk.new' W0 124 zt18d (show w.heap.size+4=_ from HZ0.out.symm));have hW1:=hid (hW.out.alloc hW.out.size (.cells zt18d 124));rw[show W0.heap.size=w.heap.size+4 from HZ0.out];generalize W0.alloc (.cells zt18d 124)=W1 at *;clear hA hC hR hE hW HZ0;obtain⟨a1,a2,a3⟩:=hA1.out.three
 go_wp2_with fail
 refine(pageRoot0 W1 tab (HT.out.below hW1.out ht0)).mono ?_;rintro e w2 ⟨rfl,h2⟩;have hA2:=hid (hA1.out.below h2 hA1.out.lt);have hC2:=hid (hC1.out.below h2 hC1.out.lt);have hR2:=hid (hR1.out.below h2 hR1.out.lt);have hE2:=hid (hE1.out.below h2 hE1.out.lt);have hS2:=hid (hS1.out.below h2 hS1.out.lt);have hW2:=hid (hW1.out.trans (h2.mono hW1.out.size));clear a1 a2 a3 h2 hA1 hC1 hR1 hE1 hS1 hW1;obtain⟨P0,hP0⟩:∃P0,P0=rootF tab [(63,hdr)]:=⟨_,rfl⟩;have HP0:=hid hP0;rw[<- hP0];clear hP0;have hz8:(prog.info? 167).map (·.size)=some nil8.size:=by kernel_rfl
 go_wp2_with (with_reducible refine ldB 167 (.tmp 4) (w.heap.size+1) nil8 hC2 underlying167 rfl hz8 rfl rfl rfl ?_)
 refine(roots0 w2 tab (HT.out.below hW2.out ht0)).mono ?_;rintro e w3 ⟨rfl,h3⟩;obtain⟨r,hr⟩:∃r,r=rootF tab []:=⟨_,rfl⟩;have HR:=hid hr;rw[<- hr,rr_lit r];clear hr;have zR:(prog.info? 121).map (·.size)=some (#[.string ⟨#[]⟩,.string r,.string r,.string r,.string r,.string r,.string r,.string r]:Array Value).size:=size121;have oR:em8.size=(#[.string ⟨#[]⟩,.string r,.string r,.string r,.string r,.string r,.string r,.string r]:Array Value).size:=rfl;have hR1:(#[.string ⟨#[]⟩,.string r,.string r,.string r,.string r,.string r,.string r,.string r]:Array Value).all (·.oneCell')=true:=by simp[Value.oneCell']
 have hA3:=hid ((hA2.out.below h3 hA2.out.lt).alloc (.cells #[.string ⟨#[]⟩,.string r,.string r,.string r,.string r,.string r,.string r,.string r] 121));have hC3:=hid ((hC2.out.below h3 hC2.out.lt).alloc (.cells #[.string ⟨#[]⟩,.string r,.string r,.string r,.string r,.string r,.string r,.string r] 121));have hR3:=hid ((hR2.out.below h3 hR2.out.lt).alloc (.cells #[.string ⟨#[]⟩,.string r,.string r,.string r,.string r,.string r,.string r,.string r] 121));have hE3:=hid ((hE2.out.below h3 hE2.out.lt).alloc (.cells #[.string ⟨#[]⟩,.string r,.string r,.string r,.string r,.string r,.string r,.string r] 121));have hS3:=hid ((hS2.out.below h3 hS2.out.lt).alloc (.cells #[.string ⟨#[]⟩,.string r,.string r,.string r,.string r,.string r,.string r,.string r] 121));have hSw:=hid (hS2.out.below h3 hS2.out.lt);have hAw:=hid (hA2.out.below h3 hA2.out.lt);have hRw:=hid (hR2.out.below h3 hR2.out.lt);have hEw:=hid (hE2.out.below h3 hE2.out.lt);have hT3:=hid (Blk.new w3 121 #[.string ⟨#[]⟩,.string r,.string r,.string r,.string r,.string r,.string r,.string r]);have hW3':=hW2.out.trans (h3.mono hW2.out.size);have hWw:=hid hW3';have hW3:=hid (hW3'.alloc hW3'.size (.cells #[.string ⟨#[]⟩,.string r,.string r,.string r,.string r,.string r,.string r,.string r] 121));have hz3:=h3.size;have hl2:=hS2.out.lt;have hg11:w.heap.size+4<w3.heap.size:=by omega
 clear h3 hA2 hC2 hR2 hE2 hS2 hW2 hW3' hz3 hl2
 go_upto_region 6 with (first
  | (with_reducible refine runTo (.alloc 121) (.pointer (some ⟨w3.heap.size,0,none⟩)) (w3.alloc (.cells em8 121)) rfl rfl (by kernel_rfl) ?_)
  | (with_reducible refine wpList_store_last rfl 121 (.tmp 11) (.tmp 28) rfl #[.string ⟨#[]⟩,.string r,.string r,.string r,.string r,.string r,.string r,.string r] _ rfl rfl rfl zR oR hR1 ?_))
 have hW5:Hid (Below w.heap.size w (w3.alloc (.cells #[.string ⟨#[]⟩,.string r,.string r,.string r,.string r,.string r,.string r,.string r] 121)).drew):=hid hW3.out.drew;have hD:Hid (Blk (w3.alloc (.cells #[.string ⟨#[]⟩,.string r,.string r,.string r,.string r,.string r,.string r,.string r] 121)).drew (w.heap.size+4) 124 zt18d):=hid hS3.out;have hTD:Hid (Blk (w3.alloc (.cells #[.string ⟨#[]⟩,.string r,.string r,.string r,.string r,.string r,.string r,.string r] 121)).drew w3.heap.size 121 #[.string ⟨#[]⟩,.string r,.string r,.string r,.string r,.string r,.string r,.string r]):=hid hT3.out;have c1:w3.cell? ⟨w.heap.size+4,1,none⟩=some (.string ⟨#[]⟩):=hSw.out.cell 1;have f1:=hSw.out.frozen 1;have c2:w3.cell? ⟨w.heap.size+4,2,none⟩=some (.string ⟨#[]⟩):=hSw.out.cell 2;have f2:=hSw.out.frozen 2;have c3:w3.cell? ⟨w.heap.size+4,3,none⟩=some (.string ⟨#[]⟩):=hSw.out.cell 3;have f3:=hSw.out.frozen 3;have c4:w3.cell? ⟨w.heap.size+4,4,none⟩=some (.string ⟨#[]⟩):=hSw.out.cell 4;have f4:=hSw.out.frozen 4;have c5:w3.cell? ⟨w.heap.size+4,5,none⟩=some (.string ⟨#[]⟩):=hSw.out.cell 5;have f5:=hSw.out.frozen 5;have c6:w3.cell? ⟨w.heap.size+4,6,none⟩=some (.string ⟨#[]⟩):=hSw.out.cell 6;have f6:=hSw.out.frozen 6;have c7:w3.cell? ⟨w.heap.size+4,7,none⟩=some (.string ⟨#[]⟩):=hSw.out.cell 7;have f7:=hSw.out.frozen 7;have c8:w3.cell? ⟨w.heap.size+4,8,none⟩=some (.string ⟨#[]⟩):=hSw.out.cell 8;have f8:=hSw.out.frozen 8;have c9:w3.cell? ⟨w.heap.size+4,9,none⟩=some (.string ⟨#[]⟩):=hSw.out.cell 9;have f9:=hSw.out.frozen 9;have d0:=hTD.out.cell 0;have d1:=hTD.out.cell 1;have d2:=hTD.out.cell 2;have d3:=hTD.out.cell 3;have d4:=hTD.out.cell 4;have d5:=hTD.out.cell 5;have d6:=hTD.out.cell 6;have d7:=hTD.out.cell 7;go_region;obtain⟨W6,hW6⟩:∃W6,W6=((nineW w3 (w.heap.size+4) P0 r).alloc (.cells #[.string ⟨#[]⟩,.string r,.string r,.string r,.string r,.string r,.string r,.string r] 121)).drew:=⟨_,rfl⟩;have hS6:Hid (Blk W6 (w.heap.size+4) 124 (tr18 P0 r)):=hid (by rw[hW6];exact((nine_row P0 r hSw.out).alloc _).drew);have hA6:Hid (Blk W6 w.heap.size 79 #[nilS,nilS,nilS]):=hid (by rw[hW6];exact((nine_far P0 r hAw.out (by omega)).alloc _).drew);have hR6:Hid (Blk W6 (w.heap.size+2) 124 zt18):=hid (by rw[hW6];exact((nine_far P0 r hRw.out (by omega)).alloc _).drew);have hE6:Hid (Blk W6 (w.heap.size+3) 32 #[.int .i64 0]):=hid (by rw[hW6];exact((nine_far P0 r hEw.out (by omega)).alloc _).drew);have hB6:Hid (Below w.heap.size w W6):=hid (by rw[hW6];exact((nine_below P0 r hWw.out (by omega)).alloc (by rw[nine_size];exact hWw.out.size) _).drew);have e6:=hW6;unfold nineW at e6;rw[<- e6];clear e6 hW6 hA3 hC3 hR3 hE3 hS3 hSw hAw hRw hEw hT3 hWw hW3 hW5 hD hTD c1 c2 c3 c4 c5 c6 c7 c8 c9 f1 f2 f3 f4 f5 f6 f7 f8 f9 d0 d1 d2 d3 d4 d5 d6 d7
 go_wp2_with fail
 refine(kinds0 W6).mono ?_;rintro e W7 ⟨rfl,rfl⟩
 go_wp2_with fail
 refine with_act ?_;intro b hb;refine wpIn_wide (n:=9).1 ?_;refine wpIn_rangeFunc_ownF (α:=Fin 7) (F:=Fence.wide) rfl (by omega) (gf:=203) (lb:=#[]) (by rw[hb];rfl) trivial (enters_of func203 (by kernel_rfl) rfl)
  (kinds_stops 8 (by omega) (λ_ _=>True) W7) (λ_ _=>trivial) (λ_ _ _ _ _ _ _ _=>trivial) (Below.refl _ _) (λ_=>rfl)
  (OI w P0 r) (λ_ _ _=>False) (OI.own hB6.out.size) (λ_ _ _ _ _ hs _ _=>hs) ⟨hS6.out,hA6.out,hR6.out,hE6.out,hB6.out⟩
  (λx=>{ tmps:=(b.tmps.setIfInBounds 50 (.int .i64 ((x.val+1:Nat):Int))).setIfInBounds 13 (.int .i64 ((x.val+1:Nat):Int)),defers:=[] }) ?assign ?body ?done ?stop
 case assign =>
  subst hb;intro l x W K hK;simp only[List.setIfInBounds_toArray,List.set_cons_succ,List.set_cons_zero]at hK
  gi_wp2
  exact hK
 case body =>
  subst hb;rintro l pre x W hI hlen;obtain⟨a1,a2,a3⟩:=hI.2.1.three;simp only[List.setIfInBounds_toArray,List.set_cons_succ,List.set_cons_zero]
  gi_wp2
  refine wpIn_loop_rounds 1 ?_;unfold Code.roundsIn
  gi_wp2
  exact⟨KeepsOthers.refl _,trivial,hI⟩
 case done =>
  subst hb;rintro D xs W hD rfl hI hK;have hS:=hid hI.1;have hR:=hid hI.2.2.1;have hE:=hid hI.2.2.2.1;have hB:=hid hI.2.2.2.2;obtain⟨T18,hT18⟩:∃T18,T18=tr18 P0 r:=⟨_,rfl⟩;have q1:(prog.info? 124).map (·.size)=some T18.size:=by rw[hT18];exact size124
  have q2:zt18.size=T18.size:=by rw[hT18];rfl
  have q3:T18.all (·.oneCell')=true:=by rw[hT18];simp[Value.oneCell']
  have HT18:=hid hT18;rw[<- hT18]at hS;have hE1:=hid (hE.out.setRow (r:=w.heap.size+2) (by omega) T18);have e1:=hE1.out.cell 0;have fe:=hE1.out.frozen 0;clear hT18 hI
  go_wp2_with (first
   | (with_reducible refine ldB 124 (.tmp 8) (w.heap.size+4) T18 hS underlying124 rfl q1 rfl rfl rfl ?_)
   | (with_reducible refine stB 124 (.tmp 6) (.tmp 83) (w.heap.size+2) T18 _ hR q1 q2 q3 rfl rfl rfl rfl ?_))
  have hl6:=hS6.out.lt;have hK1:((W.setRow (w.heap.size+2) T18).setCell ⟨w.heap.size+1+1+1,0,none⟩ (.int .i64 0)).heap[D]?=some (.deferred (some [])) :=
   (Below.heap_setCell _ ⟨w.heap.size+1+1+1,0,none⟩ _ D (by show D≠w.heap.size+1+1+1;omega)).trans ((setRow_other W (w.heap.size+2) D T18 (by omega)).trans hK)
  have hR2:=((hR.out.setRow_same T18).far (p:=⟨w.heap.size+1+1+1,0,none⟩) (by show w.heap.size+2≠w.heap.size+1+1+1;omega) (.int .i64 0)).putObj (r:=D) (by omega) (.deferred none);have hE2:=(hE1.out.set_ 0 (.int .i64 0)).putObj (r:=D) (by omega) (.deferred none);have hB2:=below_putObj ((below_setRow hB.out (g:=w.heap.size+2) (by omega) T18).setCell (p:=⟨w.heap.size+1+1+1,0,none⟩) (by show w.heap.size<=w.heap.size+1+1+1;omega) (.int .i64 0)) (g:=D) (by have:=hB6.out.size;omega) (.deferred none);refine leaves_mark hK1 (results_cells2 rfl _ _ (w.heap.size+2) (w.heap.size+3) 124 32 T18 (.int .i64 0) _ rfl rfl hR2 hE2 underlying124 rfl q1 (λw h=>by simp[go_sem,h])) ⟨?_,hB2⟩;rw[HT18.out,HP0.out,HR.out];rfl
 case stop=>intro D c' pre W _ _ h;exact h.elim
end
section
open Go.RowKit Go.Shelf
attribute [local irreducible] sumF
theorem size79 :(prog.info? 79).map (·.size)=some 3:=by kernel_rfl
theorem copyOf0 (w:World):Calls prog 99 #[g0] w λe w'=>e=.returned g0/\Below w.heap.size w w':=by
 have hA:Hid (Blk ((w.alloc (.cells #[nilS,nilS,nilS] 79)).alloc (.cells #[nilS,nilS,nilS] 79)) w.heap.size 79 #[nilS,nilS,nilS]):=hid ((Blk.new w 79 _).alloc _);have hB:Hid (Blk ((w.alloc (.cells #[nilS,nilS,nilS] 79)).alloc (.cells #[nilS,nilS,nilS] 79)) (w.heap.size+1) 79 #[nilS,nilS,nilS]):=hid (Blk.new2 _ _ _ _);have hW:Hid (Below w.heap.size w ((w.alloc (.cells #[nilS,nilS,nilS] 79)).alloc (.cells #[nilS,nilS,nilS] 79))):=hid (((Below.refl _ _).alloc (Nat.le_refl _) _).alloc (by simp) _);obtain⟨a1,a2,a3⟩:=hA.out.three;have L1:=Later.of a1;have L2:=Later.of a2;have L3:=Later.of a3
 go_enter func99,ntmps99
 go_wp2_with fail
 refine Loose.wp_region_later [(2,.is nilS),(5,.is nilS),(8,.is nilS)] 10 (by kernel_rfl) (by kernel_rfl) ?_
 (simp only[List.take_succ_cons,List.take_zero,List.drop_succ_cons,List.drop_zero])
 (repeat(first|refine Loose.walk_skip rfl ?_|(refine Loose.walk_plain rfl rfl rfl λK h=>?_;go_big_quiet_op;refine h _ ?_;clear h K)))
 refine Loose.walk_loose rfl rfl (λW' hW' hF=>Loose.loose_call (f:=140) (args:=#[nilS]) (by kernel_rfl) ((cloneVertex0 W').mono λe w' ⟨he,hb⟩=>⟨_,he,hb▸Below.refl _ _,rfl⟩)) ?_;rintro _ _ _ rfl
 (simp only[Act.put,List.setIfInBounds_toArray,List.set_cons_succ,List.set_cons_zero])
 (repeat(first|refine Loose.walk_skip rfl ?_|(refine Loose.walk_plain rfl rfl rfl λK h=>?_;go_big_quiet_op;refine h _ ?_;clear h K)))
 refine Loose.walk_loose rfl rfl (λW' hW' hF=>Loose.loose_call (f:=141) (args:=#[nilS]) (by kernel_rfl) ((cloneEdge0 W').mono λe w' ⟨he,hb⟩=>⟨_,he,hb▸Below.refl _ _,rfl⟩)) ?_;rintro _ _ _ rfl
 (simp only[Act.put,List.setIfInBounds_toArray,List.set_cons_succ,List.set_cons_zero])
 (repeat(first|refine Loose.walk_skip rfl ?_|(refine Loose.walk_plain rfl rfl rfl λK h=>?_;go_big_quiet_op;refine h _ ?_;clear h K)))
 refine Loose.walk_loose rfl rfl (λW' hW' hF=>Loose.loose_call (f:=47) (args:=#[nilS]) (by kernel_rfl) ((cloneInt0 W').mono λe w' ⟨he,hb⟩=>⟨_,he,hb▸Below.refl _ _,rfl⟩)) ?_;rintro _ _ _ rfl
 (simp only[Act.put,List.setIfInBounds_toArray,List.set_cons_succ,List.set_cons_zero])
 (repeat(first|refine Loose.walk_skip rfl ?_|(refine Loose.walk_plain rfl rfl rfl λK h=>?_;go_big_quiet_op;refine h _ ?_;clear h K)))
 refine Loose.walk_nil ?_;rintro U hU -;have HB:=hid (hB.out.below hU hB.out.lt);have HS:=hid (HB.out.setRow_same #[nilS,nilS,nilS]);have HW:=hid (below_setRow (hW.out.trans (hU.mono hW.out.size)) (g:=w.heap.size+1) (by omega) #[nilS,nilS,nilS]);have z1:(prog.info? 79).map (·.size)=some (#[nilS,nilS,nilS]:Array Value).size:=size79;have z2:(#[nilS,nilS,nilS]:Array Value).size=(#[nilS,nilS,nilS]:Array Value).size:=rfl;have z3:(#[nilS,nilS,nilS]:Array Value).all (·.oneCell')=true:=by kernel_rfl
 clear L1 L2 L3 hA hB hW a1 a2 a3 hU
 go_wp2_with (with_reducible refine stB 79 (.tmp 2) (.tmp 12) (w.heap.size+1) #[nilS,nilS,nilS] _ HB z1 z2 z3 rfl rfl rfl rfl ?_)
 exact bodyPost_ret (results_cell_row rfl _ _ (w.heap.size+1) 79 _ (0,0) _ rfl HS.out.heap underlying79 rfl z1) rfl ⟨rfl,HW.out⟩
def digG (tab:Array Value):ByteArray:=strOfNums (sumF tab (strOfNums [0]++⟨encG.toArray⟩))
theorem encG_size :(⟨encG.toArray⟩:ByteArray).size=3:=by
 show encG.toArray.size=3;have h:(enc1 0).data.toList.length=1:=by rw[Array.length_toList];exact enc1_size 0
 simp only[encG,List.size_toArray,List.length_append,h]
abbrev ver0 (tab:Array Value):Array Value:=#[nilS,nilS,nilS,nilS,.string (digG tab)]
theorem size159 :(prog.info? 159).map (·.size)=some 5:=by kernel_rfl
attribute [local irreducible] digG encG
theorem sealed0 (w:World)(tab:Array Value)(hT:Tab w tab):Calls prog 98 #[.agg #[nilS,nilS],nilS,g0] w λe w'=>e=.returned (.agg (ver0 tab))/\Below w.heap.size w w':=by
 have HT:=hid hT;have ht0:=hT.1.lt;clear hT;obtain⟨W,hW⟩:∃W,W=((w.alloc (.cells #[nilS,nilS] 69)).alloc (.cells #[nilS,nilS,nilS] 79)).alloc (.cells #[nilS,nilS,nilS,nilS,.string ⟨#[]⟩] 159):=⟨_,rfl⟩;have hA:Blk W (w.heap.size+1) 79 #[nilS,nilS,nilS]:=by rw[hW];exact(Blk.new2 _ _ _ _).alloc _
 have hB:Blk W (w.heap.size+2) 159 #[nilS,nilS,nilS,nilS,.string ⟨#[]⟩]:=by rw[hW];exact Blk.new' _ _ _ (by simp)
 have hb:Below w.heap.size w W:=by rw[hW];exact(((Below.refl _ w).alloc (Nat.le_refl _) _).alloc (by simp) _).alloc (by simp;omega) _
 have hz:W.heap.size=w.heap.size+3:=by rw[hW];simp
 have hcv:=run_convert_bytes_arg (P:=prog) (W.alloc (.cells #[.int .u8 0] 5)) 129 5 underlying129 underlying5 W.heap.size 0 1 1 [0] rfl (λi hi=>by
  obtain rfl:i=0:=by omega
  exact(Blk.new W 5 #[.int .u8 0]).cell 0) 9 underlying9
 go_enter func98,ntmps98
 go_upto_region 1 with (fail)
 rw[<- hW];have hA1:=hid (hA.alloc (.cells #[.int .u8 0] 5));have hB1:=hid (hB.alloc (.cells #[.int .u8 0] 5));have hb1:=hid (hb.alloc (by omega) (.cells #[.int .u8 0] 5));have HZ:=hid hz;have hz':w.heap.size+3<=W.heap.size:=by omega
 clear hW hz
 go_wp2_with fail
 refine wp_loop_rounds 1 ?_;rw[rounds_succ];obtain⟨c1,c2,c3⟩:=hA1.out.three
 go_wp2_with fail
 refine(encode0 _).mono ?_;rintro e w2 ⟨rfl,h2⟩;have hA2:=hid (hA1.out.below h2 hA1.out.lt);have hB2:=hid (hB1.out.below h2 hB1.out.lt);have hb2:=hid (hb1.out.trans (h2.mono hb1.out.size));have hz2:=hb2.out.size;clear h2 hA1 hB1 hb1 c1 c2 c3 hcv hA hB hb;obtain⟨c1,c2,c3⟩:=hA2.out.three;have L1:=Later.of c1;have L2:=Later.of c2;have L3:=Later.of c3;have e0:(strOfNums [0]).size=1:=by rw[strOfNums_size];rfl
 have e1:=encG_size;obtain⟨S0,hS0⟩:∃S0,S0=strOfNums [0]:=⟨_,rfl⟩;obtain⟨S1,hS1⟩:∃S1:ByteArray,S1=⟨encG.toArray⟩:=⟨_,rfl⟩;have HS0:=hid hS0;have HS1:=hid hS1;rw[<- hS0]at e0 ⊢;rw[<- hS1]at e1 ⊢;have hsz:¬9223372036854775807<S0.size+S1.size:=by omega
 have HSZ:Hid ((S0++S1).size<=1000000000):=hid (by simp only[ByteArray.size_append];omega);have hD:Hid (digG tab=strOfNums (sumF tab (S0++S1))):=hid (by rw[hS0,hS1];unfold digG;rfl);clear e0 e1 hS0 hS1
 go_wp2_with fail
 refine Loose.wp_region_later [(5,.is (.string (digG tab)))] 7 (by kernel_rfl) (by kernel_rfl) ?_
 (simp only[List.take_succ_cons,List.take_zero,List.drop_succ_cons,List.drop_zero])
 (repeat(first|refine Loose.walk_skip rfl ?_|(refine Loose.walk_plain rfl rfl rfl λK h=>?_;go_big_quiet_op;refine h _ ?_;clear h K)))
 refine Loose.walk_loose rfl rfl (λW' hW' hF=>Loose.loose_call (f:=77) (args:=#[.string (S0++S1)]) (by kernel_rfl) ((sum_any W' (S0++S1) tab ((HT.out.below hb2.out ht0).below hW' (by omega)) HSZ.out).mono λe w' ⟨he,hb⟩=>⟨.string (digG tab),by rw[hD.out];exact he,hb,rfl⟩)) ?_;rintro _ _ _ rfl
 (simp only[Act.put,List.setIfInBounds_toArray,List.set_cons_succ,List.set_cons_zero])
 (repeat(first|refine Loose.walk_skip rfl ?_|(refine Loose.walk_plain rfl rfl rfl λK h=>?_;go_big_quiet_op;refine h _ ?_;clear h K)))
 refine Loose.walk_nil ?_;rintro U hU -;have HB:=hid (hB2.out.below hU hB2.out.lt);have HS:=hid (HB.out.setRow_same (ver0 tab));have HW:=hid (below_setRow (hb2.out.trans (hU.mono hb2.out.size)) (g:=w.heap.size+2) (by omega) (ver0 tab));have z1:(prog.info? 159).map (·.size)=some (ver0 tab).size:=size159;have z2:(#[nilS,nilS,nilS,nilS,.string ⟨#[]⟩]:Array Value).size=(ver0 tab).size:=rfl;have z3:(ver0 tab).all (·.oneCell')=true:=by simp[Value.oneCell']
 clear L1 L2 L3 hA2 hB2 hb2 c1 c2 c3 hU
 go_wp2_with (with_reducible refine stB 159 (.tmp 6) (.tmp 43) (w.heap.size+2) (ver0 tab) _ HB z1 z2 z3 rfl rfl rfl rfl ?_)
 exact bodyPost_ret (results_cell_row rfl _ _ (w.heap.size+2) 159 _ (0,0) _ rfl HS.out.heap underlying159 rfl z1) rfl ⟨rfl,HW.out⟩
abbrev main4 :ByteArray:=⟨#[109,97,105,110]⟩
theorem size69 :(prog.info? 69).map (·.size)=some 2:=by kernel_rfl
theorem verNew0 (w:World)(tab:Array Value)(hT:Tab w tab):Calls prog 70 #[g0] w λe w' =>
 (∃a b,e=.returned (.tuple #[.agg #[.slice (some ⟨a,0,none⟩) 1 1,.slice (some ⟨b,0,none⟩) 1 1],.int .i64 0])/\Blk w' a 159 (ver0 tab)/\Blk w' b 163 #[.string main4,.int .i64 0]/\w.heap.size<=a/\w.heap.size<=b)/\Below w.heap.size w w':=by
 have HT:=hid hT;have ht0:=hT.1.lt;clear hT
 go_enter func70,ntmps70
 go_wp2_with fail
 refine(valid0 _).mono ?_;rintro e w1 ⟨rfl,h1⟩;have hA:=hid (((Blk.new w 79 #[nilS,nilS,nilS]).alloc (.cells #[nilS,nilS] 69)).below h1 (by simp;omega));have hB:=hid ((Blk.new2 w (.cells #[nilS,nilS,nilS] 79) 69 #[nilS,nilS]).below h1 (by simp));have hb:=hid ((((Below.refl w.heap.size w).alloc (Nat.le_refl _) (.cells #[nilS,nilS,nilS] 79)).alloc (by simp) (.cells #[nilS,nilS] 69)).trans (h1.mono (by simp;omega)));have hz1:=hb.out.size;obtain⟨c1,c2,c3⟩:=hA.out.three;clear h1
 go_wp2_with fail
 refine(copyOf0 _).mono ?_;rintro e w2 ⟨rfl,h2⟩;have hb2:=hid (hb.out.trans (h2.mono hz1));have hB2:=hid (hB.out.below h2 hB.out.lt);have hz2:=hb2.out.size;clear h2 hA hB hb c1 c2 c3
 go_wp2_with fail
 refine(sealed0 w2 tab (HT.out.below hb2.out ht0)).mono ?_;rintro e w3 ⟨rfl,h3⟩;have hb3:=hid (hb2.out.trans (h3.mono hz2));have hB3:=hid (((hB2.out.below h3 hB2.out.lt).alloc (.cells (ver0 tab) 159)).alloc (.cells #[.string main4,.int .i64 0] 163));have hz3:=hb3.out.size;have hl3:=hB2.out.lt;have hs3:=h3.size;have hX:=hid ((Blk.new w3 159 (ver0 tab)).alloc (.cells #[.string main4,.int .i64 0] 163));have hY:=hid (Blk.new2 w3 (.cells (ver0 tab) 159) 163 #[.string main4,.int .i64 0]);have hW:=hid ((hb3.out.alloc hz3 (.cells (ver0 tab) 159)).alloc (by simp;omega) (.cells #[.string main4,.int .i64 0] 163));have z1:(prog.info? 69).map (·.size)=some (#[.slice (some ⟨w3.heap.size,0,none⟩) 1 1,.slice (some ⟨w3.heap.size+1,0,none⟩) 1 1]:Array Value).size:=size69;have z2:(#[nilS,nilS]:Array Value).size=(#[.slice (some ⟨w3.heap.size,0,none⟩) 1 1,.slice (some ⟨w3.heap.size+1,0,none⟩) 1 1]:Array Value).size:=rfl;have z3:(#[.slice (some ⟨w3.heap.size,0,none⟩) 1 1,.slice (some ⟨w3.heap.size+1,0,none⟩) 1 1]:Array Value).all (·.oneCell')=true:=by simp[Value.oneCell']
 have HS:=hid (hB3.out.setRow_same #[.slice (some ⟨w3.heap.size,0,none⟩) 1 1,.slice (some ⟨w3.heap.size+1,0,none⟩) 1 1]);have HW:=hid (below_setRow hW.out (g:=w.heap.size+1) (by omega) #[.slice (some ⟨w3.heap.size,0,none⟩) 1 1,.slice (some ⟨w3.heap.size+1,0,none⟩) 1 1]);have HX:=hid (hX.out.setRow (r:=w.heap.size+1) (by omega) #[.slice (some ⟨w3.heap.size,0,none⟩) 1 1,.slice (some ⟨w3.heap.size+1,0,none⟩) 1 1]);have HY:=hid (hY.out.setRow (r:=w.heap.size+1) (by omega) #[.slice (some ⟨w3.heap.size,0,none⟩) 1 1,.slice (some ⟨w3.heap.size+1,0,none⟩) 1 1]);clear h3 hB2 hb2 hb3 hX hY hW
 go_wp2_with (with_reducible refine stB 69 (.tmp 2) (.tmp 15) (w.heap.size+1) #[.slice (some ⟨w3.heap.size,0,none⟩) 1 1,.slice (some ⟨w3.heap.size+1,0,none⟩) 1 1] _ hB3 z1 z2 z3 rfl rfl rfl rfl ?_)
 exact bodyPost_ret (results_cell2 rfl _ _ (w.heap.size+1) 69 _ _ rfl HS.out underlying69 rfl z1) rfl ⟨⟨_,_,rfl,HX.out,HY.out,by omega,by omega⟩,HW.out⟩
end
section
open Go.RowKit Go.Shelf
attribute [local irreducible] rootF rr trust0
theorem trust0_size (tab:Array Value):(trust0 tab).size=18:=by unfold trust0;rfl
theorem trust0_one (tab:Array Value):(trust0 tab).all (·.oneCell')=true:=by unfold trust0;simp[Value.oneCell']
theorem engTrust0 (w:World)(tab:Array Value)(hT:Tab w tab):Calls prog 71 #[g0] w λe w'=>e=.returned (.tuple #[.agg (trust0 tab),.bool true])/\Below w.heap.size w w':=by
 have HT:=hid hT;have ht0:=hT.1.lt;clear hT;obtain⟨T,hT18⟩:∃T,T=trust0 tab:=⟨_,rfl⟩;have HT18:=hid hT18;rw[<- hT18];have q1:(prog.info? 124).map (·.size)=some T.size:=by rw[hT18,trust0_size];exact size124
 have q2:zt18.size=T.size:=by rw[hT18,trust0_size];rfl
 have q2':zt18d.size=T.size:=q2;have q3:T.all (·.oneCell')=true:=by rw[hT18];exact trust0_one tab
 clear hT18;have z8:(prog.info? 167).map (·.size)=some nil8.size:=by kernel_rfl
 have o8:nil8.all (·.oneCell')=true:=by kernel_rfl
 have e8:nil8.size=nil8.size:=rfl;obtain⟨W0,hW0⟩:∃W0,W0=(w.alloc (.cells #[nilS,nilS,nilS] 79)).alloc (.cells zt18 124):=⟨_,rfl⟩;have hA:=hid (show Blk W0 w.heap.size 79 #[nilS,nilS,nilS] by rw[hW0];exact(Blk.new w 79 _).alloc _);have hR:=hid (show Blk W0 (w.heap.size+1) 124 zt18 by rw[hW0];exact Blk.new' _ 124 zt18 (by simp));have hW:=hid (show Below w.heap.size w W0 by rw[hW0];exact((Below.refl _ w).alloc (Nat.le_refl _) _).alloc (by simp) _)
 go_enter func71,ntmps71
 go_upto_region 1 with (fail)
 rw[<- hW0];clear hW0;obtain⟨a1,a2,a3⟩:=hA.out.three
 go_wp2_with fail
 refine(make0 W0).mono ?_;rintro e w1 ⟨rfl,h1⟩;have hA1:=hid ((hA.out.below h1 hA.out.lt).alloc (.cells nil8 167));have hR1:=hid ((hR.out.below h1 hR.out.lt).alloc (.cells nil8 167));have hC1:=hid (Blk.new w1 167 nil8);have hW1':=hW.out.trans (h1.mono hW.out.size);have hW1:=hid (hW1'.alloc hW1'.size (.cells nil8 167));have hs1:=hW1'.size;clear a1 a2 a3 h1 hA hR hW hW1';obtain⟨a1,a2,a3⟩:=hA1.out.three
 go_wp2_with (first
  | (with_reducible refine wpList_store_last rfl 167 (.tmp 4) (.tmp 10) rfl nil8 _ rfl rfl rfl z8 e8 o8 ?_)
  | (with_reducible refine ldB 167 (.tmp 4) w1.heap.size nil8 hC1 underlying167 rfl z8 rfl rfl rfl ?_))
 refine(of0 _ tab (HT.out.below hW1.out ht0)).mono ?_;rintro e w2 ⟨rfl,h2⟩;rw[<- HT18.out];have hl:=hR1.out.lt;have hz2:=h2.size;have hR2:=hid ((hR1.out.below h2 hR1.out.lt).alloc (.cells T 124));have hN2:=hid (Blk.new w2 124 T);have hW2':=hW1.out.trans (h2.mono hW1.out.size);have hW2:=hid (hW2'.alloc hW2'.size (.cells T 124));have HS:=hid (hR2.out.setRow_same T);have HW:=hid (below_setRow hW2.out (g:=w.heap.size+1) (by omega) T);clear a1 a2 a3 h2 hA1 hR1 hC1 hW1 hW2'
 go_wp2_with (first
  | (with_reducible refine runTo (.alloc 124) (.pointer (some ⟨w2.heap.size,0,none⟩)) (w2.alloc (.cells zt18d 124)) rfl rfl (by kernel_rfl) ?_)
  | (with_reducible refine wpList_store_last rfl 124 (.tmp 6) (.tmp 19) rfl T _ rfl rfl rfl q1 q2' q3 ?_)
  | (with_reducible refine ldB 124 (.tmp 6) w2.heap.size T hN2 underlying124 rfl q1 rfl rfl rfl ?_)
  | (with_reducible refine stB 124 (.tmp 2) (.tmp 21) (w.heap.size+1) T _ hR2 q1 q2 q3 rfl rfl rfl rfl ?_))
 exact bodyPost_ret (results_cell2 rfl _ _ (w.heap.size+1) 124 _ _ rfl HS.out underlying124 rfl q1) rfl ⟨rfl,HW.out⟩
end
section
open Go.RowKit Go.Shelf
attribute [local irreducible] rootF rr trust0
abbrev eng0 (a b c:Nat):Array Value:=#[.slice (some ⟨a,0,none⟩) 1 1,.slice (some ⟨b,0,none⟩) 1 1,.slice (some ⟨c,0,none⟩) 1 1]
structure EngAt (w:World) (tab:Array Value) (a b c:Nat):Prop where
 ver:Blk w a 159 (ver0 tab)
 bra:Blk w b 163 #[.string main4,.int .i64 0]
 tru:Blk w c 124 (trust0 tab)
theorem EngAt.below {w w':World}{tab:Array Value}{a b c B:Nat}(h:EngAt w tab a b c)(hb:Below B w w')(hB:w.heap.size<=B):EngAt w' tab a b c :=
 ⟨h.ver.below hb (Nat.lt_of_lt_of_le h.ver.lt hB),h.bra.below hb (Nat.lt_of_lt_of_le h.bra.lt hB),h.tru.below hb (Nat.lt_of_lt_of_le h.tru.lt hB)⟩
def trd (p r:ByteArray):Array Value:=tr18 p r
theorem trd_size (p r:ByteArray):(trd p r).size=18:=rfl
theorem trd_one (p r:ByteArray):(trd p r).all (·.oneCell')=true:=by unfold trd;simp[Value.oneCell']
attribute [local semireducible] trust0 in
theorem trust0_trd (tab:Array Value):trust0 tab=trd (rootF tab [(63,hdr)]) (rootF tab []):=rfl
theorem size72 :(prog.info? 72).map (·.size)=some 3:=by kernel_rfl
theorem engNew0 (w:World)(tab:Array Value)(hT:Tab w tab):Calls prog 35 #[g0] w λe w'=>(∃a b c,e=.returned (.tuple #[.agg (eng0 a b c),.int .i64 0])/\EngAt w' tab a b c/\w.heap.size<=a/\w.heap.size<=b/\w.heap.size<=c)/\Below w.heap.size w w':=by
 have HT:=hid hT;have ht0:=hT.1.lt;clear hT;obtain⟨P0,hP0⟩:∃P0,P0=rootF tab [(63,hdr)]:=⟨_,rfl⟩;obtain⟨r,hr⟩:∃r,r=rootF tab []:=⟨_,rfl⟩;have HT18:Hid (trust0 tab=trd P0 r):=hid (by rw[hP0,hr];exact trust0_trd tab);clear hP0 hr;have q1:(prog.info? 124).map (·.size)=some (trd P0 r).size:=by rw[trd_size];exact size124
 have q2':zt18d.size=(trd P0 r).size:=by rw[trd_size];rfl
 have q3:=trd_one P0 r;obtain⟨W0,hW0⟩:∃W0,W0=(w.alloc (.cells #[nilS,nilS,nilS] 79)).alloc (.cells #[nilS,nilS,nilS] 72):=⟨_,rfl⟩;have hA:=hid (show Blk W0 w.heap.size 79 #[nilS,nilS,nilS] by rw[hW0];exact(Blk.new w 79 _).alloc _);have hR:=hid (show Blk W0 (w.heap.size+1) 72 #[nilS,nilS,nilS] by rw[hW0];exact Blk.new' _ 72 _ (by simp));have hW:=hid (show Below w.heap.size w W0 by rw[hW0];exact((Below.refl _ w).alloc (Nat.le_refl _) _).alloc (by simp) _)
 go_enter func35,ntmps35
 go_upto_region 1 with (fail)
 rw[<- hW0];clear hW0;obtain⟨a1,a2,a3⟩:=hA.out.three
 go_wp2_with fail
 refine(verNew0 W0 tab (HT.out.below hW.out ht0)).mono ?_;rintro e w1 ⟨⟨va,vb,rfl,hva,hvb,hla,hlb⟩,h1⟩;have hz:=hW.out.size;have hlR:=hR.out.lt;have hA1:=hid ((hA.out.below h1 hA.out.lt).alloc (.cells #[.slice (some ⟨va,0,none⟩) 1 1,.slice (some ⟨vb,0,none⟩) 1 1] 69));have hR1:=hid ((hR.out.below h1 hR.out.lt).alloc (.cells #[.slice (some ⟨va,0,none⟩) 1 1,.slice (some ⟨vb,0,none⟩) 1 1] 69));have hV1:=hid (hva.alloc (.cells #[.slice (some ⟨va,0,none⟩) 1 1,.slice (some ⟨vb,0,none⟩) 1 1] 69));have hB1:=hid (hvb.alloc (.cells #[.slice (some ⟨va,0,none⟩) 1 1,.slice (some ⟨vb,0,none⟩) 1 1] 69));have hH1:=hid (Blk.new w1 69 #[.slice (some ⟨va,0,none⟩) 1 1,.slice (some ⟨vb,0,none⟩) 1 1]);have hW1':=hW.out.trans (h1.mono hW.out.size);have hW1:=hid (hW1'.alloc hW1'.size (.cells #[.slice (some ⟨va,0,none⟩) 1 1,.slice (some ⟨vb,0,none⟩) 1 1] 69));clear a1 a2 a3 h1 hA hR hW hW1' hva hvb;obtain⟨a1,a2,a3⟩:=hA1.out.three
 go_wp2_with fail
 refine(engTrust0 _ tab (HT.out.below hW1.out ht0)).mono ?_;rintro e w2 ⟨rfl,h2⟩;rw[HT18.out];have hl:=hR1.out.lt;have hz2:=h2.size;simp only[World.size_alloc]at hz2 hl;have hzw:=hW1.out.size;have hR2:=(hR1.out.below h2 hR1.out.lt);have hV2:=(hV1.out.below h2 hV1.out.lt);have hB2:=(hB1.out.below h2 hB1.out.lt);have hH2:=hid ((hH1.out.below h2 hH1.out.lt).alloc (.cells (trd P0 r) 124));have hN2:=hid (Blk.new w2 124 (trd P0 r));have hW2':=hW1.out.trans (h2.mono hW1.out.size);obtain⟨c1,c2⟩:(w2.alloc (.cells (trd P0 r) 124)).cell? ⟨w1.heap.size,0,none⟩=some (.slice (some ⟨va,0,none⟩) 1 1)/\(w2.alloc (.cells (trd P0 r) 124)).cell? ⟨w1.heap.size,1,none⟩=some (.slice (some ⟨vb,0,none⟩) 1 1):=⟨hH2.out.cell 0,hH2.out.cell 1⟩;have hR3:=hid ((hR2.alloc (.cells (trd P0 r) 124)).alloc (.cells (trd P0 r) 124));have hV3:=(hV2.alloc (.cells (trd P0 r) 124)).alloc (.cells (trd P0 r) 124);have hB3:=(hB2.alloc (.cells (trd P0 r) 124)).alloc (.cells (trd P0 r) 124);have hT3:Blk ((w2.alloc (.cells (trd P0 r) 124)).alloc (.cells (trd P0 r) 124)) (w2.heap.size+1) 124 (trd P0 r):=Blk.new' _ 124 (trd P0 r) (by simp);have hW3:=(hW2'.alloc hW2'.size (.cells (trd P0 r) 124)).alloc (by simp;omega) (.cells (trd P0 r) 124);have z1:(prog.info? 72).map (·.size)=some (eng0 va vb (w2.heap.size+1)).size:=size72;have z2:(#[nilS,nilS,nilS]:Array Value).size=(eng0 va vb (w2.heap.size+1)).size:=rfl;have z3:(eng0 va vb (w2.heap.size+1)).all (·.oneCell')=true:=by simp[Value.oneCell']
 have HS:=hid (hR3.out.setRow_same (eng0 va vb (w2.heap.size+1)));have HW:=hid (below_setRow hW3 (g:=w.heap.size+1) (by omega) (eng0 va vb (w2.heap.size+1)));have HE:Hid (EngAt (((w2.alloc (.cells (trd P0 r) 124)).alloc (.cells (trd P0 r) 124)).setRow (w.heap.size+1) (eng0 va vb (w2.heap.size+1))) tab va vb (w2.heap.size+1)):=hid ⟨hV3.setRow (by omega) _,hB3.setRow (by omega) _,by rw[HT18.out];exact hT3.setRow (by omega) _⟩;clear a1 a2 a3 h2 hA1 hR1 hW1 hW2' hR2 hV2 hB2 hV3 hB3 hT3 hW3 hV1 hB1 hH1
 go_wp2_with (first
  | (with_reducible refine runTo (.alloc 124) (.pointer (some ⟨w2.heap.size,0,none⟩)) (w2.alloc (.cells zt18d 124)) rfl rfl (by kernel_rfl) ?_)
  | (with_reducible refine wpList_store_last rfl 124 (.tmp 6) (.tmp 16) rfl (trd P0 r) _ rfl rfl rfl q1 q2' q3 ?_)
  | (with_reducible refine ldB 124 (.tmp 6) w2.heap.size (trd P0 r) hN2 underlying124 rfl q1 rfl rfl rfl ?_)
  | (with_reducible refine runTo (.buildSlice 70 1 #[(0,.tmp 26)]) (.slice (some ⟨(w2.alloc (.cells (trd P0 r) 124)).heap.size,0,none⟩) 1 1) ((w2.alloc (.cells (trd P0 r) 124)).alloc (.cells (trd P0 r) 124)) rfl rfl (by kernel_rfl) ?_)
  | (with_reducible refine stB 72 (.tmp 2) (.tmp 28) (w.heap.size+1) (eng0 va vb (w2.heap.size+1)) _ hR3 z1 z2 z3 rfl rfl rfl rfl ?_))
 exact bodyPost_ret (results_cell2 rfl _ _ (w.heap.size+1) 72 _ _ rfl HS.out underlying72 rfl z1) rfl ⟨⟨va,vb,w2.heap.size+1,rfl,HE.out,by omega,by omega,by omega⟩,HW.out⟩
end
section
open Go.RowKit Go.Shelf
attribute [local irreducible] rootF rr trust0 digG
theorem bra_neq (w:World):(binOp .neq 163 (.agg #[.string main4,.int .i64 0]) (.agg #[.string main4,.int .i64 0])).run prog w=.ok (.bool false) w:=by kernel_rfl
theorem tru_neq (p r:ByteArray)(w:World):(binOp .neq 124 (.agg (tr18 p r)) (.agg (tr18 p r))).run prog w=.ok (.bool false) w:=by
 obtain⟨i9,h9⟩:∃i,prog.info? 9=some i:=by
  cases h:prog.info? 9 with
  | none =>
    have:(prog.info? 9).isSome=true:=by kernel_rfl
    rw[h]at this;cases this
  | some i=>exact⟨i,rfl⟩
 obtain⟨i3,h3⟩:∃i,prog.info? 3=some i:=by
  cases h:prog.info? 3 with
  | none =>
    have:(prog.info? 3).isSome=true:=by kernel_rfl
    rw[h]at this;cases this
  | some i=>exact⟨i,rfl⟩
 have c9:prog.cellsOf 9=1:=by kernel_rfl
 have c3:prog.cellsOf 3=1:=by kernel_rfl
 have e1:(Op.equalIn 9999 121 (.agg #[.string ⟨#[]⟩,.string r,.string r,.string r,.string r,.string r,.string r,.string r]) (.agg #[.string ⟨#[]⟩,.string r,.string r,.string r,.string r,.string r,.string r,.string r])).run prog w=.ok true w:=by
  rw[run_equalIn_array w 9998 _ _ underlying121 h9,c9];simp[Op.eqItems,List.range,List.range.loop,part,go_sem]
 have e2:(Op.equalIn 9999 122 (.agg #[.int .i64 0,.int .i64 0,.int .i64 0,.int .i64 0,.int .i64 0,.int .i64 0,.int .i64 0,.int .i64 0]) (.agg #[.int .i64 0,.int .i64 0,.int .i64 0,.int .i64 0,.int .i64 0,.int .i64 0,.int .i64 0,.int .i64 0])).run prog w=.ok true w:=by kernel_rfl
 simp[go_sem,e1,e2]
theorem verSame1 (w:World)(tab:Array Value):Calls prog 104 #[.agg (ver0 tab),.agg (ver0 tab)] w λe w'=>e=.returned (.bool true)/\Below w.heap.size w w':=by
 obtain⟨D,hD⟩:∃D,D=digG tab:=⟨_,rfl⟩;simp only[ver0];rw[<- hD];have hd:(D.toList==D.toList)=true:=by simp
 clear hD
 go_enter func104,ntmps104
 go_wp2
 repeat(go_rounds 1)
 go_ret;exact⟨rfl,by go_grown⟩
theorem equalBra (w:World)(a b:Nat)(hA:Blk w a 163 #[.string main4,.int .i64 0])(hB:Blk w b 163 #[.string main4,.int .i64 0]) :
 Calls prog 102 #[.slice (some ⟨a,0,none⟩) 1 1,.slice (some ⟨b,0,none⟩) 1 1] w λe w'=>e=.returned (.bool true)/\Below w.heap.size w w':=by
 have hn:=bra_neq;have a0:w.cell? ⟨a,0,none⟩=some (.string main4):=hA.cell 0;have a1:w.cell? ⟨a,1,none⟩=some (.int .i64 0):=hA.cell 1;have b0:w.cell? ⟨b,0,none⟩=some (.string main4):=hB.cell 0;have b1:w.cell? ⟨b,1,none⟩=some (.int .i64 0):=hB.cell 1;have L0:=Later.of a0;have L1:=Later.of a1;have L2:=Later.of b0;have L3:=Later.of b1
 go_enter func102,ntmps102
 go_wp2_with fail
 refine wp_loop_rounds 2 ?_;rw[rounds_succ]
 go_wp2_with fail
 refine Loose.wp_region_later [] 9 (by kernel_rfl) (by kernel_rfl) ?_
 (simp only[List.take_succ_cons,List.take_zero,List.drop_succ_cons,List.drop_zero])
 (repeat(first|refine Loose.walk_skip rfl ?_|(refine Loose.walk_plain rfl rfl rfl λK h=>?_;go_big_quiet_op;refine h _ ?_;clear h K)))
 refine Loose.walk_nil ?_;rintro U hU -;clear L0 L1 L2 L3
 go_wp2_with fail
 rw[rounds_succ]
 go_wp2_with fail
 go_ret;exact⟨rfl,hU⟩
theorem blk_range {w:World}{g:Nat}{t:TypeId}{cs:Array Value}(h:Blk w g t cs):w.rangeAt g 0 cs.toList:=λj v hj=>by
 rw[Nat.zero_add];exact(h.cell j).trans (by simpa using hj)
theorem equalTru (w:World)(tab:Array Value)(a b:Nat)(hA:Blk w a 124 (trust0 tab))(hB:Blk w b 124 (trust0 tab)) :
 Calls prog 73 #[.slice (some ⟨a,0,none⟩) 1 1,.slice (some ⟨b,0,none⟩) 1 1] w λe w'=>e=.returned (.bool true)/\Below w.heap.size w w':=by
 obtain⟨P0,hP0⟩:∃P0,P0=rootF tab [(63,hdr)]:=⟨_,rfl⟩;obtain⟨r,hr⟩:∃r,r=rootF tab []:=⟨_,rfl⟩;rw[trust0_trd,<- hP0,<- hr]at hA hB;have q1:(prog.info? 124).map (·.size)=some (trd P0 r).size:=by rw[trd_size];exact size124
 have hn:∀w,(binOp .neq 124 (.agg (trd P0 r)) (.agg (trd P0 r))).run prog w=.ok (.bool false) w:=tru_neq P0 r;have HA:=hid hA;have HB:=hid hB;have a0:w.cell? ⟨a,0,none⟩=some (.int .i64 0):=hA.cell 0;have b0:w.cell? ⟨b,0,none⟩=some (.int .i64 0):=hB.cell 0;have hla:=hA.lt;have hlb:=hB.lt;clear hA hB hP0 hr;have L0:=Later.of a0;have L2:=Later.of b0
 go_enter func73,ntmps73
 go_wp2_with fail
 refine wp_loop_rounds 2 ?_;rw[rounds_succ]
 go_wp2_with fail
 refine Loose.wp_region_later [(3,.is (.agg (trd P0 r))),(7,.is (.agg (trd P0 r)))] 9 (by kernel_rfl) (by kernel_rfl) ?_
 (simp only[List.take_succ_cons,List.take_zero,List.drop_succ_cons,List.drop_zero])
 (repeat(first|refine Loose.walk_skip rfl ?_|(refine Loose.walk_plain rfl rfl rfl λK h=>?_;go_big_quiet_op;refine h _ ?_;clear h K)))
 refine Loose.walk_loose rfl rfl (λW' hW' hF=>Loose.loose_loadA 124 (.tmp 18) rfl a 0 rfl (trd P0 r) (blk_range (HA.out.below hW' hla)) underlying124 rfl q1) ?_;rintro _ _ _ rfl
 (simp only[Act.put,List.setIfInBounds_toArray,List.set_cons_succ,List.set_cons_zero])
 (repeat(first|refine Loose.walk_skip rfl ?_|(refine Loose.walk_plain rfl rfl rfl λK h=>?_;go_big_quiet_op;refine h _ ?_;clear h K)))
 refine Loose.walk_loose rfl rfl (λW' hW' hF=>Loose.loose_loadA 124 (.tmp 22) rfl b 0 rfl (trd P0 r) (blk_range (HB.out.below hW' hlb)) underlying124 rfl q1) ?_;rintro _ _ _ rfl
 (simp only[Act.put,List.setIfInBounds_toArray,List.set_cons_succ,List.set_cons_zero])
 (repeat(first|refine Loose.walk_skip rfl ?_|(refine Loose.walk_plain rfl rfl rfl λK h=>?_;go_big_quiet_op;refine h _ ?_;clear h K)))
 refine Loose.walk_nil ?_;rintro U hU -;clear L0 L2
 go_wp2_with fail
 rw[rounds_succ]
 go_wp2_with fail
 go_ret;exact⟨rfl,hU⟩
end
section
open Go.RowKit Go.Shelf
attribute [local irreducible] rootF rr trust0 digG
theorem equalVer (w:World)(tab:Array Value)(a b:Nat)(hA:Blk w a 159 (ver0 tab))(hB:Blk w b 159 (ver0 tab)) :
 Calls prog 103 #[.slice (some ⟨a,0,none⟩) 1 1,.slice (some ⟨b,0,none⟩) 1 1,.func (.func 104) #[] #[]] w λe w'=>e=.returned (.bool true)/\Below w.heap.size w w':=by
 have hs:=verSame1 (tab:=tab);obtain⟨D,hD⟩:∃D,D=digG tab:=⟨_,rfl⟩;simp only[ver0]at hA hB hs;rw[<- hD]at hA hB hs;have HS:=hid hs;clear hD hs;obtain⟨a0,a1,a2,a3,a4⟩:=hA.cells5;obtain⟨b0,b1,b2,b3,b4⟩:=hB.cells5;have HB:=hid hB;obtain⟨e0,e1,e2,e3,e4⟩:=(hB.alloc (.cells #[nilS,nilS,nilS,nilS,.string D] 159)).cells5;clear hA hB
 go_enter func103,ntmps103
 go_wp2_with fail
 refine wp_loop_rounds 2 ?_;rw[rounds_succ]
 go_wp2_with fail
 refine(HS.out _).mono ?_;rintro e w1 ⟨rfl,h1⟩;have hW:=(((Below.refl w.heap.size w).alloc (Nat.le_refl _) (.cells #[nilS,nilS,nilS,nilS,.string D] 159)).alloc (by simp) (.cells #[nilS,nilS,nilS,nilS,.string D] 159)).trans (h1.mono (by simp;omega));clear h1
 go_wp2_with fail
 rw[rounds_succ]
 go_wp2_with fail
 go_ret;exact⟨rfl,hW⟩
theorem verSame0 (w:World)(tab:Array Value)(a b c d:Nat)(h1:Blk w a 159 (ver0 tab))(h2:Blk w b 163 #[.string main4,.int .i64 0])(h3:Blk w c 159 (ver0 tab))(h4:Blk w d 163 #[.string main4,.int .i64 0]) :
 Calls prog 72 #[.agg #[.slice (some ⟨a,0,none⟩) 1 1,.slice (some ⟨b,0,none⟩) 1 1],.agg #[.slice (some ⟨c,0,none⟩) 1 1,.slice (some ⟨d,0,none⟩) 1 1]] w λe w'=>e=.returned (.bool true)/\Below w.heap.size w w':=by
 have H1:=hid h1;have H2:=hid h2;have H3:=hid h3;have H4:=hid h4;clear h1 h2 h3 h4;obtain⟨W,hW⟩:∃W,W=(w.alloc (.cells #[.slice (some ⟨a,0,none⟩) 1 1,.slice (some ⟨b,0,none⟩) 1 1] 69)).alloc (.cells #[.slice (some ⟨c,0,none⟩) 1 1,.slice (some ⟨d,0,none⟩) 1 1] 69):=⟨_,rfl⟩;have hX:=hid (show Blk W w.heap.size 69 #[.slice (some ⟨a,0,none⟩) 1 1,.slice (some ⟨b,0,none⟩) 1 1] by rw[hW];exact(Blk.new _ _ _).alloc _);have hY:=hid (show Blk W (w.heap.size+1) 69 #[.slice (some ⟨c,0,none⟩) 1 1,.slice (some ⟨d,0,none⟩) 1 1] by rw[hW];exact Blk.new2 _ _ _ _);have hB:=hid (show Below w.heap.size w W by rw[hW];exact((Below.refl _ w).alloc (Nat.le_refl _) _).alloc (by simp) _)
 go_enter func72,ntmps72
 go_upto_region 1 with (fail)
 rw[<- hW];clear hW;have x1:W.cell? ⟨w.heap.size,1,none⟩=some (.slice (some ⟨b,0,none⟩) 1 1):=hX.out.cell 1;have y1:W.cell? ⟨w.heap.size+1,1,none⟩=some (.slice (some ⟨d,0,none⟩) 1 1):=hY.out.cell 1
 go_wp2_with fail
 refine(equalBra W b d (H2.out.below hB.out H2.out.lt) (H4.out.below hB.out H4.out.lt)).mono ?_;rintro e w1 ⟨rfl,h1⟩;have hs1:=hB.out.size;have hB1:=hid (hB.out.trans (h1.mono hs1));have x0:w1.cell? ⟨w.heap.size,0,none⟩=some (.slice (some ⟨a,0,none⟩) 1 1):=(hX.out.below h1 hX.out.lt).cell 0;have y0:w1.cell? ⟨w.heap.size+1,0,none⟩=some (.slice (some ⟨c,0,none⟩) 1 1):=(hY.out.below h1 hY.out.lt).cell 0;clear x1 y1 h1
 go_wp2_with fail
 refine(equalVer w1 tab a c (H1.out.below hB1.out H1.out.lt) (H3.out.below hB1.out H3.out.lt)).mono ?_;rintro e w2 ⟨rfl,h2⟩
 go_wp2_with fail
 go_ret;exact⟨rfl,hB1.out.trans (h2.mono hB1.out.size)⟩
theorem engSame0 (w:World)(tab:Array Value)(a b c a' b' c':Nat)(h1:EngAt w tab a b c)(h2:EngAt w tab a' b' c') :
 Calls prog 36 #[.agg (eng0 a b c),.agg (eng0 a' b' c')] w λe w'=>e=.returned (.bool true)/\Below w.heap.size w w':=by
 have H1:=hid h1;have H2:=hid h2;clear h1 h2;obtain⟨W,hW⟩:∃W,W=(w.alloc (.cells (eng0 a b c) 72)).alloc (.cells (eng0 a' b' c') 72):=⟨_,rfl⟩;have hX:=hid (show Blk W w.heap.size 72 (eng0 a b c) by rw[hW];exact(Blk.new _ _ _).alloc _);have hY:=hid (show Blk W (w.heap.size+1) 72 (eng0 a' b' c') by rw[hW];exact Blk.new2 _ _ _ _);have hB:=hid (show Below w.heap.size w W by rw[hW];exact((Below.refl _ w).alloc (Nat.le_refl _) _).alloc (by simp) _)
 go_enter func36,ntmps36
 go_upto_region 1 with (fail)
 rw[<- hW];clear hW;have E1:=hid (H1.out.below hB.out (Nat.le_refl _));have E2:=hid (H2.out.below hB.out (Nat.le_refl _));obtain⟨x0,x1,x2⟩:=hX.out.three;obtain⟨y0,y1,y2⟩:=hY.out.three
 go_wp2_with fail
 refine(verSame0 W tab a b a' b' E1.out.ver E1.out.bra E2.out.ver E2.out.bra).mono ?_;rintro e w1 ⟨rfl,h1⟩;have hs1:=hB.out.size;have hB1:=hid (hB.out.trans (h1.mono hs1));have u2:w1.cell? ⟨w.heap.size,2,none⟩=some (.slice (some ⟨c,0,none⟩) 1 1):=(hX.out.below h1 hX.out.lt).cell 2;have v2:w1.cell? ⟨w.heap.size+1,2,none⟩=some (.slice (some ⟨c',0,none⟩) 1 1):=(hY.out.below h1 hY.out.lt).cell 2;have F1:=hid (E1.out.tru.below h1 E1.out.tru.lt);have F2:=hid (E2.out.tru.below h1 E2.out.tru.lt);clear x0 x1 x2 y0 y1 y2 h1
 go_wp2_with fail
 refine(equalTru w1 tab c c' F1.out F2.out).mono ?_;rintro e w2 ⟨rfl,h2⟩
 go_wp2_with fail
 go_ret;exact⟨rfl,hB1.out.trans (h2.mono hB1.out.size)⟩
end
section
open Go.RowKit Go.Shelf
attribute [local go_sem] Oper.semAt_some
def NoCmd (s:ByteArray):Prop:=∀w,Calls prog 95 #[.string s] w λe w'=>e=.returned (.tuple #[.agg cmdZ,.int .i64 300])/\Below w.heap.size w w'
theorem KeepB.reads {n p B size k:Nat}{w w':World}{A:Option Addr}{xs:List Value}(h:KeepB n p w w')(hr:Reads w B size A k xs)(hB:B<=n)(hp:B<=p):Reads w' B size A k xs :=
 hr.keep λq hq=>by
  obtain⟨qb,qo,qs⟩:=q;exact World.cell?_of_block (h.2 qb (by simp only at hq;omega) (by simp only at hq;omega))
theorem states_iter (n:Nat)(hn:1<=n)(l b1 b2 n₀ p a b c B N C:Nat)(A:Option Addr)(ps:List Rp.Post)(J Jx:List (Fin N)->World->Prop)
 (hJ:∀s (A B:World),J s A->A.grownBy B none->J s B)
 (hY:∀pre (x:Fin N) W,J pre W->pre.length<N->YieldAt Fence.wide (n - 1) prog l #[.bool false,.agg (eng0 a b c)] W λe W' =>
   (e=.returned (.bool true)/\J (pre++[x]) W'/\KeepB n₀ p W W')∨(e=.returned (.bool false)/\Jx (pre++[x]) W'))
 (W:World) (h1:Blk W b1 23 #[.slice A N C]) (h2:Blk W b2 72 (eng0 a b c)) (hb1:b1<n₀) (hb2:b2<n₀) (hp1:b1≠p) (hp2:b2≠p) (hn₀:n₀<=W.heap.size)
 (hR:Reads W B 4 A N (encPs ps)) (hl:ps.length=N) (hB:B<=n₀) (hBp:B<=p) (hN:N<=16777216) (hT:∀x∈ps,NoCmd x.text) (h0:J [] W) :
 CallsIn Fence.wide n prog 94 #[.func (.yield l) #[] #[],.pointer (some ⟨b1,0,none⟩),.pointer (some ⟨b2,0,none⟩)] W λe W'=>(∃v,e=.returned v) /\
  ((∃ys,ys=List.finRange N/\J ys W')∨(∃pre,True/\Jx pre W')):=by
 have HR:=hid hR;have HL:=hid hl;have HT:=hid hT;have H1:=hid h1;have H2:=hid h2;clear hR hl hT h1 h2;refine callsIn_of_wp func94 rfl trivial ?_ rfl;simp only[ntmps94,List.size_toArray,List.length_cons,List.length_nil,Nat.reduceAdd,Nat.reduceSub,Array.replicate_succ,Array.replicate_zero,List.push_toArray,List.append_toArray,List.nil_append,List.cons_append];have c1:=H1.out.cell 0
 gi_wp2
 clear c1
 gi_loopw [14] (λi wr=>∃(k:Nat) (pre:List (Fin N)),k<=N/\i=.int .i64 k/\pre.length=k/\Hid (pre=(List.finRange N).take k)/\Hid (J pre wr)/\Hid (KeepB n₀ p W wr)) (λi _=>N - (intOf i).toNat)
 case atStart=>exact⟨0,[],by omega,rfl,rfl,hid rfl,hid h0,hid (KeepB.refl _ _ _)⟩
 case round =>
  obtain⟨k,pre,hk,rfl,hpl,hpre,hJs,hK⟩:=hrel
  by_cases hlt:k<N
  ·obtain⟨g,off,x,rfl,hbl,hq,e0,e1,e2,e3⟩:=(hK.out.reads HR.out hB hBp).post HL.out hlt
   have HNC:=hid (HT.out x (List.mem_of_getElem? hq));have hsz:=hK.out.1;have HD:=hid (show Blk wr b2 72 (eng0 a b c)from(hK.out.2 b2 hb2 hp2).trans H2.out);clear hq;refine wpIn_wide.2 ?_
   go_wp2_with fail
   refine(HNC.out _).mono ?_;rintro e w2 ⟨rfl,h2⟩;have hb:=((Below.refl wr.heap.size wr).alloc (Nat.le_refl _) (.cells #[.int .i64 x.epoch,.int .i64 x.origin,.int .i64 x.number,.string x.text] 57)).trans (h2.mono (by simp));have hU:Below wr.heap.size wr (w2.alloc (.cells cmdZ 149)):=hb.alloc hb.size _;have hJU:=hJ _ _ _ hJs.out (grown_below hU none);have hKU:=hid (hK.out.trans (KeepB.of_below hU (Nat.le_trans hn₀ hsz)));have HDU:=hid (HD.out.below hU HD.out.lt);obtain⟨x0,x1,x2⟩:=HDU.out.three;have z1:(prog.info? 149).map (·.size)=some cmdZ.size:=size149;have z3:cmdZ.all (·.oneCell')=true:=by kernel_rfl
   clear hJs hK h2 hb hU e0 e1 e2 e3
   go_upto_region 9 with (with_reducible refine wpList_store_last rfl 149 (.tmp 6) (.tmp 22) rfl cmdZ _ rfl rfl rfl z1 (Eq.refl _) z3 ?_)
   generalize w2.alloc (.cells cmdZ 149)=U at *;obtain⟨fn,tmps,assign,body,hy,hR⟩:=hY pre ⟨k,hlt⟩ U hJU (by omega);clear hY h0 hJU hJ;refine(wpIn_wide (n:=n)).1 ?_
   gi_wp2
   refine hR.mono ?_;rintro e W3 (⟨rfl,hJ3,hk3⟩|⟨rfl,hJx3⟩)
   ·have HJ:=hid hJ3
    have HK:=hid (hKU.out.trans hk3);have hpre':Hid (pre++[⟨k,hlt⟩]=(List.finRange N).take (k+1)):=hid (by
     rw[List.take_succ_eq_append_getElem (by simpa using hlt),<- hpre.out];simp)
    clear hJ3 hk3 hy hR x0 x1 x2
    gi_wp2
    go_wp2;go_roundw
    case rel=>exact⟨k+1,_,by omega,by go_num,by simp[hpl],hpre',HJ,HK⟩
    case measure=>simp[intOf];omega
   ·gi_wp2
    go_wp2;refine bodyPost_ret (results_none rfl _ _ _) rfl ?_;exact⟨⟨_,rfl⟩,.inr ⟨_,trivial,hJx3⟩⟩
  ·gi_wp2
   first|go_end0|refine bodyPost_ret (results_none rfl _ _ _) rfl ?_
   exact⟨⟨_,rfl⟩,.inl ⟨pre,by rw[hpre.out,List.take_of_length_le (by simp;omega)],hJs.out⟩⟩
theorem states_stops (n:Nat)(hn:1<=n)(b1 b2 n₀ p a b c B N C:Nat)(A:Option Addr)(ps:List Rp.Post)(w:World)(h1:Blk w b1 23 #[.slice A N C])(h2:Blk w b2 72 (eng0 a b c))(hb1:b1<n₀)(hb2:b2<n₀)(hp1:b1≠p)(hp2:b2≠p)(hn₀:n₀<=w.heap.size)
 (hR:Reads w B 4 A N (encPs ps)) (hl:ps.length=N) (hB:B<=n₀) (hBp:B<=p) (hN:N<=16777216) (hT:∀x∈ps,NoCmd x.text) :
 SeqStopsK Fence.wide n prog 94 #[.pointer (some ⟨b1,0,none⟩),.pointer (some ⟨b2,0,none⟩)] (λ_:Fin N=>#[.bool false,.agg (eng0 a b c)]) (KeepB n₀ p) (λys=>ys=List.finRange N) (λ_=>True) N w :=
 λl J Jx W hW hJ _ hY h0=>states_iter n hn l b1 b2 n₀ p a b c B N C A ps J Jx (λs A B hs hg=>hJ s A B none hs hg (λr e=>by cases e)) hY W (h1.below hW h1.lt) (h2.below hW h2.lt) hb1 hb2 hp1 hp2 (Nat.le_trans hn₀ hW.size)
  ((hR.more (Nat.le_trans hB hn₀)).below hW |>.keep (λ_ _=>rfl) |> λh=>hR.keep (λq hq=>hW.cell (Nat.lt_of_lt_of_le hq (Nat.le_trans hB hn₀)))) hl hB hBp hN hT h0
theorem statesOf (w:World)(a b c N C:Nat)(A:Option Addr):Calls prog 69 #[.agg (eng0 a b c),.slice A N C] w λe w'=>∃b1 b2,e=.returned (.func (.func 94) #[] #[.pointer (some ⟨b1,0,none⟩),.pointer (some ⟨b2,0,none⟩)])/\Blk w' b1 23 #[.slice A N C]/\Blk w' b2 72 (eng0 a b c)/\w.heap.size<=b1/\w.heap.size<=b2/\Below w.heap.size w w':=by
 go_enter func69,ntmps69
 go_wp2;go_ret;exact⟨_,_,rfl,Blk.new2 w _ 23 _,(Blk.new w 72 _).alloc _,by omega,by omega,((Below.refl _ _).alloc (Nat.le_refl _) _).alloc (by simp) _⟩
end
section
open Go.RowKit Go.Shelf
attribute [local go_sem] Oper.semAt_some
attribute [local irreducible] rootF rr trust0 digG
theorem info4 :(prog.info? 4).map (λi=>(i.size,i.bytes,i.zero))=some (1,1,some (.bool false)):=by kernel_rfl
theorem results_cell3 {P:Program}{fn:Func}{p u v:Tmp}{ty:TypeId}(h:fn.results=#[.cell p ty,.tmp u,.tmp v])(tmps:Array Value)(w:World)(g:Nat)(t:TypeId)(cs:Array Value)(d:TypeDesc)
 (hp:tmps.getD p undef=.pointer (some ⟨g,0,none⟩)) (hg:Blk w g t cs)
 (hu:P.underlying ty=some d) (hd:(match d with|.struct _|.array _ _=>true|_=>false)=true) (hi:(P.info? ty).map (·.size)=some cs.size) :
 (results fn tmps).run P w=.ok (.tuple #[.agg cs,tmps.getD u undef,tmps.getD v undef]) w:=by
 have hp':tmps[p]?.getD undef=.pointer (some ⟨g,0,none⟩):=by simpa using hp
 simp[results,h,hp',asAddr,run_loadVar_row w g t ty cs (0,0) d hg.heap hu hd hi]
theorem blk_ne_def {w:World}{g D:Nat}{t:TypeId}{cs:Array Value}{l:Option (List Deferred)}(h:Blk w g t cs)(hD:w.heap[D]?=some (.deferred l)):g≠D:=by
 intro e;subst e;have:=h.heap.symm.trans hD;injection this with this
 cases this
structure SI (w w4:World) (p9 n:Nat) (W:World):Prop where
 done:∃v,Blk W p9 73 #[v]/\Vs W w4.heap.size v (List.replicate n (.bool false))/\(n=0->v=.slice none 0 0)
 keep:KeepB w4.heap.size p9 w4 W
 low:Below w.heap.size w W
theorem Vs.more {w:World}{B B':Nat}{v:Value}{xs:List Value}(h:Vs w B v xs)(hB:B'<=B):Vs w B' v xs:=by
 rcases h with h|⟨g,cap,e,h1,h2,h3⟩
 ·exact .inl h
 ·exact .inr ⟨g,cap,e,by omega,h2,h3⟩
theorem cells_of_cell {w:World}{g i:Nat}{u:Value}(h:w.cell? ⟨g,i,none⟩=some u):∃cs ty fz,w.heap[g]?=some (.cells cs ty fz):=by
 unfold World.cell? at h;cases ho:w.heap[g]? with
 | none=>simp[ho]at h
 | some o=>cases o<;>simp_all
theorem vs_row {w:World}{B n:Nat}{v:Value}(h:Vs w B v (List.replicate n (.bool false)))(h0:n=0->v=.slice none 0 0):∀r,v.ownBlock=some r->B<=r/\∃cs ty fz,w.heap[r]?=some (.cells cs ty fz):=by
 intro r hr;refine⟨(h.own r hr).1,?_⟩;rcases h with ⟨rfl,_⟩|⟨g,cap,rfl,h1,h2,h3,h4,h5⟩
 ·cases hr
 ·have e:g=r:=by simpa[Value.ownBlock]using hr
  subst e
  by_cases hn:n=0
  ·have:=h0 hn
   injection this with this
   cases this
  ·simp only[List.length_replicate]at h3
   obtain⟨⟨u,hu⟩,_⟩:=h4 0 (by omega);exact cells_of_cell hu
theorem vs_far {w:World}{B p i:Nat}{v:Value}{xs:List Value}(h:Vs w B v xs)(hp:p<B)(u:Value):Vs (w.setCell ⟨p,i,none⟩ u) B v xs :=
 h.kept (row:=some p) ⟨rfl,rfl,rfl,by simp,λk _ hk=>Below.heap_setCell _ _ _ _ (λe=>hk (by simp[e]))⟩ (.inr λe=>by have:=(h.own p e).1;omega)
theorem blk_ne {w:World}{g g':Nat}{t t':TypeId}{cs cs':Array Value}(h:Blk w g t cs)(h':Blk w g' t' cs')(ht:t≠t'):g≠g':=by
 intro e;subst e;have:=h.heap.symm.trans h'.heap;injection this with this
 injection this with _ this _
 exact ht this
theorem round_keep {n₀ p q:Nat}{W w2:World}{o:Obj}{row:Option Nat}{t t2:TypeId}{v u x y z:Value}(hp:Blk W p t #[v])(hq:Blk W q t2 #[x,y,z])(hpq:p≠q)(hg:(W.alloc o).grownBy w2 row)(hrow:∀r,row=some r->n₀<=r/\∃cs ty fz,(W.alloc o).heap[r]?=some (.cells cs ty fz))(hpn:p<n₀)(hqn:q<n₀)(hn:n₀<=W.heap.size) :
 Blk ((((w2.setCell ⟨p,0,none⟩ u).setCell ⟨q,0,none⟩ x).setCell ⟨q,1,none⟩ y).setCell ⟨q,2,none⟩ z) p t #[u] /\
 KeepB n₀ p W ((((w2.setCell ⟨p,0,none⟩ u).setCell ⟨q,0,none⟩ x).setCell ⟨q,1,none⟩ y).setCell ⟨q,2,none⟩ z)/\KeepsFrom n₀ W ((((w2.setCell ⟨p,0,none⟩ u).setCell ⟨q,0,none⟩ x).setCell ⟨q,1,none⟩ y).setCell ⟨q,2,none⟩ z):=by
 have hr:∀k,k<W.heap.size->some k≠row->w2.heap[k]?=W.heap[k]?:=λk hk hne=>(hg.block k (by simp;omega) hne).trans (heap_alloc_old W _ hk)
 have hz:=hg.size;simp only[World.size_alloc]at hz;have hp2:Blk w2 p t #[v]:=(hr p hp.lt (λe=>by have:=(hrow p e.symm).1;omega)).trans hp;have hq2:Blk w2 q t2 #[x,y,z]:=(hr q hq.lt (λe=>by have:=(hrow q e.symm).1;omega)).trans hq;have hq3:=((((hq2.far (p:=⟨p,0,none⟩) (by simpa using Ne.symm hpq) u).set_ 0 x).set_ 1 y).set_ 2 z);have hp3:=((((hp2.set_ 0 u).far (p:=⟨q,0,none⟩) (by simpa using hpq) x).far (p:=⟨q,1,none⟩) (by simpa using hpq) y).far (p:=⟨q,2,none⟩) (by simpa using hpq) z);have hf:∀k,k≠p->k≠q->((((w2.setCell ⟨p,0,none⟩ u).setCell ⟨q,0,none⟩ x).setCell ⟨q,1,none⟩ y).setCell ⟨q,2,none⟩ z).heap[k]?=w2.heap[k]?:=λk h1 h2 =>
  (Below.heap_setCell _ ⟨q,2,none⟩ z k h2).trans ((Below.heap_setCell _ ⟨q,1,none⟩ y k h2).trans ((Below.heap_setCell _ ⟨q,0,none⟩ x k h2).trans (Below.heap_setCell _ ⟨p,0,none⟩ u k h1)))
 refine⟨hp3,⟨by simp;omega,λk hk hkp=>?_⟩,⟨by simp;omega,λk ob hB hk hc=>?_⟩⟩
 ·by_cases hkq:k=q
  ·subst hkq
   exact hq3.heap.trans hq.heap.symm
  ·exact(hf k hkp hkq).trans (hr k (by omega) (λe=>by have:=(hrow k e.symm).1;omega))
 ·have hkW:=(Array.getElem?_eq_some_iff.1 hk).1
  refine(hf k (by omega) (by omega)).trans ((hr k hkW (λe=>?_)).trans hk);obtain⟨_,cs,ty,fz,h⟩:=hrow k e.symm;rw[heap_alloc_old W _ hkW,hk]at h;injection h with h
  subst h;cases hc
theorem vs_ownF {w w':World}{base:Nat}{v:Value}{xs:List Value}{row:Option Nat}(h:Vs w base v xs)(hg:w.grownBy w' row)(hr:∀r,row=some r->∃o:Obj,w.heap[r]?=some o/\o.isCells=false):Vs w' base v xs:=by
 rcases Classical.em (xs=[])with hx|hx
 ·rcases h with ⟨rfl,rfl⟩|⟨g,cap,rfl,h1,h2,h3,h4,h5⟩
  ·exact .inl ⟨rfl,rfl⟩
  ·by_cases hc:cap=0
   ·subst hc
    refine .inr ⟨g,0,rfl,h1,Nat.lt_of_lt_of_le h2 hg.size,h3,λi hi=>by omega,λi x hx'=>?_⟩;rw[hx]at hx';cases hx'
   ·have hb:w'.heap[g]?=w.heap[g]?:=hg.block g h2 (λe=>by
     obtain⟨o,ho,hc'⟩:=hr g e.symm;obtain⟨⟨u,hu⟩,_⟩:=h4 0 (by omega);unfold World.cell? at hu;simp only[ho]at hu;cases o<;>simp_all[Obj.isCells])
    refine .inr ⟨g,cap,rfl,h1,Nat.lt_of_lt_of_le h2 hg.size,h3,λi hi=>?_,λi x hx'=>(World.cell?_of_block hb).trans (h5 i x hx')⟩;obtain⟨⟨u,hu⟩,hf⟩:=h4 i hi;exact⟨⟨u,(World.cell?_of_block hb).trans hu⟩,(World.frozen?_of_block hb).trans hf⟩
 ·exact h.ownF hx hg hr
theorem SI.own {w w4:World}{p9:Nat}{N:Nat}(hw:w.heap.size<=w4.heap.size):OwnFrom w4.heap.size (fun(pre:List (Fin N)) W=>SI w w4 p9 pre.length W):=by
 rintro s A C row ⟨⟨v,h1,h2,h20⟩,h6,h7⟩ hg hr;refine⟨⟨v,blk_own w4.heap.size _ _ _ () A C row h1 hg hr,vs_ownF h2 hg (λr e=>(hr r e).2),h20⟩,h6.grown hg (λr e=>(hr r e).1) (Nat.le_refl _),?_⟩;refine⟨hg.os.trans h7.os,hg.tape.trans h7.tape,hg.output.trans h7.output,Nat.le_trans h7.size hg.size,λk hk=>?_⟩;have hnk:some k≠row:=λe=>by have:=(hr k e.symm).1;omega
 exact(hg.block k (Nat.lt_of_lt_of_le hk h7.size) hnk).trans (h7.block k hk)
theorem state0 (w:World)(tab:Array Value)(hT:Tab w tab)(r:Rp.Rep)(A:Option Addr)(n c:Nat)(A':Option Addr)(n' c':Nat)(h:RepR w w.heap.size r A n A' n')(hv:Rp.valid r=true)(hc:∀x∈r.posts,NoCmd x.text) :
 Calls prog 34 #[repV r A n c A' n' c',g0] w λe w'=>(∃a b d D cD,e=.returned (.tuple #[.agg (eng0 a b d),.slice D n cD,.int .i64 0])/\EngAt w' tab a b d/\Vs w' w.heap.size (.slice D n cD) (List.replicate n (.bool false)))/\Below w.heap.size w w':=by
 have HT:=hid hT;have ht0:=hT.1.lt;have HR:=hid h;have HV:=hid hv;have HC:=hid hc;clear hT h hv hc;have HR':=HR.out;obtain⟨me,many,clock,posts,heard⟩:=r;obtain⟨W0,hW0⟩:∃W0,W0=((w.alloc (.cells #[.int .i64 me,.int .i64 many,.int .i64 clock,.slice A n c,.slice A' n' c'] 26)).alloc (.cells #[nilS,nilS,nilS] 79)).alloc (.cells #[nilS,nilS,nilS] 72):=⟨_,rfl⟩;have hX:=hid (show Blk W0 w.heap.size 26 #[.int .i64 me,.int .i64 many,.int .i64 clock,.slice A n c,.slice A' n' c'] by rw[hW0];exact((Blk.new _ _ _).alloc _).alloc _);have hG:=hid (show Blk W0 (w.heap.size+1) 79 #[nilS,nilS,nilS] by rw[hW0];exact(Blk.new2 _ _ _ _).alloc _);have hR:=hid (show Blk W0 (w.heap.size+1+1) 72 #[nilS,nilS,nilS] by rw[hW0];exact Blk.new' _ _ _ (by simp));have hW:=hid (show Below w.heap.size w W0 by rw[hW0];exact(((Below.refl _ w).alloc (Nat.le_refl _) _).alloc (by simp) _).alloc (by simp;omega) _);clear HR';refine calls_of_marks func34 rfl ?_;unfold repV;simp only[ntmps34,List.size_toArray,List.length_cons,List.length_nil,Nat.reduceAdd,Nat.reduceSub,Array.replicate_succ,Array.replicate_zero,List.push_toArray,List.append_toArray,List.nil_append,List.cons_append]
 go_upto_region 1 with (fail)
 rw[<- hW0];clear hW0;obtain⟨a1,a2,a3⟩:=hG.out.three
 go_wp2_with fail
 refine(engNew0 W0 tab (HT.out.below hW.out ht0)).mono ?_;rintro e w1 ⟨⟨ea,eb,ec,rfl,hE,_,_,_⟩,h1⟩;have hX1:=hid ((hX.out.below h1 hX.out.lt).alloc (.cells (eng0 ea eb ec) 72));have hR1:=hid ((hR.out.below h1 hR.out.lt).alloc (.cells (eng0 ea eb ec) 72));have hN1:=hid (Blk.new w1 72 (eng0 ea eb ec));have hlR:=hR.out.lt;have hz1:=h1.size;have hW1':=hW.out.trans (h1.mono hW.out.size);have hW1:=hid (hW1'.alloc hW1'.size (.cells (eng0 ea eb ec) 72));have hE1:=hid (EngAt.below hE ((Below.refl w1.heap.size w1).alloc (Nat.le_refl _) (.cells (eng0 ea eb ec) 72)) (Nat.le_refl _));have hsW:=hW.out.size;clear a1 a2 a3 h1 hX hG hR hW hW1' hE;obtain⟨d0,d1,d2,d3,d4⟩:=hX1.out.cells5
 go_wp2_with fail
 refine(valid_any _ ⟨me,many,clock,posts,heard⟩ A n c A' n' c' ((HR.out.below hW1.out).more hW1.out.size)).mono ?_;rw[HV.out];rintro e w2 ⟨rfl,h2⟩;have hz2:=h2.size;have hX2:=hid ((hX1.out.below h2 hX1.out.lt).alloc (.cells #[.slice none 0 0] 73));have hR2:=hid ((hR1.out.below h2 hR1.out.lt).alloc (.cells #[.slice none 0 0] 73));have hN2:=hid ((hN1.out.below h2 hN1.out.lt).alloc (.cells #[.slice none 0 0] 73));have hD2:=hid (Blk.new w2 73 #[.slice none 0 0]);have hE2:=hid ((hE1.out.below h2 (Nat.le_refl _)).below ((Below.refl w2.heap.size w2).alloc (Nat.le_refl _) (.cells #[.slice none 0 0] 73)) (Nat.le_refl _));have hW2':=hW1.out.trans (h2.mono hW1.out.size);have hW2:=hid (hW2'.alloc hW2'.size (.cells #[.slice none 0 0] 73));have hlN:=hN1.out.lt;have hsW2:=hW2'.size;simp only[World.size_alloc]at hz2;clear d0 d1 d2 d3 d4 h2 hX1 hR1 hN1 hE1 hW1 hW2';obtain⟨d0,d1,d2,d3,d4⟩:=hX2.out.cells5;obtain⟨n0,n1,n2⟩:=hN2.out.three
 go_wp2_with fail
 refine(statesOf _ ea eb ec n c A).mono ?_;rintro e w4 ⟨b1,b2,rfl,hb1,hb2,hl1,hl2,h4⟩;have hz4:=h4.size;simp only[World.size_alloc]at hz4 hl1 hl2;have hR4:=hid (hR2.out.below h4 hR2.out.lt);have hN4:=hid (hN2.out.below h4 hN2.out.lt);have hD4:=hid (hD2.out.below h4 hD2.out.lt);have hE4:=hid (hE2.out.below h4 (Nat.le_refl _));have hW4:=hid (hW2.out.trans (h4.mono hW2.out.size));have HB1:=hid hb1;have HB2:=hid hb2;clear d0 d1 d2 d3 d4 n0 n1 n2 h4 hX2 hR2 hN2 hD2 hE2 hW2 hb1 hb2
 go_wp2_with fail
 refine with_act ?_;intro b hb;refine wpIn_wide (n:=9).1 ?_;have hlb1:=HB1.out.lt;have hlb2:=HB2.out.lt;refine wpIn_rangeFunc_ownH (α:=Fin n) (F:=Fence.wide) rfl (by omega) (gf:=94) (lb:=#[.pointer (some ⟨b1,0,none⟩),.pointer (some ⟨b2,0,none⟩)]) (by rw[hb];rfl) trivial (enters_of func94 (by kernel_rfl) rfl)
  (states_stops 8 (by omega) b1 b2 w4.heap.size w2.heap.size ea eb ec w.heap.size n c A posts w4 HB1.out HB2.out hlb1 hlb2 (by omega) (by omega) (Nat.le_refl _) (HR.out.posts.below hW4.out) HR.out.len (by omega) (by omega) HR.out.few HC.out)
  (λh k=>h.trans k) (λW l o o' hl _ _ _=>KeepB.putObj hl o') (Below.refl _ _) (λ_=>rfl)
  (λpre W=>SI w w4 w2.heap.size pre.length W)
  (λ_ _ _=>False) (SI.own hW4.out.size) (λ_ _ _ _ _ hs _ _=>hs)
  ⟨⟨_,hD4.out,Vs.nil _ _,λ_=>rfl⟩,KeepB.refl _ _ _,hW4.out⟩
  (λ_ a' W=>∃g5,a'={ tmps:=(((b.tmps.setIfInBounds 29 (.bool false)).setIfInBounds 30 (.agg (eng0 ea eb ec))).setIfInBounds 10 (.bool false)).setIfInBounds 11 (.pointer (some ⟨g5,0,none⟩)),defers:=[] }/\w4.heap.size<=g5/\Blk W g5 72 (eng0 ea eb ec)/\w2.heap.size<W.heap.size/\∀v k,W.cell? ⟨w2.heap.size,0,none⟩=some v->v.ownBlock=some k->k≠g5) ?ownA ?assign ?body ?done ?stop
 case ownA =>
  rintro x a' _ A B row ⟨g5,h1,h2,h3,h4,h5⟩ hg hr;refine⟨g5,h1,h2,blk_own w4.heap.size g5 72 _ () A B row h3 hg hr,Nat.lt_of_lt_of_le h4 hg.size,λv k hv=>h5 v k ?_⟩;rw[<- hv];exact(World.cell?_of_block (hg.block w2.heap.size h4 (λe=>by have:=(hr _ e.symm).1;omega))).symm
 case assign =>
  subst hb;rintro l pre x W K hI hK;simp only[List.setIfInBounds_toArray,List.set_cons_succ,List.set_cons_zero]at hK
  gi_wp2
  have hbw:Below W.heap.size W (W.alloc (.cells (eng0 ea eb ec) 72)):=(Below.refl _ _).alloc (Nat.le_refl _) _;refine hK _ _ ((But.of_below (p:=W.heap.size) hbw).kept' _) (KeepB.of_below hbw hI.keep.1) ((SI.own hW4.out.size).alloc _ hI) ⟨W.heap.size,rfl,hI.keep.1,Blk.new _ _ _,by have:=hI.keep.1;simp;omega,λv k hv hk=>?_⟩;obtain⟨v',hv1,hv2,_⟩:=hI.done;have:=(hv1.alloc (.cells (eng0 ea eb ec) 72)).cell 0;rw[hv]at this;injection this with this
  subst this;have:=(hv2.own k hk).2;omega
 case body =>
  subst hb;rintro l pre x a' W _ _ hI ⟨g5,rfl,hg5,hA,hlt5,hne5⟩ hlen;obtain⟨v,hv1,hv2,hv0⟩:=hI.done;obtain⟨V1,vc,rfl⟩:=hv2.len (n:=pre.length) (by simp);have cv:=hv1.cell 0;have hne5':=λk (hk:(Value.slice V1 pre.length vc).ownBlock=some k)=>hne5 _ k (hv1.cell 0) hk
  have hown:=hv2.own;clear hne5;simp only[List.setIfInBounds_toArray,List.set_cons_succ,List.set_cons_zero];have hEW:Blk W w1.heap.size 72 (eng0 ea eb ec):=(hI.keep.2 _ (by omega) (by omega)).trans hN4.out;obtain⟨f0,f1,f2⟩:=hEW.three;have hzW:=hI.keep.1;have hk0:(W.alloc (.cells #[.bool false] 4)).cell? ⟨W.heap.size,0,none⟩=some (.bool false):=(Blk.new W 4 #[.bool false]).cell 0;have HV:=hid (hv2.below ((Below.refl _ W).alloc (Nat.le_refl _) (.cells #[.bool false] 4)));have hzb:w4.heap.size<=(W.alloc (.cells #[.bool false] 4)).heap.size:=by simp;omega
  have hl:(List.replicate pre.length (Value.bool false)).length+1<=1099511627776:=by
   have:=HR.out.few;simp;omega
  gi_wp2_with (first|(gi_at_builtin;refine wpListIn_appendV underlying73 info4 rfl (by decide) rfl (.tmp 31) (.tmp 33) rfl w4.heap.size (.slice V1 pre.length vc) (List.replicate pre.length (.bool false)) rfl HV.out hzb hl ⟨W.heap.size,0,none⟩ (.bool false) rfl 1 rfl hk0 ?_;intro v2 w2' hV2 hg2 ho2;obtain⟨A2,c2,rfl⟩:=hV2.len (n:=pre.length+1) (by simp);have hz2':=hg2.size;simp only[World.size_alloc]at hz2';have hbk:=λk (hk:k<W.heap.size) (hne:some k≠(Value.slice V1 pre.length vc).ownBlock)=>(hg2.block k (by simp;omega) hne).trans (heap_alloc_old W (.cells #[.bool false] 4) hk);have hq1:=hid (show Blk w2' w2.heap.size 73 #[.slice V1 pre.length vc]from(hbk _ hv1.lt (λe=>by have:=(hown _ e.symm).1;omega)).trans hv1);have hq2:=hid (show Blk w2' w1.heap.size 72 (eng0 ea eb ec)from(hbk _ hEW.lt (λe=>by have:=(hown _ e.symm).1;omega)).trans hEW);have hq3:=hid (show Blk w2' g5 72 (eng0 ea eb ec)from(hbk _ hA.lt (λe=>by exact hne5' _ e.symm rfl)).trans hA);have r0:=hq1.out.cell 0;have r1:=hq1.out.frozen 0;have hq4:=hid (hq2.out.far (p:=⟨w2.heap.size,0,none⟩) (by show w1.heap.size≠w2.heap.size;omega) (.slice A2 (pre.length+1) c2));have hq5:=hid (hq3.out.far (p:=⟨w2.heap.size,0,none⟩) (by show g5≠w2.heap.size;omega) (.slice A2 (pre.length+1) c2));obtain⟨s0,s1,s2⟩:=hq4.out.three;obtain⟨t0,t1,t2⟩:=hq5.out.three;have u0:=hq4.out.frozen 0;have u1:=hq4.out.frozen 1;have u2:=hq4.out.frozen 2;have HV2:=hid hV2;have HG2:=hid hg2;clear hV2 hg2 hbk ho2)|gi_in)
  have hrow:=vs_row HV.out hv0;obtain⟨k1,k2,k3⟩:=round_keep (u:=.slice A2 (pre.length+1) c2) hv1 hEW (by omega) HG2.out hrow (by omega) (by omega) hzW;refine⟨k3,k2,⟨⟨_,k1,?_,?_⟩,hI.keep.trans k2,?_⟩⟩
  ·have hV:=HV2.out
   have e:List.replicate pre.length (Value.bool false)++[.bool false]=List.replicate (pre++[x]).length (.bool false):=by simp[List.replicate_succ']
   rw[e]at hV;have hV':=vs_far (i:=2) (vs_far (i:=1) (vs_far (i:=0) (vs_far (i:=0) hV (p:=w2.heap.size) (by omega) (.slice A2 (pre.length+1) c2)) (p:=w1.heap.size) (by omega) (.slice (some ⟨ea,0,none⟩) 1 1)) (p:=w1.heap.size) (by omega) (.slice (some ⟨eb,0,none⟩) 1 1)) (p:=w1.heap.size) (by omega) (.slice (some ⟨ec,0,none⟩) 1 1);exact hV'
  ·intro h
   simp at h
  ·have hb0:Below w.heap.size w w2':=⟨HG2.out.os.trans hI.low.os,HG2.out.tape.trans hI.low.tape,HG2.out.output.trans hI.low.output,by omega,λk hk=>(HG2.out.block k (by simp;omega) (λe=>by have:=(hrow k e.symm).1;omega)).trans ((heap_alloc_old W _ (by omega)).trans (hI.low.block k hk))⟩
   exact(((hb0.setCell (p:=⟨w2.heap.size,0,none⟩) (by show w.heap.size<=w2.heap.size;omega) _).setCell (p:=⟨w1.heap.size,0,none⟩) (by show w.heap.size<=w1.heap.size;omega) _).setCell (p:=⟨w1.heap.size,1,none⟩) (by show w.heap.size<=w1.heap.size;omega) _).setCell (p:=⟨w1.heap.size,2,none⟩) (by show w.heap.size<=w1.heap.size;omega) _
 case done =>
  subst hb;rintro D xs W hD rfl hI hK;obtain⟨v,hv1,hv2,_⟩:=hI.done;simp only[List.length_finRange]at hv2;obtain⟨V1,vc,rfl⟩:=hv2.len (n:=n) (by simp);have hkp:=fun {g t cs} (h:Blk w4 g t cs) (hne:g≠w2.heap.size)=>(show Blk W g t cs from(hI.keep.2 g h.lt hne).trans h)
  have hN5:=hid (hkp hN4.out (by omega));have hR5:=hid (hkp hR4.out (by omega));have hE5:=hid (show EngAt W tab ea eb ec from⟨hkp hE4.out.ver (blk_ne hE4.out.ver hD4.out (by decide)),hkp hE4.out.bra (blk_ne hE4.out.bra hD4.out (by decide)),hkp hE4.out.tru (blk_ne hE4.out.tru hD4.out (by decide))⟩);have hV5:=hid hv2;have hL5:=hid hI.low;have hzW:=hI.keep.1;have cv:=hv1.cell 0;obtain⟨m0,m1,m2⟩:=hN5.out.three;obtain⟨q0,q1,q2⟩:=hR5.out.three;have z0:=hR5.out.frozen 0;have z1:=hR5.out.frozen 1;have z2:=hR5.out.frozen 2;clear hkp hv2 hI
  go_wp2_with fail
  go_region
  go_wp2_with fail
  have hDp:w.heap.size+1+1≠D:=by omega
  have hK1:((((W.setCell ⟨w.heap.size+1+1,0,none⟩ (.slice (some ⟨ea,0,none⟩) 1 1)).setCell ⟨w.heap.size+1+1,1,none⟩ (.slice (some ⟨eb,0,none⟩) 1 1)).setCell ⟨w.heap.size+1+1,2,none⟩ (.slice (some ⟨ec,0,none⟩) 1 1)).drew).heap[D]?=some (.deferred (some [])) :=
   (Below.heap_setCell _ ⟨w.heap.size+1+1,2,none⟩ _ D (Ne.symm hDp)).trans ((Below.heap_setCell _ ⟨w.heap.size+1+1,1,none⟩ _ D (Ne.symm hDp)).trans ((Below.heap_setCell _ ⟨w.heap.size+1+1,0,none⟩ _ D (Ne.symm hDp)).trans hK))
  have far3:=fun {g t cs} (h:Blk W g t cs) (hne:g≠w.heap.size+1+1)=>((((h.far (p:=⟨w.heap.size+1+1,0,none⟩) hne (.slice (some ⟨ea,0,none⟩) 1 1)).far (p:=⟨w.heap.size+1+1,1,none⟩) hne (.slice (some ⟨eb,0,none⟩) 1 1)).far (p:=⟨w.heap.size+1+1,2,none⟩) hne (.slice (some ⟨ec,0,none⟩) 1 1)).drew.putObj (blk_ne_def h hK) (.deferred none))
  have hR6:=((((hR5.out.set_ 0 (.slice (some ⟨ea,0,none⟩) 1 1)).set_ 1 (.slice (some ⟨eb,0,none⟩) 1 1)).set_ 2 (.slice (some ⟨ec,0,none⟩) 1 1)).drew).putObj hDp (.deferred none);have hE6:EngAt _ tab ea eb ec:=⟨far3 hE5.out.ver (blk_ne hE5.out.ver hR5.out (by decide)),far3 hE5.out.bra (blk_ne hE5.out.bra hR5.out (by decide)),far3 hE5.out.tru (blk_ne hE5.out.tru hR5.out (by decide))⟩;have hV6:Vs ((((W.setCell ⟨w.heap.size+1+1,0,none⟩ (.slice (some ⟨ea,0,none⟩) 1 1)).setCell ⟨w.heap.size+1+1,1,none⟩ (.slice (some ⟨eb,0,none⟩) 1 1)).setCell ⟨w.heap.size+1+1,2,none⟩ (.slice (some ⟨ec,0,none⟩) 1 1)).drew) w4.heap.size (.slice V1 n vc) (List.replicate n (.bool false)) :=
   vs_far (i:=2) (vs_far (i:=1) (vs_far (i:=0) hV5.out (p:=w.heap.size+1+1) (by omega) _) (p:=w.heap.size+1+1) (by omega) _) (p:=w.heap.size+1+1) (by omega) _
  have hV7:=vs_ownF hV6 (grownBy_putObj' _ D (.deferred none)) (λr e=>by cases e;exact⟨_,hK1,rfl⟩);have hB6:=below_putObj ((((hL5.out.setCell (p:=⟨w.heap.size+1+1,0,none⟩) (by show w.heap.size<=w.heap.size+1+1;omega) (.slice (some ⟨ea,0,none⟩) 1 1)).setCell (p:=⟨w.heap.size+1+1,1,none⟩) (by show w.heap.size<=w.heap.size+1+1;omega) (.slice (some ⟨eb,0,none⟩) 1 1)).setCell (p:=⟨w.heap.size+1+1,2,none⟩) (by show w.heap.size<=w.heap.size+1+1;omega) (.slice (some ⟨ec,0,none⟩) 1 1)).drew) (g:=D) (by omega) (.deferred none);exact leaves_mark hK1 (results_cell3 rfl _ _ (w.heap.size+1+1) 72 (eng0 ea eb ec) _ rfl hR6 underlying72 rfl size72) ⟨⟨ea,eb,ec,V1,vc,rfl,hE6,hV7.more (by omega)⟩,hB6⟩
 case stop=>intro D c' pre W _ _ h;exact h.elim
end
section
open Go.RowKit Go.Shelf
theorem Reads.on {w w':World}{lo hi size n:Nat}{A:Option Addr}{xs:List Value}(h:Reads w hi size A n xs)(hf:Fresh lo A)(hk:∀b i,lo<=b->b<hi->w'.cell? ⟨b,i,none⟩=w.cell? ⟨b,i,none⟩):Reads w' hi size A n xs :=
 ⟨h.1,λhn=>by
   obtain⟨b,off,e,hb,hc⟩:=h.2 hn;exact⟨b,off,e,hb,λj u hu=>(hk b _ (hf _ e) hb).trans (hc j u hu)⟩⟩
def RepAt (W:World)(V:Array Value)(r:Rp.Rep)(lo hi:Nat):Prop :=
 ∃A n c A' n' c',V=#[.int .i64 r.me,.int .i64 r.many,.int .i64 r.clock,.slice A n c,.slice A' n' c']/\RepR W hi r A n A' n'/\Fresh lo A/\Fresh lo A'
def MsgAt (W:World)(V:Array Value)(m:Rp.Msg)(lo hi:Nat):Prop :=
 ∃M N C M' N' C',V=#[.int .i64 m.src,.slice M N C,.slice M' N' C']/\MsgR W hi m M N M' N'/\N<=C/\Fresh lo M/\Fresh lo M'
theorem RepAt.on {w w':World}{V:Array Value}{r:Rp.Rep}{lo hi:Nat}(h:RepAt w V r lo hi)(hk:∀b i,lo<=b->b<hi->w'.cell? ⟨b,i,none⟩=w.cell? ⟨b,i,none⟩):RepAt w' V r lo hi:=by
 obtain⟨A,n,c,A',n',c',e,hr,h1,h2⟩:=h;exact⟨A,n,c,A',n',c',e,⟨hr.posts.on h1 hk,hr.len,hr.heard.on h2 hk,hr.len',hr.few,hr.few'⟩,h1,h2⟩
theorem MsgAt.on {w w':World}{V:Array Value}{r:Rp.Msg}{lo hi:Nat}(h:MsgAt w V r lo hi)(hk:∀b i,lo<=b->b<hi->w'.cell? ⟨b,i,none⟩=w.cell? ⟨b,i,none⟩):MsgAt w' V r lo hi:=by
 obtain⟨A,n,c,A',n',c',e,hr,hc,h1,h2⟩:=h;exact⟨A,n,c,A',n',c',e,⟨hr.posts.on h1 hk,hr.len,hr.heard.on h2 hk,hr.len',hr.few,hr.few'⟩,hc,h1,h2⟩
theorem RepAt.below {w w':World}{V:Array Value}{r:Rp.Rep}{lo hi B:Nat}(h:RepAt w V r lo hi)(hb:Below B w w')(hB:hi<=B):RepAt w' V r lo hi:=h.on λb i _ hh=>hb.cell (p:=⟨b,i,none⟩) (by show b<B;omega)
theorem MsgAt.below {w w':World}{V:Array Value}{r:Rp.Msg}{lo hi B:Nat}(h:MsgAt w V r lo hi)(hb:Below B w w')(hB:hi<=B):MsgAt w' V r lo hi:=h.on λb i _ hh=>hb.cell (p:=⟨b,i,none⟩) (by show b<B;omega)
theorem cell_setRow {w:World}{p b i:Nat}(cs:Array Value)(h:b≠p):(w.setRow p cs).cell? ⟨b,i,none⟩=w.cell? ⟨b,i,none⟩:=World.cell?_of_block (setRow_other w p b cs h)
theorem RepAt.row {w:World}{V:Array Value}{r:Rp.Rep}{lo hi p:Nat}(h:RepAt w V r lo hi)(cs:Array Value)(hp:p<lo∨hi<=p):RepAt (w.setRow p cs) V r lo hi:=h.on λb i h1 h2=>cell_setRow cs (by omega)
theorem MsgAt.row {w:World}{V:Array Value}{r:Rp.Msg}{lo hi p:Nat}(h:MsgAt w V r lo hi)(cs:Array Value)(hp:p<lo∨hi<=p):MsgAt (w.setRow p cs) V r lo hi:=h.on λb i h1 h2=>cell_setRow cs (by omega)
theorem RepAt.size {w:World}{V:Array Value}{r:Rp.Rep}{lo hi:Nat}(h:RepAt w V r lo hi):V.size=5:=by obtain⟨_,_,_,_,_,_,rfl,_⟩:=h;rfl
theorem RepAt.one {w:World}{V:Array Value}{r:Rp.Rep}{lo hi:Nat}(h:RepAt w V r lo hi):V.all (·.oneCell')=true:=by obtain⟨_,_,_,_,_,_,rfl,_⟩:=h;simp[Value.oneCell']
theorem MsgAt.size {w:World}{V:Array Value}{r:Rp.Msg}{lo hi:Nat}(h:MsgAt w V r lo hi):V.size=3:=by obtain⟨_,_,_,_,_,_,rfl,_⟩:=h;rfl
theorem MsgAt.one {w:World}{V:Array Value}{r:Rp.Msg}{lo hi:Nat}(h:MsgAt w V r lo hi):V.all (·.oneCell')=true:=by obtain⟨_,_,_,_,_,_,rfl,_⟩:=h;simp[Value.oneCell']
theorem newC (w:World)(i k:Int){r:Rp.Rep}(h:Rp.newRep i k=some r):Calls prog 27 #[.int .i64 i,.int .i64 k] w λe w'=>∃V,e=.returned (.tuple #[.agg V,.int .i64 0])/\RepAt w' V r w.heap.size w'.heap.size/\Below w.heap.size w w':=by
 refine(new_any w i k).mono λe w' hg=>?_
 rw[h]at hg;obtain⟨hb,A,n,c,A',n',c',e1,h1,h2,h3,_⟩:=hg;exact⟨_,e1,⟨A,n,c,A',n',c',rfl,h1,h2,h3⟩,hb⟩
theorem newC0 (w:World)(i k:Int)(h:Rp.newRep i k=none):Calls prog 27 #[.int .i64 i,.int .i64 k] w λe w'=>e=.returned (.tuple #[zeroRep,.int .i64 310])/\Below w.heap.size w w':=by
 refine(new_any w i k).mono λe w' hg=>?_
 rw[h]at hg;exact⟨hg.2,hg.1⟩
theorem writeC (w:World){V:Array Value}{r r':Rp.Rep}{lo hi:Nat}(t:ByteArray)(h:RepAt w V r lo hi)(hh:hi<=w.heap.size)(hw:Rp.write r t=some r'):Calls prog 13 #[.agg V,.string t] w λe w'=>∃V',e=.returned (.tuple #[.agg V',.int .i64 0])/\RepAt w' V' r' w.heap.size w'.heap.size/\Below w.heap.size w w':=by
 obtain⟨A,n,c,A',n',c',rfl,hr,_,_⟩:=h;refine(write_any w r A n c A' n' c' t (hr.more hh)).mono λe w' hg=>?_
 rw[hw]at hg;obtain⟨hb,A,n,c,A',n',c',e1,h1,h2,h3,_⟩:=hg;exact⟨_,e1,⟨A,n,c,A',n',c',rfl,h1,h2,h3⟩,hb⟩
theorem tellC (w:World){V:Array Value}{r r':Rp.Rep}{m:Rp.Msg}{lo hi:Nat}(h:RepAt w V r lo hi)(hh:hi<=w.heap.size)(hw:Rp.tell r=some (r',m)):Calls prog 15 #[.agg V] w λe w'=>∃V' M',e=.returned (.tuple #[.agg V',.agg M',.int .i64 0])/\RepAt w' V' r' w.heap.size w'.heap.size/\MsgAt w' M' m w.heap.size w'.heap.size/\Below w.heap.size w w':=by
 obtain⟨A,n,c,A',n',c',rfl,hr,_,_⟩:=h;refine(tell_any w r A n c A' n' c' (hr.more hh)).mono λe w' hg=>?_
 rw[hw]at hg;obtain⟨hb,A,n,c,A',n',c',M,N,C,M',N',C',e1,h1,h2,h3,⟨⟨h4,h5⟩,_⟩,h6,h7⟩:=hg;exact⟨_,_,e1,⟨A,n,c,A',n',c',rfl,h1,h4,h5⟩,⟨M,N,C,M',N',C',rfl,h2,h3,h6,h7⟩,hb⟩
theorem hearC (w:World){V M:Array Value}{r r':Rp.Rep}{m:Rp.Msg}{lo hi lo' hi':Nat}(h:RepAt w V r lo hi)(hh:hi<=w.heap.size)(hm:MsgAt w M m lo' hi')(hh':hi'<=w.heap.size)(hw:Rp.hear r m=some r'):Calls prog 25 #[.agg V,.agg M] w λe w'=>∃V',e=.returned (.tuple #[.agg V',.int .i64 0])/\RepAt w' V' r' w.heap.size w'.heap.size/\Below w.heap.size w w':=by
 obtain⟨A,n,c,A',n',c',rfl,hr,_,_⟩:=h;obtain⟨M,N,C,M',N',C',rfl,hm,hc,_,_⟩:=hm;refine(hear_any w r A n c A' n' c' m M N C M' N' C' (hr.more hh) ⟨hm.posts.more hh',hm.len,hm.heard.more hh',hm.len',hm.few,hm.few'⟩ hc).mono λe w' hg=>?_
 rw[hw]at hg;obtain⟨hb,A,n,c,A',n',c',e1,h1,h2,h3,_⟩:=hg;exact⟨_,e1,⟨A,n,c,A',n',c',rfl,h1,h2,h3⟩,hb⟩
theorem stableC (w:World){V:Array Value}{r:Rp.Rep}{lo hi:Nat}(h:RepAt w V r lo hi)(hh:hi<=w.heap.size)(hv:Rp.valid r=true):Calls prog 16 #[.agg V] w λe w'=>e=.returned (.tuple #[.int .i64 (Rp.stableN r),.int .i64 0])/\Below w.heap.size w w':=by
 obtain⟨A,n,c,A',n',c',rfl,hr,_,_⟩:=h;refine(stable_any w r A n c A' n' c' (hr.more hh)).mono λe w' hg=>?_
 rw[hv]at hg;exact hg
theorem validC (w:World){V:Array Value}{r:Rp.Rep}{lo hi:Nat}(h:RepAt w V r lo hi)(hh:hi<=w.heap.size):Calls prog 22 #[.agg V] w λe w'=>e=.returned (.bool (Rp.valid r))/\Below w.heap.size w w':=by
 obtain⟨A,n,c,A',n',c',rfl,hr,_,_⟩:=h;exact valid_any w r A n c A' n' c' (hr.more hh)
theorem sameC (w:World){V V2:Array Value}{r r2:Rp.Rep}{lo hi lo' hi':Nat}(h:RepAt w V r lo hi)(hh:hi<=w.heap.size)(h2:RepAt w V2 r2 lo' hi')(hh':hi'<=w.heap.size):Calls prog 24 #[.agg V,.agg V2] w λe w'=>e=.returned (.bool (decide (r=r2)))/\Below w.heap.size w w':=by
 obtain⟨A,n,c,A',n',c',rfl,hr,_,_⟩:=h;obtain⟨B,m,d,B',m',d',rfl,hr2,_,_⟩:=h2;exact same_any w r A n c A' n' c' r2 B m d B' m' d' (hr.more hh) (hr2.more hh')
theorem digestC (w:World)(tab:Array Value)(hT:Tab w tab){V:Array Value}{r:Rp.Rep}{lo hi:Nat}(h:RepAt w V r lo hi)(hh:hi<=w.heap.size)(hv:Rp.valid r=true)(hn0:0<r.posts.length)(hn:r.posts.length<=1000)(hp:∀x∈r.posts,SmallP x) :
 Calls prog 18 #[.agg V] w λe w'=>∃d:ByteArray,e=.returned (.tuple #[.string d,.int .i64 0])/\d.size=32/\Below w.heap.size w w':=by
 obtain⟨A,n,c,A',n',c',rfl,hr,_,_⟩:=h;exact digest0 w tab hT r A n c A' n' c' (hr.more hh) hv (by rw[<- hr.len];exact hn0) (by rw[<- hr.len];exact hn) hp
theorem stateC (w:World)(tab:Array Value)(hT:Tab w tab){V:Array Value}{r:Rp.Rep}{lo hi:Nat}(h:RepAt w V r lo hi)(hh:hi<=w.heap.size)(hv:Rp.valid r=true)(hc:∀x∈r.posts,NoCmd x.text) :
 Calls prog 34 #[.agg V,g0] w λe w'=>(∃a b d D cD,e=.returned (.tuple #[.agg (eng0 a b d),.slice D r.posts.length cD,.int .i64 0])/\EngAt w' tab a b d/\Vs w' w.heap.size (.slice D r.posts.length cD) (List.replicate r.posts.length (.bool false)))/\Below w.heap.size w w':=by
 obtain⟨A,n,c,A',n',c',rfl,hr,_,_⟩:=h;have hl:=hr.len;subst hl;exact state0 w tab hT r A _ c A' n' c' (hr.more hh) hv hc
theorem size26 :(prog.info? 26).map (·.size)=some 5:=by kernel_rfl
theorem size28 :(prog.info? 28).map (·.size)=some 3:=by kernel_rfl
end
section
open Go.RowKit Go.Shelf
theorem Blk.reads {w:World}{b t:Nat}{cs:Array Value}(h:Blk w b t cs)(size n:Nat)(hs:cs.size=n*size):Reads w w.heap.size size (some ⟨b,0,none⟩) n cs.toList :=
 ⟨by simp[hs],λ_=>⟨b,0,rfl,h.lt,λj u hu=>by rw[Nat.zero_add,h.cell,<- Array.getElem?_toList];exact hu⟩⟩
theorem small_rC :∀x∈rC.posts,SmallP x:=by
 intro x hx;simp only[List.mem_cons,List.not_mem_nil,or_false]at hx;rcases hx with rfl|rfl|rfl<;>(refine⟨?_,?_,?_,?_⟩<;>decide)
theorem nocmd_rB3 :∀x∈rB3.posts,NoCmd x.text:=by
 intro x hx;simp only[List.mem_cons,List.not_mem_nil,or_false]at hx;rcases hx with rfl|rfl
 ·exact decodeA
 ·exact decodeC
def RunF (W:World)(va:Value):Prop:=∃g c C A,va=.slice (some ⟨g,0,none⟩) 2 c/\g<W.heap.size/\W.cell? ⟨g,8,none⟩=some (.slice A 1 C)
theorem RunF.below {W W':World}{va:Value}(h:RunF W va)(hb:Below W.heap.size W W'):RunF W' va:=by
 obtain⟨g,c,C,A,h1,h2,h3⟩:=h;exact⟨g,c,C,A,h1,Nat.lt_of_lt_of_le h2 hb.size,(hb.cell (p:=⟨g,8,none⟩) h2).trans h3⟩
theorem RunF.of {B x:Nat}{W:World}{va vb:Value}{rl:List RV}{ml:List MV}(h:RunR B W x va rl vb ml)(hr:[rA2,rD]=rl.map (·.r)):RunF W va:=by
 match rl,hr with
 | [],hr=>simp at hr
 | [_],hr=>simp at hr
 | _::_::_::_,hr=>simp at hr
 | [u,v],hr =>
   simp only[List.map_cons,List.map_nil,List.cons.injEq,and_true]at hr;obtain⟨hu,hv⟩:=hr;have hn:=(h.rep v (by simp)).1.len;rw[<- hv]at hn;obtain⟨_,h2⟩:=h.reps;rcases h2 with ⟨_,h0⟩|⟨g,cap,cur,e1,_,hg,_,_,_,ht⟩
   ·cases h0
   ·have hbl:Blk W g 26 cur:=hg
    refine⟨g,cap,v.c,v.A,e1,hbl.lt,?_⟩;rw[hbl.cell,<- Array.getElem?_toList];have h8:(cur.toList.take 10)[8]?=(encRs [u,v])[8]?:=by
     have:[u,v].length*5=10:=rfl;rw[this]at ht;rw[ht]
    rw[List.getElem?_take_of_lt (by omega)]at h8;rw[h8];show some (Value.slice v.A v.n v.c)=_;rw[<- hn];rfl
theorem one26 :(#[.int .i64 0,.int .i64 0,.int .i64 0,.slice none 0 0,.slice none 0 0]:Array Value).all (·.oneCell')=true:=by simp[Value.oneCell']
theorem one72 (a b c:Nat):(eng0 a b c).all (·.oneCell')=true:=by simp[Value.oneCell']
theorem zz72 (a b c:Nat):(prog.info? 72).map (·.size)=some (eng0 a b c).size:=size72
def DoneF (W:World)(g:Nat):Prop:=W.cell? ⟨g,0,none⟩=some (.bool false)/\W.cell? ⟨g,1,none⟩=some (.bool false)
theorem DoneF.below {W W':World}{g:Nat}(h:DoneF W g)(hb:Below W.heap.size W W'):DoneF W' g :=
 ⟨(hb.cell (p:=⟨g,0,none⟩) (lt_of_cell h.1)).trans h.1,(hb.cell (p:=⟨g,1,none⟩) (lt_of_cell h.1)).trans h.2⟩
theorem vs_two {W:World}{B:Nat}{D:Option Addr}{c:Nat}(h:Vs W B (.slice D 2 c) (List.replicate 2 (.bool false))):∃g,D=some ⟨g,0,none⟩/\DoneF W g:=by
 rcases h with ⟨h,_⟩|⟨g,cap,e,_,_,_,_,h5⟩
 ·cases h
 ·cases e
  exact⟨g,rfl,h5 0 _ rfl,h5 1 _ rfl⟩
theorem rep_rC {W:World}{V:Array Value}{lo hi:Nat}(h:RepAt W V rC lo hi):∃A c a oa c',V=#[.int .i64 0,.int .i64 2,.int .i64 2,.slice A 3 c,.slice (some ⟨a,oa,none⟩) 2 c']/\Reads W hi 4 A 3 (encPs [pA,pC,pB])/\W.cell? ⟨a,oa,none⟩=some (.int .i64 1)/\W.cell? ⟨a,oa+1,none⟩=some (.int .i64 1):=by
 obtain⟨A,n,c,A',n',c',rfl,hr,_,_⟩:=h;have h1:=hr.len;have h2:=hr.len';simp only[List.length_cons,List.length_nil]at h1 h2;subst h1 h2;obtain⟨b,off,rfl,_,hc⟩:=hr.heard.2 (by omega);exact⟨A,c,b,off,c',rfl,hr.posts,hc 0 _ rfl,hc 1 _ rfl⟩
theorem valid_nil (w:World):Calls prog 22 #[.agg #[.int .i64 0,.int .i64 0,.int .i64 0,.slice none 0 0,.slice none 0 0]] w λe w'=>e=.returned (.bool false)/\Below w.heap.size w w':=by
 have h:=valid_any w ⟨0,0,0,[],[]⟩ none 0 0 none 0 0 ⟨⟨rfl,λh=>absurd h (by decide)⟩,rfl,⟨rfl,λh=>absurd h (by decide)⟩,rfl,by decide,by decide⟩;rw[sn15]at h;exact h
theorem sn19 :decide (rC=rC)=true:=decide_eq_true rfl
theorem sn20 :decide (rA3=rC)=false:=decide_eq_false sn14
theorem sn21 :decide (([pA,pC,pB]:List Rp.Post)=[pA,pC,pB])=true:=decide_eq_true rfl
theorem wantR {w:World}{b:Nat}(h:Blk w b 57 #[.int .i64 1,.int .i64 0,.int .i64 0,.string ⟨#[97]⟩,.int .i64 1,.int .i64 1,.int .i64 0,.string ⟨#[99]⟩,.int .i64 2,.int .i64 0,.int .i64 1,.string ⟨#[98]⟩]):Reads w w.heap.size 4 (some ⟨b,0,none⟩) 3 (encPs [pA,pC,pB]):=h.reads 4 3 rfl
theorem rep_five {W:World}{V:Array Value}{r:Rp.Rep}{lo hi:Nat}(h:RepAt W V r lo hi):∃a b c d e,V=#[a,b,c,d,e]:=by
 obtain⟨A,n,c,A',n',c',rfl,_⟩:=h;exact⟨_,_,_,_,_,rfl⟩
end
end Go.Proofs.YtnehgpeelgjjhaaGreatDoor.Tw
