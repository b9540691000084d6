/- Contracts of functions of the program, and plain laws, towards the laws of replicas. Joined of the texts: R5, R6, R7, R8, R9. -/
import Derived.Test.YtnehgpeelgjjhaaGreatDoorW23
import Derived.Test.YtnehgpeelgjjhaaGreatDoorW06
import Derived.Deep.Cut
import Derived.Test.YtnehgpeelgjjhaaGreatDoorW07
set_option linter.all false
set_option maxRecDepth 100000
set_option maxHeartbeats 12800000
open Go.Lib (hid)
namespace Go.Proofs.YtnehgpeelgjjhaaGreatDoor.Tw
open Go.Proofs.Tryz
section
open Go.RowKit
theorem rwrite_any (w:World)(r:Rp.Rep)(A:Option Addr)(n c:Nat)(A':Option Addr)(n' c':Nat)(text:ByteArray)(h:RepR w w.heap.size r A n A' n')(hcap:n<=c) :
 Calls prog 14 #[repV r A n c A' n' c',.string text] w λe w'=>GotRep w w' e (Rp.write r text):=by
 obtain⟨i0,hi0,hz0,hz1,hz2⟩:=info_parts info57;obtain⟨me,many,clock,posts,heard⟩:=r;obtain⟨W0,hW0⟩:∃W0,W0=(w.alloc (.cells #[.int .i64 me,.int .i64 many,.int .i64 clock,.slice A n c,.slice A' n' c'] 26)).alloc (.cells #[.int .i64 0,.int .i64 0,.int .i64 0,.slice none 0 0,.slice none 0 0] 26):=⟨_,rfl⟩;have hs0:W0.heap.size=w.heap.size+2:=by rw[hW0];simp
 have hbW:Below w.heap.size w W0:=by rw[hW0];exact((Below.refl _ _).alloc (Nat.le_refl _) _).alloc (by simp) _
 have hBW:Blk W0 w.heap.size 26 #[.int .i64 me,.int .i64 many,.int .i64 clock,.slice A n c,.slice A' n' c']:=by rw[hW0];exact(Blk.new _ _ _).alloc _
 have hRW:Blk W0 (w.heap.size+1) 26 #[.int .i64 0,.int .i64 0,.int .i64 0,.slice none 0 0,.slice none 0 0]:=by rw[hW0];exact Blk.new2 _ _ _ _
 have HV:=hid (rvalid_any W0 ⟨me,many,clock,posts,heard⟩ A n c A' n' c' ((h.below hbW).more (by omega)) hcap);have HW0:=hid hW0;have HH:=hid h;clear h hW0;unfold repV at *;simp only at HV ⊢
 go_enter func14,ntmps14
 go_wp2_with fail
 rw[<- HW0.out];refine HV.out.mono ?_;rintro e w1 ⟨rfl,hb1⟩;have hb2:=hbW.trans (hb1.mono hbW.size);have hB1:=hBW.below hb1 (by omega);have hR1:=hRW.below hb1 (by omega);have hs1:=hb1.size;obtain⟨b0,b1,b2,b3,b4⟩:=hB1.cells5;obtain⟨r0,r1,r2,r3,r4⟩:=hR1.cells5;obtain⟨s0,s1,s2,s3,s4⟩:=hR1.soft5;cases hv:Rp.valid ⟨me,many,clock,posts,heard⟩
 ·have HN:=hid (write_no (t:=text) hv)
  go_wp2;refine bodyPost_ret (v:=.tuple #[zeroRep,.int .i64 310]) (by simp[zeroRep,results,results14,go_sem,r0,r1,r2,r3,r4]) rfl ⟨?_,?_⟩
  ·repeat(refine Below.setCell ?_ (by simp) _)
   exact hb2
  ·rw[HN.out]
 ·have HN:=hid (write_yes (t:=text) hv)
  have HVV:=hid hv;obtain⟨⟨v1,v2⟩,⟨v3,v4⟩,⟨v5,v6⟩,v7,v8,v9⟩:=Rp.valid_iff.1 hv;simp only at v1 v2 v3 v4 v5 v6 v8;have HPL:=hid HH.out.len;have hfew:=HH.out.few;have h200:n<=200:=by
   have h1:=(Rp.isLog_iff.1 v8).1;have h2:=HH.out.len;simp only at h2;omega
  simp only at HPL;obtain⟨k,rfl⟩:∃k:Nat,me=k:=⟨me.toNat,by omega⟩;have hk5:k<5:=by omega
  have HOwn:=hid (rcopied_any w1 ⟨k,many,clock,posts,heard⟩ A n c A' n' c' ((HH.out.below hb2).more hb2.size));unfold repV at HOwn;simp only at HOwn;clear v3 v4 v7 v8 v9 hv
  go_wp2_with (go_at_call 41;refine HOwn.out.mono ?_;rintro e w2 ⟨A1,c1,A2,c2,rfl,o1,o2,hc1,hc2,hb3⟩)
  obtain⟨W3,hW3⟩:∃W3,W3=w2.alloc (.cells #[.int .i64 k,.int .i64 many,.int .i64 (clock+1),.slice A1 n c1,.slice A2 n' c2] 26):=⟨_,rfl⟩;rw[<- hW3];have hs2:=hb3.size;have hs3:W3.heap.size=w2.heap.size+1:=by rw[hW3];simp
  have hb4:Below w2.heap.size w2 W3:=by rw[hW3];exact(Below.refl _ _).alloc (Nat.le_refl _) _
  have hG3:Blk W3 w2.heap.size 26 #[.int .i64 k,.int .i64 many,.int .i64 (clock+1),.slice A1 n c1,.slice A2 n' c2]:=by rw[hW3];exact Blk.new _ _ _
  have hb5:Below w.heap.size w W3:=(hb2.trans (hb3.mono hb2.size)).trans (hb4.mono (by omega));have hB3:Blk W3 w.heap.size 26 #[.int .i64 k,.int .i64 many,.int .i64 clock,.slice A n c,.slice A' n' c']:=(hB1.below hb3 (by omega)).below hb4 (by omega);have hR3:Blk W3 (w.heap.size+1) 26 #[.int .i64 0,.int .i64 0,.int .i64 0,.slice none 0 0,.slice none 0 0]:=(hR1.below hb3 (by omega)).below hb4 (by omega);have O1:=hid (own_below o1 hb4);have O2:=hid (own_below o2 hb4);have F2:=hid (Fresh.of_own o2 hb2.size);have N1:=hid (block_not (own_below o1 hb4) (g:=w.heap.size) (.inl (by omega)));have N2:=hid (block_not o1 (g:=w2.heap.size) (.inr (Nat.le_refl _)));have N3:=hid (block_not (own_below o1 hb4) (g:=w.heap.size+1) (.inl (by omega)));have N4:=hid (block_not o2 (g:=w2.heap.size) (.inr (Nat.le_refl _)));have N5:=hid (block_not (own_below o2 hb4) (g:=w.heap.size+1) (.inl (by omega)));have HP3:Hid (Reads W3 W3.heap.size 4 A n (encPs posts)):=hid ((HH.out.posts.below hb5).more hb5.size);have HG3:=hid hG3;have HB3:=hid hB3;have HR3:=hid hR3;have HBelow:=hid hb5;have g2:=hG3.cell 2;have g3:=hG3.cell 3;have q0:=hB3.cell 0;have q3:=hB3.cell 3;simp only[List.getElem?_toArray,List.getElem?_cons_zero,List.getElem?_cons_succ]at g2 g3 q0 q3;clear hW3 o1 o2 hG3 hB3 hR3 hb5 hb1 hb2 hb3 hb4 hB1 hR1 hBW hRW hbW b0 b1 b2 b3 b4 r0 r1 r2 r3 r4 s0 s1 s2 s3 s4 HV HOwn;have L0:=Later.of g2;have L1:=Later.of g3;have L2:=Later.of q0;have L3:=Later.of q3;refine Loose.wp_region_later [(10,.is (.int .i64 (Rp.count posts k))),(13,.row W3.heap.size 57 1 #[.int .i64 (clock+1),.int .i64 k,.int .i64 (Rp.count posts k),.string text])] 14 (by kernel_rfl) (by kernel_rfl) ?_
  (simp only[List.take_succ_cons,List.take_zero,List.drop_succ_cons,List.drop_zero])
  (repeat(first|refine Loose.walk_skip rfl ?_|(refine Loose.walk_plain rfl rfl rfl λK h=>?_;go_big_quiet_op;refine h _ ?_;clear h K)))
  refine Loose.walk_loose rfl rfl (λW' hW' hF=>Loose.loose_call (f:=45) (args:=#[.slice A n c,.int .i64 k]) (by kernel_rfl) ((rcount_any W' A n c posts k ((HP3.out.below hW').more hW'.size) HPL.out hfew).mono λe w' ⟨he,hb⟩=>⟨_,he,hb▸Below.refl _ _,rfl⟩)) ?_;rintro _ _ _ rfl
  (simp only[Act.put,List.setIfInBounds_toArray,List.set_cons_succ,List.set_cons_zero])
  (repeat(first|refine Loose.walk_skip rfl ?_|(refine Loose.walk_plain rfl rfl rfl λK h=>?_;go_big_quiet_op;refine h _ ?_;clear h K)))
  refine Loose.walk_loose rfl rfl (λW' hW' _=>Loose.loose_val (u:=.slice (some ⟨W'.heap.size,0,none⟩) 1 1) (W':=W'.alloc (.cells #[.int .i64 (clock+1),.int .i64 k,.int .i64 (Rp.count posts k),.string text] 57)) (by kernel_rfl) ((Below.refl _ _).alloc (Nat.le_refl _) _) ⟨_,rfl,hW'.size,Blk.new _ _ _⟩) ?_;rintro _ _ _ ⟨x,rfl,hx,_⟩
  (simp only[Act.put,List.setIfInBounds_toArray,List.set_cons_succ,List.set_cons_zero])
  (repeat(first|refine Loose.walk_skip rfl ?_|(refine Loose.walk_plain rfl rfl rfl λK h=>?_;go_big_quiet_op;refine h _ ?_;clear h K)))
  refine Loose.walk_nil ?_;rintro w4 hb6 hF;have hrow:=(Loose.Pred.row_at (B:=W3.heap.size) (t:=57) (n:=1) (cs:=#[.int .i64 (clock+1),.int .i64 k,.int .i64 (Rp.count posts k),.string text]) (x:=x) (W:=w4) hF.2).2;have hs4:=hb6.size;have k3:=(hb6.cell (p:=⟨w2.heap.size,3,none⟩) (by simp[hs3])).trans g3;have k2:=(hb6.cell (p:=⟨w2.heap.size,2,none⟩) (by simp[hs3])).trans g2;have k0:=(hb6.cell (p:=⟨w.heap.size,0,none⟩) (by simp;omega)).trans q0;have k9:=(hb6.cell (p:=⟨w.heap.size,3,none⟩) (by simp;omega)).trans q3;have o4:=hid (own_below O1.out hb6);have jf0:=(hb6.frozen (p:=⟨w2.heap.size,3,none⟩) (by simp[hs3])).trans (HG3.out.frozen 3);clear L0 L1 L2 L3 hF
  go_upto_region 6 with (first
   | (at_builtin
      refine wpList_append_lies _ (by rfl) _ _ 23 (by rfl) w1.heap.size 57 i0 _ 4 40 underlying23 hi0 hz0 hz1 hz2 rfl (by omega) (.slice A1 n c1) n (encPs posts) (by rfl) o4.out
       ⟨x,0,none⟩ 1 1 [.int .i64 (clock+1),.int .i64 k,.int .i64 (Rp.count posts k),.string text] (by rfl) (by rfl)
       (World.news_of_block (cs:=#[.int .i64 (clock+1),.int .i64 k,.int .i64 (Rp.count posts k),.string text]) (t:=57) (fr:=(0,0)) hrow) (by simp[Value.oneCell'])
       (by omega) (by simp only[maxLen];omega) (by omega) (by omega) w4.heap.size rfl ?_
      intro g cap w5 hown5 hgrow hat hlt5;have j3:=(hgrow.cell_far ⟨w2.heap.size,3,none⟩ (by simp;omega) N2.out).trans k3;have j2:=(hgrow.cell_far ⟨w2.heap.size,2,none⟩ (by simp;omega) N2.out).trans k2;have j0:=(hgrow.cell_far ⟨w.heap.size,0,none⟩ (by simp;omega) N1.out).trans k0;have j9:=(hgrow.cell_far ⟨w.heap.size,3,none⟩ (by simp;omega) N1.out).trans k9;have jf:=(hgrow.frozen_far ⟨w2.heap.size,3,none⟩ (by simp;omega) N2.out).trans jf0)
   | fail)
  all_goals
   have hgG:g≠w2.heap.size:=by
    rcases hat with h|h
    ·intro e;exact N2.out (by rw[h,e])
    ·omega
   have hg1:w1.heap.size<=g:=(hown5.lt g rfl).1;have own2:=own_below O2.out hb6;have own3:=own2.kept hgrow (own_apart own2 o4.out (by decide));have hR6:RepR (w5.setCell ⟨w2.heap.size,3,none⟩ (.slice (some ⟨g,0,none⟩) (n+1) cap)) w5.heap.size ⟨k,many,clock+1,posts++[⟨clock+1,k,Rp.count posts k,text⟩],heard⟩ (some ⟨g,0,none⟩) (n+1) A2 n':=by
    refine⟨?_,by simp[HPL.out],?_,HH.out.len',by omega,HH.out.few'⟩
    ·simp only[encPs_snoc]
     exact(Reads.of_own hown5).far (p:=⟨w2.heap.size,3,none⟩) (λa e=>by injection e with e;subst e;exact hgG) _
    ·exact(Reads.of_own own3).far (p:=⟨w2.heap.size,3,none⟩) (λa e h=>N4.out (by subst e;exact(congrArg some h).symm)) _
   have hlt4:w4.heap.size<=w5.heap.size:=hgrow.size;have hb8:Below w.heap.size w (w5.setCell ⟨w2.heap.size,3,none⟩ (.slice (some ⟨g,0,none⟩) (n+1) cap)) :=
    ((HBelow.out.trans (hb6.mono HBelow.out.size)).grown hgrow (by first|omega|(simp;omega)) (λj hj=>by have:=(o4.out.lt j hj).1;omega)).setCell (by first|omega|(simp;omega)) _
   have hR8:Blk (w5.setCell ⟨w2.heap.size,3,none⟩ (.slice (some ⟨g,0,none⟩) (n+1) cap)) (w.heap.size+1) 26 #[.int .i64 0,.int .i64 0,.int .i64 0,.slice none 0 0,.slice none 0 0]:=by
    refine Blk.far ?_ (by first|omega|(simp;omega)) _;exact(hgrow.block (w.heap.size+1) (by first|omega|(simp;omega)) N3.out).trans (HR3.out.below hb6 (by omega))
   have hG8:Blk (w5.setCell ⟨w2.heap.size,3,none⟩ (.slice (some ⟨g,0,none⟩) (n+1) cap)) w2.heap.size 26 #[.int .i64 k,.int .i64 many,.int .i64 (clock+1),.slice (some ⟨g,0,none⟩) (n+1) cap,.slice A2 n' c2] :=
    Blk.set_ (cs:=#[.int .i64 k,.int .i64 many,.int .i64 (clock+1),.slice A1 n c1,.slice A2 n' c2]) ((hgrow.block w2.heap.size (by first|omega|(simp;omega)) N2.out).trans (HG3.out.below hb6 (by omega))) 3 _
   obtain⟨W6,hW6⟩:∃W6,W6=w5.setCell ⟨w2.heap.size,3,none⟩ (.slice (some ⟨g,0,none⟩) (n+1) cap):=⟨_,rfl⟩;have hs6:W6.heap.size=w5.heap.size:=by rw[hW6,size_setCell]
   rw[<- hW6]at hR6 hb8 hR8 hG8 ⊢;rw[<- hs6]at hR6;obtain⟨x0,x1,x2,x3,x4⟩:=hG8.cells5;have HRight:=hid (rvalid_any W6 _ _ _ cap _ _ c2 hR6 (own_cap hown5));unfold repV at HRight;simp only at HRight;have HR6:=hid hR6;have HR8:=hid hR8;have HB8:=hid hb8;have HG8:=hid hG8;have HCap:=hid (own_cap hown5);clear hW6 hR6 hR8 hb8 hG8 own2 own3 hown5 hgrow hb6 j0 j2 j3 j9 jf jf0 k0 k2 k3 k9 hat hrow;have HW:Hid (Rp.written ⟨k,many,clock,posts,heard⟩ text=⟨k,many,clock+1,posts++[⟨clock+1,k,Rp.count posts k,text⟩],heard⟩):=hid (by unfold Rp.written;rfl)
   go_wp2_with fail
   refine HRight.out.mono ?_;rintro e w7 ⟨rfl,hb9⟩;have hbe:=HB8.out.trans (hb9.mono HB8.out.size);have hR9:=HR8.out.below hb9 HR8.out.lt;have hG9:=HG8.out.below hb9 HG8.out.lt;obtain⟨r0,r1,r2,r3,r4⟩:=hR9.cells5;obtain⟨s0,s1,s2,s3,s4⟩:=hR9.soft5;obtain⟨x0,x1,x2,x3,x4⟩:=hG9.cells5;have hlt9:=hb9.size;cases hv2:Rp.valid ⟨k,many,clock+1,posts++[⟨clock+1,k,Rp.count posts k,text⟩],heard⟩
   ·go_wp2
    refine bodyPost_ret (v:=.tuple #[zeroRep,.int .i64 310]) (by simp[zeroRep,results,results14,go_sem,r0,r1,r2,r3,r4]) rfl ⟨?_,?_⟩
    ·repeat(refine Below.setCell ?_ (by simp) _)
     exact hbe
    ·rw[HN.out,HW.out,hv2];rfl
   ·go_wp2
    refine bodyPost_ret (v:=.tuple #[.agg #[.int .i64 k,.int .i64 many,.int .i64 (clock+1),.slice (some ⟨g,0,none⟩) (n+1) cap,.slice A2 n' c2],.int .i64 0]) (by simp[results,results14,go_sem,r0,r1,r2,r3,r4]) rfl ⟨?_,?_⟩
    ·repeat(refine Below.setCell ?_ (by simp) _)
     exact hbe
    ·rw[HN.out,HW.out,hv2]
     refine⟨some ⟨g,0,none⟩,n+1,cap,A2,n',c2,rfl,?_,(λa e=>by injection e with e;subst e;simp;omega),F2.out,HCap.out⟩;simp only[size_setCell]
     repeat(refine RepR.far ?_ (λa e=>by injection e with e;subst e;simp;omega) (λa e h=>N5.out (by subst e;exact(congrArg some h).symm)) _)
     exact(HR6.out.below hb9).more hb9.size
end
section
open Go.RowKit
theorem rtell_any (w:World)(r:Rp.Rep)(A:Option Addr)(n c:Nat)(A':Option Addr)(n' c':Nat)(h:RepR w w.heap.size r A n A' n')(hcap:n<=c) :
 Calls prog 11 #[repV r A n c A' n' c'] w λe w'=>GotTell w w' e (Rp.tell r):=by
 obtain⟨me,many,clock,posts,heard⟩:=r;obtain⟨W0,hW0⟩:∃W0,W0=((w.alloc (.cells #[.int .i64 me,.int .i64 many,.int .i64 clock,.slice A n c,.slice A' n' c'] 26)).alloc (.cells #[.int .i64 0,.int .i64 0,.int .i64 0,.slice none 0 0,.slice none 0 0] 26)).alloc (.cells #[.int .i64 0,.slice none 0 0,.slice none 0 0] 28):=⟨_,rfl⟩;have hs0:W0.heap.size=w.heap.size+3:=by rw[hW0];simp
 have hbW:Below w.heap.size w W0:=by rw[hW0];exact(((Below.refl _ _).alloc (Nat.le_refl _) _).alloc (by simp) _).alloc (by simp;omega) _
 have hBW:Blk W0 w.heap.size 26 #[.int .i64 me,.int .i64 many,.int .i64 clock,.slice A n c,.slice A' n' c']:=by rw[hW0];exact((Blk.new _ _ _).alloc _).alloc _
 have hRW:Blk W0 (w.heap.size+1) 26 #[.int .i64 0,.int .i64 0,.int .i64 0,.slice none 0 0,.slice none 0 0]:=by rw[hW0];exact(Blk.new2 _ _ _ _).alloc _
 have hMW:Blk W0 (w.heap.size+1+1) 28 #[.int .i64 0,.slice none 0 0,.slice none 0 0]:=by
  rw[hW0];have hbn:=Blk.new2 (w.alloc (.cells #[.int .i64 me,.int .i64 many,.int .i64 clock,.slice A n c,.slice A' n' c'] 26)) (.cells #[.int .i64 0,.int .i64 0,.int .i64 0,.slice none 0 0,.slice none 0 0] 26) 28 #[.int .i64 0,.slice none 0 0,.slice none 0 0];simp only[World.size_alloc]at hbn;exact hbn
 have HV:=hid (rvalid_any W0 ⟨me,many,clock,posts,heard⟩ A n c A' n' c' ((h.below hbW).more (by omega)) hcap);have HW0:=hid hW0;have HH:=hid h;clear h hW0;unfold repV at *;simp only at HV ⊢
 go_enter func11,ntmps11
 go_wp2_with fail
 rw[<- HW0.out];refine HV.out.mono ?_;rintro e w1 ⟨rfl,hb1⟩;have hb2:=hbW.trans (hb1.mono hbW.size);have hB1:=hBW.below hb1 (by omega);have hR1:=hRW.below hb1 (by omega);have hM1:=hMW.below hb1 (by omega);have hs1:=hb1.size;obtain⟨b0,b1,b2,b3,b4⟩:=hB1.cells5;obtain⟨r0,r1,r2,r3,r4⟩:=hR1.cells5;obtain⟨s0,s1,s2,s3,s4⟩:=hR1.soft5;have y0:=hM1.cell 0;have y1:=hM1.cell 1;have y2:=hM1.cell 2;simp only[List.getElem?_toArray,List.getElem?_cons_zero,List.getElem?_cons_succ]at y0 y1 y2;have z0:=hM1.frozen 0;have z1:=hM1.frozen 1;have z2:=hM1.frozen 2;cases hv:Rp.valid ⟨me,many,clock,posts,heard⟩
 ·have HN:=hid (tell_no hv)
  go_wp2;refine bodyPost_ret (v:=.tuple #[zeroRep,zeroMsg,.int .i64 310]) (by simp[zeroRep,zeroMsg,y0,y1,y2,results,results11,go_sem,r0,r1,r2,r3,r4]) rfl ⟨?_,?_⟩
  ·repeat(refine Below.setCell ?_ (by simp;try omega) _)
   exact hb2
  ·rw[HN.out]
 ·have HN:=hid (tell_yes hv)
  have HVV:=hid hv;obtain⟨⟨v1,v2⟩,⟨v3,v4⟩,⟨v5,v6⟩,v7,v8,v9⟩:=Rp.valid_iff.1 hv;simp only at v1 v2 v3 v4 v5 v6 v8;have HOr:Hid (∀p∈posts,∃o:Nat,o<5/\p.origin=o):=hid λp hp=>by
   obtain⟨mn,hmn⟩:∃mn:Nat,many=mn:=⟨many.toNat,by omega⟩;subst hmn;obtain⟨o,ho,e⟩:=Rp.own_range v8 hp;exact⟨o,by omega,e⟩
  have HPL:=hid HH.out.len;have hfew:=HH.out.few;have h200:n<=200:=by
   have h1:=(Rp.isLog_iff.1 v8).1;have h2:=HH.out.len;simp only at h2;omega
  simp only at HPL;obtain⟨k,rfl⟩:∃k:Nat,me=k:=⟨me.toNat,by omega⟩;have hk5:k<5:=by omega
  have HOwn:=hid (rcopied_any w1 ⟨k,many,clock,posts,heard⟩ A n c A' n' c' ((HH.out.below hb2).more hb2.size));unfold repV at HOwn;simp only at HOwn;clear v3 v8 v9 hv;have hpos:0<n':=by
   have:=HH.out.len';have h2:=(Rp.isHeard_iff.1 v7).1;simp only at this h2;omega
  have hkn:(k:Int)<(n':Int):=by
   have:=HH.out.len';have h2:=(Rp.isHeard_iff.1 v7).1;simp only at this h2;omega
  clear v7 v4
  go_wp2_with fail
  refine HOwn.out.mono ?_;rintro e w2 ⟨A1,c1,A2,c2,rfl,o1,o2,hc1,hc2,hb3⟩;obtain⟨g2,cap2,e2,hg2,hl2⟩:=o2.form hpos;injection e2 with e2 _ e2c
  subst e2 e2c;have hs2:=hb3.size;have hB2:=hB1.below hb3 (by omega);have q0:=hB2.cell 0;simp only[List.getElem?_toArray,List.getElem?_cons_zero]at q0;have q2:=hB2.cell 2;simp only[List.getElem?_toArray,List.getElem?_cons_zero,List.getElem?_cons_succ]at q2;have e0:=World.new_ne w2 _ q0;have q2a:∀o,(w2.alloc o).cell? ⟨w.heap.size,2,none⟩=some (.int .i64 clock):=λo=>(World.cell?_alloc_some w2 _ o (by rw[q2];rfl)).trans q2
  have hk1:k<n'*1:=by omega
  have hgx:g2<w2.heap.size:=hl2;have t1:=o2.cellAt k hk1;have hklen:k<heard.length:=by have:=o2.1;simp at this;omega
  rw[List.getElem?_map,List.getElem?_eq_getElem hklen]at t1;simp only[Option.map_some]at t1;have t2:=o2.frozenAt k;have t3:=World.new_ne w2 _ t1;have q0a:∀o,(w2.alloc o).cell? ⟨w.heap.size,0,none⟩=some (.int .i64 k):=λo=>(World.cell?_alloc_some w2 _ o (by rw[q0];rfl)).trans q0
  have t1a:∀o,(w2.alloc o).cell? ⟨g2,k,none⟩=some (.int .i64 heard[k]):=λo=>(World.cell?_alloc_some w2 _ o (by rw[t1];rfl)).trans t1
  have t2a:∀o,(w2.alloc o).frozen? ⟨g2,k,none⟩=false:=λo=>(((Below.refl w2.heap.size w2).alloc (Nat.le_refl _) o).frozen (p:=⟨g2,k,none⟩) hgx).trans t2
  go_upto_region 5 with (fail)
  obtain⟨W3,hW3⟩:∃W3,W3=(w2.setCell ⟨g2,k,none⟩ (.int .i64 clock)).alloc (.cells #[.int .i64 k,.int .i64 many,.int .i64 clock,.slice A1 n c1,.slice (some ⟨g2,0,none⟩) n' c2] 26):=⟨_,rfl⟩;rw[<- hW3];have hs3:W3.heap.size=w2.heap.size+1:=by rw[hW3];simp
  have hG3:Blk W3 w2.heap.size 26 #[.int .i64 k,.int .i64 many,.int .i64 clock,.slice A1 n c1,.slice (some ⟨g2,0,none⟩) n' c2]:=by
   rw[hW3];have hbn:=Blk.new (w2.setCell ⟨g2,k,none⟩ (.int .i64 clock)) 26 #[.int .i64 k,.int .i64 many,.int .i64 clock,.slice A1 n c1,.slice (some ⟨g2,0,none⟩) n' c2];rw[size_setCell]at hbn;exact hbn
  have hb5:Below w.heap.size w W3:=by
   rw[hW3];exact((hb2.trans (hb3.mono hb2.size)).setCell (p:=⟨g2,k,none⟩) (by simp;omega) _).alloc (by simp only[size_setCell];omega) _
  have hB3:Blk W3 w.heap.size 26 #[.int .i64 k,.int .i64 many,.int .i64 clock,.slice A n c,.slice A' n' c']:=by rw[hW3];exact(hB2.far (by simp;omega) _).alloc _
  have hR3:Blk W3 (w.heap.size+1) 26 #[.int .i64 0,.int .i64 0,.int .i64 0,.slice none 0 0,.slice none 0 0]:=by rw[hW3];exact((hR1.below hb3 (by omega)).far (by simp;omega) _).alloc _
  have hM3:Blk W3 (w.heap.size+1+1) 28 #[.int .i64 0,.slice none 0 0,.slice none 0 0]:=by rw[hW3];exact((hM1.below hb3 (by omega)).far (by simp;omega) _).alloc _
  have o2':=(o2.stored k (.int .i64 clock)).1.alloc (.cells #[.int .i64 k,.int .i64 many,.int .i64 clock,.slice A1 n c1,.slice (some ⟨g2,0,none⟩) n' c2] 26);have o1':=(own_far o1 (p:=⟨g2,k,none⟩) (λe=>(own_apart o1 o2 (by decide)).elim (λh=>by rw[h]at e;cases e) (λh=>h e)) (.int .i64 clock)).alloc (.cells #[.int .i64 k,.int .i64 many,.int .i64 clock,.slice A1 n c1,.slice (some ⟨g2,0,none⟩) n' c2] 26);rw[<- hW3,<- List.map_set]at o2';rw[<- hW3]at o1';have O1:=hid o1';have F1:=hid (Fresh.of_own o1 hb2.size);have HCap:=hid (own_cap o1);have O2:=hid o2';have HB5:=hid hb5;have HR3:=hid hR3;have HM3:=hid hM3;have hRW3:RepR W3 W3.heap.size ⟨k,many,clock,posts,heard.set k clock⟩ A1 n (some ⟨g2,0,none⟩) n' :=
   ⟨Reads.of_own o1',HPL.out,Reads.of_own o2',by simp;exact HH.out.len',hfew,HH.out.few'⟩
  have HC:=hid (rcopied_any W3 _ A1 n c1 (some ⟨g2,0,none⟩) n' c2 hRW3);unfold repV at HC;simp only at HC;have g1b:=hid hg2;have hf':=HH.out.few';obtain⟨p0,p1,p2,p3,p4⟩:=hG3.cells5;have q:=hB3.cell 0;simp only[List.getElem?_toArray,List.getElem?_cons_zero]at q;have u1:w.heap.size+1≠w2.heap.size:=by omega
  have u2:w.heap.size+1+1≠w2.heap.size:=by omega
  have u3:w.heap.size≠w2.heap.size:=by omega
  have u4:w.heap.size+1+1≠w.heap.size:=by omega
  have u5:w.heap.size+1≠w.heap.size:=by omega
  have u4':=u4.symm;have u5':=u5.symm;have u1':=u1.symm;have u2':=u2.symm;have u3':=u3.symm;have hGs:w2.heap.size<W3.heap.size:=by omega
  have hBs:w.heap.size+1+1<W3.heap.size:=by omega
  clear hW3 o1' o2' o1 o2 hB3 hR3 hM3 hb5 hb1 hb2 hb3 hB1 hB2 hR1 hM1 hBW hRW hMW hbW b0 b1 b2 b3 b4 r0 r1 r2 r3 r4 s0 s1 s2 s3 s4 y0 y1 y2 z0 z1 z2 HV HOwn q0 q2 q0a q2a t1 t1a t2 t2a t3 e0 hRW3
  go_wp2_with fail
  refine HC.out.mono ?_;rintro e w4 ⟨A3,c3,A4,c4,rfl,own4,own5,hc3,hc4,hb4⟩;have hl4:=hb4.size
  go_upto_region 6 with (fail)
  obtain⟨W6,hW6⟩:∃W6,W6=w4.alloc (.cells #[.int .i64 k,.int .i64 many,.int .i64 clock,.slice A3 n c3,.slice A4 n' c4] 26):=⟨_,rfl⟩;rw[<- hW6];have hb6:Below W3.heap.size W3 W6:=by rw[hW6];exact hb4.alloc hl4 _
  have hG6:Blk W6 w4.heap.size 26 #[.int .i64 k,.int .i64 many,.int .i64 clock,.slice A3 n c3,.slice A4 n' c4]:=by rw[hW6];exact Blk.new _ _ _
  have own46:=hid (show W6.ownsRow W3.heap.size 57 4 (.slice A3 n c3) n (encPs posts) by rw[hW6];exact own4.alloc _);have own56:=hid (show W6.ownsRow W3.heap.size 3 1 (.slice A4 n' c4) n' ((heard.set k clock).map (Value.int .i64)) by rw[hW6];exact own5.alloc _);have hl6:=hb6.size;clear hW6 own4 own5 hb4;have hb9:=hid hb6;have k0:=(hb6.cell (p:=⟨w2.heap.size,0,none⟩) hGs).trans p0;have k1:=(hb6.cell (p:=⟨w2.heap.size,1,none⟩) hGs).trans p1;have k2:=(hb6.cell (p:=⟨w2.heap.size,2,none⟩) hGs).trans p2;have k3:=(hb6.cell (p:=⟨w2.heap.size,3,none⟩) hGs).trans p3;have k4:=(hb6.cell (p:=⟨w2.heap.size,4,none⟩) hGs).trans p4;have k9:=(hb6.cell (p:=⟨w.heap.size,0,none⟩) (by simp;omega)).trans q;obtain⟨x0,x1,x2,x3,x4⟩:=hG6.cells5;have hG2:w2.heap.size<W6.heap.size:=by omega
  have hG4:w4.heap.size<W6.heap.size:=hG6.lt;have v1':w.heap.size+1≠w4.heap.size:=by omega
  have v2':w.heap.size+1+1≠w4.heap.size:=by omega
  have v1'':=v1'.symm;have v2'':=v2'.symm;have hR5:=HR3.out.below hb6 (by omega);have hM5:=HM3.out.below hb6 (by omega);obtain⟨r0,r1,r2,r3,r4⟩:=hR5.cells5;obtain⟨s0,s1,s2,s3,s4⟩:=hR5.soft5;have y0:=hM5.cell 0;have y1:=hM5.cell 1;have y2:=hM5.cell 2;simp only[List.getElem?_toArray,List.getElem?_cons_zero,List.getElem?_cons_succ]at y0 y1 y2;have z0:=hM5.frozen 0;have z1:=hM5.frozen 1;have z2:=hM5.frozen 2;have own5:=hid own56.out;clear p0 p1 p2 p3 p4 q hR5 hM5 hG6 hb6
  go_wp2_with fail
  go_region_held3 (λw'=>w'.cell? ⟨w2.heap.size,0,none⟩=some (.int .i64 k)/\w'.cell? ⟨w2.heap.size,1,none⟩=some (.int .i64 many)/\w'.cell? ⟨w2.heap.size,2,none⟩=some (.int .i64 clock) /\
   w'.cell? ⟨w2.heap.size,3,none⟩=some (.slice A1 n c1)/\w'.cell? ⟨w2.heap.size,4,none⟩=some (.slice (some ⟨g2,0,none⟩) n' c2)/\w'.cell? ⟨w.heap.size,0,none⟩=some (.int .i64 k) /\
   w'.cell? ⟨w4.heap.size,3,none⟩=some (.slice A3 n c3)/\w'.cell? ⟨w4.heap.size,4,none⟩=some (.slice A4 n' c4))
   (go_keep)
   (fail)
  have HB9:=hid (HB5.out.trans (hb9.out.mono HB5.out.size));have o1e:=own_below O1.out hb9.out;have o2e:=own_below O2.out hb9.out;have o4e:=own46.out;have N1:∀(b:Nat),b<w1.heap.size->∀a,A1=some a->a.block≠b:=λb hb a e h=>block_not o1e (g:=b) (.inl hb) (by subst e;exact(congrArg some h).symm)
  have N3:∀(b:Nat),b<W3.heap.size->∀a,A3=some a->a.block≠b:=λb hb a e h=>block_not o4e (g:=b) (.inl hb) (by subst e;exact(congrArg some h).symm)
  have N4:∀(b:Nat),b<W3.heap.size->∀a,A4=some a->a.block≠b:=λb hb a e h=>block_not own5.out (g:=b) (.inl hb) (by subst e;exact(congrArg some h).symm)
  have hw1:w.heap.size+1+1<w1.heap.size:=by omega
  have hsw:w.heap.size<=W3.heap.size:=by omega
  have F3:=hid (Fresh.of_own o4e (B':=w.heap.size) hsw);have F4:=hid (Fresh.of_own own5.out (B':=w.heap.size) (by omega));have HE:=hid (show RepR W6 W6.heap.size ⟨k,many,clock,posts,heard.set k clock⟩ A1 n (some ⟨g2,0,none⟩) n' from
   ⟨Reads.of_own o1e,HPL.out,Reads.of_own o2e,by simp;exact HH.out.len',hfew,hf'⟩)
  have HF:=hid (show MsgR W6 W6.heap.size ⟨k,posts,heard.set k clock⟩ A3 n A4 n' from
   ⟨Reads.of_own o4e,HPL.out,Reads.of_own own5.out,by simp;exact HH.out.len',hfew,hf'⟩)
  have G1:=hid g1b.out;clear o1e o2e o4e own5;go_wp2;refine bodyPost_ret (v:=.tuple #[.agg #[.int .i64 k,.int .i64 many,.int .i64 clock,.slice A1 n c1,.slice (some ⟨g2,0,none⟩) n' c2],.agg #[.int .i64 k,.slice A3 n c3,.slice A4 n' c4],.int .i64 0])
   (by simp[results,results11,go_sem,r0,r1,r2,r3,r4,y0,y1,y2]) rfl ⟨?_,?_⟩
  ·refine Below.drew ?_
   repeat(refine Below.setCell ?_ (by simp;try omega) _)
   exact HB9.out
  ·rw[HN.out]
   refine⟨A1,n,c1,some ⟨g2,0,none⟩,n',c2,A3,n,c3,A4,n',c4,rfl,?_,?_,hc3,⟨⟨F1.out,λa e=>by injection e with e;subst e;have:=G1.out;simp;omega⟩,HCap.out⟩,F3.out,F4.out⟩
   ·refine RepR.below ?_ (Below.refl _ _).drew
    simp only[World.size_drew,size_setCell]
    repeat(refine RepR.far ?_ (N1 _ (by simp;try omega)) (λa e=>by injection e with e;subst e;simp;omega) _)
    exact HE.out
   ·refine MsgR.below ?_ (Below.refl _ _).drew
    simp only[World.size_drew,size_setCell]
    repeat(refine MsgR.far ?_ (N3 _ (by simp;try omega)) (N4 _ (by simp;try omega)) _)
    exact HF.out
end
section
open Go.RowKit
def cntE (l:List Rp.Post)(e:Int):Nat:=(l.filter λp=>decide (p.epoch<=e)).length
theorem cntE_take {l:List Rp.Post}{j:Nat}{p:Rp.Post}(e:Int)(h:l[j]?=some p):cntE (l.take (j+1)) e=cntE (l.take j) e+if p.epoch<=e then 1 else 0:=by
 rw[List.take_add_one,h];unfold cntE;rw[List.filter_append,List.length_append]
 by_cases hp:p.epoch<=e<;>simp[hp]
theorem cntE_le (l:List Rp.Post)(j:Nat)(e:Int):cntE (l.take j) e<=j:=by
 unfold cntE;have:=List.length_filter_le (λp:Rp.Post=>decide (p.epoch<=e)) (l.take j);rw[List.length_take]at this;omega
theorem cntE_stable {r:Rp.Rep}(h:Rp.valid r=true):Rp.stableN r=cntE r.posts (Rp.least r.heard):=by
 have hl:=(Rp.valid_iff.1 h).2.2.2.2.1;have hs:=(Rp.isLog_iff.1 hl).2.2.1;unfold Rp.stableN cntE;rw[Rp.takeWhile_eq_filter _ hs]
theorem rstable_any (w:World)(r:Rp.Rep)(A:Option Addr)(n c:Nat)(A':Option Addr)(n' c':Nat)(h:RepR w w.heap.size r A n A' n')(hcap:n<=c) :
 Calls prog 17 #[repV r A n c A' n' c'] w λe w'=>e=.returned (orErr (Rp.valid r) (.int .i64 (Rp.stableN r)) (.int .i64 0) 310)/\Below w.heap.size w w':=by
 obtain⟨me,many,clock,posts,heard⟩:=r;obtain⟨W0,hW0⟩:∃W0,W0=w.alloc (.cells #[.int .i64 me,.int .i64 many,.int .i64 clock,.slice A n c,.slice A' n' c'] 26):=⟨_,rfl⟩;have hs0:W0.heap.size=w.heap.size+1:=by rw[hW0];simp
 have hbW:Below w.heap.size w W0:=by rw[hW0];exact(Below.refl _ _).alloc (Nat.le_refl _) _
 have hBW:Blk W0 w.heap.size 26 #[.int .i64 me,.int .i64 many,.int .i64 clock,.slice A n c,.slice A' n' c']:=by rw[hW0];exact Blk.new _ _ _
 have hR0:=(h.below hbW).more (show w.heap.size<=W0.heap.size by omega);have HV:=hid (rvalid_any W0 ⟨me,many,clock,posts,heard⟩ A n c A' n' c' hR0 hcap);have HR0:=hid hR0;have HW0:=hid hW0;have hfew:=h.few;have hfew':=h.few';obtain⟨g0,g1,g2,g3,g4⟩:=hBW.cells5;clear h hW0 hR0;unfold repV at *;simp only at HV ⊢
 go_enter func17,ntmps17
 go_wp2_with fail
 rw[<- HW0.out];refine HV.out.mono ?_;rintro e w1 ⟨rfl,hb1⟩;have hbe:=hid (hbW.trans (hb1.mono hbW.size));obtain⟨b0,b1,b2,b3,b4⟩:=(hBW.below hb1 (by omega)).cells5;have HR1:=hid ((HR0.out.below hb1).more hb1.size);clear g0 g1 g2 g3 g4 hb1 hBW hbW HV hs0;cases hv:Rp.valid ⟨me,many,clock,posts,heard⟩
 ·have HVV:=hid hv
  clear hv
  go_wp2_with fail
  exact bodyPost_ret (v:=.tuple #[.int .i64 0,.int .i64 310]) (by simp[results,results17,go_sem]) rfl ⟨by rw[HVV.out];rfl,hbe.out⟩
 ·have HVV:=hid hv
  have HS:=hid (cntE_stable hv);obtain⟨⟨v1,v2⟩,_,_,v7,_,_⟩:=Rp.valid_iff.1 hv;simp only at v1 v2 v7;have hpos:0<n':=by
   have:=HR1.out.len';have h2:=(Rp.isHeard_iff.1 v7).1;simp only at this h2;omega
  obtain⟨hbk,hok,rfl,hblk,hcell⟩:=HR1.out.heard.2 hpos;have HHL:=hid HR1.out.len';have HPL:=hid HR1.out.len;simp only at HHL HPL hcell;have HCell:=hid hcell;have c0:w1.cell? ⟨hbk,hok,none⟩=some (.int .i64 (heard.getD 0 0)):=by
   refine hcell 0 (.int .i64 (heard.getD 0 0)) ?_;have:=HHL.out;rw[List.getElem?_map,List.getD_eq_getElem?_getD,List.getElem?_eq_getElem (by omega:0<heard.length)];rfl
  clear hcell v7 hv v1 v2;simp only at HS ⊢
  go_wp2_with fail
  go_loopw [4,5] (λs q wr=>∃t:Nat,t<=n'/\s=.int .i64 (minF heard t)/\q=.int .i64 t/\w1=wr) (λ_ q _=>n' - (intOf q).toNat)
  case atStart=>exact⟨0,by omega,rfl,rfl,rfl⟩
  case round =>
   obtain⟨t,ht,rfl,rfl,rfl⟩:=hrel
   by_cases hlt:t<n'
   ·obtain⟨y,hy⟩:∃y,heard[t]?=some y:=⟨_,List.getElem?_eq_getElem (by rw[HHL.out];exact hlt)⟩
    have ct:=HCell.out t (.int .i64 y) (by rw[List.getElem?_map,hy];rfl);have HM:=hid (minF_succ hy);generalize minF heard t=mv at HM ⊢;clear hy
    go_wp2_with fail
    go_roundw
    case rel=>exact⟨t+1,by omega,by rw[HM.out],by go_num,trivial⟩
    case measure=>simp[intOf];omega
   ·have htK:t=n':=by omega
    subst htK;have HLE:=hid (minF_all HHL.out hpos);generalize minF heard t=LE at HLE ⊢;have hge:¬((t:Int)<(t:Int)):=by omega
    clear HCell c0
    go_wp2_with fail
    go_loopw [6,7] (λs q wr=>∃j:Nat,j<=n/\s=.int .i64 (cntE (posts.take j) LE:Nat)/\q=.int .i64 j/\w1=wr) (λ_ q _=>n - (intOf q).toNat)
    case atStart=>exact⟨0,by omega,rfl,rfl,rfl⟩
    case round =>
     obtain⟨j,hj,rfl,rfl,rfl⟩:=hrel
     by_cases hlj:j<n
     ·obtain⟨b,off,y,rfl,hbl,hq,h0,h1,h2,h3⟩:=HR1.out.posts.post HPL.out hlj
      have hct:=hid (cntE_take LE hq);have hbd:=cntE_le posts j LE;generalize cntE (posts.take j) LE=cv at hct hbd ⊢;clear hq
      by_cases ho:y.epoch<=LE
      ·go_wp2_with fail
       go_roundw
       case rel=>exact⟨j+1,by omega,by rw[hct.out,if_pos ho];go_num,by go_num,trivial⟩
       case measure=>simp[intOf];omega
      ·have HO:=hid ho
       go_wp2_with fail
       go_roundw
       case rel=>exact⟨j+1,by omega,by rw[hct.out,if_neg (by have:=HO.out;omega),Nat.add_zero],by go_num,trivial⟩
       case measure=>simp[intOf];omega
     ·have hjn:j=n:=by omega
      subst hjn;have hfin:cntE (posts.take j) LE=Rp.stableN ⟨me,many,clock,posts,heard⟩:=by
       rw[HS.out,HLE.out,List.take_of_length_le (by rw[HPL.out];omega)]
      obtain⟨fin,hf⟩:∃fin,fin=cntE (posts.take j) LE:=⟨_,rfl⟩;rw[<- hf]at hfin ⊢;have HFin:=hid hfin;clear hf hfin
      go_wp2_with fail
      exact bodyPost_ret (v:=.tuple #[.int .i64 fin,.int .i64 0]) (by simp[results,results17,go_sem]) rfl ⟨by rw[HVV.out,<- HFin.out];rfl,hbe.out⟩
end
section
open Go.RowKit
theorem rnewRep_eq (me many:Int)(m:Nat)(h:(m:Int)=min (max many 0) 5):Rp.newRep me many=if Rp.valid ⟨me,many,0,[],List.replicate m 0⟩then some ⟨me,many,0,[],List.replicate m 0⟩else none:=by
 unfold Rp.newRep;simp only
 by_cases h5:many<=5
 ·have e:(min (max many 0) 6).toNat=m:=by omega
  rw[e]
 ·have n1:∀l,Rp.valid ⟨me,many,0,[],l⟩=false:=λl=>by
   unfold Rp.valid Rp.inr;have:¬many<=5:=h5;simp[this]
  rw[n1,n1];rfl
theorem rep_snoc (j:Nat):(List.replicate j (0:Int)).map (Value.int .i64)++[.int .i64 0]=(List.replicate (j+1) (0:Int)).map (Value.int .i64):=by
 rw[List.replicate_succ',List.map_append];rfl
theorem rnew_any (w:World)(me many:Int):Calls prog 28 #[.int .i64 me,.int .i64 many] w λe w'=>GotRep w w' e (Rp.newRep me many):=by
 obtain⟨i0,hi0,hz0,hz1,hz2⟩:=info_parts info3;obtain⟨W0,hW0⟩:∃W0,W0=(w.alloc (.cells #[.int .i64 0,.int .i64 0,.int .i64 0,.slice none 0 0,.slice none 0 0] 26)).alloc (.cells #[.int .i64 me,.int .i64 many,.int .i64 0,.slice none 0 0,.slice none 0 0] 26):=⟨_,rfl⟩;have hs0:W0.heap.size=w.heap.size+2:=by rw[hW0];simp
 have hbW:=hid (show Below w.heap.size w W0 by rw[hW0];exact((Below.refl _ _).alloc (Nat.le_refl _) _).alloc (by simp) _);have hRW:=hid (show Blk W0 w.heap.size 26 #[.int .i64 0,.int .i64 0,.int .i64 0,.slice none 0 0,.slice none 0 0] by rw[hW0];exact(Blk.new _ _ _).alloc _);have hBW:=hid (show Blk W0 (w.heap.size+1) 26 #[.int .i64 me,.int .i64 many,.int .i64 0,.slice none 0 0,.slice none 0 0] by rw[hW0];exact Blk.new2 _ _ _ _);have hz:w.heap.size+2<=W0.heap.size:=by omega
 go_enter func28,ntmps28
 go_upto_region 2 with (fail)
 rw[<- hW0];clear hW0 hs0
 go_wp2_with fail
 go_loopw [7] (λq wr=>∃(j:Nat) (A:Option Addr) (c:Nat),j<=5/\((j:Int)<=many∨j=0)/\q=.int .i64 j/\Hid (Blk wr (w.heap.size+1) 26 #[.int .i64 me,.int .i64 many,.int .i64 0,.slice none 0 0,.slice A j c]) /\
  Hid (wr.ownsRow W0.heap.size 3 1 (.slice A j c) j ((List.replicate j (0:Int)).map (Value.int .i64)))/\Hid (Blk wr w.heap.size 26 #[.int .i64 0,.int .i64 0,.int .i64 0,.slice none 0 0,.slice none 0 0])/\Hid (Below w.heap.size w wr)/\W0.heap.size<=wr.heap.size) (λq _=>5 - (intOf q).toNat)
 case atStart=>exact⟨0,none,0,by omega,.inr rfl,rfl,hBW,hid (World.ownsRow_nil _ _ _ _),hRW,hbW,Nat.le_refl _⟩
 case round =>
  obtain⟨j,A,c,hj5,hjm,rfl,hB,hO,hR,hW,hws⟩:=hrel
  by_cases hlt:(j:Int)<many/\j<5
  ·obtain⟨h1,h2⟩:=hlt
   have x4:=hB.out.cell 4;have f4:=hB.out.frozen 4;simp only[List.getElem?_toArray,List.getElem?_cons_zero,List.getElem?_cons_succ]at x4;have x4a:∀o,(wr.alloc o).cell? ⟨w.heap.size+1,4,none⟩=some (.slice A j c):=λo=>(World.cell?_alloc_some wr _ o (by rw[x4];rfl)).trans x4
   have N:=hid (block_not hO.out (g:=w.heap.size+1) (.inl (by omega)));have N2:=hid (block_not hO.out (g:=w.heap.size) (.inl (by omega)));have hlb:=hB.out.lt;have HG:=hid ((Below.refl wr.heap.size wr).alloc (Nat.le_refl _) (.cells #[.int .i64 0] 3))
   go_upto_region 4 with (first
    | (at_builtin
       refine wpList_append_lies _ (by rfl) _ _ 24 (by rfl) W0.heap.size 3 i0 _ 1 8 underlying24 hi0 hz0 hz1 hz2 rfl (by omega) (.slice A j c) j ((List.replicate j (0:Int)).map (Value.int .i64)) (by rfl) (hO.out.alloc _)
        ⟨wr.heap.size,0,none⟩ 1 1 [.int .i64 0] (by rfl) (by rfl) (World.news_of_block (cs:=#[.int .i64 0]) (t:=3) (fr:=(0,0)) (heap_alloc_new wr _)) (by simp[Value.oneCell'])
        (by omega) (by simp only[maxLen];omega) (by omega) (by simp;omega) (wr.heap.size+1) (by simp) ?_
       intro g cap w5 hown5 hgrow hat hlt5;have jx:=(hgrow.cell_far ⟨w.heap.size+1,4,none⟩ (by simp;omega) N.out).trans ((HG.out.cell (p:=⟨w.heap.size+1,4,none⟩) hlb).trans x4);have jf:=(hgrow.frozen_far ⟨w.heap.size+1,4,none⟩ (by simp;omega) N.out).trans ((HG.out.frozen (p:=⟨w.heap.size+1,4,none⟩) hlb).trans f4))
    | fail)
   have hgG:g≠w.heap.size+1:=by
    rcases hat with h|h
    ·intro e;exact N.out (by rw[h,e])
    ·omega
   have hgG0:g≠w.heap.size:=by
    rcases hat with h|h
    ·intro e;exact N2.out (by rw[h,e])
    ·omega
   have hs5:wr.heap.size<=w5.heap.size:=by have:=hgrow.size;simp at this;omega
   have hB8:=hid (show Blk (w5.setCell ⟨w.heap.size+1,4,none⟩ (.slice (some ⟨g,0,none⟩) (j+1) cap)) (w.heap.size+1) 26 #[.int .i64 me,.int .i64 many,.int .i64 0,.slice none 0 0,.slice (some ⟨g,0,none⟩) (j+1) cap]from
    Blk.set_ (cs:=#[.int .i64 me,.int .i64 many,.int .i64 0,.slice none 0 0,.slice A j c]) ((hgrow.block (w.heap.size+1) (by simp;omega) N.out).trans (hB.out.alloc _)) 4 _)
   have hR8:=hid (show Blk (w5.setCell ⟨w.heap.size+1,4,none⟩ (.slice (some ⟨g,0,none⟩) (j+1) cap)) w.heap.size 26 #[.int .i64 0,.int .i64 0,.int .i64 0,.slice none 0 0,.slice none 0 0]from
    Blk.far ((hgrow.block w.heap.size (by simp;omega) N2.out).trans (hR.out.alloc _)) (by simp) _)
   have hO8:=hid (show(w5.setCell ⟨w.heap.size+1,4,none⟩ (.slice (some ⟨g,0,none⟩) (j+1) cap)).ownsRow W0.heap.size 3 1 (.slice (some ⟨g,0,none⟩) (j+1) cap) (j+1) ((List.replicate (j+1) (0:Int)).map (Value.int .i64)) by
    rw[<- rep_snoc];exact ownsRow_setCell_below hown5 (by simp;omega) _)
   have hb8:=hid (show Below w.heap.size w (w5.setCell ⟨w.heap.size+1,4,none⟩ (.slice (some ⟨g,0,none⟩) (j+1) cap))from
    ((hW.out.alloc (by omega) _).grown hgrow (by simp;omega) (λk hk=>by have:=(hO.out.lt k hk).1;omega)).setCell (by simp) _)
   have hsz:W0.heap.size<=(w5.setCell ⟨w.heap.size+1,4,none⟩ (.slice (some ⟨g,0,none⟩) (j+1) cap)).heap.size:=by rw[size_setCell];omega
   generalize w5.setCell ⟨w.heap.size+1,4,none⟩ (.slice (some ⟨g,0,none⟩) (j+1) cap)=W8 at hB8 hR8 hO8 hb8 hsz ⊢;clear hB hO hR hW hown5 hgrow hat jx jf x4 f4 x4a HG
   go_wp2_with fail
   go_roundw
   case rel=>exact⟨j+1,some ⟨g,0,none⟩,cap,by omega,by omega,by go_num,hB8,hO8,hR8,hb8,hsz⟩
   case measure=>simp[intOf];omega
  ·have hjm':(j:Int)=min (max many 0) 5:=by omega
   have HN:=hid (rnewRep_eq me many j hjm');have hRep:RepR wr wr.heap.size ⟨me,many,0,[],List.replicate j 0⟩ none 0 A j :=
    ⟨⟨rfl,λh=>absurd h (by omega)⟩,rfl,Reads.of_own hO.out,by simp,by omega,by omega⟩
   have HV:=hid (rvalid_any wr _ none 0 0 A j c hRep (Nat.le_refl _));unfold repV at HV;simp only at HV;have HRp:=hid hRep;obtain⟨b0,b1,b2,b3,b4⟩:=hB.out.cells5;have HCp:=hid (own_cap hO.out);have NO:=hid (block_not hO.out (g:=w.heap.size) (.inl (by omega)));have HFr:=hid (Fresh.of_own hO.out (B':=w.heap.size) (by omega));clear hRep;have hwlt:W0.heap.size<=wr.heap.size:=hws
   by_cases hA:(j:Int)<many
   ·have h5:¬((j:Int)<5):=by omega
    go_wp2_with fail
    refine HV.out.mono ?_;rintro e w2 ⟨rfl,hb2⟩;have hbe:=hW.out.trans (hb2.mono hW.out.size);obtain⟨x0,x1,x2,x3,x4⟩:=(hB.out.below hb2 hB.out.lt).cells5;obtain⟨r0,r1,r2,r3,r4⟩:=(hR.out.below hb2 hR.out.lt).cells5;obtain⟨s0,s1,s2,s3,s4⟩:=(hR.out.below hb2 hR.out.lt).soft5;have HR6:=hid ((HRp.out.below hb2).more hb2.size);clear b0 b1 b2 b3 b4 hB hR;cases hv:Rp.valid ⟨me,many,0,[],List.replicate j 0⟩
    ·go_wp2
     refine bodyPost_ret (v:=.tuple #[zeroRep,.int .i64 310]) (by simp[zeroRep,results,results28,go_sem,r0,r1,r2,r3,r4]) rfl ⟨?_,?_⟩
     ·repeat(refine Below.setCell ?_ (by simp) _)
      exact hbe
     ·rw[HN.out,hv];rfl
    ·go_wp2
     refine bodyPost_ret (v:=.tuple #[.agg #[.int .i64 me,.int .i64 many,.int .i64 0,.slice none 0 0,.slice A j c],.int .i64 0]) (by simp[results,results28,go_sem,r0,r1,r2,r3,r4]) rfl ⟨?_,?_⟩
     ·repeat(refine Below.setCell ?_ (by simp) _)
      exact hbe
     ·rw[HN.out,hv]
      refine⟨none,0,0,A,j,c,rfl,?_,(λa e=>by cases e),HFr.out,Nat.le_refl _⟩;simp only[size_setCell]
      repeat(refine RepR.far ?_ (λa e=>by cases e) (λa e h=>NO.out (by subst e;exact(congrArg some h).symm)) _)
      exact HR6.out
   ·have hA':=hA
    go_wp2_with fail
    refine HV.out.mono ?_;rintro e w2 ⟨rfl,hb2⟩;have hbe:=hW.out.trans (hb2.mono hW.out.size);obtain⟨x0,x1,x2,x3,x4⟩:=(hB.out.below hb2 hB.out.lt).cells5;obtain⟨r0,r1,r2,r3,r4⟩:=(hR.out.below hb2 hR.out.lt).cells5;obtain⟨s0,s1,s2,s3,s4⟩:=(hR.out.below hb2 hR.out.lt).soft5;have HR6:=hid ((HRp.out.below hb2).more hb2.size);clear b0 b1 b2 b3 b4 hB hR;cases hv:Rp.valid ⟨me,many,0,[],List.replicate j 0⟩
    ·go_wp2
     refine bodyPost_ret (v:=.tuple #[zeroRep,.int .i64 310]) (by simp[zeroRep,results,results28,go_sem,r0,r1,r2,r3,r4]) rfl ⟨?_,?_⟩
     ·repeat(refine Below.setCell ?_ (by simp) _)
      exact hbe
     ·rw[HN.out,hv];rfl
    ·go_wp2
     refine bodyPost_ret (v:=.tuple #[.agg #[.int .i64 me,.int .i64 many,.int .i64 0,.slice none 0 0,.slice A j c],.int .i64 0]) (by simp[results,results28,go_sem,r0,r1,r2,r3,r4]) rfl ⟨?_,?_⟩
     ·repeat(refine Below.setCell ?_ (by simp) _)
      exact hbe
     ·rw[HN.out,hv]
      refine⟨none,0,0,A,j,c,rfl,?_,(λa e=>by cases e),HFr.out,Nat.le_refl _⟩;simp only[size_setCell]
      repeat(refine RepR.far ?_ (λa e=>by cases e) (λa e h=>NO.out (by subst e;exact(congrArg some h).symm)) _)
      exact HR6.out
end
section
open Go.RowKit
theorem merge_skip {y:Rp.Post}{a b:List Rp.Post}(h:∀z∈a,Rp.before y z=true):Rp.merge a (y::b)=y::Rp.merge a b:=by
 cases a with
 | nil=>exact merge_b
 | cons z a =>
   have hz:=h z (by simp);refine merge_gt (λh2=>Rp.before_irrefl _ (Rp.before_trans h2 hz)) (λe=>?_);rw[e]at hz;exact Rp.before_irrefl _ hz
theorem drop_get {l:List Rp.Post}{i:Nat}{x:Rp.Post}(h:l[i]?=some x):l.drop i=x::l.drop (i+1):=by
 obtain⟨hlt,rfl⟩:=List.getElem?_eq_some_iff.1 h;exact List.drop_eq_getElem_cons hlt
theorem sorted_drop {l:List Rp.Post}{i:Nat}{x:Rp.Post}(hs:Rp.Sorted l)(h:l[i]?=some x):∀z∈l.drop (i+1),Rp.before x z=true:=by
 have h1:Rp.Sorted (l.drop i):=List.Pairwise.sublist (List.drop_sublist _ _) hs;rw[drop_get h]at h1;exact(List.pairwise_cons.1 h1).1
theorem rjoined_any (w:World)(A:Option Addr)(n c:Nat)(l:List Rp.Post)(A':Option Addr)(n' c':Nat)(l':List Rp.Post)(many:Int)(hm:1<=many/\many<=5)
 (hx:Reads w w.heap.size 4 A n (encPs l)) (hl:l.length=n) (hx':Reads w w.heap.size 4 A' n' (encPs l')) (hl':l'.length=n') (hn:n+n'<=16777216) (hs:Rp.Sorted l) :
 Calls prog 67 #[.slice A n c,.slice A' n' c',.int .i64 many] w λe w'=>∃A3 n3 c3,e=.returned (.tuple #[.slice A3 n3 c3,.bool (Rp.isLog (Rp.merge l l') many)]) /\
  w'.ownsRow w.heap.size 57 4 (.slice A3 n3 c3) n3 (encPs (Rp.merge l l'))/\(Rp.merge l l').length=n3/\Below w.heap.size w w':=by
 obtain⟨i0,hi0,hz0,hz1,hz2⟩:=info_parts info57;have HX:=hid hx;have HX':=hid hx';have HL:=hid hl;have HL':=hid hl';have HS:=hid hs;obtain⟨M,hM⟩:∃M,M=Rp.merge l l':=⟨_,rfl⟩;rw[<- hM];have HM:=hid hM;clear hx hx' hl hl' hs hM
 go_enter func67,ntmps67
 go_wp2_with fail
 go_loopw [8,9,10] (λs8 s9 s10 wr=>∃(i k:Nat) (done:List Rp.Post) (A3:Option Addr) (n3 c3:Nat),i<=n/\k<=n'/\s8=.slice A3 n3 c3/\s9=.int .i64 i/\s10=.int .i64 k/\n3<=i+k /\
  Hid (wr.ownsRow w.heap.size 57 4 (.slice A3 n3 c3) n3 (encPs done))/\Hid (done.length=n3)/\Hid (M=done++Rp.merge (l.drop i) (l'.drop k))/\Hid (Below w.heap.size w wr)) (λ_ s9 s10 _=>(n - (intOf s9).toNat)+(n' - (intOf s10).toNat))
 case atStart=>exact⟨0,0,[],none,0,0,by omega,by omega,rfl,rfl,rfl,by omega,hid (World.ownsRow_nil _ _ _ _),hid rfl,hid HM.out,hid (Below.refl _ _)⟩
 case round =>
  obtain⟨i,k,done,A3,n3,c3,hi,hk,rfl,rfl,rfl,hn3,hO,hD,hE,hW⟩:=hrel;have hws:=hW.out.size;have HXr:=hid ((HX.out.below hW.out).more hws);have HXr':=hid ((HX'.out.below hW.out).more hws)
  by_cases hkn:k<n'
  ·obtain⟨byy,offy,y,rfl,hbly,hqy,y0,y1,y2,y3⟩:=HXr'.out.post HL'.out (j:=k) (by omega)
   by_cases hin:i<n
   ·obtain⟨bx,offx,x,rfl,hblx,hqx,x0,x1,x2,x3⟩:=HXr.out.post HL.out (j:=i) (by omega)
    have HQx:=hid hqx;have HQy:=hid hqy;clear hqx hqy;have HBf:Hid (∀z:Later wr,Calls prog 88 #[.agg #[.int .i64 x.epoch,.int .i64 x.origin,.int .i64 x.number,.string x.text],.agg #[.int .i64 y.epoch,.int .i64 y.origin,.int .i64 y.number,.string y.text]] z.W λe w'=>e=.returned (.bool (Rp.before x y))/\Below z.W.heap.size z.W w'):=hid λz=>rbefore_any x y z.W
    have Lx0:=Later.of x0;have Lx1:=Later.of x1;have Lx2:=Later.of x2;have Lx3:=Later.of x3;have Ly0:=Later.of y0;have Ly1:=Later.of y1;have Ly2:=Later.of y2;have Ly3:=Later.of y3;have hkf:((k:Int)==n')=false:=beq_eq_false_iff_ne.2 (by omega);cases hbf:Rp.before x y
    ·have HNb:=hid hbf
     rw[hbf]at HBf;clear hbf
     go_wp2_with fail
     refine wp_region_later (by kernel_rfl) (by kernel_rfl) ?_
     repeat(go_big_quiet_step ((go_at_call 88;with_reducible exact later_of (HBf.out _))))
     refine wpQuiet_nil ?_;rintro W2 ⟨⟨_,hb2⟩,rfl⟩;have hB2:=hid hb2;clear hb2 hkf HBf Lx0 Lx1 Lx2 Lx3 Ly0 Ly1 Ly2 Ly3;obtain⟨u0,u1,u2,u3⟩:W2.cell? ⟨bx,offx+i*4,none⟩=some (.int .i64 x.epoch)/\W2.cell? ⟨bx,offx+i*4+1,none⟩=some (.int .i64 x.origin)/\W2.cell? ⟨bx,offx+i*4+2,none⟩=some (.int .i64 x.number)/\W2.cell? ⟨bx,offx+i*4+3,none⟩=some (.string x.text) :=
      ⟨Eq.trans (hB2.out.cell (by exact lt_of_cell x0)) x0,Eq.trans (hB2.out.cell (by exact lt_of_cell x1)) x1,Eq.trans (hB2.out.cell (by exact lt_of_cell x2)) x2,Eq.trans (hB2.out.cell (by exact lt_of_cell x3)) x3⟩
     obtain⟨v0,v1,v2,v3⟩:W2.cell? ⟨byy,offy+k*4,none⟩=some (.int .i64 y.epoch)/\W2.cell? ⟨byy,offy+k*4+1,none⟩=some (.int .i64 y.origin)/\W2.cell? ⟨byy,offy+k*4+2,none⟩=some (.int .i64 y.number)/\W2.cell? ⟨byy,offy+k*4+3,none⟩=some (.string y.text) :=
      ⟨Eq.trans (hB2.out.cell (by exact lt_of_cell y0)) y0,Eq.trans (hB2.out.cell (by exact lt_of_cell y1)) y1,Eq.trans (hB2.out.cell (by exact lt_of_cell y2)) y2,Eq.trans (hB2.out.cell (by exact lt_of_cell y3)) y3⟩
     have Lu0:=Later.of u0;have Lu1:=Later.of u1;have Lu2:=Later.of u2;have Lu3:=Later.of u3;have Lv0:=Later.of v0;have Lv1:=Later.of v1;have Lv2:=Later.of v2;have Lv3:=Later.of v3;have hp:=post_eql x y;unfold aggP at hp
     by_cases hxy:x=y
     ·rw[decide_eq_true hxy]at hp
      have HXY:=hid hxy;clear hxy
      go_wp2_with fail
      refine wp_region_later (by kernel_rfl) (by kernel_rfl) ?_
      repeat(go_big_quiet_step (fail))
      refine wpQuiet_nil ?_;rintro W3 ⟨⟨_,hb3⟩,rfl⟩;have hB3:=hid (hB2.out.trans (hb3.mono hB2.out.size));have hO5:=hid (own_below hO.out hB3.out);obtain⟨q0,q1,q2,q3⟩:W3.cell? ⟨byy,offy+k*4,none⟩=some (.int .i64 y.epoch)/\W3.cell? ⟨byy,offy+k*4+1,none⟩=some (.int .i64 y.origin)/\W3.cell? ⟨byy,offy+k*4+2,none⟩=some (.int .i64 y.number)/\W3.cell? ⟨byy,offy+k*4+3,none⟩=some (.string y.text) :=
       ⟨Eq.trans (hB3.out.cell (by exact lt_of_cell y0)) y0,Eq.trans (hB3.out.cell (by exact lt_of_cell y1)) y1,Eq.trans (hB3.out.cell (by exact lt_of_cell y2)) y2,Eq.trans (hB3.out.cell (by exact lt_of_cell y3)) y3⟩
      have hbw5:=hid (hW.out.trans (hB3.out.mono hws));have hs5:=hbw5.out.size;clear hp hb3 Lu0 Lu1 Lu2 Lu3 Lv0 Lv1 Lv2 Lv3 u0 u1 u2 u3 v0 v1 v2 v3
      go_upto_region 11 with (first
       | (at_builtin
          refine wpList_append_lies _ (by rfl) _ _ 23 (by rfl) w.heap.size 57 i0 _ 4 40 underlying23 hi0 hz0 hz1 hz2 rfl (by omega) (.slice A3 n3 c3) n3 (encPs done) (by rfl) (hO5.out.alloc _)
           ⟨W3.heap.size,0,none⟩ 1 1 [.int .i64 y.epoch,.int .i64 y.origin,.int .i64 y.number,.string y.text] (by rfl) (by rfl) (World.news_of_block (cs:=#[.int .i64 y.epoch,.int .i64 y.origin,.int .i64 y.number,.string y.text]) (t:=57) (fr:=(0,0)) (heap_alloc_new W3 _)) (by simp[Value.oneCell'])
           (by omega) (by simp only[maxLen];omega) (by omega) (by simp;omega) (W3.heap.size+1) (by simp) ?_
          intro g cap w7 hown7 hgrow hat hlt7)
       | fail)
      have hO7:=hid (show w7.ownsRow w.heap.size 57 4 (.slice (some ⟨g,0,none⟩) (n3+1) cap) (n3+1) (encPs (done++[y])) by rw[encPs_snoc];exact hown7);have hb7:=hid (show Below w.heap.size w w7 from(hbw5.out.alloc hs5 _).grown hgrow (by simp;omega) (λj hj=>(hO5.out.lt j hj).1));clear hown7 hgrow hat hO hO5
      go_wp2_with fail
      go_roundw
      case rel=>exact⟨i+1,k+1,done++[y],some ⟨g,0,none⟩,n3+1,cap,by omega,by omega,rfl,by go_num,by go_num,by omega,hO7,hid (by rw[List.length_append,hD.out];rfl),hid (by rw[hE.out,drop_get HQx.out,drop_get HQy.out,merge_eq (by rw[HNb.out];simp) HXY.out,merge_skip (by have:=sorted_drop HS.out HQx.out;rw[HXY.out]at this;exact this)];simp),hb7⟩
      case measure=>simp[intOf];omega
     ·rw[decide_eq_false hxy]at hp
      have HXY:=hid hxy;clear hxy
      go_wp2_with fail
      refine wp_region_later (by kernel_rfl) (by kernel_rfl) ?_
      repeat(go_big_quiet_step (fail))
      refine wpQuiet_nil ?_;rintro W3 ⟨⟨_,hb3⟩,rfl⟩;have hB3:=hid (hB2.out.trans (hb3.mono hB2.out.size));have hO5:=hid (own_below hO.out hB3.out);obtain⟨q0,q1,q2,q3⟩:W3.cell? ⟨byy,offy+k*4,none⟩=some (.int .i64 y.epoch)/\W3.cell? ⟨byy,offy+k*4+1,none⟩=some (.int .i64 y.origin)/\W3.cell? ⟨byy,offy+k*4+2,none⟩=some (.int .i64 y.number)/\W3.cell? ⟨byy,offy+k*4+3,none⟩=some (.string y.text) :=
       ⟨Eq.trans (hB3.out.cell (by exact lt_of_cell y0)) y0,Eq.trans (hB3.out.cell (by exact lt_of_cell y1)) y1,Eq.trans (hB3.out.cell (by exact lt_of_cell y2)) y2,Eq.trans (hB3.out.cell (by exact lt_of_cell y3)) y3⟩
      have hbw5:=hid (hW.out.trans (hB3.out.mono hws));have hs5:=hbw5.out.size;clear hp hb3 Lu0 Lu1 Lu2 Lu3 Lv0 Lv1 Lv2 Lv3 u0 u1 u2 u3 v0 v1 v2 v3
      go_upto_region 11 with (first
       | (at_builtin
          refine wpList_append_lies _ (by rfl) _ _ 23 (by rfl) w.heap.size 57 i0 _ 4 40 underlying23 hi0 hz0 hz1 hz2 rfl (by omega) (.slice A3 n3 c3) n3 (encPs done) (by rfl) (hO5.out.alloc _)
           ⟨W3.heap.size,0,none⟩ 1 1 [.int .i64 y.epoch,.int .i64 y.origin,.int .i64 y.number,.string y.text] (by rfl) (by rfl) (World.news_of_block (cs:=#[.int .i64 y.epoch,.int .i64 y.origin,.int .i64 y.number,.string y.text]) (t:=57) (fr:=(0,0)) (heap_alloc_new W3 _)) (by simp[Value.oneCell'])
           (by omega) (by simp only[maxLen];omega) (by omega) (by simp;omega) (W3.heap.size+1) (by simp) ?_
          intro g cap w7 hown7 hgrow hat hlt7)
       | fail)
      have hO7:=hid (show w7.ownsRow w.heap.size 57 4 (.slice (some ⟨g,0,none⟩) (n3+1) cap) (n3+1) (encPs (done++[y])) by rw[encPs_snoc];exact hown7);have hb7:=hid (show Below w.heap.size w w7 from(hbw5.out.alloc hs5 _).grown hgrow (by simp;omega) (λj hj=>(hO5.out.lt j hj).1));clear hown7 hgrow hat hO hO5
      go_wp2_with fail
      go_roundw
      case rel=>exact⟨i,k+1,done++[y],some ⟨g,0,none⟩,n3+1,cap,by omega,by omega,rfl,by go_num,by go_num,by omega,hO7,hid (by rw[List.length_append,hD.out];rfl),hid (by rw[hE.out,drop_get HQx.out,drop_get HQy.out,merge_gt (by rw[HNb.out];simp) HXY.out,<- drop_get HQx.out];simp),hb7⟩
      case measure=>simp[intOf];omega
    ·have HNb:=hid hbf
     rw[hbf]at HBf;clear hbf
     go_wp2_with fail
     refine wp_region_later (by kernel_rfl) (by kernel_rfl) ?_
     repeat(go_big_quiet_step ((go_at_call 88;with_reducible exact later_of (HBf.out _))))
     refine wpQuiet_nil ?_;rintro W2 ⟨⟨_,hb2⟩,rfl⟩;have hB2:=hid hb2;have hO5:=hid (own_below hO.out hB2.out);obtain⟨q0,q1,q2,q3⟩:W2.cell? ⟨bx,offx+i*4,none⟩=some (.int .i64 x.epoch)/\W2.cell? ⟨bx,offx+i*4+1,none⟩=some (.int .i64 x.origin)/\W2.cell? ⟨bx,offx+i*4+2,none⟩=some (.int .i64 x.number)/\W2.cell? ⟨bx,offx+i*4+3,none⟩=some (.string x.text) :=
      ⟨Eq.trans (hB2.out.cell (by exact lt_of_cell x0)) x0,Eq.trans (hB2.out.cell (by exact lt_of_cell x1)) x1,Eq.trans (hB2.out.cell (by exact lt_of_cell x2)) x2,Eq.trans (hB2.out.cell (by exact lt_of_cell x3)) x3⟩
     have hbw5:=hid (hW.out.trans (hB2.out.mono hws));have hs5:=hbw5.out.size;clear hb2 hkf HBf Lx0 Lx1 Lx2 Lx3 Ly0 Ly1 Ly2 Ly3
     go_upto_region 7 with (first
      | (at_builtin
         refine wpList_append_lies _ (by rfl) _ _ 23 (by rfl) w.heap.size 57 i0 _ 4 40 underlying23 hi0 hz0 hz1 hz2 rfl (by omega) (.slice A3 n3 c3) n3 (encPs done) (by rfl) (hO5.out.alloc _)
          ⟨W2.heap.size,0,none⟩ 1 1 [.int .i64 x.epoch,.int .i64 x.origin,.int .i64 x.number,.string x.text] (by rfl) (by rfl) (World.news_of_block (cs:=#[.int .i64 x.epoch,.int .i64 x.origin,.int .i64 x.number,.string x.text]) (t:=57) (fr:=(0,0)) (heap_alloc_new W2 _)) (by simp[Value.oneCell'])
          (by omega) (by simp only[maxLen];omega) (by omega) (by simp;omega) (W2.heap.size+1) (by simp) ?_
         intro g cap w7 hown7 hgrow hat hlt7)
      | fail)
     have hO7:=hid (show w7.ownsRow w.heap.size 57 4 (.slice (some ⟨g,0,none⟩) (n3+1) cap) (n3+1) (encPs (done++[x])) by rw[encPs_snoc];exact hown7);have hb7:=hid (show Below w.heap.size w w7 from(hbw5.out.alloc hs5 _).grown hgrow (by simp;omega) (λj hj=>(hO5.out.lt j hj).1));clear hown7 hgrow hat hO hO5
     go_wp2_with fail
     go_roundw
     case rel=>exact⟨i+1,k,done++[x],some ⟨g,0,none⟩,n3+1,cap,by omega,by omega,rfl,by go_num,by go_num,by omega,hO7,hid (by rw[List.length_append,hD.out];rfl),hid (by rw[hE.out,drop_get HQx.out,drop_get HQy.out,merge_lt HNb.out,<- drop_get HQy.out];simp),hb7⟩
     case measure=>simp[intOf];omega
   ·have hin':i=n:=by omega
    have HQy:=hid hqy;clear hqy;have hkf:((k:Int)==n')=false:=beq_eq_false_iff_ne.2 (by omega);have hif:decide ((i:Int)<n)=false:=decide_eq_false (by omega)
    go_wp2_with fail
    refine wp_region_later (by kernel_rfl) (by kernel_rfl) ?_
    repeat(go_big_quiet_step (fail))
    refine wpQuiet_nil ?_;rintro W2 ⟨⟨_,hb2⟩,rfl⟩;have hB2:=hid hb2;clear hb2
    go_wp2_with fail
    refine wp_region_later (by kernel_rfl) (by kernel_rfl) ?_
    repeat(go_big_quiet_step (fail))
    refine wpQuiet_nil ?_;rintro W3 ⟨⟨_,hb3⟩,rfl⟩;have hB3:=hid (hB2.out.trans (hb3.mono hB2.out.size));have hO5:=hid (own_below hO.out hB3.out);obtain⟨q0,q1,q2,q3⟩:W3.cell? ⟨byy,offy+k*4,none⟩=some (.int .i64 y.epoch)/\W3.cell? ⟨byy,offy+k*4+1,none⟩=some (.int .i64 y.origin)/\W3.cell? ⟨byy,offy+k*4+2,none⟩=some (.int .i64 y.number)/\W3.cell? ⟨byy,offy+k*4+3,none⟩=some (.string y.text) :=
     ⟨Eq.trans (hB3.out.cell (by exact lt_of_cell y0)) y0,Eq.trans (hB3.out.cell (by exact lt_of_cell y1)) y1,Eq.trans (hB3.out.cell (by exact lt_of_cell y2)) y2,Eq.trans (hB3.out.cell (by exact lt_of_cell y3)) y3⟩
    have hbw5:=hid (hW.out.trans (hB3.out.mono hws));have hs5:=hbw5.out.size;clear hb3 hkf hif
    go_upto_region 11 with (first
     | (at_builtin
        refine wpList_append_lies _ (by rfl) _ _ 23 (by rfl) w.heap.size 57 i0 _ 4 40 underlying23 hi0 hz0 hz1 hz2 rfl (by omega) (.slice A3 n3 c3) n3 (encPs done) (by rfl) (hO5.out.alloc _)
         ⟨W3.heap.size,0,none⟩ 1 1 [.int .i64 y.epoch,.int .i64 y.origin,.int .i64 y.number,.string y.text] (by rfl) (by rfl) (World.news_of_block (cs:=#[.int .i64 y.epoch,.int .i64 y.origin,.int .i64 y.number,.string y.text]) (t:=57) (fr:=(0,0)) (heap_alloc_new W3 _)) (by simp[Value.oneCell'])
         (by omega) (by simp only[maxLen];omega) (by omega) (by simp;omega) (W3.heap.size+1) (by simp) ?_
        intro g cap w7 hown7 hgrow hat hlt7)
     | fail)
    have hO7:=hid (show w7.ownsRow w.heap.size 57 4 (.slice (some ⟨g,0,none⟩) (n3+1) cap) (n3+1) (encPs (done++[y])) by rw[encPs_snoc];exact hown7);have hb7:=hid (show Below w.heap.size w w7 from(hbw5.out.alloc hs5 _).grown hgrow (by simp;omega) (λj hj=>(hO5.out.lt j hj).1));clear hown7 hgrow hat hO hO5
    go_wp2_with fail
    go_roundw
    case rel=>exact⟨i,k+1,done++[y],some ⟨g,0,none⟩,n3+1,cap,by omega,by omega,rfl,by go_num,by go_num,by omega,hO7,hid (by rw[List.length_append,hD.out];rfl),hid (by rw[hE.out,hin',drop_get HQy.out,<- HL.out,List.drop_length,merge_b];simp),hb7⟩
    case measure=>simp[intOf];omega
  ·have hkn':k=n':=by omega
   by_cases hin:i<n
   ·obtain⟨bx,offx,x,rfl,hblx,hqx,x0,x1,x2,x3⟩:=HXr.out.post HL.out (j:=i) (by omega)
    have HQx:=hid hqx;clear hqx;have hkf:((k:Int)==n')=true:=by rw[hkn'];exact beq_self_eq_true _
    go_wp2_with fail
    refine wp_region_later (by kernel_rfl) (by kernel_rfl) ?_
    repeat(go_big_quiet_step (fail))
    refine wpQuiet_nil ?_;rintro W2 ⟨⟨_,hb2⟩,rfl⟩;have hB2:=hid hb2;have hO5:=hid (own_below hO.out hB2.out);obtain⟨q0,q1,q2,q3⟩:W2.cell? ⟨bx,offx+i*4,none⟩=some (.int .i64 x.epoch)/\W2.cell? ⟨bx,offx+i*4+1,none⟩=some (.int .i64 x.origin)/\W2.cell? ⟨bx,offx+i*4+2,none⟩=some (.int .i64 x.number)/\W2.cell? ⟨bx,offx+i*4+3,none⟩=some (.string x.text) :=
     ⟨Eq.trans (hB2.out.cell (by exact lt_of_cell x0)) x0,Eq.trans (hB2.out.cell (by exact lt_of_cell x1)) x1,Eq.trans (hB2.out.cell (by exact lt_of_cell x2)) x2,Eq.trans (hB2.out.cell (by exact lt_of_cell x3)) x3⟩
    have hbw5:=hid (hW.out.trans (hB2.out.mono hws));have hs5:=hbw5.out.size;clear hb2 hkf
    go_upto_region 7 with (first
     | (at_builtin
        refine wpList_append_lies _ (by rfl) _ _ 23 (by rfl) w.heap.size 57 i0 _ 4 40 underlying23 hi0 hz0 hz1 hz2 rfl (by omega) (.slice A3 n3 c3) n3 (encPs done) (by rfl) (hO5.out.alloc _)
         ⟨W2.heap.size,0,none⟩ 1 1 [.int .i64 x.epoch,.int .i64 x.origin,.int .i64 x.number,.string x.text] (by rfl) (by rfl) (World.news_of_block (cs:=#[.int .i64 x.epoch,.int .i64 x.origin,.int .i64 x.number,.string x.text]) (t:=57) (fr:=(0,0)) (heap_alloc_new W2 _)) (by simp[Value.oneCell'])
         (by omega) (by simp only[maxLen];omega) (by omega) (by simp;omega) (W2.heap.size+1) (by simp) ?_
        intro g cap w7 hown7 hgrow hat hlt7)
     | fail)
    have hO7:=hid (show w7.ownsRow w.heap.size 57 4 (.slice (some ⟨g,0,none⟩) (n3+1) cap) (n3+1) (encPs (done++[x])) by rw[encPs_snoc];exact hown7);have hb7:=hid (show Below w.heap.size w w7 from(hbw5.out.alloc hs5 _).grown hgrow (by simp;omega) (λj hj=>(hO5.out.lt j hj).1));clear hown7 hgrow hat hO hO5
    go_wp2_with fail
    go_roundw
    case rel=>exact⟨i+1,k,done++[x],some ⟨g,0,none⟩,n3+1,cap,by omega,by omega,rfl,by go_num,by go_num,by omega,hO7,hid (by rw[List.length_append,hD.out];rfl),hid (by rw[hE.out,hkn',drop_get HQx.out,<- HL'.out,List.drop_length,merge_a];simp),hb7⟩
    case measure=>simp[intOf];omega
   ·have hin':i=n:=by omega
    have hfin:M=done:=by
     rw[hE.out,hkn',hin',<- HL.out,<- HL'.out,List.drop_length,List.drop_length];rw[Rp.merge];simp
    have HF:=hid hfin;have HLog:=hid (rlog_any wr A3 n3 c3 done many (Reads.of_own hO.out) hD.out (by omega) (own_cap hO.out) hm);clear hfin
    go_wp2_with fail
    refine HLog.out.mono ?_;rintro e w5 ⟨rfl,hb5⟩;have hO5:=own_below hO.out hb5;have hbe:=hW.out.trans (hb5.mono hws);clear hO
    go_wp2_with fail
    refine bodyPost_ret (v:=.tuple #[.slice A3 n3 c3,.bool (Rp.isLog done many)]) (by simp[results,results67,go_sem]) rfl ⟨A3,n3,c3,by rw[HF.out],by rw[HF.out];exact hO5,by rw[HF.out];exact hD.out,hbe⟩
end
end Go.Proofs.YtnehgpeelgjjhaaGreatDoor.Tw
