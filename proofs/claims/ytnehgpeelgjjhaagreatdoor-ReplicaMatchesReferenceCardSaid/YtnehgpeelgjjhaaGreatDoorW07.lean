/- Contracts of functions of the program, and plain laws, towards the laws of replicas. Joined of the texts: Merge, HearP, Hear. -/
import Derived.Test.YtnehgpeelgjjhaaGreatDoorW06
import Derived.Test.YtnehgpeelgjjhaaGreatDoorW04
import Derived.Deep.Cut
set_option linter.all false
set_option maxRecDepth 100000
set_option maxHeartbeats 12800000
open Go.Lib (hid)
namespace Go.Proofs.YtnehgpeelgjjhaaGreatDoor.Tw
open Go.Proofs.Tryz
section
open Go.RowKit
theorem encPs_cons (p:Rp.Post)(l:List Rp.Post):encPs (p::l)=encP p++encPs l:=rfl
theorem Reads.tail {w:World}{B b off n:Nat}{p:Rp.Post}{l:List Rp.Post}(h:Reads w B 4 (some ⟨b,off,none⟩) (n+1) (encPs (p::l))):Reads w B 4 (some ⟨b,off+4,none⟩) n (encPs l):=by
 refine⟨by have:=h.1;rw[encPs_cons,List.length_append]at this;simp[encP]at this;omega,λ_=>?_⟩;obtain⟨b',off',e,hb,hc⟩:=h.2 (by omega);injection e with e
 injection e with e1 e2
 subst e1 e2;refine⟨b,off+4,rfl,hb,λj u hu=>?_⟩;have:=hc (4+j) u (by rw[encPs_cons,List.getElem?_append_right (by simp[encP])];simpa[encP]using hu);rw[show off+4+j=off+(4+j) by omega];exact this
theorem tail_any {w:World}{B n c:Nat}{A:Option Addr}{p:Rp.Post}{l:List Rp.Post}(h:Reads w B 4 A (n+1) (encPs (p::l)))(hc:n+1<=c) :
 ∃A1,(∀w',(Instr.sliceAt 23 (.slice A (n+1) c) (some (.int .i64 1)) none none).run prog w'=.ok (.slice A1 n (c - 1)) w')/\Reads w B 4 A1 n (encPs l):=by
 obtain⟨b,off,e,hb,hcell⟩:=h.2 (by omega);subst e
 by_cases h1:c=1
 ·refine⟨some ⟨b,off,none⟩,λw'=>?_,?_⟩
  ·subst h1
   have:n=0:=by omega
   subst this;go_simp
  ·have hn:n=0:=by omega
   subst hn;have hl:=h.1;rw[encPs_cons,List.length_append]at hl;have:encPs l=[]:=List.eq_nil_of_length_eq_zero (by simp[encP]at hl;simpa using hl);rw[this];exact⟨by simp,λh=>absurd h (by omega)⟩
 ·refine⟨some ⟨b,off+4,none⟩,λw'=>?_,h.tail⟩
  go_simp;intro h;omega
theorem merge_a {x:Rp.Post}{a:List Rp.Post}:Rp.merge (x::a) []=x::Rp.merge a []:=by rw[Rp.merge]
theorem merge_b {y:Rp.Post}{b:List Rp.Post}:Rp.merge [] (y::b)=y::Rp.merge [] b:=by rw[Rp.merge]
theorem merge_lt {x y:Rp.Post}{a b:List Rp.Post}(h:Rp.before x y=true):Rp.merge (x::a) (y::b)=x::Rp.merge a (y::b):=by rw[Rp.merge,if_pos h]
theorem merge_eq {x y:Rp.Post}{a b:List Rp.Post}(h:¬Rp.before x y=true)(e:x=y):Rp.merge (x::a) (y::b)=Rp.merge a (y::b):=by rw[Rp.merge,if_neg h,if_pos e]
theorem merge_gt {x y:Rp.Post}{a b:List Rp.Post}(h:¬Rp.before x y=true)(e:¬x=y):Rp.merge (x::a) (y::b)=y::Rp.merge (x::a) b:=by rw[Rp.merge,if_neg h,if_neg e]
structure Mid (w wr:World) (M:List Rp.Post) (N:Nat) (xa xb done:List Rp.Post) (A1:Option Addr) (n1 c1:Nat) (A2:Option Addr) (n2 c2:Nat) (A3:Option Addr) (n3 c3:Nat):Prop where
 ra:Reads wr w.heap.size 4 A1 n1 (encPs xa)
 la:xa.length=n1
 ca:n1<=c1
 rb:Reads wr w.heap.size 4 A2 n2 (encPs xb)
 lb:xb.length=n2
 cb:n2<=c2
 own:wr.ownsRow w.heap.size 57 4 (.slice A3 n3 c3) n3 (encPs done)
 ld:done.length=n3
 eq:M=done++Rp.merge xa xb
 few:n1+n2+n3<=N
 below:Below w.heap.size w wr
def lenOf :Value->Nat
 | .slice _ n _=>n
 | _=>0
theorem merge_any (w:World)(A:Option Addr)(n c:Nat)(l:List Rp.Post)(A':Option Addr)(n' c':Nat)(l':List Rp.Post)
 (hx:Reads w w.heap.size 4 A n (encPs l)) (hl:l.length=n) (hc:n<=c) (hx':Reads w w.heap.size 4 A' n' (encPs l')) (hl':l'.length=n') (hc':n'<=c') (hn:n+n'<=16777216) :
 Calls prog 65 #[.slice A n c,.slice A' n' c',.func (.func 63) #[] #[],.func (.func 66) #[] #[]] w λe w'=>∃A3 n3 c3,e=.returned (.slice A3 n3 c3) /\
  w'.ownsRow w.heap.size 57 4 (.slice A3 n3 c3) n3 (encPs (Rp.merge l l'))/\(Rp.merge l l').length=n3/\Below w.heap.size w w':=by
 have H0:=hid (show Mid w w (Rp.merge l l') (n+n') l l' [] A n c A' n' c' none 0 0 from
  ⟨hx,hl,hc,hx',hl',hc',World.ownsRow_nil _ _ _ _,rfl,rfl,by omega,Below.refl _ _⟩)
 obtain⟨i0,hi0,hz0,hz1,hz2⟩:=info_parts info57;clear hx hl hc hx' hl' hc';generalize Rp.merge l l'=M at *
 go_enter func65,ntmps65
 go_wp2
 go_loopw [0,1,9] (λs0 s1 s9 wr=>∃la lb done A1 n1 c1 A2 n2 c2 A3 n3 c3,s0=.slice A1 n1 c1/\s1=.slice A2 n2 c2/\s9=.slice A3 n3 c3/\Hid (Mid w wr M (n+n') la lb done A1 n1 c1 A2 n2 c2 A3 n3 c3)) (λs0 s1 _ _=>lenOf s0+lenOf s1)
 case atStart=>exact⟨l,l',[],A,n,c,A',n',c',none,0,0,rfl,rfl,rfl,H0⟩
 case round =>
  obtain⟨la,lb,done,A1,n1,c1,A2,n2,c2,A3,n3,c3,rfl,rfl,rfl,hM⟩:=hrel;rcases la with _|⟨x,la⟩
  ·have e1:n1=0:=hM.out.la.symm
   subst e1;rcases lb with _|⟨y,lb⟩
   ·have e2:n2=0:=hM.out.lb.symm
    subst e2;have HE:=hid (show M=done by rw[hM.out.eq,Rp.merge];simp);go_wp2;go_ret;exact⟨A3,n3,c3,rfl,by rw[HE.out];exact hM.out.own,by rw[HE.out];exact hM.out.ld,hM.out.below⟩
   ·obtain⟨m,rfl⟩:∃m,n2=m+1:=⟨lb.length,hM.out.lb.symm⟩
    have z1:decide ((m:Int)+1=0)=false:=by simp;omega
    have z2:((m:Int)+1==0)=false:=by simp;omega
    go_wp2;refine wp_region_later (by kernel_rfl) (by kernel_rfl) ?_
    repeat(go_big_quiet_step (fail))
    refine wpQuiet_nil ?_;rintro W1 ⟨⟨_,hW1⟩,rfl⟩;go_wp2;refine wp_region_later (by kernel_rfl) (by kernel_rfl) ?_
    repeat(go_big_quiet_step (fail))
    refine wpQuiet_nil ?_;rintro W2 ⟨⟨_,hW2⟩,rfl⟩;obtain⟨bY,oY,e,hbY,hcell⟩:=hM.out.rb.2 (by omega);subst e;have v0:=hcell 0 _ (rfl:(encPs (y::lb))[0]?=some (.int .i64 y.epoch));have v1:=hcell 1 _ (rfl:(encPs (y::lb))[1]?=some (.int .i64 y.origin));have v2:=hcell 2 _ (rfl:(encPs (y::lb))[2]?=some (.int .i64 y.number));have v3:=hcell 3 _ (rfl:(encPs (y::lb))[3]?=some (.string y.text));simp only[Nat.add_zero]at v0;clear hcell;have hWW:Below wr.heap.size wr W2:=hW1.trans (hW2.mono hW1.size);have hB:=hM.out.below;have hBs:=hB.size;have hss:=hWW.size;have ow2:=hid (own_below hM.out.own hWW);have rb2:=hM.out.rb.below (hWW.mono hBs);obtain⟨A4,hsl,rt⟩:=tail_any rb2 hM.out.cb;have p0:=(hWW.cell (p:=⟨bY,oY,none⟩) (show bY<wr.heap.size by omega)).trans v0;have p1:=(hWW.cell (p:=⟨bY,oY+1,none⟩) (show bY<wr.heap.size by omega)).trans v1;have p2:=(hWW.cell (p:=⟨bY,oY+2,none⟩) (show bY<wr.heap.size by omega)).trans v2;have p3:=(hWW.cell (p:=⟨bY,oY+3,none⟩) (show bY<wr.heap.size by omega)).trans v3;have hfew:=hM.out.few;have N1:=hid (block_not ow2.out (g:=bY) (.inl hbY));have hbW:bY<W2.heap.size:=by omega
    have hca:=hM.out.ca;have hcb:=hM.out.cb;have RT:=hid rt;have HB:=hid hB;have HWW:=hid hWW;clear rb2 rt hWW hB;go_wp2
    go_region_held3 (λw'=>w'.cell? ⟨bY,oY,none⟩=some (.int .i64 y.epoch)/\w'.cell? ⟨bY,oY+1,none⟩=some (.int .i64 y.origin)/\w'.cell? ⟨bY,oY+2,none⟩=some (.int .i64 y.number)/\w'.cell? ⟨bY,oY+3,none⟩=some (.string y.text))
     (first
       | go_keep
       | (exact⟨(hgrow.cell_far ⟨bY,oY,none⟩ (by simp;omega) N1.out).trans ((hb7.cell (p:=⟨bY,oY,none⟩) hbW).trans p0),(hgrow.cell_far ⟨bY,oY+1,none⟩ (by simp;omega) N1.out).trans ((hb7.cell (p:=⟨bY,oY+1,none⟩) hbW).trans p1),(hgrow.cell_far ⟨bY,oY+2,none⟩ (by simp;omega) N1.out).trans ((hb7.cell (p:=⟨bY,oY+2,none⟩) hbW).trans p2),(hgrow.cell_far ⟨bY,oY+3,none⟩ (by simp;omega) N1.out).trans ((hb7.cell (p:=⟨bY,oY+3,none⟩) hbW).trans p3)⟩))
     (first
       | (refine step_append_lies _ (by rfl) _ _ _ (by rfl) w.heap.size 57 i0 _ 4 40 underlying23 hi0 hz0 hz1 hz2 rfl (by omega) (.slice A3 n3 c3) n3 (encPs done) (by rfl) ((ow2.out.alloc _).drew)
           ⟨W2.heap.size,0,none⟩ 1 1 [.int .i64 y.epoch,.int .i64 y.origin,.int .i64 y.number,.string y.text] (by rfl) (by rfl)
           (World.news_of_block (cs:=#[.int .i64 y.epoch,.int .i64 y.origin,.int .i64 y.number,.string y.text]) (t:=57) (fr:=(0,0)) (heap_alloc_new W2 _)) (by simp[Value.oneCell'])
           (by omega) (by simp only[maxLen];omega) (by omega) (by simp;omega) (W2.heap.size+1) (by simp) ?_
          intro g cap w5 hown5 hgrow hat hlt5;have hb7:=(Below.refl W2.heap.size W2).alloc (Nat.le_refl _) (.cells #[.int .i64 y.epoch,.int .i64 y.origin,.int .i64 y.number,.string y.text] 57)))
    have B25:Below w.heap.size W2 w5:=(((Below.refl w.heap.size W2).alloc (by omega) _).drew).grown hgrow (by simp;omega) (λj hj=>(ow2.out.lt j hj).1);have HM5:=hid (show Mid w w5 M (n+n') ([]) (lb) (done++[y]) (A1) (0) (c1) (A4) (m) (c2 - 1) (some ⟨g,0,none⟩) (n3+1) cap from
     ⟨hM.out.ra.below ((HWW.out.mono hBs).trans B25),hM.out.la,hM.out.ca,RT.out.below B25,by have:=hM.out.lb;simpa using this,by omega,by rw[encPs_snoc];exact hown5,by simp[hM.out.ld],by rw[hM.out.eq,merge_b];simp,by omega,HB.out.trans ((HWW.out.mono hBs).trans B25)⟩)
    clear hown5 hgrow hb7 p0 p1 p2 p3 B25;go_wp2;go_roundw
    case rel=>exact⟨[],lb,done++[y],A1,0,c1,A4,m,c2 - 1,some ⟨g,0,none⟩,n3+1,cap,rfl,rfl,rfl,HM5⟩
    case measure=>simp[lenOf];try omega
  ·obtain⟨m1,rfl⟩:∃m1,n1=m1+1:=⟨la.length,hM.out.la.symm⟩
   have y1:decide ((0:Int)<(m1:Int)+1)=true:=by simp only[decide_eq_true_eq];omega
   rcases lb with _|⟨y,lb⟩
   ·have e2:n2=0:=hM.out.lb.symm
    subst e2;go_wp2;refine wp_region_later (by kernel_rfl) (by kernel_rfl) ?_
    repeat(go_big_quiet_step (fail))
    refine wpQuiet_nil ?_;rintro W1 ⟨⟨_,hW1⟩,rfl⟩;obtain⟨bx,ox,e,hbx,hcell⟩:=hM.out.ra.2 (by omega);subst e;have u0:=hcell 0 _ (rfl:(encPs (x::la))[0]?=some (.int .i64 x.epoch));have u1:=hcell 1 _ (rfl:(encPs (x::la))[1]?=some (.int .i64 x.origin));have u2:=hcell 2 _ (rfl:(encPs (x::la))[2]?=some (.int .i64 x.number));have u3:=hcell 3 _ (rfl:(encPs (x::la))[3]?=some (.string x.text));simp only[Nat.add_zero]at u0;clear hcell;have hWW:Below wr.heap.size wr W1:=hW1;have hB:=hM.out.below;have hBs:=hB.size;have hss:=hWW.size;have ow2:=hid (own_below hM.out.own hWW);have rb2:=hM.out.ra.below (hWW.mono hBs);obtain⟨A4,hsl,rt⟩:=tail_any rb2 hM.out.ca;have p0:=(hWW.cell (p:=⟨bx,ox,none⟩) (show bx<wr.heap.size by omega)).trans u0;have p1:=(hWW.cell (p:=⟨bx,ox+1,none⟩) (show bx<wr.heap.size by omega)).trans u1;have p2:=(hWW.cell (p:=⟨bx,ox+2,none⟩) (show bx<wr.heap.size by omega)).trans u2;have p3:=(hWW.cell (p:=⟨bx,ox+3,none⟩) (show bx<wr.heap.size by omega)).trans u3;have hfew:=hM.out.few;have N1:=hid (block_not ow2.out (g:=bx) (.inl hbx));have hbW:bx<W1.heap.size:=by omega
    have hca:=hM.out.ca;have hcb:=hM.out.cb;have RT:=hid rt;have HB:=hid hB;have HWW:=hid hWW;clear rb2 rt hWW hB;go_wp2
    go_region_held3 (λw'=>w'.cell? ⟨bx,ox,none⟩=some (.int .i64 x.epoch)/\w'.cell? ⟨bx,ox+1,none⟩=some (.int .i64 x.origin)/\w'.cell? ⟨bx,ox+2,none⟩=some (.int .i64 x.number)/\w'.cell? ⟨bx,ox+3,none⟩=some (.string x.text))
     (first
       | go_keep
       | (exact⟨(hgrow.cell_far ⟨bx,ox,none⟩ (by simp;omega) N1.out).trans ((hb7.cell (p:=⟨bx,ox,none⟩) hbW).trans p0),(hgrow.cell_far ⟨bx,ox+1,none⟩ (by simp;omega) N1.out).trans ((hb7.cell (p:=⟨bx,ox+1,none⟩) hbW).trans p1),(hgrow.cell_far ⟨bx,ox+2,none⟩ (by simp;omega) N1.out).trans ((hb7.cell (p:=⟨bx,ox+2,none⟩) hbW).trans p2),(hgrow.cell_far ⟨bx,ox+3,none⟩ (by simp;omega) N1.out).trans ((hb7.cell (p:=⟨bx,ox+3,none⟩) hbW).trans p3)⟩))
     (first
       | (refine step_append_lies _ (by rfl) _ _ _ (by rfl) w.heap.size 57 i0 _ 4 40 underlying23 hi0 hz0 hz1 hz2 rfl (by omega) (.slice A3 n3 c3) n3 (encPs done) (by rfl) ((ow2.out.alloc _).drew)
           ⟨W1.heap.size,0,none⟩ 1 1 [.int .i64 x.epoch,.int .i64 x.origin,.int .i64 x.number,.string x.text] (by rfl) (by rfl)
           (World.news_of_block (cs:=#[.int .i64 x.epoch,.int .i64 x.origin,.int .i64 x.number,.string x.text]) (t:=57) (fr:=(0,0)) (heap_alloc_new W1 _)) (by simp[Value.oneCell'])
           (by omega) (by simp only[maxLen];omega) (by omega) (by simp;omega) (W1.heap.size+1) (by simp) ?_
          intro g cap w5 hown5 hgrow hat hlt5;have hb7:=(Below.refl W1.heap.size W1).alloc (Nat.le_refl _) (.cells #[.int .i64 x.epoch,.int .i64 x.origin,.int .i64 x.number,.string x.text] 57)))
    have B25:Below w.heap.size W1 w5:=(((Below.refl w.heap.size W1).alloc (by omega) _).drew).grown hgrow (by simp;omega) (λj hj=>(ow2.out.lt j hj).1);have HM5:=hid (show Mid w w5 M (n+n') (la) ([]) (done++[x]) (A4) (m1) (c1 - 1) (A2) (0) (c2) (some ⟨g,0,none⟩) (n3+1) cap from
     ⟨RT.out.below B25,by have:=hM.out.la;simpa using this,by omega,hM.out.rb.below ((HWW.out.mono hBs).trans B25),hM.out.lb,hM.out.cb,by rw[encPs_snoc];exact hown5,by simp[hM.out.ld],by rw[hM.out.eq,merge_a];simp,by omega,HB.out.trans ((HWW.out.mono hBs).trans B25)⟩)
    clear hown5 hgrow hb7 p0 p1 p2 p3 B25;go_wp2;go_roundw
    case rel=>exact⟨la,[],done++[x],A4,m1,c1 - 1,A2,0,c2,some ⟨g,0,none⟩,n3+1,cap,rfl,rfl,rfl,HM5⟩
    case measure=>simp[lenOf];try omega
   ·obtain⟨m,rfl⟩:∃m,n2=m+1:=⟨lb.length,hM.out.lb.symm⟩
    have z1:decide ((m:Int)+1=0)=false:=by simp;omega
    have z2:((m:Int)+1==0)=false:=by simp;omega
    obtain⟨bx,ox,e,hbx,hcell⟩:=hM.out.ra.2 (by omega);subst e;have u0:=hcell 0 _ (rfl:(encPs (x::la))[0]?=some (.int .i64 x.epoch));have u1:=hcell 1 _ (rfl:(encPs (x::la))[1]?=some (.int .i64 x.origin));have u2:=hcell 2 _ (rfl:(encPs (x::la))[2]?=some (.int .i64 x.number));have u3:=hcell 3 _ (rfl:(encPs (x::la))[3]?=some (.string x.text));simp only[Nat.add_zero]at u0;clear hcell;obtain⟨bY,oY,e,hbY,hcell⟩:=hM.out.rb.2 (by omega);subst e;have v0:=hcell 0 _ (rfl:(encPs (y::lb))[0]?=some (.int .i64 y.epoch));have v1:=hcell 1 _ (rfl:(encPs (y::lb))[1]?=some (.int .i64 y.origin));have v2:=hcell 2 _ (rfl:(encPs (y::lb))[2]?=some (.int .i64 y.number));have v3:=hcell 3 _ (rfl:(encPs (y::lb))[3]?=some (.string y.text));simp only[Nat.add_zero]at v0;clear hcell;have ku0:=Later.of u0;have kv0:=Later.of v0;have ku1:=Later.of u1;have kv1:=Later.of v1;have ku2:=Later.of u2;have kv2:=Later.of v2;have ku3:=Later.of u3;have kv3:=Later.of v3;have H63:=hear1_any x y;have H66:=hear2_any x y;unfold aggP at H63 H66;have hcm:=cmp3_before x y;generalize cmp3 x.epoch x.origin x.number y.epoch y.origin y.number=d at H63 hcm
    by_cases hbe:Rp.before x y=true
    ·have hd:decide (d<0)=true:=hcm.symm.trans hbe
     have h63:=hid H63;have hbe':=hid hbe;clear H63 H66 hcm hbe;go_wp2;refine wp_region_later (by kernel_rfl) (by kernel_rfl) ?_
     repeat(go_big_quiet_step ((go_at_call 63;exact later_of (h63.out _))))
     refine wpQuiet_nil ?_;rintro W1 ⟨⟨_,hW1⟩,rfl⟩;clear ku0 ku1 ku2 ku3 kv0 kv1 kv2 kv3;have hWW:Below wr.heap.size wr W1:=hW1;have hB:=hM.out.below;have hBs:=hB.size;have hss:=hWW.size;have ow2:=hid (own_below hM.out.own hWW);have rb2:=hM.out.ra.below (hWW.mono hBs);obtain⟨A4,hsl,rt⟩:=tail_any rb2 hM.out.ca;have p0:=(hWW.cell (p:=⟨bx,ox,none⟩) (show bx<wr.heap.size by omega)).trans u0;have p1:=(hWW.cell (p:=⟨bx,ox+1,none⟩) (show bx<wr.heap.size by omega)).trans u1;have p2:=(hWW.cell (p:=⟨bx,ox+2,none⟩) (show bx<wr.heap.size by omega)).trans u2;have p3:=(hWW.cell (p:=⟨bx,ox+3,none⟩) (show bx<wr.heap.size by omega)).trans u3;have hfew:=hM.out.few;have N1:=hid (block_not ow2.out (g:=bx) (.inl hbx));have hbW:bx<W1.heap.size:=by omega
     have hca:=hM.out.ca;have hcb:=hM.out.cb;have RT:=hid rt;have HB:=hid hB;have HWW:=hid hWW;clear rb2 rt hWW hB;go_wp2
     go_region_held3 (λw'=>w'.cell? ⟨bx,ox,none⟩=some (.int .i64 x.epoch)/\w'.cell? ⟨bx,ox+1,none⟩=some (.int .i64 x.origin)/\w'.cell? ⟨bx,ox+2,none⟩=some (.int .i64 x.number)/\w'.cell? ⟨bx,ox+3,none⟩=some (.string x.text))
      (first
        | go_keep
        | (exact⟨(hgrow.cell_far ⟨bx,ox,none⟩ (by simp;omega) N1.out).trans ((hb7.cell (p:=⟨bx,ox,none⟩) hbW).trans p0),(hgrow.cell_far ⟨bx,ox+1,none⟩ (by simp;omega) N1.out).trans ((hb7.cell (p:=⟨bx,ox+1,none⟩) hbW).trans p1),(hgrow.cell_far ⟨bx,ox+2,none⟩ (by simp;omega) N1.out).trans ((hb7.cell (p:=⟨bx,ox+2,none⟩) hbW).trans p2),(hgrow.cell_far ⟨bx,ox+3,none⟩ (by simp;omega) N1.out).trans ((hb7.cell (p:=⟨bx,ox+3,none⟩) hbW).trans p3)⟩))
      (first
        | (refine step_append_lies _ (by rfl) _ _ _ (by rfl) w.heap.size 57 i0 _ 4 40 underlying23 hi0 hz0 hz1 hz2 rfl (by omega) (.slice A3 n3 c3) n3 (encPs done) (by rfl) ((ow2.out.alloc _).drew)
            ⟨W1.heap.size,0,none⟩ 1 1 [.int .i64 x.epoch,.int .i64 x.origin,.int .i64 x.number,.string x.text] (by rfl) (by rfl)
            (World.news_of_block (cs:=#[.int .i64 x.epoch,.int .i64 x.origin,.int .i64 x.number,.string x.text]) (t:=57) (fr:=(0,0)) (heap_alloc_new W1 _)) (by simp[Value.oneCell'])
            (by omega) (by simp only[maxLen];omega) (by omega) (by simp;omega) (W1.heap.size+1) (by simp) ?_
           intro g cap w5 hown5 hgrow hat hlt5;have hb7:=(Below.refl W1.heap.size W1).alloc (Nat.le_refl _) (.cells #[.int .i64 x.epoch,.int .i64 x.origin,.int .i64 x.number,.string x.text] 57)))
     have B25:Below w.heap.size W1 w5:=(((Below.refl w.heap.size W1).alloc (by omega) _).drew).grown hgrow (by simp;omega) (λj hj=>(ow2.out.lt j hj).1);have HM5:=hid (show Mid w w5 M (n+n') (la) (y::lb) (done++[x]) (A4) (m1) (c1 - 1) ((some ⟨bY,oY,none⟩)) (m+1) (c2) (some ⟨g,0,none⟩) (n3+1) cap from
      ⟨RT.out.below B25,by have:=hM.out.la;simpa using this,by omega,hM.out.rb.below ((HWW.out.mono hBs).trans B25),hM.out.lb,hM.out.cb,by rw[encPs_snoc];exact hown5,by simp[hM.out.ld],by rw[hM.out.eq,merge_lt hbe'.out];simp,by omega,HB.out.trans ((HWW.out.mono hBs).trans B25)⟩)
     clear hown5 hgrow hb7 p0 p1 p2 p3 B25;go_wp2;go_roundw
     case rel=>exact⟨la,y::lb,done++[x],A4,m1,c1 - 1,(some ⟨bY,oY,none⟩),m+1,c2,some ⟨g,0,none⟩,n3+1,cap,rfl,rfl,rfl,HM5⟩
     case measure=>simp[lenOf];try omega
    ·have hd:decide (d<0)=false:=by rw[<- hcm];simpa using hbe
     have h63:=hid H63;have hbe':=hid hbe;clear H63 hcm hbe;go_wp2;refine wp_region_later (by kernel_rfl) (by kernel_rfl) ?_
     repeat(go_big_quiet_step ((go_at_call 63;exact later_of (h63.out _))))
     refine wpQuiet_nil ?_;rintro W1 ⟨⟨_,hW1⟩,rfl⟩;have lu0:=Later.of ((hW1.cell (p:=⟨bx,ox,none⟩) (show bx<wr.heap.size by have:=hM.out.below.size;omega)).trans u0);have lu1:=Later.of ((hW1.cell (p:=⟨bx,ox+1,none⟩) (show bx<wr.heap.size by have:=hM.out.below.size;omega)).trans u1);have lu2:=Later.of ((hW1.cell (p:=⟨bx,ox+2,none⟩) (show bx<wr.heap.size by have:=hM.out.below.size;omega)).trans u2);have lu3:=Later.of ((hW1.cell (p:=⟨bx,ox+3,none⟩) (show bx<wr.heap.size by have:=hM.out.below.size;omega)).trans u3);have lv0:=Later.of ((hW1.cell (p:=⟨bY,oY,none⟩) (show bY<wr.heap.size by have:=hM.out.below.size;omega)).trans v0);have lv1:=Later.of ((hW1.cell (p:=⟨bY,oY+1,none⟩) (show bY<wr.heap.size by have:=hM.out.below.size;omega)).trans v1);have lv2:=Later.of ((hW1.cell (p:=⟨bY,oY+2,none⟩) (show bY<wr.heap.size by have:=hM.out.below.size;omega)).trans v2);have lv3:=Later.of ((hW1.cell (p:=⟨bY,oY+3,none⟩) (show bY<wr.heap.size by have:=hM.out.below.size;omega)).trans v3);clear ku0 ku1 ku2 ku3 kv0 kv1 kv2 kv3
     by_cases hxy:x=y
     ·have he:decide (x=y)=true:=by simpa using hxy
      rw[he]at H66;have h66:=hid H66;have hxy':=hid hxy;clear H66 hxy he;go_wp2;refine wp_region_later (by kernel_rfl) (by kernel_rfl) ?_
      repeat(go_big_quiet_step ((go_at_call 66;exact later_of (h66.out _))))
      refine wpQuiet_nil ?_;rintro W2 ⟨⟨_,hW2⟩,rfl⟩;clear lu0 lu1 lu2 lu3 lv0 lv1 lv2 lv3;have hWW:Below wr.heap.size wr W2:=hW1.trans (hW2.mono hW1.size);have hB:=hM.out.below;have hBs:=hB.size;have hss:=hWW.size;have ow2:=own_below hM.out.own hWW;have rb2:=hM.out.ra.below (hWW.mono hBs);obtain⟨A4,hsl,rt⟩:=tail_any rb2 hM.out.ca;have hca:=hM.out.ca;have hfew:=hM.out.few;have HM5:=hid (show Mid w W2 M (n+n') la (y::lb) done A4 m1 (c1 - 1) (some ⟨bY,oY,none⟩) (m+1) c2 A3 n3 c3 from
       ⟨rt,by have:=hM.out.la;simpa using this,by omega,hM.out.rb.below (hWW.mono hBs),hM.out.lb,hM.out.cb,ow2,hM.out.ld,by rw[hM.out.eq,merge_eq hbe'.out hxy'.out],by omega,hB.trans (hWW.mono hBs)⟩)
      clear rb2 rt hWW hB ow2;go_wp2;go_roundw
      case rel=>exact⟨la,y::lb,done,A4,m1,c1 - 1,(some ⟨bY,oY,none⟩),m+1,c2,A3,n3,c3,rfl,rfl,rfl,HM5⟩
      case measure=>simp[lenOf];try omega
     ·have he:decide (x=y)=false:=by simpa using hxy
      rw[he]at H66;have h66:=hid H66;have hxy':=hid hxy;clear H66 hxy he;go_wp2;refine wp_region_later (by kernel_rfl) (by kernel_rfl) ?_
      repeat(go_big_quiet_step ((go_at_call 66;exact later_of (h66.out _))))
      refine wpQuiet_nil ?_;rintro W2 ⟨⟨_,hW2⟩,rfl⟩;clear lu0 lu1 lu2 lu3 lv0 lv1 lv2 lv3;have hWW:Below wr.heap.size wr W2:=hW1.trans (hW2.mono hW1.size);have hB:=hM.out.below;have hBs:=hB.size;have hss:=hWW.size;have ow2:=hid (own_below hM.out.own hWW);have rb2:=hM.out.rb.below (hWW.mono hBs);obtain⟨A4,hsl,rt⟩:=tail_any rb2 hM.out.cb;have p0:=(hWW.cell (p:=⟨bY,oY,none⟩) (show bY<wr.heap.size by omega)).trans v0;have p1:=(hWW.cell (p:=⟨bY,oY+1,none⟩) (show bY<wr.heap.size by omega)).trans v1;have p2:=(hWW.cell (p:=⟨bY,oY+2,none⟩) (show bY<wr.heap.size by omega)).trans v2;have p3:=(hWW.cell (p:=⟨bY,oY+3,none⟩) (show bY<wr.heap.size by omega)).trans v3;have hfew:=hM.out.few;have N1:=hid (block_not ow2.out (g:=bY) (.inl hbY));have hbW:bY<W2.heap.size:=by omega
      have hca:=hM.out.ca;have hcb:=hM.out.cb;have RT:=hid rt;have HB:=hid hB;have HWW:=hid hWW;clear rb2 rt hWW hB;go_wp2
      go_region_held3 (λw'=>w'.cell? ⟨bY,oY,none⟩=some (.int .i64 y.epoch)/\w'.cell? ⟨bY,oY+1,none⟩=some (.int .i64 y.origin)/\w'.cell? ⟨bY,oY+2,none⟩=some (.int .i64 y.number)/\w'.cell? ⟨bY,oY+3,none⟩=some (.string y.text))
       (first
         | go_keep
         | (exact⟨(hgrow.cell_far ⟨bY,oY,none⟩ (by simp;omega) N1.out).trans ((hb7.cell (p:=⟨bY,oY,none⟩) hbW).trans p0),(hgrow.cell_far ⟨bY,oY+1,none⟩ (by simp;omega) N1.out).trans ((hb7.cell (p:=⟨bY,oY+1,none⟩) hbW).trans p1),(hgrow.cell_far ⟨bY,oY+2,none⟩ (by simp;omega) N1.out).trans ((hb7.cell (p:=⟨bY,oY+2,none⟩) hbW).trans p2),(hgrow.cell_far ⟨bY,oY+3,none⟩ (by simp;omega) N1.out).trans ((hb7.cell (p:=⟨bY,oY+3,none⟩) hbW).trans p3)⟩))
       (first
         | (refine step_append_lies _ (by rfl) _ _ _ (by rfl) w.heap.size 57 i0 _ 4 40 underlying23 hi0 hz0 hz1 hz2 rfl (by omega) (.slice A3 n3 c3) n3 (encPs done) (by rfl) ((ow2.out.alloc _).drew)
             ⟨W2.heap.size,0,none⟩ 1 1 [.int .i64 y.epoch,.int .i64 y.origin,.int .i64 y.number,.string y.text] (by rfl) (by rfl)
             (World.news_of_block (cs:=#[.int .i64 y.epoch,.int .i64 y.origin,.int .i64 y.number,.string y.text]) (t:=57) (fr:=(0,0)) (heap_alloc_new W2 _)) (by simp[Value.oneCell'])
             (by omega) (by simp only[maxLen];omega) (by omega) (by simp;omega) (W2.heap.size+1) (by simp) ?_
            intro g cap w5 hown5 hgrow hat hlt5;have hb7:=(Below.refl W2.heap.size W2).alloc (Nat.le_refl _) (.cells #[.int .i64 y.epoch,.int .i64 y.origin,.int .i64 y.number,.string y.text] 57)))
      have B25:Below w.heap.size W2 w5:=(((Below.refl w.heap.size W2).alloc (by omega) _).drew).grown hgrow (by simp;omega) (λj hj=>(ow2.out.lt j hj).1);have HM5:=hid (show Mid w w5 M (n+n') (x::la) (lb) (done++[y]) ((some ⟨bx,ox,none⟩)) (m1+1) (c1) (A4) (m) (c2 - 1) (some ⟨g,0,none⟩) (n3+1) cap from
       ⟨hM.out.ra.below ((HWW.out.mono hBs).trans B25),hM.out.la,hM.out.ca,RT.out.below B25,by have:=hM.out.lb;simpa using this,by omega,by rw[encPs_snoc];exact hown5,by simp[hM.out.ld],by rw[hM.out.eq,merge_gt hbe'.out hxy'.out];simp,by omega,HB.out.trans ((HWW.out.mono hBs).trans B25)⟩)
      clear hown5 hgrow hb7 p0 p1 p2 p3 B25;go_wp2;go_roundw
      case rel=>exact⟨x::la,lb,done++[y],(some ⟨bx,ox,none⟩),m1+1,c1,A4,m,c2 - 1,some ⟨g,0,none⟩,n3+1,cap,rfl,rfl,rfl,HM5⟩
      case measure=>simp[lenOf];try omega
end
section
open Go.RowKit
theorem maxE_take {l:List Rp.Post}{j:Nat}{q:Rp.Post}{c:Int}(h:l[j]?=some q):Rp.maxE c (l.take (j+1))=max (Rp.maxE c (l.take j)) q.epoch:=by
 rw[(drop_at h).2];simp[Rp.maxE]
theorem maxN_take {l:List Int}{j:Nat}{x:Int}{c:Int}(h:l[j]?=some x):Rp.maxN c (l.take (j+1))=max (Rp.maxN c (l.take j)) x:=by
 have:l.take (j+1)=l.take j++[x]:=by
  obtain⟨hlt,rfl⟩:=List.getElem?_eq_some_iff.1 h;rw[List.take_add_one,h];rfl
 rw[this];simp[Rp.maxN]
def hs (me:Nat)(a b:List Int):Nat->List Int
 | 0=>a
 | i+1=>if i=me then hs me a b i else (hs me a b i).set i (max ((hs me a b i).getD i 0) (b.getD i 0))
theorem hs_len (me:Nat)(a b:List Int):∀i,(hs me a b i).length=a.length
 | 0=>rfl
 | i+1=>by
   rw[hs];split
   ·exact hs_len me a b i
   ·rw[List.length_set];exact hs_len me a b i
theorem hs_get (me:Nat)(a b:List Int):∀i j,i<=a.length->(hs me a b i).getD j 0=if j<i/\j≠me then max (a.getD j 0) (b.getD j 0)else a.getD j 0
 | 0,j,_=>by simp[hs]
 | i+1,j,h=>by
   rw[hs];have ih:=hs_get me a b i;have hi:i<(hs me a b i).length:=by rw[hs_len];omega
   by_cases him:i=me
   ·rw[if_pos him,ih j (by omega)]
    by_cases hj:j<i/\j≠me
    ·rw[if_pos hj,if_pos (by omega)]
    ·rw[if_neg hj,if_neg (by omega)]
   ·rw[if_neg him,Rp.getD_set _ _ _ _ hi]
    by_cases hji:j=i
    ·subst hji
     rw[if_pos rfl,if_pos (by omega),ih j (by omega),if_neg (by omega)]
    ·rw[if_neg hji,ih j (by omega)]
     by_cases hj:j<i/\j≠me
     ·rw[if_pos hj,if_pos (by omega)]
     ·rw[if_neg hj,if_neg (by omega)]
theorem hs_all (me:Nat)(a b:List Int):hs me a b a.length=Rp.maxH me a b:=by
 refine List.ext_getElem (by rw[hs_len,Rp.maxH_len]) λj h1 h2=>?_
 have hj:j<a.length:=by rw[hs_len]at h1;exact h1
 have e1:=hs_get me a b a.length j (Nat.le_refl _);have e2:=Rp.maxH_getD me a b j hj;rw[List.getD_eq_getElem?_getD,List.getElem?_eq_getElem h1]at e1;rw[List.getD_eq_getElem?_getD,List.getElem?_eq_getElem h2]at e2;simp only[Option.getD_some]at e1 e2;rw[e1,e2]
 by_cases hm:j=me
 ·rw[if_neg (by omega),if_pos hm]
 ·rw[if_pos (by omega),if_neg hm]
theorem hear_no {r:Rp.Rep}{m:Rp.Msg}(h:Rp.mayHear r m=false):Rp.hear r m=none:=by unfold Rp.hear;rw[h];rfl
theorem hear_yes {r:Rp.Rep}{m:Rp.Msg}(h:Rp.mayHear r m=true):Rp.hear r m=if Rp.valid (Rp.joined r m)then some (Rp.joined r m)else none:=by unfold Rp.hear;rw[h];rfl
theorem merge_length (a b:List Rp.Post):(Rp.merge a b).length<=a.length+b.length:=by
 fun_induction Rp.merge a b with
 | case1=>simp
 | case2 x a ih=>simp only[List.length_cons]at *;omega
 | case3 y b ih=>simp only[List.length_cons]at *;omega
 | case4 x a y b h ih=>simp only[List.length_cons]at *;omega
 | case5 x a b h ih=>simp only[List.length_cons]at *;omega
 | case6 x a y b h e ih=>simp only[List.length_cons]at *;omega
theorem own_ne_blk {w:World}{B:Nat}{e t:TypeId}{s n:Nat}{v:Value}{xs:List Value}{G:Nat}{cs:Array Value}(h:w.ownsRow B e s v n xs)(hG:Blk w G t cs)(hne:e≠t):v.ownBlock≠some G:=by
 rcases h.2 with ⟨rfl,_⟩|⟨g,cap,cur,rfl,_,hh,_⟩
 ·simp[Value.ownBlock]
 ·intro e1
  simp only[Value.ownBlock,Option.some.injEq]at e1;subst e1;rw[show w.heap[g]?=some (.cells cs t (0,0))from hG]at hh;injection hh with hh
  injection hh with _ h2
  exact hne h2.symm
structure HearMid (W wr:World) (G:Nat) (cs:Array Value) (v2:Value) (n':Nat) (hl:List Int) (v3:Value) (n3:Nat) (pl:List Rp.Post):Prop where
 blk:Blk wr G 26 cs
 own2:wr.ownsRow W.heap.size 3 1 v2 n' (hl.map (Value.int .i64))
 own3:wr.ownsRow W.heap.size 57 4 v3 n3 (encPs pl)
 below:Below W.heap.size W wr
 at_:W.heap.size<=G
section
variable {W wr:World} {G n' n3:Nat} {cs:Array Value} {v2 v3:Value} {hl:List Int} {pl:List Rp.Post}
theorem HearMid.alloc (h:HearMid W wr G cs v2 n' hl v3 n3 pl)(o:Obj):HearMid W (wr.alloc o) G cs v2 n' hl v3 n3 pl :=
 ⟨h.blk.alloc o,h.own2.alloc o,h.own3.alloc o,h.below.alloc h.below.size o,h.at_⟩
theorem HearMid.put (h:HearMid W wr G cs v2 n' hl v3 n3 pl)(j:Nat)(u:Value):HearMid W (wr.setCell ⟨G,j,none⟩ u) G (cs.setIfInBounds j u) v2 n' hl v3 n3 pl :=
 ⟨h.blk.set_ j u,own_far h.own2 (own_ne_blk h.own2 h.blk (by decide)) u,own_far h.own3 (own_ne_blk h.own3 h.blk (by decide)) u,h.below.setCell (p:=⟨G,j,none⟩) h.at_ u,h.at_⟩
end
theorem maxI (a x:Int):(if a<x then x else a)=max a x:=by rw[Int.max_def];split<;>split<;>omega
theorem HearMid.store2 {W wr:World}{G n' n3 g2 c2:Nat}{cs:Array Value}{v3:Value}{hl:List Int}{pl:List Rp.Post}(h:HearMid W wr G cs (.slice (some ⟨g2,0,none⟩) n' c2) n' hl v3 n3 pl)(i:Nat)(x:Int) :
 HearMid W (wr.setCell ⟨g2,i,none⟩ (.int .i64 x)) G cs (.slice (some ⟨g2,0,none⟩) n' c2) n' (hl.set i x) v3 n3 pl:=by
 have hne:G≠g2:=λe=>own_ne_blk h.own2 h.blk (by decide) (by simp[Value.ownBlock,e])
 refine⟨h.blk.far (p:=⟨g2,i,none⟩) hne _,?_,own_far h.own3 (p:=⟨g2,i,none⟩) (λe=>(own_apart h.own3 h.own2 (by decide)).elim (λh=>by rw[h]at e;cases e) (λh=>h e)) _,h.below.setCell (p:=⟨g2,i,none⟩) (h.own2.lt g2 rfl).1 _,h.at_⟩;have:=(h.own2.stored i (.int .i64 x)).1
 rwa [<- List.map_set]at this
theorem HearMid.later {W wr w2:World}{G n' n3:Nat}{cs:Array Value}{v2 v3:Value}{hl:List Int}{pl:List Rp.Post}(h:HearMid W wr G cs v2 n' hl v3 n3 pl)(hb:Below wr.heap.size wr w2):HearMid W w2 G cs v2 n' hl v3 n3 pl :=
 ⟨h.blk.below hb h.blk.lt,own_below h.own2 hb,own_below h.own3 hb,h.below.trans (hb.mono h.below.size),h.at_⟩
theorem HearMid.drew {W wr:World}{G n' n3:Nat}{cs:Array Value}{v2 v3:Value}{hl:List Int}{pl:List Rp.Post}(h:HearMid W wr G cs v2 n' hl v3 n3 pl):HearMid W wr.drew G cs v2 n' hl v3 n3 pl :=
 ⟨h.blk.drew,h.own2,h.own3,h.below.drew,h.at_⟩
theorem hs_next {me i:Nat}{a b:List Int}{hv x:Int}(hi:¬i=me)(h:(hs me a b i)[i]?=some hv)(hx:b[i]?=some x):hs me a b (i+1)=(hs me a b i).set i (max hv x):=by
 rw[hs,if_neg hi,List.getD_eq_getElem?_getD,h,List.getD_eq_getElem?_getD,hx];rfl
end
section
open Go.RowKit
theorem hear_any (w:World)(r:Rp.Rep)(A:Option Addr)(n c:Nat)(A':Option Addr)(n' c':Nat)(m:Rp.Msg)(M:Option Addr)(N C0:Nat)(M':Option Addr)(N' C':Nat)
 (h:RepR w w.heap.size r A n A' n') (hm:MsgR w w.heap.size m M N M' N') (hcap:N<=C0) :
 Calls prog 25 #[repV r A n c A' n' c',msgV m M N C0 M' N' C'] w λe w'=>GotRep w w' e (Rp.hear r m):=by
 obtain⟨me,many,clock,posts,heard⟩:=r;obtain⟨src,mposts,mheard⟩:=m;obtain⟨W0,hW0⟩:∃W0,W0=((w.alloc (.cells #[.int .i64 me,.int .i64 many,.int .i64 clock,.slice A n c,.slice A' n' c'] 26)).alloc (.cells #[.int .i64 src,.slice M N C0,.slice M' N' C'] 28)).alloc (.cells #[.int .i64 0,.int .i64 0,.int .i64 0,.slice none 0 0,.slice none 0 0] 26):=⟨_,rfl⟩;have hs0:W0.heap.size=w.heap.size+3:=by rw[hW0];simp
 have hbW:Below w.heap.size w W0:=by rw[hW0];exact(((Below.refl _ _).alloc (Nat.le_refl _) _).alloc (by simp) _).alloc (by simp;omega) _
 have hBW:Blk W0 w.heap.size 26 #[.int .i64 me,.int .i64 many,.int .i64 clock,.slice A n c,.slice A' n' c']:=by rw[hW0];exact((Blk.new _ _ _).alloc _).alloc _
 have hMW:Blk W0 (w.heap.size+1) 28 #[.int .i64 src,.slice M N C0,.slice M' N' C']:=by rw[hW0];exact(Blk.new2 _ _ _ _).alloc _
 have hRW:Blk W0 (w.heap.size+1+1) 26 #[.int .i64 0,.int .i64 0,.int .i64 0,.slice none 0 0,.slice none 0 0]:=by
  rw[hW0];have hbn:=Blk.new2 (w.alloc (.cells #[.int .i64 me,.int .i64 many,.int .i64 clock,.slice A n c,.slice A' n' c'] 26)) (.cells #[.int .i64 src,.slice M N C0,.slice M' N' C'] 28) 26 #[.int .i64 0,.int .i64 0,.int .i64 0,.slice none 0 0,.slice none 0 0];simp only[World.size_alloc]at hbn;exact hbn
 have HV:=hid (valid_any W0 ⟨me,many,clock,posts,heard⟩ A n c A' n' c' ((h.below hbW).more (by omega)));have HW0:=hid hW0;have HH:=hid h;have HM:=hid hm;clear h hm hW0;unfold repV msgV at *;simp only at HV ⊢
 go_enter func25,ntmps25
 go_wp2_with fail
 rw[<- HW0.out];refine HV.out.mono ?_;rintro e w1 ⟨rfl,HH0⟩;have HB:=hbW.trans (HH0.mono hbW.size);have hB1:=hBW.below HH0 (by omega);have hM1:=hMW.below HH0 (by omega);have hR1:=hRW.below HH0 (by omega);have hs1:=HH0.size;obtain⟨b0,b1,b2,b3,b4⟩:=hB1.cells5;obtain⟨r0,r1,r2,r3,r4⟩:=hR1.cells5;obtain⟨s0,s1,s2,s3,s4⟩:=hR1.soft5;have y0:=hM1.cell 0;have y1:=hM1.cell 1;have y2:=hM1.cell 2;simp only[List.getElem?_toArray,List.getElem?_cons_zero,List.getElem?_cons_succ]at y0 y1 y2;cases hv:Rp.valid ⟨me,many,clock,posts,heard⟩
 ·have HN:=hid (hear_no (r:=⟨me,many,clock,posts,heard⟩) (m:=⟨src,mposts,mheard⟩) (by simp[Rp.mayHear,hv]))
  go_wp2;refine bodyPost_ret (v:=.tuple #[zeroRep,.int .i64 310]) (by simp[zeroRep,results,results25,go_sem,r0,r1,r2,r3,r4]) rfl ⟨?_,?_⟩
  ·repeat(refine Below.setCell ?_ (by simp;try omega) _)
   exact HB
  ·rw[HN.out]
 ·have HVV:=hid hv
  obtain⟨⟨v1,v2⟩,⟨v3,v4⟩,⟨v5,v6⟩,v7,v8,v9⟩:=Rp.valid_iff.1 hv;simp only at v1 v2 v3 v4 v5 v6 v7 v8 v9;have V7:=hid v7;have V8:=hid v8;have V9:=hid v9;clear v7 v8 v9 hv
  go_wp2_with fail
  refine(inr_any _ _ _ _).mono ?_;rintro e _ ⟨rfl,rfl⟩;cases hi:Rp.inr src 0 (many - 1)
  ·have HN:=hid (hear_no (r:=⟨me,many,clock,posts,heard⟩) (m:=⟨src,mposts,mheard⟩) (by simp[Rp.mayHear,hi]))
   go_wp2;refine bodyPost_ret (v:=.tuple #[zeroRep,.int .i64 310]) (by simp[zeroRep,results,results25,go_sem,r0,r1,r2,r3,r4]) rfl ⟨?_,?_⟩
   ·repeat(refine Below.setCell ?_ (by simp;try omega) _)
    exact HB
   ·rw[HN.out]
  ·have HI:=hid hi
   clear hi;have HL:=hid (isLog_any w1 M N C0 mposts many ((HM.out.posts.below HB).more HB.size) HM.out.len v1 v2 HM.out.few)
   go_wp2_with fail
   refine HL.out.mono ?_;rintro e w2 ⟨rfl,hb2⟩;have HB':=HB.trans (hb2.mono HB.size);have HH0':=HH0.trans (hb2.mono HH0.size);clear b0 b1 b2 b3 b4 r0 r1 r2 r3 r4 s0 s1 s2 s3 s4 y0 y1 y2 hB1 hM1 hR1 hs1;clear HB HH0 hb2 HL HV;have HB:=HB';have HH0:=HH0';clear HB' HH0';have hB1:=hBW.below HH0 (by omega);have hM1:=hMW.below HH0 (by omega);have hR1:=hRW.below HH0 (by omega);have hs1:=HH0.size;obtain⟨b0,b1,b2,b3,b4⟩:=hB1.cells5;obtain⟨r0,r1,r2,r3,r4⟩:=hR1.cells5;obtain⟨s0,s1,s2,s3,s4⟩:=hR1.soft5;have y0:=hM1.cell 0;have y1:=hM1.cell 1;have y2:=hM1.cell 2;simp only[List.getElem?_toArray,List.getElem?_cons_zero,List.getElem?_cons_succ]at y0 y1 y2;cases hlog:Rp.isLog mposts many
   ·have HN:=hid (hear_no (r:=⟨me,many,clock,posts,heard⟩) (m:=⟨src,mposts,mheard⟩) (by simp[Rp.mayHear,hlog]))
    go_wp2;refine bodyPost_ret (v:=.tuple #[zeroRep,.int .i64 310]) (by simp[zeroRep,results,results25,go_sem,r0,r1,r2,r3,r4]) rfl ⟨?_,?_⟩
    ·repeat(refine Below.setCell ?_ (by simp;try omega) _)
     exact HB
    ·rw[HN.out]
   ·have HG:=hid hlog
    clear hlog;have HL:=hid (isHeard_any w2 M' N' C' mheard many 1000000 ((HM.out.heard.below HB).more HB.size) HM.out.few')
    go_wp2_with fail
    refine HL.out.mono ?_;rintro e w3 ⟨rfl,hb3⟩;have HB':=HB.trans (hb3.mono HB.size);have HH0':=HH0.trans (hb3.mono HH0.size);clear b0 b1 b2 b3 b4 r0 r1 r2 r3 r4 s0 s1 s2 s3 s4 y0 y1 y2 hB1 hM1 hR1 hs1;clear HB HH0 hb3 HL;have HB:=HB';have HH0:=HH0';clear HB' HH0';have hB1:=hBW.below HH0 (by omega);have hM1:=hMW.below HH0 (by omega);have hR1:=hRW.below HH0 (by omega);have hs1:=HH0.size;obtain⟨b0,b1,b2,b3,b4⟩:=hB1.cells5;obtain⟨r0,r1,r2,r3,r4⟩:=hR1.cells5;obtain⟨s0,s1,s2,s3,s4⟩:=hR1.soft5;have y0:=hM1.cell 0;have y1:=hM1.cell 1;have y2:=hM1.cell 2;simp only[List.getElem?_toArray,List.getElem?_cons_zero,List.getElem?_cons_succ]at y0 y1 y2;cases hhd:Rp.isHeard mheard many 1000000
    ·have HN:=hid (hear_no (r:=⟨me,many,clock,posts,heard⟩) (m:=⟨src,mposts,mheard⟩) (by simp[Rp.mayHear,hhd]))
     go_wp2;refine bodyPost_ret (v:=.tuple #[zeroRep,.int .i64 310]) (by simp[zeroRep,results,results25,go_sem,r0,r1,r2,r3,r4]) rfl ⟨?_,?_⟩
     ·repeat(refine Below.setCell ?_ (by simp;try omega) _)
      exact HB
     ·rw[HN.out]
    ·have HD:=hid hhd
     clear hhd;have HORp:Hid (∀p∈posts,∃o:Nat,o<5/\p.origin=o):=hid λp hp=>by
      obtain⟨mn,hmn⟩:∃mn:Nat,many=mn:=⟨many.toNat,by omega⟩;subst hmn;obtain⟨o,ho,e⟩:=Rp.own_range V8.out hp;exact⟨o,by omega,e⟩
     have HORm:Hid (∀p∈mposts,∃o:Nat,o<5/\p.origin=o):=hid λp hp=>by
      obtain⟨mn,hmn⟩:∃mn:Nat,many=mn:=⟨many.toNat,by omega⟩;subst hmn;obtain⟨o,ho,e⟩:=Rp.own_range HG.out hp;exact⟨o,by omega,e⟩
     obtain⟨k,rfl⟩:∃k:Nat,me=k:=⟨me.toNat,by omega⟩;have hk5:k<5:=by omega
     have hpn:(n':Int)=many:=by have h1:=HH.out.len';have h2:=(Rp.isHeard_iff.1 V7.out).1;simp only at h1;omega
     have hpN:(N':Int)=many:=by have h1:=HM.out.len';have h2:=(Rp.isHeard_iff.1 HD.out).1;simp only at h1;omega
     have hkn:k<n':=by omega
     have hkN:k<N':=by omega
     have h200:n<=200:=by have h1:=(Rp.isLog_iff.1 V8.out).1;have h2:=HH.out.len;simp only at h2;omega
     have H200:N<=200:=by have h1:=(Rp.isLog_iff.1 HG.out).1;have h2:=HM.out.len;simp only at h2;omega
     obtain⟨bm,om,xm,rfl,hbm,hqm,hm0⟩:=HM.out.heard.int hkN;obtain⟨br,oo,xr,rfl,hbr,hqr,hr0⟩:=HH.out.heard.int hkn;rw[<- HB.cell (p:=⟨bm,_,none⟩) hbm]at hm0;rw[<- HB.cell (p:=⟨br,_,none⟩) hbr]at hr0;have km:=Later.of hm0;have kr:=Later.of hr0;have kb0:=Later.of b0;have kb3:=Later.of b3;have kb4:=Later.of b4;have ky1:=Later.of y1;have ky2:=Later.of y2;have HQM:=hid hqm;have HQR:=hid hqr;clear hqm hqr v3 v4;have HI1:=index5 (C mposts N) k hk5;have HI2:=index5 (C posts n) k hk5;have HC1:=hid (λx:Later w3=>counts_any x.W M N C0 mposts ((HM.out.posts.below (HB.trans (x.is.mono HB.size))).more (HB.trans (x.is.mono HB.size)).size) HM.out.len HM.out.few HORm.out);have HC2:=hid (λx:Later w3=>counts_any x.W A n c posts ((HH.out.posts.below (HB.trans (x.is.mono HB.size))).more (HB.trans (x.is.mono HB.size)).size) HH.out.len HH.out.few HORp.out);have e1:C mposts N k=Rp.count mposts k:=C_all mposts N HM.out.len k;have e2:C posts n k=Rp.count posts k:=C_all posts n HH.out.len k
     by_cases hc:C posts n k<C mposts N k
     ·have hd:decide (C posts n k<C mposts N k)=true:=by simpa using hc
      have HN:=hid (hear_no (r:=⟨k,many,clock,posts,heard⟩) (m:=⟨src,mposts,mheard⟩) (by
       have:decide (Rp.count mposts k<=Rp.count posts k)=false:=by rw[decide_eq_false_iff_not];omega
       simp only[Rp.mayHear,this,Bool.false_and,Bool.and_false]))
      clear hc e1 e2;go_wp2;refine wp_region_later (by kernel_rfl) (by kernel_rfl) ?_
      repeat(go_big_quiet_step ((go_at_call 43;first|with_reducible exact later_of (HC1.out _)|with_reducible exact later_of (HC2.out _))))
      refine wpQuiet_nil ?_;rintro W1 ⟨⟨_,hW1⟩,rfl⟩;clear km kr kb0 kb3 kb4 ky1 ky2 HC1 HC2 HI1 HI2;have HB':=HB.trans (hW1.mono HB.size);have HH0':=HH0.trans (hW1.mono HH0.size);clear hm0 hr0;clear b0 b1 b2 b3 b4 r0 r1 r2 r3 r4 s0 s1 s2 s3 s4 y0 y1 y2 hB1 hM1 hR1 hs1;clear HB HH0 hW1;have HB:=HB';have HH0:=HH0';clear HB' HH0';have hB1:=hBW.below HH0 (by omega);have hM1:=hMW.below HH0 (by omega);have hR1:=hRW.below HH0 (by omega);have hs1:=HH0.size;obtain⟨b0,b1,b2,b3,b4⟩:=hB1.cells5;obtain⟨r0,r1,r2,r3,r4⟩:=hR1.cells5;obtain⟨s0,s1,s2,s3,s4⟩:=hR1.soft5;have y0:=hM1.cell 0;have y1:=hM1.cell 1;have y2:=hM1.cell 2;simp only[List.getElem?_toArray,List.getElem?_cons_zero,List.getElem?_cons_succ]at y0 y1 y2;go_wp2;refine bodyPost_ret (v:=.tuple #[zeroRep,.int .i64 310]) (by simp[zeroRep,results,results25,go_sem,r0,r1,r2,r3,r4]) rfl ⟨?_,?_⟩
      ·repeat(refine Below.setCell ?_ (by simp;try omega) _)
       exact HB
      ·rw[HN.out]
     ·have hd:decide (C posts n k<C mposts N k)=false:=by simpa using hc
      have g1:(mheard.getD k 0)=xm:=by have:=HQM.out;simp only at this;rw[List.getD_eq_getElem?_getD,this];rfl
      have g2:(heard.getD k 0)=xr:=by have:=HQR.out;simp only at this;rw[List.getD_eq_getElem?_getD,this];rfl
      have hc':Rp.count mposts k<=Rp.count posts k:=by omega
      clear hc e1 e2
      by_cases hh:xr<xm
      ·have hd2:decide (xr<xm)=true:=by simpa using hh
       have HN:=hid (hear_no (r:=⟨k,many,clock,posts,heard⟩) (m:=⟨src,mposts,mheard⟩) (by
        have:decide (mheard.getD ((k:Int).toNat) 0<=heard.getD ((k:Int).toNat) 0)=false:=by rw[decide_eq_false_iff_not,Int.toNat_natCast,g1,g2];omega
        simp only[Rp.mayHear,this,Bool.and_false]))
       clear hh g1 g2 hc';go_wp2;refine wp_region_later (by kernel_rfl) (by kernel_rfl) ?_
       repeat(go_big_quiet_step ((go_at_call 43;first|with_reducible exact later_of (HC1.out _)|with_reducible exact later_of (HC2.out _))))
       refine wpQuiet_nil ?_;rintro W1 ⟨⟨_,hW1⟩,rfl⟩;clear km kr kb0 kb3 kb4 ky1 ky2 HC1 HC2 HI1 HI2;have HB':=HB.trans (hW1.mono HB.size);have HH0':=HH0.trans (hW1.mono HH0.size);clear hm0 hr0;clear b0 b1 b2 b3 b4 r0 r1 r2 r3 r4 s0 s1 s2 s3 s4 y0 y1 y2 hB1 hM1 hR1 hs1;clear HB HH0 hW1;have HB:=HB';have HH0:=HH0';clear HB' HH0';have hB1:=hBW.below HH0 (by omega);have hM1:=hMW.below HH0 (by omega);have hR1:=hRW.below HH0 (by omega);have hs1:=HH0.size;obtain⟨b0,b1,b2,b3,b4⟩:=hB1.cells5;obtain⟨r0,r1,r2,r3,r4⟩:=hR1.cells5;obtain⟨s0,s1,s2,s3,s4⟩:=hR1.soft5;have y0:=hM1.cell 0;have y1:=hM1.cell 1;have y2:=hM1.cell 2;simp only[List.getElem?_toArray,List.getElem?_cons_zero,List.getElem?_cons_succ]at y0 y1 y2;go_wp2;refine bodyPost_ret (v:=.tuple #[zeroRep,.int .i64 310]) (by simp[zeroRep,results,results25,go_sem,r0,r1,r2,r3,r4]) rfl ⟨?_,?_⟩
       ·repeat(refine Below.setCell ?_ (by simp;try omega) _)
        exact HB
       ·rw[HN.out]
      ·have hd2:decide (xr<xm)=false:=by simpa using hh
       have HN:=hid (hear_yes (r:=⟨k,many,clock,posts,heard⟩) (m:=⟨src,mposts,mheard⟩) (by
        rw[Rp.mayHear_iff];refine⟨HVV.out,Rp.inr_iff.1 HI.out,HG.out,HD.out,hc',?_⟩;simp only[Int.toNat_natCast,g1,g2];omega))
       clear hh g1 g2 hc';go_wp2;refine wp_region_later (by kernel_rfl) (by kernel_rfl) ?_
       repeat(go_big_quiet_step ((go_at_call 43;first|with_reducible exact later_of (HC1.out _)|with_reducible exact later_of (HC2.out _))))
       refine wpQuiet_nil ?_;rintro W1 ⟨⟨_,hW1⟩,rfl⟩;clear km kr kb0 kb3 kb4 ky1 ky2 HC1 HC2 HI1 HI2;have HB':=HB.trans (hW1.mono HB.size);have HH0':=HH0.trans (hW1.mono HH0.size);clear hm0 hr0;clear b0 b1 b2 b3 b4 r0 r1 r2 r3 r4 s0 s1 s2 s3 s4 y0 y1 y2 hB1 hM1 hR1 hs1;clear HB HH0 hW1;have HB:=HB';have HH0:=HH0';clear HB' HH0';have hB1:=hBW.below HH0 (by omega);have hM1:=hMW.below HH0 (by omega);have hR1:=hRW.below HH0 (by omega);have hs1:=HH0.size;obtain⟨b0,b1,b2,b3,b4⟩:=hB1.cells5;obtain⟨r0,r1,r2,r3,r4⟩:=hR1.cells5;obtain⟨s0,s1,s2,s3,s4⟩:=hR1.soft5;have y0:=hM1.cell 0;have y1:=hM1.cell 1;have y2:=hM1.cell 2;simp only[List.getElem?_toArray,List.getElem?_cons_zero,List.getElem?_cons_succ]at y0 y1 y2;have hpos:0<n':=by omega
       have HOwn:=hid (own_any W1 ⟨k,many,clock,posts,heard⟩ A n c (some ⟨br,oo,none⟩) n' c' ((HH.out.below HB).more HB.size));unfold repV at HOwn;simp only at HOwn
       go_wp2_with (go_at_call 42;refine HOwn.out.mono ?_;rintro e w5 ⟨A1,c1,A2,c2,rfl,o1,o2,hc1,hc2,hb5⟩;have q1:=(hM1.below hb5 (by omega)).cell 1;simp only[List.getElem?_toArray,List.getElem?_cons_zero,List.getElem?_cons_succ]at q1;have y1a:∀o,(w5.alloc o).cell? ⟨w.heap.size+1,1,none⟩=some (.slice M N C0):=λo=>(World.cell?_alloc_some w5 _ o (by rw[q1];rfl)).trans q1)
       obtain⟨g2,cap2,e2,hg2,hl2⟩:=o2.form hpos;injection e2 with e2 _ e2c
       subst e2 e2c;obtain⟨W5,hW5⟩:∃W5,W5=w5.alloc (.cells #[.int .i64 k,.int .i64 many,.int .i64 clock,.slice A1 n c1,.slice (some ⟨g2,0,none⟩) n' c2] 26):=⟨_,rfl⟩;rw[<- hW5];have hs5:=hb5.size;have hsW5:W5.heap.size=w5.heap.size+1:=by rw[hW5];simp
       have hb55:Below w5.heap.size w5 W5:=by rw[hW5];exact(Below.refl _ _).alloc (Nat.le_refl _) _
       have hG5:Blk W5 w5.heap.size 26 #[.int .i64 k,.int .i64 many,.int .i64 clock,.slice A1 n c1,.slice (some ⟨g2,0,none⟩) n' c2]:=by rw[hW5];exact Blk.new _ _ _
       have hbA:Below W1.heap.size W1 W5:=hb5.trans (hb55.mono hs5);have O1:=own_below o1 hb55;have O2:=own_below o2 hb55;have HB5:Below w.heap.size w W5:=HB.trans (hbA.mono HB.size);have HMrg:=hid (merge_any W5 A1 n c1 posts M N C0 mposts (Reads.of_own O1) HH.out.len hc1 ((HM.out.posts.below HB5).more HB5.size) HM.out.len hcap (by omega));clear hW5 O1 o1 o2 HOwn y0 y1 y2 y1a q1;refine HMrg.out.mono ?_;rintro e w6 ⟨A3,n3,c3,rfl,o3,l3,hb6⟩;have hn3:n3<=400:=by have h1:=merge_length posts mposts;have h2:=HH.out.len;have h3:=HM.out.len;simp only at h2 h3;omega
       have hB6:Below W1.heap.size W1 w6:=hbA.trans (hb6.mono hbA.size);have hG6:=hG5.below hb6 (by omega);have HM0:HearMid W1 w6 w5.heap.size #[.int .i64 k,.int .i64 many,.int .i64 clock,.slice A1 n c1,.slice (some ⟨g2,0,none⟩) n' c2] (.slice (some ⟨g2,0,none⟩) n' c2) n' heard (.slice A3 n3 c3) n3 (Rp.merge posts mposts) :=
        ⟨hG6,own_below O2 hb6,own_base o3 hbA.size,hB6,hs5⟩
       have HM1:=hid (show HearMid W1 (w6.setCell ⟨w5.heap.size,3,none⟩ (.slice A3 n3 c3)) w5.heap.size #[.int .i64 k,.int .i64 many,.int .i64 (Rp.maxE clock (mposts.take 0)),.slice A3 n3 c3,.slice (some ⟨g2,0,none⟩) n' c2] (.slice (some ⟨g2,0,none⟩) n' c2) n' heard (.slice A3 n3 c3) n3 (Rp.merge posts mposts)from HM0.put 3 _);have HG2:=hid hg2;have HB1:=hid hB1;have HM1':=hid hM1;have HR1:=hid hR1;have HBB:=hid HB;have hs6:=hB6.size;have HLen:=hid l3;clear HMrg;clear b0 b1 b2 b3 b4 r0 r1 r2 r3 r4 s0 s1 s2 s3 s4;have hBx:=HB1.out.below hB6 (by omega);have hMx:=HM1'.out.below hB6 (by omega);have y1:=hMx.cell 1;have y2:=hMx.cell 2;simp only[List.getElem?_toArray,List.getElem?_cons_zero,List.getElem?_cons_succ]at y1 y2;obtain⟨p0,p1,p2,p3,p4⟩:=hG6.cells5;obtain⟨f0,f1,f2,f3,f4⟩:=hG6.soft5;have u0:w.heap.size≠w5.heap.size:=by omega
       have u1:w.heap.size+1≠w5.heap.size:=by omega
       have u2:w.heap.size+1+1≠w5.heap.size:=by omega
       have u0':=u0.symm;have u1':=u1.symm;have u2':=u2.symm;have hGW:W1.heap.size<=w5.heap.size:=hs5;clear hB1 hM1 hR1 o3 O2 HM0 hG5 hG6 hb55 hb5 hb6 hBW hMW hRW hbW hB6 hbA HB5;clear hBx hMx;go_wp2;clear y1 y2
       go_loopw [82] (λq wr=>∃j:Nat,j<=N/\q=.int .i64 j/\HearMid W1 wr w5.heap.size #[.int .i64 k,.int .i64 many,.int .i64 (Rp.maxE clock (mposts.take j)),.slice A3 n3 c3,.slice (some ⟨g2,0,none⟩) n' c2] (.slice (some ⟨g2,0,none⟩) n' c2) n' heard (.slice A3 n3 c3) n3 (Rp.merge posts mposts)) (λq _=>N - (intOf q).toNat)
       case atStart=>exact⟨0,by omega,rfl,HM1.out⟩
       case round =>
        obtain⟨j,hj,rfl,hI⟩:=hrel;have hBj:Below w.heap.size w wr:=HBB.out.trans (hI.below.mono HBB.out.size);clear p0 p1 p2 p3 p4 f0 f1 f2 f3 f4;have hMr:=HM1'.out.below hI.below (by omega);have y1:=hMr.cell 1;have y2:=hMr.cell 2;simp only[List.getElem?_toArray,List.getElem?_cons_zero,List.getElem?_cons_succ]at y1 y2;clear hMr;obtain⟨mc,hmc⟩:∃mc,mc=Rp.maxE clock (mposts.take j):=⟨_,rfl⟩;rw[<- hmc]at hI;have hMC:=hid hmc;clear hmc;obtain⟨p0,p1,p2,p3,p4⟩:=hI.blk.cells5;obtain⟨f0,f1,f2,f3,f4⟩:=hI.blk.soft5;have HI:=hid hI
        by_cases hlt:j<N
        ·obtain⟨b,off,q,rfl,hbl,hq,h0,h1,h2,h3⟩:=HM.out.posts.post HM.out.len hlt
         rw[<- hBj.cell (p:=⟨b,_,none⟩) hbl]at h0 h1 h2 h3;have HQ:=hid hq;clear hq hI;have e2:=World.new_ne wr _ p2;have hGl:w5.heap.size<wr.heap.size:=lt_of_cell p2;have f2a:∀o,(wr.alloc o).frozen? ⟨w5.heap.size,2,none⟩=false:=λo=>(((Below.refl wr.heap.size wr).alloc (Nat.le_refl _) o).frozen (p:=⟨w5.heap.size,2,none⟩) hGl).trans f2
         have p2a:∀o,(wr.alloc o).cell? ⟨w5.heap.size,2,none⟩=some (.int .i64 mc):=λo=>(World.cell?_alloc_some wr _ o (by rw[p2];rfl)).trans p2
         go_wp2;go_roundw
         case rel =>
          refine⟨j+1,by omega,by go_num,?_⟩;rw[maxE_take HQ.out,<- hMC.out,<- maxI];exact(HI.out.put 2 _).alloc _
         case measure=>simp[intOf];omega
        ·have hjn:j=N:=by omega
         subst hjn;go_wp2;clear p0 p1 p2 p3 p4 f0 f1 f2 f3 f4 y1 y2
         go_loopw [96] (λq wr=>∃i:Nat,i<=N'/\q=.int .i64 i/\HearMid W1 wr w5.heap.size #[.int .i64 k,.int .i64 many,.int .i64 (Rp.maxN mc (mheard.take i)),.slice A3 n3 c3,.slice (some ⟨g2,0,none⟩) n' c2] (.slice (some ⟨g2,0,none⟩) n' c2) n' (hs k heard mheard i) (.slice A3 n3 c3) n3 (Rp.merge posts mposts)) (λq _=>N' - (intOf q).toNat)
         case atStart=>exact⟨0,by omega,rfl,HI.out⟩
         case round =>
          obtain⟨i,hi,rfl,hJ⟩:=hrel;have hBi:Below w.heap.size w wr:=HBB.out.trans (hJ.below.mono HBB.out.size);have hBr:=HB1.out.below hJ.below (by omega);have b0:=hBr.cell 0;simp only[List.getElem?_toArray,List.getElem?_cons_zero]at b0;clear hBr;obtain⟨mn,hmn⟩:∃mn,mn=Rp.maxN mc (mheard.take i):=⟨_,rfl⟩;rw[<- hmn]at hJ;have hMN:=hid hmn;clear hmn;obtain⟨p0,p1,p2,p3,p4⟩:=hJ.blk.cells5;obtain⟨f0,f1,f2,f3,f4⟩:=hJ.blk.soft5;have HJ:=hid hJ
          by_cases hlt:i<N'
          ·obtain⟨b,off,x,e,hbl,hq,h0⟩:=HM.out.heard.int hlt
           injection e with e
           injection e with e1 e2
           subst e1 e2;rw[<- hBi.cell (p:=⟨bm,_,none⟩) hbl]at h0;have HQ:=hid hq;clear hq hJ
           by_cases hik:i=k
           ·have hne:((i:Int) != (k:Int))=false:=by simp;omega
            have hhs:hs k heard mheard (i+1)=hs k heard mheard i:=by rw[hs,if_pos hik]
            have hk':=hid hik;clear hik;go_wp2;go_roundw
            case rel =>
             refine⟨i+1,by omega,by go_num,?_⟩;rw[maxN_take HQ.out,<- hMN.out,<- maxI,hhs];exact HJ.out.put 2 _
            case measure=>simp[intOf];omega
           ·have hne:((i:Int) != (k:Int))=true:=by simp;omega
            have hk':=hid hik;clear hik
            by_cases hm:mn<x
            ·go_wp2
             obtain⟨W2,hW2⟩:∃W2,W2=wr.setCell ⟨w5.heap.size,2,none⟩ (.int .i64 x):=⟨_,rfl⟩;rw[<- hW2];have hJ2:HearMid W1 W2 w5.heap.size #[.int .i64 k,.int .i64 many,.int .i64 (Rp.maxN mc (mheard.take (i+1))),.slice A3 n3 c3,.slice (some ⟨g2,0,none⟩) n' c2] (.slice (some ⟨g2,0,none⟩) n' c2) n' (hs k heard mheard i) (.slice A3 n3 c3) n3 (Rp.merge posts mposts):=by
              rw[maxN_take HQ.out,<- hMN.out,show max mn x=x by omega,hW2];exact HJ.out.put 2 _
             have hil:i<(hs k heard mheard i).length:=by rw[hs_len];have:=HH.out.len';simp only at this;omega
             obtain⟨hv,hhv⟩:∃hv,(hs k heard mheard i)[i]?=some hv:=⟨_,List.getElem?_eq_getElem hil⟩;have hi1:i<n'*1:=by omega
             have t1:=hJ2.own2.cellAt i hi1;rw[List.getElem?_map,hhv]at t1;simp only[Option.map_some]at t1;have t2:=hJ2.own2.frozenAt i;have c4:=hJ2.blk.cell 4;simp only[List.getElem?_toArray,List.getElem?_cons_zero,List.getElem?_cons_succ]at c4;have hG2:=hJ2.own2.lt g2 rfl;have ug:w5.heap.size≠g2:=λe=>own_ne_blk hJ2.own2 hJ2.blk (by decide) (by simp[Value.ownBlock,e])
             have ug':=ug.symm;have HJ2:=hid hJ2;have HHV:=hid hhv;clear hJ2 hW2 hhv p0 p1 p2 p3 p4 f0 f1 f2 f3 f4;have L1:=Later.of c4;have L2:=Later.of t1;refine Loose.wp_region_later [] 11 (by kernel_rfl) (by kernel_rfl) ?_
             (simp only[List.take_succ_cons,List.take_zero,List.drop_succ_cons,List.drop_zero])
             (repeat(first|refine Loose.walk_skip rfl ?_|(refine Loose.walk_plain rfl rfl rfl λK h=>?_;go_big_quiet_op;refine h _ ?_;clear h K)))
             refine Loose.walk_nil ?_;rintro V hV -;have HJ3:=hid (HJ2.out.later hV);have t3:=HJ3.out.own2.frozenAt i;have t4:=(hV.cell (p:=⟨g2,i,none⟩) (lt_of_cell t1)).trans t1;clear L1 L2 hV t2 t1 c4;go_wp2;go_roundw
             case rel =>
              refine⟨i+1,by omega,by go_num,?_⟩;rw[hs_next hk'.out HHV.out HQ.out,<- maxI];exact HJ3.out.store2 i _
             case measure=>simp[intOf];omega
            ·go_wp2
             obtain⟨W2,hW2⟩:∃W2,W2=wr.setCell ⟨w5.heap.size,2,none⟩ (.int .i64 mn):=⟨_,rfl⟩;rw[<- hW2];have hJ2:HearMid W1 W2 w5.heap.size #[.int .i64 k,.int .i64 many,.int .i64 (Rp.maxN mc (mheard.take (i+1))),.slice A3 n3 c3,.slice (some ⟨g2,0,none⟩) n' c2] (.slice (some ⟨g2,0,none⟩) n' c2) n' (hs k heard mheard i) (.slice A3 n3 c3) n3 (Rp.merge posts mposts):=by
              rw[maxN_take HQ.out,<- hMN.out,show max mn x=mn by omega,hW2];exact HJ.out.put 2 _
             have hil:i<(hs k heard mheard i).length:=by rw[hs_len];have:=HH.out.len';simp only at this;omega
             obtain⟨hv,hhv⟩:∃hv,(hs k heard mheard i)[i]?=some hv:=⟨_,List.getElem?_eq_getElem hil⟩;have hi1:i<n'*1:=by omega
             have t1:=hJ2.own2.cellAt i hi1;rw[List.getElem?_map,hhv]at t1;simp only[Option.map_some]at t1;have t2:=hJ2.own2.frozenAt i;have c4:=hJ2.blk.cell 4;simp only[List.getElem?_toArray,List.getElem?_cons_zero,List.getElem?_cons_succ]at c4;have hG2:=hJ2.own2.lt g2 rfl;have ug:w5.heap.size≠g2:=λe=>own_ne_blk hJ2.own2 hJ2.blk (by decide) (by simp[Value.ownBlock,e])
             have ug':=ug.symm;have HJ2:=hid hJ2;have HHV:=hid hhv;clear hJ2 hW2 hhv p0 p1 p2 p3 p4 f0 f1 f2 f3 f4;have L1:=Later.of c4;have L2:=Later.of t1;refine Loose.wp_region_later [] 11 (by kernel_rfl) (by kernel_rfl) ?_
             (simp only[List.take_succ_cons,List.take_zero,List.drop_succ_cons,List.drop_zero])
             (repeat(first|refine Loose.walk_skip rfl ?_|(refine Loose.walk_plain rfl rfl rfl λK h=>?_;go_big_quiet_op;refine h _ ?_;clear h K)))
             refine Loose.walk_nil ?_;rintro V hV -;have HJ3:=hid (HJ2.out.later hV);have t3:=HJ3.out.own2.frozenAt i;have t4:=(hV.cell (p:=⟨g2,i,none⟩) (lt_of_cell t1)).trans t1;clear L1 L2 hV t2 t1 c4;go_wp2;go_roundw
             case rel =>
              refine⟨i+1,by omega,by go_num,?_⟩;rw[hs_next hk'.out HHV.out HQ.out,<- maxI];exact HJ3.out.store2 i _
             case measure=>simp[intOf];omega
          ·have hjn:i=N':=by omega
           subst hjn
           go_wp2_with fail
           have hfin:mn=Rp.maxN mc mheard:=by rw[hMN.out,List.take_of_length_le (by have:=HM.out.len';simp only at this;omega)]
           have hmc:mc=Rp.maxE clock mposts:=by rw[hMC.out,List.take_of_length_le (by have:=HM.out.len;simp only at this;omega)]
           have hhs:hs k heard mheard i=Rp.maxH k heard mheard:=by
            rw[<- hs_all];have h1:=HH.out.len';simp only at h1;have h2:i=heard.length:=by omega
            rw[<- h2]
           have HJoin:Hid (Rp.joined ⟨k,many,clock,posts,heard⟩ ⟨src,mposts,mheard⟩=⟨k,many,mn,Rp.merge posts mposts,hs k heard mheard i⟩):=hid (by
            unfold Rp.joined;simp only[Int.toNat_natCast];rw[hfin,hmc,hhs])
           have hR6:RepR wr wr.heap.size ⟨k,many,mn,Rp.merge posts mposts,hs k heard mheard i⟩ A3 n3 (some ⟨g2,0,none⟩) n' :=
            ⟨Reads.of_own hJ.own3,HLen.out,Reads.of_own hJ.own2,by simp only[hs_len];exact HH.out.len',by omega,HH.out.few'⟩
           have HRight:=hid (right_any wr _ A3 n3 c3 _ n' c2 hR6);unfold repV at HRight;simp only at HRight;have HR6:=hid hR6;have hR8:=HR1.out.below hJ.below (by omega);have N3:=hid (block_not hJ.own3 (g:=w.heap.size+1+1) (.inl (by omega)));have hne2:g2≠w.heap.size+1+1:=by have:=(hJ.own2.lt g2 rfl).1;omega
           have F3:=hid (Fresh.of_own hJ.own3 (B':=w.heap.size) HBB.out.size);have HCap:=hid (own_cap hJ.own3);have hg2w:w.heap.size<=g2:=by have h1:=(hJ.own2.lt g2 rfl).1;have h2:=HBB.out.size;omega
           clear hJ hR6 p0 p1 p2 p3 p4 f0 f1 f2 f3 f4 hfin hmc hhs b0;refine HRight.out.mono ?_;rintro e w9 ⟨rfl,hb9⟩;have hbe:=hBi.trans (hb9.mono hBi.size);have hR9:=hR8.below hb9 hR8.lt;obtain⟨r0,r1,r2,r3,r4⟩:=hR9.cells5;obtain⟨s0,s1,s2,s3,s4⟩:=hR9.soft5;cases hv2:Rp.valid ⟨k,many,mn,Rp.merge posts mposts,hs k heard mheard i⟩
           ·unfold orErr zeroRep
            go_wp2;refine bodyPost_ret (v:=.tuple #[zeroRep,.int .i64 310]) (by simp[zeroRep,results,results25,go_sem,r0,r1,r2,r3,r4]) rfl ⟨?_,?_⟩
            ·repeat(refine Below.setCell ?_ (by simp;try omega) _)
             exact hbe
            ·rw[HN.out,HJoin.out,hv2];rfl
           ·unfold orErr
            go_wp2;refine bodyPost_ret (v:=.tuple #[.agg #[.int .i64 k,.int .i64 many,.int .i64 mn,.slice A3 n3 c3,.slice (some ⟨g2,0,none⟩) n' c2],.int .i64 0]) (by simp[results,results25,go_sem,r0,r1,r2,r3,r4]) rfl ⟨?_,?_⟩
            ·repeat(refine Below.setCell ?_ (by simp;try omega) _)
             exact hbe
            ·rw[HN.out,HJoin.out,hv2]
             refine⟨A3,n3,c3,some ⟨g2,0,none⟩,n',c2,rfl,?_,F3.out,(λa e=>by injection e with e;subst e;exact hg2w),HCap.out⟩;simp only[size_setCell]
             repeat(refine RepR.far ?_ (λa e h=>N3.out (by subst e;exact(congrArg some h).symm)) (λa e=>by injection e with e;subst e;exact hne2) _)
             exact(HR6.out.below hb9).more hb9.size
end
end Go.Proofs.YtnehgpeelgjjhaaGreatDoor.Tw
