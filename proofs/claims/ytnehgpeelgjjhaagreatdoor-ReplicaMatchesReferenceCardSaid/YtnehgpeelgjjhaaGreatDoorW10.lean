/- Contracts of functions of the program, and plain laws, towards the laws of replicas. Joined of the texts: Mot3, Motions, Act, RunQ. -/
import Derived.Test.YtnehgpeelgjjhaaGreatDoorW08
import Derived.Maps.Own
import Derived.Maps.Views
import Derived.OwnWalk
import Derived.Test.YtnehgpeelgjjhaaGreatDoorW09
set_option linter.all false
set_option maxRecDepth 100000
set_option maxHeartbeats 12800000
open Go.Lib (hid)
namespace Go.Proofs.YtnehgpeelgjjhaaGreatDoor.Tw
open Go.Proofs.Tryz
section
open Go.RowKit
theorem RunR.msgCells {B x h cap:Nat}{W:World}{va:Value}{rl:List RV}{ml:List MV}{v:MV}{a:Nat}(hR:RunR B W x va rl (.slice (some ⟨h,0,none⟩) ml.length cap) ml)(hv:ml[a]?=some v) :
 W.cell? ⟨h,a*3,none⟩=some (.int .i64 v.m.src)/\W.cell? ⟨h,a*3+1,none⟩=some (.slice v.M v.N v.C)/\W.cell? ⟨h,a*3+2,none⟩=some (.slice v.M' v.N' v.C'):=by
 have hl:a<ml.length:=(List.getElem?_eq_some_iff.1 hv).1;have key:∀i,i<3->W.cell? ⟨h,a*3+i,none⟩=v.enc[i]?:=λi hi=>by
  rw[hR.msgs.cellAt (a*3+i) (by omega),encMs_get ml a v i hv hi]
 exact⟨key 0 (by omega),key 1 (by omega),key 2 (by omega)⟩
theorem mdeliver_any (B x:Nat)(W:World)(va:Value)(rl:List RV)(vb:Value)(ml:List MV)(h:RunR B W x va rl vb ml)(kind:Int)(who a:Nat)(v:RV)(u:MV)(hv:rl[who]?=some v)(hu:ml[a]?=some u)(hfew:rl.length<=5)(hmany:ml.length<=1000)(text:ByteArray) :
 Calls prog 93 #[.pointer (some ⟨x,0,none⟩),.agg #[.int .i64 kind,.int .i64 who,.int .i64 a,.string text]] W λe W'=>(∃u,e=.returned u)/\Below B W W' /\
  ∃rl',RunR B W' x va rl' vb ml/\rl'.map (·.r)=if u.m.src=who then rl.map (·.r)else match Rp.hear v.r u.m with|some r=>(rl.map (·.r)).set who r|none=>rl.map (·.r):=by
 have hl:who<rl.length:=(List.getElem?_eq_some_iff.1 hv).1;have ha:a<ml.length:=(List.getElem?_eq_some_iff.1 hu).1;obtain⟨g,cap,rfl,hg,hgl⟩:=h.reps.form (by omega);obtain⟨hb,capb,rfl,hhb,hhl⟩:=h.msgs.form (by omega);obtain⟨c0,c1,c2,c3,c4⟩:=h.repCells hv;obtain⟨e0,e1,e2⟩:=h.msgCells hu;have x0:=h.blk.cell 0;have x1:=h.blk.cell 1;simp only[List.getElem?_toArray,List.getElem?_cons_zero,List.getElem?_cons_succ]at x0 x1;have hxl:=h.blk.lt;have hrep:=(h.rep v (List.mem_of_getElem? hv)).1;have hmsg:=(h.msg u (List.mem_of_getElem? hu)).1;have hcap:=(h.msg u (List.mem_of_getElem? hu)).2.1;obtain⟨r,A,n,c,A',n',c'⟩:=v;obtain⟨⟨src,mposts,mheard⟩,M,N,C0,M',N',C'⟩:=u;simp only at c0 c1 c2 c3 c4 hrep e0 e1 e2 hmsg hcap ⊢;obtain⟨W0,hW0⟩:∃W0,W0=W.alloc (.cells #[.int .i64 kind,.int .i64 who,.int .i64 a,.string text] 64):=⟨_,rfl⟩;have hb0:Below W.heap.size W W0:=by rw[hW0];exact(Below.refl _ _).alloc (Nat.le_refl _) _
 have hm0:Blk W0 W.heap.size 64 #[.int .i64 kind,.int .i64 who,.int .i64 a,.string text]:=by rw[hW0];exact Blk.new _ _ _
 have hs0:W0.heap.size=W.heap.size+1:=by rw[hW0];simp
 have HRep:Hid (∀W',Below W0.heap.size W0 W'->RepR W' W'.heap.size r A n A' n'):=hid λW' hb=>(hrep.below (hb0.trans (hb.mono hb0.size))).more (hb0.trans (hb.mono hb0.size)).size
 have HMsg:Hid (∀W',Below W0.heap.size W0 W'->MsgR W' W'.heap.size ⟨src,mposts,mheard⟩ M N M' N'):=hid λW' hb=>(hmsg.below (hb0.trans (hb.mono hb0.size))).more (hb0.trans (hb.mono hb0.size)).size
 have hBW:B<=W.heap.size:=by have:=h.at_;omega
 have HR:=hid h;have HV:=hid hv;clear h hv hrep hmsg hu;have HW0:=hid hW0;clear hW0;have d1:=hm0.cell 1;have d2:=hm0.cell 2;simp only[List.getElem?_toArray,List.getElem?_cons_zero,List.getElem?_cons_succ]at d1 d2;rw[<- hb0.cell (p:=⟨g,_,none⟩) hgl]at c0 c1 c2 c3 c4;rw[<- hb0.cell (p:=⟨hb,_,none⟩) hhl]at e0 e1 e2;rw[<- hb0.cell (p:=⟨x,_,none⟩) hxl]at x0 x1;obtain⟨me,many,clock,posts,heard⟩:=r;simp only at c0 c1 c2 c3 c4;have hxl0:x<W0.heap.size:=by omega
 have hgl0:g<W0.heap.size:=by omega
 have hhl0:hb<W0.heap.size:=by omega
 have hWl0:W.heap.size<W0.heap.size:=by omega
 have HS0:=hid hs0;clear hs0;have hhr:=λW' hq=>hear_any W' ⟨me,many,clock,posts,heard⟩ A n c A' n' c' ⟨src,mposts,mheard⟩ M N C0 M' N' C' (HRep.out W' hq) (HMsg.out W' hq) hcap
 unfold GotRep repV zeroRep msgV at hhr;simp only at hhr;have hwl:(who:Int)<(rl.length:Int):=by omega
 have hal:(a:Int)<(ml.length:Int):=by omega
 have hb00:Below W.heap.size W W0:=hb0;have k0:=Later.of x0;have k1:=Later.of x1;have kd1:=Later.of d1;have kd2:=Later.of d2;have ke0:=Later.of e0
 go_enter func93,ntmps93
 by_cases hsw:src=who
 ·have z1:decide (src=(who:Int))=true:=by simpa using hsw
  have z2:(src==(who:Int))=true:=by simpa using hsw
  have HSW:=hid hsw;clear hsw;go_wp2;rw[<- HW0.out];refine wp_region_later (by kernel_rfl) (by kernel_rfl) ?_
  repeat(go_big_quiet_step (fail))
  refine wpQuiet_nil ?_;rintro W1 ⟨⟨_,hW1⟩,rfl⟩;have hfin:=hb00.trans (hW1.mono hb00.size);go_wp2
  first|go_end0|refine bodyPost_ret (results_none rfl _ _ _) rfl ?_
  exact⟨⟨_,rfl⟩,hfin.mono hBW,rl,HR.out.keep hfin,by first|rfl|rw[if_pos HSW.out]⟩
 ·have z1:decide (src=(who:Int))=false:=by simpa using hsw
  have z2:(src==(who:Int))=false:=by simpa using hsw
  have HSW:=hid hsw;clear hsw;go_wp2;rw[<- HW0.out];refine wp_region_later (by kernel_rfl) (by kernel_rfl) ?_
  repeat(go_big_quiet_step (fail))
  refine wpQuiet_nil ?_;rintro W1 ⟨⟨_,hW1⟩,rfl⟩;clear k0 k1 kd1 kd2 ke0;rw[<- hW1.cell (p:=⟨x,0,none⟩) hxl0]at x0;rw[<- hW1.cell (p:=⟨x,1,none⟩) hxl0]at x1;rw[<- hW1.cell (p:=⟨W.heap.size,1,none⟩) hWl0]at d1;rw[<- hW1.cell (p:=⟨W.heap.size,2,none⟩) hWl0]at d2;rw[<- hW1.cell (p:=⟨g,who*5,none⟩) hgl0]at c0;rw[<- hW1.cell (p:=⟨g,who*5+1,none⟩) hgl0]at c1;rw[<- hW1.cell (p:=⟨g,who*5+2,none⟩) hgl0]at c2;rw[<- hW1.cell (p:=⟨g,who*5+3,none⟩) hgl0]at c3;rw[<- hW1.cell (p:=⟨g,who*5+4,none⟩) hgl0]at c4;rw[<- hW1.cell (p:=⟨hb,a*3,none⟩) hhl0]at e0;rw[<- hW1.cell (p:=⟨hb,a*3+1,none⟩) hhl0]at e1;rw[<- hW1.cell (p:=⟨hb,a*3+2,none⟩) hhl0]at e2;have hb10:Below W.heap.size W W1:=hb00.trans (hW1.mono hb00.size);have hs10:=hW1.size;have hhr1:=λW' (hq:Below W1.heap.size W1 W')=>hhr W' (hW1.trans (hq.mono hs10))
  have hx1:x<W1.heap.size:=by omega
  have hg1:g<W1.heap.size:=by omega
  have hh1:hb<W1.heap.size:=by omega
  have hWl1:W.heap.size<W1.heap.size:=by omega
  clear hhr;cases hw:Rp.hear ⟨me,many,clock,posts,heard⟩ ⟨src,mposts,mheard⟩
  ·rw[hw]at hhr1
   simp only at hhr1;have HHr:=hid hhr1;clear hhr1;go_wp2;have m0:=World.new_ne W1 _ x0;have m1:=World.new_ne W1 _ d1;have m2:=World.new_ne W1 _ c0;have m3:=World.new_ne W1 _ e0
   go_region_held3 (λw'=>w'.cell? ⟨x,0,none⟩=some (.slice (some ⟨g,0,none⟩) rl.length cap)/\w'.cell? ⟨x,1,none⟩=some (.slice (some ⟨hb,0,none⟩) ml.length capb)/\w'.cell? ⟨W.heap.size,1,none⟩=some (.int .i64 who)/\w'.cell? ⟨W.heap.size,2,none⟩=some (.int .i64 a)/\w'.cell? ⟨g,who*5,none⟩=some (.int .i64 me)/\w'.cell? ⟨g,who*5+1,none⟩=some (.int .i64 many)/\w'.cell? ⟨g,who*5+2,none⟩=some (.int .i64 clock)/\w'.cell? ⟨g,who*5+3,none⟩=some (.slice A n c)/\w'.cell? ⟨g,who*5+4,none⟩=some (.slice A' n' c')/\w'.cell? ⟨hb,a*3,none⟩=some (.int .i64 src)/\w'.cell? ⟨hb,a*3+1,none⟩=some (.slice M N C0)/\w'.cell? ⟨hb,a*3+2,none⟩=some (.slice M' N' C'))
    (go_keep)
    (first
      | (go_at_call 25
         refine(HHr.out _ (by first|exact(Below.refl _ _).drew|exact(Below.refl _ _).drew.alloc (Nat.le_refl _) _)).mono ?_;rintro e w4 ⟨hb4,rfl⟩;have B4:Below W1.heap.size W1 w4:=by first|exact(Below.refl _ _).drew.trans hb4|exact((Below.refl _ _).drew.alloc (Nat.le_refl _) _).trans (hb4.mono (by simp))
         have hbW4:Below W.heap.size W w4:=hb10.trans (B4.mono hb10.size);have hsz4:=hbW4.size;have k0:=(B4.cell (p:=⟨x,0,none⟩) (show x<W1.heap.size by omega)).trans x0;have k1:=(B4.cell (p:=⟨x,1,none⟩) (show x<W1.heap.size by omega)).trans x1;have k2:=(B4.cell (p:=⟨W.heap.size,1,none⟩) (show W.heap.size<W1.heap.size by omega)).trans d1;have k3:=(B4.cell (p:=⟨W.heap.size,2,none⟩) (show W.heap.size<W1.heap.size by omega)).trans d2;have q0:=(B4.cell (p:=⟨g,who*5,none⟩) (show g<W1.heap.size by omega)).trans c0;have q1:=(B4.cell (p:=⟨g,who*5+1,none⟩) (show g<W1.heap.size by omega)).trans c1;have q2:=(B4.cell (p:=⟨g,who*5+2,none⟩) (show g<W1.heap.size by omega)).trans c2;have q3:=(B4.cell (p:=⟨g,who*5+3,none⟩) (show g<W1.heap.size by omega)).trans c3;have q4:=(B4.cell (p:=⟨g,who*5+4,none⟩) (show g<W1.heap.size by omega)).trans c4;have o0:=(B4.cell (p:=⟨hb,a*3,none⟩) (show hb<W1.heap.size by omega)).trans e0;have o1:=(B4.cell (p:=⟨hb,a*3+1,none⟩) (show hb<W1.heap.size by omega)).trans e1;have o2:=(B4.cell (p:=⟨hb,a*3+2,none⟩) (show hb<W1.heap.size by omega)).trans e2;have nk0:=World.new_ne w4 _ k0;have nk2:=World.new_ne w4 _ k2;have nq0:=World.new_ne w4 _ q0;have no0:=World.new_ne w4 _ o0
         try
          have hbk:Blk w4 W1.heap.size 26 #[.int .i64 0,.int .i64 0,.int .i64 0,.slice none 0 0,.slice none 0 0]:=Blk.below (B:=(W1.alloc (.cells #[.int .i64 0,.int .i64 0,.int .i64 0,.slice none 0 0,.slice none 0 0] 26)).heap.size) (Blk.new W1 26 #[.int .i64 0,.int .i64 0,.int .i64 0,.slice none 0 0,.slice none 0 0]).drew hb4 (by simp);obtain⟨z0,z1,z2,z3,z4⟩:=hbk.cells5;obtain⟨s0,s1,s2,s3,s4⟩:=hbk.soft5))
   all_goals
    go_wp2
    first|go_end0|refine bodyPost_ret (results_none rfl _ _ _) rfl ?_
    refine(λhfin:Below W.heap.size W _=>⟨⟨_,rfl⟩,hfin.mono hBW,rl,HR.out.keep hfin,by first|rfl|rw[if_neg HSW.out]⟩) ?_
    repeat(first|refine Below.setCell ?_ (by first|omega|(simp;try omega)) _|refine Below.alloc ?_ (by first|omega|(simp;try omega)) _|refine Below.drew ?_)
    exact hbW4
  ·rename_i r'
   obtain⟨me',many',clock',posts',heard'⟩:=r';rw[hw]at hhr1;simp only at hhr1;have HHr:=hid hhr1;clear hhr1;go_wp2;have m0:=World.new_ne W1 _ x0;have m1:=World.new_ne W1 _ d1;have m2:=World.new_ne W1 _ c0;have m3:=World.new_ne W1 _ e0
   go_region_held3 (λw'=>w'.cell? ⟨x,0,none⟩=some (.slice (some ⟨g,0,none⟩) rl.length cap)/\w'.cell? ⟨x,1,none⟩=some (.slice (some ⟨hb,0,none⟩) ml.length capb)/\w'.cell? ⟨W.heap.size,1,none⟩=some (.int .i64 who)/\w'.cell? ⟨W.heap.size,2,none⟩=some (.int .i64 a)/\w'.cell? ⟨g,who*5,none⟩=some (.int .i64 me)/\w'.cell? ⟨g,who*5+1,none⟩=some (.int .i64 many)/\w'.cell? ⟨g,who*5+2,none⟩=some (.int .i64 clock)/\w'.cell? ⟨g,who*5+3,none⟩=some (.slice A n c)/\w'.cell? ⟨g,who*5+4,none⟩=some (.slice A' n' c')/\w'.cell? ⟨hb,a*3,none⟩=some (.int .i64 src)/\w'.cell? ⟨hb,a*3+1,none⟩=some (.slice M N C0)/\w'.cell? ⟨hb,a*3+2,none⟩=some (.slice M' N' C'))
    (go_keep)
    (first
      | (go_at_call 25
         refine(HHr.out _ (by first|exact(Below.refl _ _).drew|exact(Below.refl _ _).drew.alloc (Nat.le_refl _) _)).mono ?_;rintro e w4 ⟨hb4,A5,n5,c5,A6,n6,c6,rfl,hR4,hF5,hF6,hcv⟩;have B4:Below W1.heap.size W1 w4:=by first|exact(Below.refl _ _).drew.trans hb4|exact((Below.refl _ _).drew.alloc (Nat.le_refl _) _).trans (hb4.mono (by simp))
         have hbW4:Below W.heap.size W w4:=hb10.trans (B4.mono hb10.size);have hsz4:=hbW4.size;have k0:=(B4.cell (p:=⟨x,0,none⟩) (show x<W1.heap.size by omega)).trans x0;have k1:=(B4.cell (p:=⟨x,1,none⟩) (show x<W1.heap.size by omega)).trans x1;have k2:=(B4.cell (p:=⟨W.heap.size,1,none⟩) (show W.heap.size<W1.heap.size by omega)).trans d1;have k3:=(B4.cell (p:=⟨W.heap.size,2,none⟩) (show W.heap.size<W1.heap.size by omega)).trans d2;have q0:=(B4.cell (p:=⟨g,who*5,none⟩) (show g<W1.heap.size by omega)).trans c0;have q1:=(B4.cell (p:=⟨g,who*5+1,none⟩) (show g<W1.heap.size by omega)).trans c1;have q2:=(B4.cell (p:=⟨g,who*5+2,none⟩) (show g<W1.heap.size by omega)).trans c2;have q3:=(B4.cell (p:=⟨g,who*5+3,none⟩) (show g<W1.heap.size by omega)).trans c3;have q4:=(B4.cell (p:=⟨g,who*5+4,none⟩) (show g<W1.heap.size by omega)).trans c4;have o0:=(B4.cell (p:=⟨hb,a*3,none⟩) (show hb<W1.heap.size by omega)).trans e0;have o1:=(B4.cell (p:=⟨hb,a*3+1,none⟩) (show hb<W1.heap.size by omega)).trans e1;have o2:=(B4.cell (p:=⟨hb,a*3+2,none⟩) (show hb<W1.heap.size by omega)).trans e2;have nk0:=World.new_ne w4 _ k0;have nk2:=World.new_ne w4 _ k2;have nq0:=World.new_ne w4 _ q0;have no0:=World.new_ne w4 _ o0
         try
          have hbk:Blk w4 W1.heap.size 26 #[.int .i64 0,.int .i64 0,.int .i64 0,.slice none 0 0,.slice none 0 0]:=Blk.below (B:=(W1.alloc (.cells #[.int .i64 0,.int .i64 0,.int .i64 0,.slice none 0 0,.slice none 0 0] 26)).heap.size) (Blk.new W1 26 #[.int .i64 0,.int .i64 0,.int .i64 0,.slice none 0 0,.slice none 0 0]).drew hb4 (by simp);obtain⟨z0,z1,z2,z3,z4⟩:=hbk.cells5;obtain⟨s0,s1,s2,s3,s4⟩:=hbk.soft5))
   ·obtain⟨W5,hW5⟩:∃W5,W5=w4.alloc (.cells #[.int .i64 me',.int .i64 many',.int .i64 clock',.slice A5 n5 c5,.slice A6 n6 c6] 26):=⟨_,rfl⟩
    rw[<- hW5];have hB5:Blk W5 w4.heap.size 26 #[.int .i64 me',.int .i64 many',.int .i64 clock',.slice A5 n5 c5,.slice A6 n6 c6]:=by rw[hW5];exact Blk.new _ _ _
    have hb5:Below W.heap.size W W5:=by rw[hW5];exact hbW4.alloc hsz4 _
    have hb05:Below W1.heap.size W1 W5:=by rw[hW5];exact B4.alloc B4.size _
    have hR5:RepR W5 W5.heap.size ⟨me',many',clock',posts',heard'⟩ A5 n5 A6 n6:=by
     rw[hW5];exact(hR4.below ((Below.refl _ _).alloc (Nat.le_refl _) _)).more (by simp)
    have hA5:Apart A5 n5 x (.slice (some ⟨g,0,none⟩) rl.length cap) (.slice (some ⟨hb,0,none⟩) ml.length capb):=Fresh.apart HR.out (λa e=>by have:=hF5 a e;simp at this;omega);have hA6:Apart A6 n6 x (.slice (some ⟨g,0,none⟩) rl.length cap) (.slice (some ⟨hb,0,none⟩) ml.length capb):=Fresh.apart HR.out (λa e=>by have:=hF6 a e;simp at this;omega);have hs5:=hb5.size;have HR5:=hid (HR.out.keep hb5);have HSet:=hid (HR5.out.setRep hl ⟨⟨me',many',clock',posts',heard'⟩,A5,n5,c5,A6,n6,c6⟩ hR5 hA5 hA6 hcv);have x5:=(hb05.cell (p:=⟨x,0,none⟩) hx1).trans x0;have d5:=(hb05.cell (p:=⟨W.heap.size,1,none⟩) hWl1).trans d1;obtain⟨v0,v1,v2,v3,v4⟩:=hB5.cells5;have hgx:g≠x:=λe=>own_ne_blk HR5.out.reps HR5.out.blk (by decide) (by simp[Value.ownBlock,e])
    have hgW:g≠W.heap.size:=by omega
    have hgG:g≠w4.heap.size:=by omega
    have hgx':=hgx.symm;have hgW':=hgW.symm;have hgG':=hgG.symm;have t0:=HR5.out.reps.frozenAt (who*5);have t1:=HR5.out.reps.frozenAt (who*5+1);have t2:=HR5.out.reps.frozenAt (who*5+2);have t3:=HR5.out.reps.frozenAt (who*5+3);have t4:=HR5.out.reps.frozenAt (who*5+4);obtain⟨p0,p1,p2,p3,p4⟩:=HR5.out.repCells HV.out;simp only at p0 p1 p2 p3 p4;clear hW5 k0 k1 k2 k3 q0 q1 q2 q3 q4 o0 o1 o2 nk0 nk2 nq0 no0 hb4 hR4 hF5 hF6 c0 c1 c2 c3 c4 hA5 hA6 hR5 x0 x1 d1 d2 e0 e1 e2 m0 m1 m2 m3 hB5 hb05 B4 hbW4;go_wp2
    go_region_held3 (λw'=>w'.cell? ⟨x,0,none⟩=some (.slice (some ⟨g,0,none⟩) rl.length cap)/\w'.cell? ⟨W.heap.size,1,none⟩=some (.int .i64 who) /\
     w'.cell? ⟨w4.heap.size,0,none⟩=some (.int .i64 me')/\w'.cell? ⟨w4.heap.size,1,none⟩=some (.int .i64 many')/\w'.cell? ⟨w4.heap.size,2,none⟩=some (.int .i64 clock') /\
     w'.cell? ⟨w4.heap.size,3,none⟩=some (.slice A5 n5 c5)/\w'.cell? ⟨w4.heap.size,4,none⟩=some (.slice A6 n6 c6))
     (go_keep)
     (fail)
    go_wp2
    first|go_end0|refine bodyPost_ret (results_none rfl _ _ _) rfl ?_
    refine⟨⟨_,rfl⟩,?_,rl.set who ⟨⟨me',many',clock',posts',heard'⟩,A5,n5,c5,A6,n6,c6⟩,HSet.out.drew,by first|exact map_set_r _ _ _|(rw[if_neg HSW.out];exact map_set_r _ _ _)⟩;refine Below.drew ?_
    repeat(refine Below.setCell ?_ (by simp;try omega) _)
    exact hb5.mono hBW
   ·obtain⟨W5,hW5⟩:∃W5,W5=((((w4.setCell ⟨W1.heap.size,0,none⟩ (.int .i64 me')).setCell ⟨W1.heap.size,1,none⟩ (.int .i64 many')).setCell ⟨W1.heap.size,2,none⟩ (.int .i64 clock')).setCell ⟨W1.heap.size,3,none⟩ (.slice A5 n5 c5)).setCell ⟨W1.heap.size,4,none⟩ (.slice A6 n6 c6):=⟨_,rfl⟩
    rw[<- hW5];have hB5:Blk W5 W1.heap.size 26 #[.int .i64 me',.int .i64 many',.int .i64 clock',.slice A5 n5 c5,.slice A6 n6 c6]:=by rw[hW5];exact((((hbk.set_ 0 _).set_ 1 _).set_ 2 _).set_ 3 _).set_ 4 _
    have hb5:Below W.heap.size W W5:=by rw[hW5];exact((((hbW4.setCell (p:=⟨W1.heap.size,0,none⟩) (show W.heap.size<=W1.heap.size by omega) _).setCell (p:=⟨W1.heap.size,1,none⟩) (show W.heap.size<=W1.heap.size by omega) _).setCell (p:=⟨W1.heap.size,2,none⟩) (show W.heap.size<=W1.heap.size by omega) _).setCell (p:=⟨W1.heap.size,3,none⟩) (show W.heap.size<=W1.heap.size by omega) _).setCell (p:=⟨W1.heap.size,4,none⟩) (show W.heap.size<=W1.heap.size by omega) _
    have hb05:Below W1.heap.size W1 W5:=by rw[hW5];exact((((B4.setCell (p:=⟨W1.heap.size,0,none⟩) (Nat.le_refl _) _).setCell (p:=⟨W1.heap.size,1,none⟩) (Nat.le_refl _) _).setCell (p:=⟨W1.heap.size,2,none⟩) (Nat.le_refl _) _).setCell (p:=⟨W1.heap.size,3,none⟩) (Nat.le_refl _) _).setCell (p:=⟨W1.heap.size,4,none⟩) (Nat.le_refl _) _
    have hR5:RepR W5 W5.heap.size ⟨me',many',clock',posts',heard'⟩ A5 n5 A6 n6:=by
     rw[hW5];simp only[size_setCell]
     repeat(refine RepR.far ?_ (λa e h=>by have:=hF5 a e;simp at this h;omega) (λa e h=>by have:=hF6 a e;simp at this h;omega) _)
     exact hR4
    have hA5:Apart A5 n5 x (.slice (some ⟨g,0,none⟩) rl.length cap) (.slice (some ⟨hb,0,none⟩) ml.length capb):=Fresh.apart HR.out (λa e=>by have:=hF5 a e;simp at this;omega);have hA6:Apart A6 n6 x (.slice (some ⟨g,0,none⟩) rl.length cap) (.slice (some ⟨hb,0,none⟩) ml.length capb):=Fresh.apart HR.out (λa e=>by have:=hF6 a e;simp at this;omega);have hs5:=hb5.size;have HR5:=hid (HR.out.keep hb5);have HSet:=hid (HR5.out.setRep hl ⟨⟨me',many',clock',posts',heard'⟩,A5,n5,c5,A6,n6,c6⟩ hR5 hA5 hA6 hcv);have x5:=(hb05.cell (p:=⟨x,0,none⟩) hx1).trans x0;have d5:=(hb05.cell (p:=⟨W.heap.size,1,none⟩) hWl1).trans d1;obtain⟨v0,v1,v2,v3,v4⟩:=hB5.cells5;have hgx:g≠x:=λe=>own_ne_blk HR5.out.reps HR5.out.blk (by decide) (by simp[Value.ownBlock,e])
    have hgW:g≠W.heap.size:=by omega
    have hgG:g≠W1.heap.size:=by omega
    have hgx':=hgx.symm;have hgW':=hgW.symm;have hgG':=hgG.symm;have t0:=HR5.out.reps.frozenAt (who*5);have t1:=HR5.out.reps.frozenAt (who*5+1);have t2:=HR5.out.reps.frozenAt (who*5+2);have t3:=HR5.out.reps.frozenAt (who*5+3);have t4:=HR5.out.reps.frozenAt (who*5+4);obtain⟨p0,p1,p2,p3,p4⟩:=HR5.out.repCells HV.out;simp only at p0 p1 p2 p3 p4;clear hW5 k0 k1 k2 k3 q0 q1 q2 q3 q4 o0 o1 o2 nk0 nk2 nq0 no0 hb4 hR4 hF5 hF6 c0 c1 c2 c3 c4 hA5 hA6 hR5 x0 x1 d1 d2 e0 e1 e2 m0 m1 m2 m3 hB5 hb05 B4 hbW4;go_wp2
    go_region_held3 (λw'=>w'.cell? ⟨x,0,none⟩=some (.slice (some ⟨g,0,none⟩) rl.length cap)/\w'.cell? ⟨W.heap.size,1,none⟩=some (.int .i64 who) /\
     w'.cell? ⟨W1.heap.size,0,none⟩=some (.int .i64 me')/\w'.cell? ⟨W1.heap.size,1,none⟩=some (.int .i64 many')/\w'.cell? ⟨W1.heap.size,2,none⟩=some (.int .i64 clock') /\
     w'.cell? ⟨W1.heap.size,3,none⟩=some (.slice A5 n5 c5)/\w'.cell? ⟨W1.heap.size,4,none⟩=some (.slice A6 n6 c6))
     (go_keep)
     (fail)
    go_wp2
    first|go_end0|refine bodyPost_ret (results_none rfl _ _ _) rfl ?_
    refine⟨⟨_,rfl⟩,?_,rl.set who ⟨⟨me',many',clock',posts',heard'⟩,A5,n5,c5,A6,n6,c6⟩,HSet.out.drew,by first|exact map_set_r _ _ _|(rw[if_neg HSW.out];exact map_set_r _ _ _)⟩;refine Below.drew ?_
    repeat(refine Below.setCell ?_ (by simp;try omega) _)
    exact hb5.mono hBW
end
section
open Go.RowKit Go.Maps
def funcRead (v:Value):Option (DataW Value×List MemPlace):=match v with
 | .nilFunc=>some (.nil,[])
 | .func f a b=>some (.held (.func f a b),[])
 | _=>none
def fnV (f:FuncId):Value:=.func (.func f) #[] #[]
def tableD :DataW Value:=(((DataW.map []).put (.int .i64 1) (.held (fnV 91))).put (.int .i64 2) (.held (fnV 92))).put (.int .i64 3) (.held (fnV 93))
def Table (W:World)(b:Nat):Prop:=W.ownsMap prog 3 funcRead b 3 tableD
theorem law3 :Keyed prog 3:=int_keyed underlying3
theorem funcRead_held {v:Value}{u:Value}{ps:List MemPlace}(h:funcRead v=some (.held u,ps)):v=u:=by
 cases v<;>simp[funcRead]at h;obtain⟨h,_⟩:=h;exact h
theorem zero113 (w:World):(zeroValue 113).run prog w=.ok .nilFunc w:=by kernel_rfl
theorem motions_any (w:World):Calls prog 68 #[] w λe w'=>e=.returned (.map (some w.heap.size))/\Table w' w.heap.size/\Below w.heap.size w w':=by
 have hmm:=@run_makeMap prog;have h0:(w.alloc (.map #[] 0)).ownsMap prog 3 funcRead w.heap.size 0 (.map []):=World.ownsMap_made _ _ _ _;obtain⟨w1,r1,h1,g1⟩:=h0.update (t:=114) law3 underlying114 (by simp[maxLen]) (keyOf_int_mk underlying3 (a:=1) (by decide)) (show funcRead (fnV 91)=some (.held (fnV 91),[])from rfl);obtain⟨w2,r2,h2,g2⟩:=h1.update (t:=114) law3 underlying114 (by simp[maxLen]) (keyOf_int_mk underlying3 (a:=2) (by decide)) (show funcRead (fnV 92)=some (.held (fnV 92),[])from rfl);obtain⟨w3,r3,h3,g3⟩:=h2.update (t:=114) law3 underlying114 (by simp[maxLen]) (keyOf_int_mk underlying3 (a:=3) (by decide)) (show funcRead (fnV 93)=some (.held (fnV 93),[])from rfl);have hb:Below w.heap.size w w3:=((((Below.refl _ _).alloc (Nat.le_refl _) _).grown g1 (by simp) (λj hj=>by cases hj;exact Nat.le_refl _)).grown g2 (by have:=g1.size;simp at this;omega) (λj hj=>by cases hj;exact Nat.le_refl _)).grown g3 (by have:=g1.size;have:=g2.size;simp at *;omega) (λj hj=>by cases hj;exact Nat.le_refl _);have HB:=hid hb;have H3:=hid h3;clear h0 h1 h2 h3 g1 g2 g3 hb;unfold fnV at r1 r2 r3
 go_enter func68,ntmps68
 go_wp2;go_ret;exact⟨rfl,H3.out,HB.out⟩
theorem table_look {W:World}{b:Nat}(h:Table W b):((Instr.lookup 114 (.map (some b)) (.int .i64 1) false).run prog W=.ok (fnV 91) W)/\((Instr.lookup 114 (.map (some b)) (.int .i64 2) false).run prog W=.ok (fnV 92) W)/\((Instr.lookup 114 (.map (some b)) (.int .i64 3) false).run prog W=.ok (fnV 93) W):=by
 have key:∀(a:Int) (u:Value),(Lit.int .i64 a).wf=true->(tableD.atKey (.int .i64 a) .nil=.held u)->(Instr.lookup 114 (.map (some b)) (.int .i64 a) false).run prog W=.ok u W:=λa u hw hd=>by
  obtain⟨v,ps,hr,hv⟩:=World.ownsMap.lookup (t:=114) (e:=113) h law3 underlying114 (zero113 W) (show funcRead .nilFunc=some (.nil,[])from rfl) (keyOf_int_mk underlying3 hw);rw[hd]at hv;rw[hr,funcRead_held hv]
 exact⟨key 1 _ (by decide) rfl,key 2 _ (by decide) rfl,key 3 _ (by decide) rfl⟩
end
section
open Go.RowKit
def moC :Rp.Motion->List Value
 | .write who t=>[.int .i64 1,.int .i64 who,.int .i64 0,.string t]
 | .send who=>[.int .i64 2,.int .i64 who,.int .i64 0,.string ⟨#[]⟩]
 | .deliver who a=>[.int .i64 3,.int .i64 who,.int .i64 a,.string ⟨#[]⟩]
def moF :Rp.Motion->FuncId
 | .write _ _=>91
 | .send _=>92
 | .deliver _ _=>93
theorem rep_at {s:Rp.Sys}{rl:List RV}(h:s.reps=rl.map (·.r)){i:Nat}(hi:i<rl.length):∃v,rl[i]?=some v/\v.r=s.rep i:=by
 refine⟨rl[i],List.getElem?_eq_getElem hi,?_⟩;unfold Rp.Sys.rep;rw[h,List.getD_eq_getElem?_getD,List.getElem?_map,List.getElem?_eq_getElem hi];rfl
theorem msg_at {s:Rp.Sys}{ml:List MV}(h:s.msgs=ml.map (·.m)){i:Nat}(hi:i<ml.length):∃v,ml[i]?=some v/\v.m=s.msgs.getD i default:=by
 refine⟨ml[i],List.getElem?_eq_getElem hi,?_⟩;rw[h,List.getD_eq_getElem?_getD,List.getElem?_map,List.getElem?_eq_getElem hi];rfl
theorem act_any (B x:Nat)(W:World)(va:Value)(rl:List RV)(vb:Value)(ml:List MV)(s:Rp.Sys)(k:Nat)(m:Rp.Motion)(h:RunR B W x va rl vb ml)(hs:s.reps=rl.map (·.r))(hm:s.msgs=ml.map (·.m))
 (hk:rl.length=k) (hk5:k<=5) (hok:m.ok k ml.length) (hmany:ml.length<=1000) (hval:∀i,i<k->Rp.valid (s.rep i)=true) :
 Calls prog (moF m) #[.pointer (some ⟨x,0,none⟩),.agg (moC m).toArray] W λe W'=>(∃u,e=.returned u)/\Below B W W' /\
  ∃rl' vb' ml',RunR B W' x va rl' vb' ml'/\(Rp.act s m).reps=rl'.map (·.r)/\(Rp.act s m).msgs=ml'.map (·.m):=by
 cases m with
 | write who t =>
   obtain⟨v,hv,er⟩:=rep_at hs (show who<rl.length by have:=hok.1;omega);refine(mwrite_any B x W va rl vb ml h 1 0 who v hv (by omega) t).mono ?_;rintro e W' ⟨hu,hb,rl',hR,hrl⟩;refine⟨hu,hb,rl',vb,ml,hR,?_,?_⟩
   ·rw[hrl,er,<- hs]
    simp only[Rp.act];cases Rp.write (s.rep who) t<;>rfl
   ·simp only[Rp.act]
    cases Rp.write (s.rep who) t<;>exact hm
 | send who =>
   have hw:who<k:=hok;obtain⟨v,hv,er⟩:=rep_at hs (show who<rl.length by omega);have hva:Rp.valid v.r=true:=by rw[er];exact hval who hw
   refine(msend_any B x W va rl vb ml h 2 0 who v hv (by omega) hmany hva ⟨#[]⟩).mono ?_;rintro e W' ⟨hu,hb,rl',vb',ml',hR,hrl⟩;refine⟨hu,hb,rl',vb',ml',hR,?_,?_⟩
   ·rw[tell_yes hva]at hrl
    simp only at hrl;simp only[Rp.act];rw[<- er,tell_yes hva,hrl.1,<- hs];rfl
   ·rw[tell_yes hva]at hrl
    simp only at hrl;simp only[Rp.act];rw[<- er,tell_yes hva,hrl.2,<- hm]
 | deliver who a =>
   obtain⟨hw,ha⟩:who<k/\a<ml.length:=hok;obtain⟨v,hv,er⟩:=rep_at hs (show who<rl.length by omega);obtain⟨u,hu,eu⟩:=msg_at hm ha;refine(mdeliver_any B x W va rl vb ml h 3 who a v u hv hu (by omega) hmany ⟨#[]⟩).mono ?_;rintro e W' ⟨hu,hb,rl',hR,hrl⟩;refine⟨hu,hb,rl',vb,ml,hR,?_,?_⟩
   ·rw[hrl,er,eu,<- hs]
    simp only[Rp.act]
    split
    ·rfl
    ·cases Rp.hear (s.rep who) (s.msgs.getD a default)<;>rfl
   ·simp only[Rp.act]
    split
    ·exact hm
    ·cases Rp.hear (s.rep who) (s.msgs.getD a default)<;>exact hm
end
section
open Go.RowKit
theorem apart_pushA {w1:World}{x:Nat}{va vb:Value}{g' n' c' k K:Nat}{s:Nat}{A:Option Addr}{xs:List Value}{w:World}(h:Apart A k x va vb)(hr:Reads w K s A k xs)(hK:K<=w1.heap.size)(hat:va.ownBlock=some g'∨w1.heap.size<=g') :
 Apart A k x (.slice (some ⟨g',0,none⟩) n' c') vb:=by
 intro hk a ha;obtain⟨h1,h2,h3⟩:=h hk a ha;refine⟨h1,?_,h3⟩;have h4:=hr.lt hk a ha;simp only[Value.ownBlock,ne_eq,Option.some.injEq];intro e;rcases hat with h5|h5
 ·rw[h5]at h2;simp at h2;omega
 ·omega
theorem RunR.pushRep {B x g' cap':Nat}{W W1 w7:World}{va vb:Value}{rl:List RV}{ml:List MV}(h:RunR B W x va rl vb ml)(v:RV)(hv:RepR W W.heap.size v.r v.A v.n v.A' v.n')
 (h1:Apart v.A v.n x va vb) (h2:Apart v.A' v.n' x va vb) (hcv:v.n<=v.c) (hW1:Below W.heap.size W W1) (hgrow:W1.grownBy w7 va.ownBlock)
 (hown:w7.ownsRow B 26 5 (.slice (some ⟨g',0,none⟩) (rl.length+1) cap') (rl.length+1) (encRs rl++v.enc)) (hat:va.ownBlock=some g'∨W1.heap.size<=g') :
 RunR B (w7.setCell ⟨x,0,none⟩ (.slice (some ⟨g',0,none⟩) (rl.length+1) cap')) x (.slice (some ⟨g',0,none⟩) (rl.length+1) cap') (rl++[v]) vb ml:=by
 have hB1:Blk W1 x 112 #[va,vb]:=h.blk.below hW1 h.blk.lt;have hm1:=own_below h.msgs hW1;have hr1:=own_below h.reps hW1;have hxne:some x≠va.ownBlock:=λe=>own_ne_blk hr1 hB1 (by decide) e.symm
 have hB7:Blk w7 x 112 #[va,vb]:=(hgrow.block x hB1.lt hxne).trans hB1;have hm7:=hm1.kept hgrow (own_apart hm1 hr1 (by decide));have hs7:=hgrow.size;have hsW:=hW1.size;have hB8:=hB7.set_ 0 (.slice (some ⟨g',0,none⟩) (rl.length+1) cap');refine⟨hB8,?_,own_far hm7 (p:=⟨x,0,none⟩) (own_ne_blk hm7 hB7 (by decide)) _,λv' hv'=>?_,λv' hv'=>?_,h.at_,λv' hv'=>(List.mem_append.1 hv').elim (h.caps v') (λe=>by have ev:v'=v:=(by simpa using e);rw[ev];exact hcv)⟩
 ·rw[encRs_snoc,List.length_append]
  exact own_far hown (p:=⟨x,0,none⟩) (own_ne_blk hown hB7 (by decide)) _
 ·have key:RepR W W.heap.size v'.r v'.A v'.n v'.A' v'.n'/\Apart v'.A v'.n x va vb/\Apart v'.A' v'.n' x va vb:=by
   rcases List.mem_append.1 hv' with h'|h'
   ·exact h.rep v' h'
   ·obtain rfl:v'=v:=by simpa using h'
    exact⟨hv,h1,h2⟩
  obtain⟨k1,k2,k3⟩:=key;refine⟨?_,apart_pushA (w1:=W1) k2 k1.posts hsW hat,apart_pushA (w1:=W1) k3 k1.heard hsW hat⟩;simp only[size_setCell];refine RepR.far0 ?_ (λhk a ha=>(k2 hk a ha).1) (λhk a ha=>(k3 hk a ha).1) _;exact((k1.below hW1).grown hgrow hsW (λhk a ha e=>(k2 hk a ha).2.1 e.symm) (λhk a ha e=>(k3 hk a ha).2.1 e.symm)).more (by omega)
 ·obtain⟨k1,k0,k2,k3⟩:=h.msg v' hv'
  refine⟨?_,k0,apart_pushA (w1:=W1) k2 k1.posts hsW hat,apart_pushA (w1:=W1) k3 k1.heard hsW hat⟩;simp only[size_setCell];refine MsgR.far0 ?_ (λhk a ha=>(k2 hk a ha).1) (λhk a ha=>(k3 hk a ha).1) _;exact((k1.below hW1).grown hgrow hsW (λhk a ha e=>(k2 hk a ha).2.1 e.symm) (λhk a ha e=>(k3 hk a ha).2.1 e.symm)).more (by omega)
end
end Go.Proofs.YtnehgpeelgjjhaaGreatDoor.Tw
