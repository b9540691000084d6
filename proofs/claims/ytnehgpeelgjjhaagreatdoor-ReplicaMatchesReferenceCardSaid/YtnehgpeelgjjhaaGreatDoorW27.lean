/- Contracts of functions of the program, and plain laws, towards the laws of replicas. Joined of the texts: R17. -/
import Derived.Test.YtnehgpeelgjjhaaGreatDoorW26
set_option linter.all false
set_option maxRecDepth 100000
set_option maxHeartbeats 12800000
open Go.Lib (hid)
namespace Go.Proofs.YtnehgpeelgjjhaaGreatDoor.Tw
open Go.Proofs.Tryz
section
open Go.RowKit
theorem rep_atS {s:Rp.Sys}{rl:List RV}{who:Nat}{v:RV}(h:s.reps=rl.map (·.r))(hv:rl[who]?=some v):s.rep who=v.r:=by
 unfold Rp.Sys.rep;rw[h,List.getD_eq_getElem?_getD,List.getElem?_map,hv];rfl
theorem act_write_none {s:Rp.Sys}{rl:List RV}{who:Nat}{v:RV}{t:ByteArray}(h:s.reps=rl.map (·.r))(hv:rl[who]?=some v)(hw:Rp.write v.r t=none):Rp.act s (.write who t)=s:=by
 unfold Rp.act;simp only;rw[rep_atS h hv,hw]
theorem act_write_some {s:Rp.Sys}{rl:List RV}{who:Nat}{v:RV}{t:ByteArray}{r:Rp.Rep}(h:s.reps=rl.map (·.r))(hv:rl[who]?=some v)(hw:Rp.write v.r t=some r):Rp.act s (.write who t)=s.set who r:=by
 unfold Rp.act;simp only;rw[rep_atS h hv,hw]
theorem act_send {s:Rp.Sys}{rl:List RV}{who:Nat}{v:RV}(h:s.reps=rl.map (·.r))(hv:rl[who]?=some v)(hw:Rp.valid v.r=true):Rp.act s (.send who)={ s.set who (Rp.told v.r)with msgs:=s.msgs++[Rp.message v.r] }:=by
 unfold Rp.act;simp only;rw[rep_atS h hv,tell_yes hw]
theorem act_deliver_own {s:Rp.Sys}{ml:List MV}{who a:Nat}{u:MV}(h:s.msgs=ml.map (·.m))(hu:ml[a]?=some u)(hw:u.m.src=who):Rp.act s (.deliver who a)=s:=by
 unfold Rp.act;simp only;rw[h,List.getD_eq_getElem?_getD,List.getElem?_map,hu];simp only[Option.map_some,Option.getD_some];rw[if_pos hw]
theorem act_deliver_other {s:Rp.Sys}{rl:List RV}{ml:List MV}{who a:Nat}{v:RV}{u:MV}(hr:s.reps=rl.map (·.r))(hv:rl[who]?=some v)(h:s.msgs=ml.map (·.m))(hu:ml[a]?=some u)(hw:¬u.m.src=who):Rp.act s (.deliver who a)=match Rp.hear v.r u.m with|some r=>s.set who r|none=>s:=by
 unfold Rp.act;simp only;rw[rep_atS hr hv,h,List.getD_eq_getElem?_getD,List.getElem?_map,hu];simp only[Option.map_some,Option.getD_some];rw[if_neg hw];cases Rp.hear v.r u.m<;>rfl
theorem set_self {α:Type}{l:List α}{i:Nat}{v:α}(h:l[i]?=some v):l.set i v=l:=by
 apply List.ext_getElem?;intro j;rw[List.getElem?_set]
 split
 ·rename_i e
  subst e;rw[if_pos (List.getElem?_eq_some_iff.1 h).1,h]
 ·rfl
theorem rrun_any (w:World)(A:Option Addr)(L c k:Nat)(l:List Rp.Motion)(hx:Reads w w.heap.size 4 A L (encMo l))(hl:l.length=L)(hk1:1<=k)(hk5:k<=5)(hL:L<=300)(hok:Rp.okAll k 0 l)(hB:Rp.writesOf l+1<=200) :
 Calls prog 7 #[.int .i64 k,.slice A L c] w λe w'=>∃va rl vb ml,e=.returned (.tuple #[va,.int .i64 0])/\RunS w.heap.size w' va rl vb ml/\(Rp.runs k l).reps=rl.map (·.r)/\Below w.heap.size w w':=by
 obtain⟨i0,hi0,hz0,hz1,hz2⟩:=info_parts info26;have HX:=hid hx;have HL:=hid hl;have HO:=hid hok;have HWr:=hid hB;clear hx hl hok hB;have HK:Hid (∀W,Calls prog 38 #[.int .i64 k,.int .i64 1,.int .i64 5] W λe w'=>e=.returned (.bool true)/\W=w'):=hid λW=>by
  have:=rin_any k 1 5 W;rw[Rp.inr_iff.2 (by omega)]at this;exact this
 have h300:¬((300:Int)<(L:Int)):=by omega
 go_enter func7,ntmps7
 go_upto_region 5 with (go_at_call 38;refine(HK.out _).mono ?_;rintro e _ ⟨rfl,rfl⟩)
 go_wp2_with fail
 go_loopw [6,7] (λsv q wr=>∃j:Nat,j<=L/\q=.int .i64 j/\sv=.int .i64 (Rp.sendsOf (l.take j))/\Hid (Below w.heap.size w wr)) (λ_ q _=>L - (intOf q).toNat)
 case atStart=>exact⟨0,by omega,rfl,rfl,hid (Below.refl _ _)⟩
 case round =>
  obtain⟨j,hj,rfl,rfl,hW⟩:=hrel
  by_cases hlt:j<L
  ·obtain⟨b,off,m,rfl,hbl,hq,h0,h1,h2,h3⟩:=((HX.out.below hW.out).more hW.out.size).mo HL.out hlt
   obtain⟨hmo,hms⟩:=okAll_at HO.out hq;have hle:=sendsOf_take_le l j;obtain⟨sj,hsj⟩:∃sj,sj=Rp.sendsOf (l.take j):=⟨_,rfl⟩;rw[<- hsj]at hmo hms hle;rw[<- hsj];have HMS:=hid hms;have HF:=hid (rformed_any wr m k sj hk5 (by omega) hmo);clear hq hsj hms;obtain⟨mk,hmk⟩:∃mk,mk=moK m:=⟨_,rfl⟩;obtain⟨mw,hmw⟩:∃mw,mw=moW m:=⟨_,rfl⟩;obtain⟨ma,hma⟩:∃ma,ma=moA m:=⟨_,rfl⟩;obtain⟨mt,hmt⟩:∃mt,mt=moT m:=⟨_,rfl⟩;rw[<- hmk]at h0 HF;rw[<- hmw]at h1 HF;rw[<- hma]at h2 HF;rw[<- hmt]at h3 HF;have HK2:=hid hmk;clear hmk hmw hma hmt hmo
   go_wp2_with fail
   refine HF.out.mono ?_;rintro e w1 ⟨rfl,hb1⟩;have h0':=(hb1.cell (p:=⟨b,off+j*4,none⟩) (lt_of_cell h0)).trans h0;have hbe:=hid (hW.out.trans (hb1.mono hW.out.size));clear h0 h1 h2 h3 hb1 hW
   by_cases h2k:mk=2
   ·have q2:(mk==2)=true:=by rw[h2k];rfl
    have hsend:Rp.Motion.sends m=1:=by
     have:=HK2.out;cases m with
     | send _=>rfl
     | write _ _=>simp only[moK]at this;omega
     | deliver _ _=>simp only[moK]at this;omega
    have HS1:=hid hsend;clear h2k hsend
    go_wp2_with fail
    clear q2;go_roundw
    case rel=>exact⟨j+1,by omega,by go_num,by rw[HMS.out,HS1.out];go_num,hbe⟩
    case measure=>simp[intOf];omega
   ·have q2:(mk==2)=false:=beq_eq_false_iff_ne.2 h2k
    have hsend:Rp.Motion.sends m=0:=by
     have:=HK2.out;cases m with
     | send _=>simp only[moK]at this;omega
     | write _ _=>rfl
     | deliver _ _=>rfl
    have HS1:=hid hsend;clear h2k hsend
    go_wp2_with fail
    clear q2;go_roundw
    case rel=>exact⟨j+1,by omega,by go_num,by rw[HMS.out,HS1.out,Nat.add_zero],hbe⟩
    case measure=>simp[intOf];omega
  ·have hjL:¬((j:Int)<(L:Int)):=by omega
   go_wp2_with fail
   rename World=>Wc
   go_loopw [8,9] (λs8 q wr=>∃(i:Nat) (va:Value) (rl:List RV),i<=k/\s8=va/\q=.int .i64 i/\Hid (RunS w.heap.size wr va rl (.slice none 0 0) [])/\Hid (rl.map (·.r)=(List.range i).map (fun(o:Nat)=>(⟨o,k,0,[],List.replicate k 0⟩:Rp.Rep)))/\Hid (Below w.heap.size w wr)) (λ_ q _=>k - (intOf q).toNat)
   case atStart=>exact⟨0,_,[],by omega,rfl,rfl,hid ⟨World.ownsRow_nil _ _ _ _,World.ownsRow_nil _ _ _ _,(λv hv=>by cases hv),(λv hv=>by cases hv),(λv hv=>by cases hv)⟩,hid rfl,hW⟩
   case round =>
    obtain⟨i,va,rl,hi,rfl,rfl,hR,hrl,hW2⟩:=hrel;have hws:=hW2.out.size
    by_cases hlt2:i<k
    ·have hnew:=rnew_any wr i k
     rw[Rp.newRep_some hk1 hk5 hlt2]at hnew;unfold GotRep repV at hnew;simp only at hnew;have HNew:=hid hnew;have hll:rl.length=i:=by have:=congrArg List.length hrl.out;simpa using this
     have hrl5:rl.length<=5:=by omega
     clear hnew hll
     go_wp2_with fail
     refine HNew.out.mono ?_;rintro e w4 ⟨hb4,A5,n5,c5,A6,n6,c6,rfl,hR4,hF5,hF6,hcv⟩;have hs4:=hb4.size
     go_upto_region 16 with (fail)
     obtain⟨W5,hW5⟩:∃W5,W5=w4.alloc (.cells #[.int .i64 i,.int .i64 k,.int .i64 0,.slice A5 n5 c5,.slice A6 n6 c6] 26):=⟨_,rfl⟩;rw[<- hW5];have hB5:Blk W5 w4.heap.size 26 #[.int .i64 i,.int .i64 k,.int .i64 0,.slice A5 n5 c5,.slice A6 n6 c6]:=by rw[hW5];exact Blk.new _ _ _
     have hb5:Below wr.heap.size wr W5:=by rw[hW5];exact hb4.alloc hs4 _
     have hR5:RepR W5 W5.heap.size ⟨i,k,0,[],List.replicate k 0⟩ A5 n5 A6 n6:=by
      rw[hW5];exact(hR4.below ((Below.refl _ _).alloc (Nat.le_refl _) _)).more (by simp)
     have HA5:=hid (Fresh.apt (n:=n5) hR.out hF5);have HA6:=hid (Fresh.apt (n:=n6) hR.out hF6);have HS6:=hid (hR.out.keep hb5);have HQ6:=hid hR5;have HB6:=hid (hW2.out.trans (hb5.mono hws));have hs6:=HB6.out.size;clear hW5 hR5 hb5 hR4 hF5 hF6 hb4 hR;obtain⟨g0,g1,g2,g3,g4⟩:=hB5.cells5;obtain⟨Ab,cb,rfl,hcb⟩:=own_slice HS6.out.reps;clear hB5
     go_upto_region 14 with (first
      | (at_builtin
         refine wpList_append_lies _ (by rfl) _ _ 31 (by rfl) w.heap.size 26 i0 _ 5 72 underlying31 hi0 hz0 hz1 hz2 rfl (by omega) (.slice Ab rl.length cb) rl.length (encRs rl) (by rfl) (HS6.out.reps.alloc _)
          ⟨W5.heap.size,0,none⟩ 1 1 [.int .i64 i,.int .i64 k,.int .i64 0,.slice A5 n5 c5,.slice A6 n6 c6] (by rfl) (by rfl)
          (World.news_of_block (cs:=#[.int .i64 i,.int .i64 k,.int .i64 0,.slice A5 n5 c5,.slice A6 n6 c6]) (t:=26) (fr:=(0,0)) (heap_alloc_new W5 _)) (by simp[Value.oneCell'])
          (by omega) (by simp only[maxLen];omega) (by omega) (by simp;omega) (W5.heap.size+1) (by simp) ?_
         intro g' cap' w7 hown7 hgrow hat hlt7)
      | fail)
     have HPush:=hid (HS6.out.pushRep ⟨⟨i,k,0,[],List.replicate k 0⟩,A5,n5,c5,A6,n6,c6⟩ HQ6.out HA5.out HA6.out hcv ((Below.refl W5.heap.size W5).alloc (Nat.le_refl _) (.cells #[.int .i64 i,.int .i64 k,.int .i64 0,.slice A5 n5 c5,.slice A6 n6 c6] 26)) hgrow hown7 (hat.imp id (λh=>by simp at h ⊢;omega)));have hfin:=hid (show Below w.heap.size w w7 from(HB6.out.alloc hs6 _).grown hgrow (by simp;omega) (λj hj=>(HS6.out.reps.lt j hj).1));clear hown7 hgrow hat g0 g1 g2 g3 g4 hW2
     go_wp2_with fail
     go_roundw
     case rel=>exact⟨i+1,_,_,by omega,rfl,by go_num,HPush,hid (by rw[List.map_append,hrl.out,List.range_succ,List.map_append];rfl),hfin⟩
     case measure=>simp[intOf];omega
    ·have hik:¬((i:Int)<(k:Int)):=by omega
     have hik':i=k:=by omega
     have HRl:=hid (show(Rp.runs k (l.take 0)).reps=rl.map (·.r)from(start_reps hk1 hk5).trans (by rw[hrl.out,hik']));clear hik'
     go_wp2_with fail
     obtain⟨Ab,cb,rfl,hcb⟩:=own_slice hR.out.reps;have hlk:rl.length=k:=by have:=congrArg List.length hrl.out;simp only[List.length_map,List.length_range]at this;omega
     have HLk:=hid hlk;clear hlk
     rename World=>Wd
     go_loopw [12,13] (λs12 q wr=>∃(t:Nat) (rl':List RV) (vb:Value) (ml:List MV),t<=j/\s12=vb/\q=.int .i64 t/\Hid (RunS w.heap.size wr (.slice Ab rl.length cb) rl' vb ml)/\Hid (rl'.length=rl.length) /\
      Hid ((Rp.runs k (l.take t)).reps=rl'.map (·.r))/\Hid ((Rp.runs k (l.take t)).msgs=ml.map (·.m))/\Hid (Below w.heap.size w wr)) (λ_ q _=>j - (intOf q).toNat)
     case atStart=>exact⟨0,rl,_,[],by omega,rfl,rfl,hR,hid rfl,HRl,hid rfl,hW2⟩
     case round =>
      obtain⟨t,rl',vb,ml,ht,rfl,rfl,hR3,hln,hs3,hm3,hW3⟩:=hrel
      by_cases hlt3:t<j
      ·obtain⟨b,off,m,rfl,hbl,hq,h0,h1,h2,h3⟩:=((HX.out.below hW3.out).more hW3.out.size).mo HL.out (j:=t) (by omega)
       obtain⟨hmo,hms⟩:=okAll_at HO.out hq;obtain⟨r1,r2,r3⟩:=runs_ok hk1 hk5 HO.out HWr.out t;have HSu:=hid (runs_succ (k:=k) hq);have hwk:moW m<k:=by cases m<;>first|exact hmo.1|exact hmo
       obtain⟨v,hv⟩:∃v,rl'[moW m]?=some v:=⟨_,List.getElem?_eq_getElem (by rw[hln.out,HLk.out];exact hwk)⟩;have hvr:=(hR3.out.rep v (List.mem_of_getElem? hv)).1;have hvc:=hR3.out.caps v (List.mem_of_getElem? hv);have hRep:=hid hR3.out;have hg:∃g,Ab=some ⟨g,0,none⟩:=by
        obtain⟨g,c',e,_,_⟩:=hR3.out.reps.form (by have:=hln.out;have:=HLk.out;omega);injection e with e _ _
        exact⟨g,e⟩
       obtain⟨g,rfl⟩:=hg;have hRg:=hR3.out;rw[<- hln.out]at hRg;have HRg:=hid hRg;have HVm:=hid hv;obtain⟨p0,p1,p2,p3,p4⟩:=hRg.repCells hv;have p0':=lt_of_cell p0;obtain⟨who,hwho⟩:∃who,who=moW m:=⟨_,rfl⟩;rw[<- hwho]at h1 hv hwk p0 p1 p2 p3 p4;have HWho:=hid hwho;have HVr:=hid hvr;have hw3:=hW3.out.size;clear hRg hq hms hv hvr hR3 hwho;have hwl:who<rl.length:=by rw[HLk.out];exact hwk
       go_upto_region 25 with (fail)
       obtain⟨W1,hW1⟩:∃W1,W1=wr.alloc (.cells #[.int .i64 0,.int .i64 0,.int .i64 0,.slice none 0 0,.slice none 0 0] 26):=⟨_,rfl⟩;have hB1:=hid (show Below wr.heap.size wr W1 by rw[hW1];exact(Below.refl _ _).alloc (Nat.le_refl _) _);have hZ1:=hid (show Blk W1 wr.heap.size 26 #[.int .i64 0,.int .i64 0,.int .i64 0,.slice none 0 0,.slice none 0 0] by rw[hW1];exact Blk.new _ _ _)
       try rw[<- hW1]
       clear hW1;have c0:=Eq.trans (hB1.out.cell (by exact lt_of_cell h0)) h0;have c1:=Eq.trans (hB1.out.cell (by exact lt_of_cell h1)) h1;have c2:=Eq.trans (hB1.out.cell (by exact lt_of_cell h2)) h2;have c3:=Eq.trans (hB1.out.cell (by exact lt_of_cell h3)) h3;have d0:=Eq.trans (hB1.out.cell (by exact lt_of_cell p0)) p0;have d1:=Eq.trans (hB1.out.cell (by exact lt_of_cell p1)) p1;have d2:=Eq.trans (hB1.out.cell (by exact lt_of_cell p2)) p2;have d3:=Eq.trans (hB1.out.cell (by exact lt_of_cell p3)) p3;have d4:=Eq.trans (hB1.out.cell (by exact lt_of_cell p4)) p4;clear h0 h1 h2 h3 p0 p1 p2 p3 p4;cases m with
       | write ww tx =>
         simp only[moK,moA,moT]at c0 c2 c3
         go_upto_region 31 with (fail)
         have HM4:=hid hm3.out;have HCall:=hid (rwrite_any W1.drew v.r v.A v.n v.c v.A' v.n' v.c' tx (((HVr.out.below hB1.out).more hB1.out.size).below (Below.refl _ _).drew) hvc);unfold GotRep zeroRep repV at HCall;have hz0:=hZ1.out.lt;have hgz:g≠wr.heap.size:=by omega
         have hbz:b≠wr.heap.size:=by omega
         have hgz':=hgz.symm;have hbz':=hbz.symm;cases hwr:Rp.write v.r tx with
         | none =>
           rw[hwr]at HCall;simp only at HCall
           go_region_held3 (λw'=>w'.cell? ⟨g,who*5,none⟩=some (.int .i64 v.r.me)/\w'.cell? ⟨g,who*5+1,none⟩=some (.int .i64 v.r.many)/\w'.cell? ⟨g,who*5+2,none⟩=some (.int .i64 v.r.clock) /\
            w'.cell? ⟨g,who*5+3,none⟩=some (.slice v.A v.n v.c)/\w'.cell? ⟨g,who*5+4,none⟩=some (.slice v.A' v.n' v.c')/\w'.cell? ⟨b,off+t*4+3,none⟩=some (.string tx))
            (go_keep)
            (first
              | (go_at_call 14
                 refine HCall.out.mono ?_;rintro e w4 ⟨hb4,rfl⟩;have hb6:Below W1.heap.size W1 w4:=(Below.refl _ _).drew.trans hb4;have k0:=Eq.trans (hb6.cell (by exact lt_of_cell d0)) d0;have k1:=Eq.trans (hb6.cell (by exact lt_of_cell d1)) d1;have k2:=Eq.trans (hb6.cell (by exact lt_of_cell d2)) d2;have k3:=Eq.trans (hb6.cell (by exact lt_of_cell d3)) d3;have k4:=Eq.trans (hb6.cell (by exact lt_of_cell d4)) d4;have k5:=Eq.trans (hb6.cell (by exact lt_of_cell c3)) c3;obtain⟨z0,z1,z2,z3,z4⟩:=(hZ1.out.below hb6 hz0).cells5;obtain⟨y0,y1,y2,y3,y4⟩:=(hZ1.out.below hb6 hz0).soft5))
           all_goals
            clear d0 d1 d2 d3 d4 c0 c1 c2 c3 k0 k1 k2 k3 k4 k5 z0 z1 z2 z3 z4 y0 y1 y2 y3 y4;have hbz0:=hid (hB1.out.trans (hb6.mono hB1.out.size));have hact:=hid (act_write_none hs3.out HVm.out (by exact hwr):Rp.act (Rp.runs k (l.take t)) (.write ww tx)=Rp.runs k (l.take t));clear hwr
            go_wp2_with fail
            go_roundw
            case rel =>
             refine⟨t+1,rl',_,ml,by omega,rfl,by go_num,hid (hRep.out.keep ?_),hln,hid (by rw[HSu.out,hact.out];exact hs3.out),hid (by rw[HSu.out,hact.out];exact hm3.out),hid (hW3.out.trans (Below.mono (?_:Below wr.heap.size wr _) hw3))⟩
             ·repeat(refine Below.setCell ?_ (by simp) _)
              exact hbz0.out
             ·repeat(refine Below.setCell ?_ (by simp) _)
              exact hbz0.out
            case measure=>simp[intOf];omega
         | some r' =>
           rw[hwr]at HCall;simp only at HCall
           go_region_held3 (λw'=>w'.cell? ⟨g,who*5,none⟩=some (.int .i64 v.r.me)/\w'.cell? ⟨g,who*5+1,none⟩=some (.int .i64 v.r.many)/\w'.cell? ⟨g,who*5+2,none⟩=some (.int .i64 v.r.clock) /\
            w'.cell? ⟨g,who*5+3,none⟩=some (.slice v.A v.n v.c)/\w'.cell? ⟨g,who*5+4,none⟩=some (.slice v.A' v.n' v.c')/\w'.cell? ⟨b,off+t*4+3,none⟩=some (.string tx))
            (go_keep)
            (first
              | (go_at_call 14
                 refine HCall.out.mono ?_;rintro e w4 ⟨hb4,A5,n5,c5,A6,n6,c6,rfl,hR5,hF5,hF6,hcv⟩;have hb6:Below W1.heap.size W1 w4:=(Below.refl _ _).drew.trans hb4;have k0:=Eq.trans (hb6.cell (by exact lt_of_cell d0)) d0;have k1:=Eq.trans (hb6.cell (by exact lt_of_cell d1)) d1;have k2:=Eq.trans (hb6.cell (by exact lt_of_cell d2)) d2;have k3:=Eq.trans (hb6.cell (by exact lt_of_cell d3)) d3;have k4:=Eq.trans (hb6.cell (by exact lt_of_cell d4)) d4;have k5:=Eq.trans (hb6.cell (by exact lt_of_cell c3)) c3;obtain⟨z0,z1,z2,z3,z4⟩:=(hZ1.out.below hb6 hz0).cells5;obtain⟨y0,y1,y2,y3,y4⟩:=(hZ1.out.below hb6 hz0).soft5))
           all_goals
            clear d0 d1 d2 d3 d4 c0 c1 c2 c3 k0 k1 k2 k3 k4 k5 z0 z1 z2 z3 z4 y0 y1 y2 y3 y4;have hbz0:=hid (hB1.out.trans (hb6.mono hB1.out.size));have hact:=hid (act_write_some hs3.out HVm.out (by exact hwr):Rp.act (Rp.runs k (l.take t)) (.write ww tx)=(Rp.runs k (l.take t)).set ww r');obtain⟨W5,hW5⟩:∃W5,W5=((((w4.setCell ⟨wr.heap.size,0,none⟩ (.int .i64 r'.me)).setCell ⟨wr.heap.size,1,none⟩ (.int .i64 r'.many)).setCell ⟨wr.heap.size,2,none⟩ (.int .i64 r'.clock)).setCell ⟨wr.heap.size,3,none⟩ (.slice A5 n5 c5)).setCell ⟨wr.heap.size,4,none⟩ (.slice A6 n6 c6):=⟨_,rfl⟩;rw[<- hW5];have hs64:=hb6.size;have hb5:Below wr.heap.size wr W5:=by
             rw[hW5]
             repeat(refine Below.setCell ?_ (by simp) _)
             exact hbz0.out
            have hsz5:W5.heap.size=w4.heap.size:=by rw[hW5];simp only[size_setCell]
            have hZ5:Blk W5 wr.heap.size 26 #[.int .i64 r'.me,.int .i64 r'.many,.int .i64 r'.clock,.slice A5 n5 c5,.slice A6 n6 c6]:=by
             rw[hW5];exact(((((hZ1.out.below hb6 hz0).set_ 0 _).set_ 1 _).set_ 2 _).set_ 3 _).set_ 4 _
            have hR5':RepR W5 W5.heap.size r' A5 n5 A6 n6:=by
             rw[hsz5,hW5]
             repeat(refine RepR.far0 ?_ (λ_ a e=>by have:=hF5 a e;have e1:W1.drew.heap.size=W1.heap.size:=rfl;simp only;omega) (λ_ a e=>by have:=hF6 a e;have e1:W1.drew.heap.size=W1.heap.size:=rfl;simp only;omega) _)
             exact hR5
            have HA5:=hid (Fresh.apt (n:=n5) HRg.out (A:=A5) (λa e=>by have:=hF5 a e;have e1:W1.drew.heap.size=W1.heap.size:=rfl;omega));have HA6:=hid (Fresh.apt (n:=n6) HRg.out (A:=A6) (λa e=>by have:=hF6 a e;have e1:W1.drew.heap.size=W1.heap.size:=rfl;omega));have HS5:=hid (HRg.out.keep hb5);have HQ5:=hid hR5';have hbw:=hid (hW3.out.trans (hb5.mono hw3));obtain⟨z0,z1,z2,z3,z4⟩:=hZ5.cells5;obtain⟨q0,q1,q2,q3,q4⟩:=HS5.out.repCells HVm.out;have t0:=HS5.out.reps.frozenAt (who*5);have t1:=HS5.out.reps.frozenAt (who*5+1);have t2:=HS5.out.reps.frozenAt (who*5+2);have t3:=HS5.out.reps.frozenAt (who*5+3);have t4:=HS5.out.reps.frozenAt (who*5+4);have hwt:moW (Rp.Motion.write ww tx)=ww:=rfl;rw[<- HWho.out]at q0 q1 q2 q3 q4;have hwl':who<rl'.length:=by rw[hln.out];exact hwl
            have HSet:=hid (HS5.out.setRep hwl' ⟨r',A5,n5,c5,A6,n6,c6⟩ HQ5.out HA5.out HA6.out hcv);have HWw:=hid (show ww=who from HWho.out.symm);clear hW5 hb5 hZ5 hR5' hR5 hF5 hF6 hb6 hb4 hwr hwt
            go_wp2_with fail
            go_roundw
            case rel =>
             refine⟨t+1,rl'.set who ⟨r',A5,n5,c5,A6,n6,c6⟩,_,ml,by omega,rfl,by go_num,hid (by rw[<- hln.out];exact HSet.out),hid (by rw[List.length_set];exact hln.out),hid (by rw[HSu.out,hact.out,HWw.out];show(Rp.runs k (l.take t)).reps.set who r'=_;rw[hs3.out,List.map_set]),hid (by rw[HSu.out,hact.out];exact hm3.out),hid (by
              have hg0:=(HRg.out.reps.lt g rfl).1
              repeat(refine Below.setCell ?_ (by simp;omega) _)
              exact hbw.out)⟩
            case measure=>simp[intOf];omega
       | send ww =>
         simp only[moK,moA,moT]at c0 c2 c3;have hval:Rp.valid v.r=true:=by
          have h:=r2 who hwk;rw[HWho.out,rep_atS hs3.out HVm.out]at h;exact h
         have HTell:=hid (tell_yes hval);have hz0:=hZ1.out.lt
         go_upto_region 34 with (fail)
         obtain⟨W2,hW2⟩:∃W2,W2=W1.alloc (.cells #[.int .i64 0,.slice none 0 0,.slice none 0 0] 28):=⟨_,rfl⟩;rw[<- hW2];have hB2:=hid (show Below wr.heap.size wr W2 by rw[hW2];exact hB1.out.alloc hB1.out.size _);have hB12:=hid (show Below W1.heap.size W1 W2 by rw[hW2];exact(Below.refl _ _).alloc (Nat.le_refl _) _);have hZ2:=hid (hZ1.out.below hB12.out hz0);have hY2:=hid (show Blk W2 W1.heap.size 28 #[.int .i64 0,.slice none 0 0,.slice none 0 0] by rw[hW2];exact Blk.new _ _ _);have hzy:=hY2.out.lt;have hne:wr.heap.size≠W1.heap.size:=by omega
         have hne':=hne.symm;have e0:=Eq.trans (hB12.out.cell (by exact lt_of_cell d0)) d0;have e1:=Eq.trans (hB12.out.cell (by exact lt_of_cell d1)) d1;have e2:=Eq.trans (hB12.out.cell (by exact lt_of_cell d2)) d2;have e3:=Eq.trans (hB12.out.cell (by exact lt_of_cell d3)) d3;have e4:=Eq.trans (hB12.out.cell (by exact lt_of_cell d4)) d4;clear hW2 d0 d1 d2 d3 d4 c0 c1 c2 c3;have HCall:=hid (rtell_any W2 v.r v.A v.n v.c v.A' v.n' v.c' ((HVr.out.below hB2.out).more hB2.out.size) hvc);rw[HTell.out]at HCall;unfold GotTell repV msgV at HCall;simp only at HCall
         go_upto_region 35 with (go_at_call 11;refine HCall.out.mono ?_;rintro e w4 ⟨hb4,A5,n5,c5,A6,n6,c6,M5,N5,C5,M6,N6,C6,rfl,hR5,hM5,hNC,⟨⟨hF5,hF6⟩,hcv⟩,hG5,hG6⟩;obtain⟨z0,z1,z2,z3,z4⟩:=(hZ2.out.below hb4 hZ2.out.lt).cells5;obtain⟨y0,y1,y2,y3,y4⟩:=(hZ2.out.below hb4 hZ2.out.lt).soft5;obtain⟨x0,x1,x2⟩:=(hY2.out.below hb4 hzy).cells3';obtain⟨u0,u1,u2⟩:=(hY2.out.below hb4 hzy).soft3)
         have hact:=hid (act_send hs3.out HVm.out hval:Rp.act (Rp.runs k (l.take t)) (.send ww)={ (Rp.runs k (l.take t)).set ww (Rp.told v.r)with msgs:=(Rp.runs k (l.take t)).msgs++[Rp.message v.r] });obtain⟨W5,hW5⟩:∃W5,W5=(((((((w4.setCell ⟨wr.heap.size,0,none⟩ (.int .i64 (Rp.told v.r).me)).setCell ⟨wr.heap.size,1,none⟩ (.int .i64 (Rp.told v.r).many)).setCell ⟨wr.heap.size,2,none⟩ (.int .i64 (Rp.told v.r).clock)).setCell ⟨wr.heap.size,3,none⟩ (.slice A5 n5 c5)).setCell ⟨wr.heap.size,4,none⟩ (.slice A6 n6 c6)).setCell ⟨W1.heap.size,0,none⟩ (.int .i64 (Rp.message v.r).src)).setCell ⟨W1.heap.size,1,none⟩ (.slice M5 N5 C5)).setCell ⟨W1.heap.size,2,none⟩ (.slice M6 N6 C6):=⟨_,rfl⟩;rw[<- hW5];have hs64:=hb4.size;have hs12:=hB12.out.size;have hs1:=hB1.out.size;have hb5:Below wr.heap.size wr W5:=by
          rw[hW5]
          repeat(refine Below.setCell ?_ (by simp;try omega) _)
          exact hB2.out.trans (hb4.mono hB2.out.size)
         have hsz5:W5.heap.size=w4.heap.size:=by rw[hW5];simp only[size_setCell]
         have hZ5:Blk W5 wr.heap.size 26 #[.int .i64 (Rp.told v.r).me,.int .i64 (Rp.told v.r).many,.int .i64 (Rp.told v.r).clock,.slice A5 n5 c5,.slice A6 n6 c6]:=by
          rw[hW5];exact(((((((((hZ2.out.below hb4 hZ2.out.lt).set_ 0 _).set_ 1 _).set_ 2 _).set_ 3 _).set_ 4 _).far hne _).far hne _).far hne _)
         have hY5:Blk W5 W1.heap.size 28 #[.int .i64 (Rp.message v.r).src,.slice M5 N5 C5,.slice M6 N6 C6]:=by
          rw[hW5];exact((((((((hY2.out.below hb4 hzy).far hne' _).far hne' _).far hne' _).far hne' _).far hne' _).set_ 0 _).set_ 1 _).set_ 2 _
         have hR5':RepR W5 W5.heap.size (Rp.told v.r) A5 n5 A6 n6:=by
          rw[hsz5,hW5]
          repeat(refine RepR.far0 ?_ (λ_ a e=>by have:=hF5 a e;simp only;omega) (λ_ a e=>by have:=hF6 a e;simp only;omega) _)
          exact hR5
         have hM5':MsgR W5 W5.heap.size (Rp.message v.r) M5 N5 M6 N6:=by
          rw[hsz5,hW5]
          repeat(refine MsgR.far0 ?_ (λ_ a e=>by have:=hG5 a e;simp only;omega) (λ_ a e=>by have:=hG6 a e;simp only;omega) _)
          exact hM5
         have HA5:=hid (Fresh.apt (n:=n5) HRg.out (A:=A5) (λa e=>by have:=hF5 a e;omega));have HA6:=hid (Fresh.apt (n:=n6) HRg.out (A:=A6) (λa e=>by have:=hF6 a e;omega));have HA7:=hid (Fresh.apt (n:=N5) HRg.out (A:=M5) (λa e=>by have:=hG5 a e;omega));have HA8:=hid (Fresh.apt (n:=N6) HRg.out (A:=M6) (λa e=>by have:=hG6 a e;omega));have HS5:=hid (HRg.out.keep hb5);have HQ5:=hid hR5';have HM5:=hid hM5';have hbw:=hid (hW3.out.trans (hb5.mono hw3));have NZ:=hid (block_not HRg.out.msgs (g:=wr.heap.size) (.inr (Nat.le_refl _)));have HZ5:=hid hZ5;have hs5:=hb5.size;have hsw5:=hbw.out.size;clear hW5 hZ2 hY2 hb4 hR5 hM5 hF5 hF6 hG5 hG6 z0 z1 z2 z3 z4 y0 y1 y2 y3 y4 x0 x1 x2 u0 u1 u2 e0 e1 e2 e3 e4 hR5' hM5';obtain⟨x0,x1,x2⟩:=hY5.cells3';have hml:ml.length<=300:=by
          have h1:=congrArg List.length hm3.out;have h2:=sendsOf_take_le l t;rw[List.length_map,r3]at h1;omega
         obtain⟨i8,hi8,hy0,hy1,hy2⟩:=info_parts info28;obtain⟨Am,cm,rfl,hcm⟩:=own_slice HS5.out.msgs;clear hZ5 hY5
         go_upto_region 36 with (first
          | (at_builtin;go_loud (
             refine wpList_append_lies _ (by rfl) _ _ 39 (by rfl) w.heap.size 28 i8 _ 3 56 underlying39 hi8 hy0 hy1 hy2 rfl (by omega) (.slice Am ml.length cm) ml.length (encMs ml) (by rfl) (HS5.out.msgs.alloc _)
              ⟨W5.heap.size,0,none⟩ 1 1 [.int .i64 (Rp.message v.r).src,.slice M5 N5 C5,.slice M6 N6 C6] (by first|rfl|(simp[go_sem];done)) (by first|rfl|(simp[go_sem];done))
              (World.news_of_block (cs:=#[.int .i64 (Rp.message v.r).src,.slice M5 N5 C5,.slice M6 N6 C6]) (t:=28) (fr:=(0,0)) (heap_alloc_new W5 _)) (by simp[Value.oneCell'])
              (by omega) (by simp only[maxLen];omega) (by omega) (by simp;omega) (W5.heap.size+1) (by simp) ?_
             intro g' cap' w7 hown7 hgrow hat hlt7))
          | fail)
         have HPush:=hid (HS5.out.push ⟨Rp.message v.r,M5,N5,C5,M6,N6,C6⟩ HM5.out hNC HA7.out HA8.out ((Below.refl W5.heap.size W5).alloc (Nat.le_refl _) (.cells #[.int .i64 (Rp.message v.r).src,.slice M5 N5 C5,.slice M6 N6 C6] 28)) hgrow hown7 (hat.imp id (λh=>by simp at h ⊢;omega)));have hfin:=hid (show Below w.heap.size w w7 from(hbw.out.alloc hsw5 _).grown hgrow (by simp;omega) (λj hj=>(HS5.out.msgs.lt j hj).1));have HZ7:=hid (show Blk w7 wr.heap.size 26 _ from(hgrow.block wr.heap.size (by simp;omega) NZ.out).trans (HZ5.out.alloc _));have hsz7:=hgrow.size;have hb6:=(Below.refl W5.heap.size W5).alloc (Nat.le_refl _) (.cells #[.int .i64 (Rp.message v.r).src,.slice M5 N5 C5,.slice M6 N6 C6] 28);have hat':(Value.slice Am ml.length cm).ownBlock=some g'∨(W5.alloc (.cells #[.int .i64 (Rp.message v.r).src,.slice M5 N5 C5,.slice M6 N6 C6] 28)).heap.size<=g':=hat.imp id (λh=>by simp at h ⊢;omega);have HQ7:=hid (show RepR w7 w7.heap.size (Rp.told v.r) A5 n5 A6 n6 from((HQ5.out.below hb6).grown hgrow (by simp) (λhk a ha e=>(HA5.out hk a ha).2 e.symm) (λhk a ha e=>(HA6.out hk a ha).2 e.symm)).more (by simp at hsz7;omega));have HA9:=hid (apt_push (n':=ml.length+1) (c':=cap') HA5.out HQ5.out.posts (by simp) hat');have HA10:=hid (apt_push (n':=ml.length+1) (c':=cap') HA6.out HQ5.out.heard (by simp) hat');have hlen7:(ml++[(⟨Rp.message v.r,M5,N5,C5,M6,N6,C6⟩:MV)]).length=ml.length+1:=by simp
         obtain⟨z0,z1,z2,z3,z4⟩:=HZ7.out.cells5;obtain⟨q0,q1,q2,q3,q4⟩:=HPush.out.repCells HVm.out;have t0:=HPush.out.reps.frozenAt (who*5);have t1:=HPush.out.reps.frozenAt (who*5+1);have t2:=HPush.out.reps.frozenAt (who*5+2);have t3:=HPush.out.reps.frozenAt (who*5+3);have t4:=HPush.out.reps.frozenAt (who*5+4);rw[<- HWho.out]at q0 q1 q2 q3 q4;have hwl':who<rl'.length:=by rw[hln.out];exact hwl
         have HSet:=hid (HPush.out.setRep hwl' ⟨Rp.told v.r,A5,n5,c5,A6,n6,c6⟩ HQ7.out HA9.out HA10.out hcv);have HWw:=hid (show ww=who from HWho.out.symm);have Hact:=hid hact;clear hat' hb6 hown7 hgrow hat hact x0 x1 x2
         go_wp2_with fail
         go_roundw
         case rel =>
          refine⟨t+1,rl'.set who ⟨Rp.told v.r,A5,n5,c5,A6,n6,c6⟩,_,ml++[⟨Rp.message v.r,M5,N5,C5,M6,N6,C6⟩],by omega,rfl,by go_num,hid (by rw[<- hln.out];exact HSet.out),hid (by rw[List.length_set];exact hln.out),hid (by rw[HSu.out,Hact.out,HWw.out];show(Rp.runs k (l.take t)).reps.set who _=_;rw[hs3.out,List.map_set]),hid (by rw[HSu.out,Hact.out];show(Rp.runs k (l.take t)).msgs++_=_;rw[hm3.out,List.map_append];rfl),hid (by
           have hg0:=(HRg.out.reps.lt g rfl).1
           repeat(refine Below.setCell ?_ (by simp;omega) _)
           exact hfin.out)⟩
         case measure=>simp[intOf];omega
       | deliver ww aa =>
         simp only[moK,moA,moT]at c0 c2 c3;have hz0:=hZ1.out.lt;have haa:aa<ml.length:=by
          have h1:=congrArg List.length hm3.out;rw[List.length_map,r3]at h1;have h2:=hmo.2;omega
         obtain⟨u,hu⟩:∃u,ml[aa]?=some u:=⟨_,List.getElem?_eq_getElem haa⟩;have hml:ml.length<=1000:=by
          have h1:=congrArg List.length hm3.out;have h2:=sendsOf_take_le l t;rw[List.length_map,r3]at h1;omega
         obtain⟨hb,capb,rfl,hhb,hhl⟩:=hRep.out.msgs.form (by omega);obtain⟨m0,m1,m2⟩:=hRep.out.msgCells hu;have hgl:g<wr.heap.size:=(hRep.out.reps.lt g rfl).2;have hgz:g≠wr.heap.size:=by omega
         have hbz:b≠wr.heap.size:=by omega
         have hhz:hb≠wr.heap.size:=by omega
         have hgz':=hgz.symm;have hbz':=hbz.symm;have hhz':=hhz.symm;have hhl':hb<W1.heap.size:=by have:=hB1.out.size;omega
         have n0:=Eq.trans (hB1.out.cell (by exact lt_of_cell m0)) m0;have n1:=Eq.trans (hB1.out.cell (by exact lt_of_cell m1)) m1;have n2:=Eq.trans (hB1.out.cell (by exact lt_of_cell m2)) m2;clear m0 m1 m2;obtain⟨z0,z1,z2,z3,z4⟩:=hZ1.out.cells5;obtain⟨y0,y1,y2,y3,y4⟩:=hZ1.out.soft5;obtain⟨W2,hW2⟩:∃W2,W2=((((W1.setCell ⟨wr.heap.size,0,none⟩ (.int .i64 v.r.me)).setCell ⟨wr.heap.size,1,none⟩ (.int .i64 v.r.many)).setCell ⟨wr.heap.size,2,none⟩ (.int .i64 v.r.clock)).setCell ⟨wr.heap.size,3,none⟩ (.slice v.A v.n v.c)).setCell ⟨wr.heap.size,4,none⟩ (.slice v.A' v.n' v.c'):=⟨_,rfl⟩;have HB2:=hid (show Below wr.heap.size wr W2 by
          rw[hW2]
          repeat(refine Below.setCell ?_ (by simp) _)
          exact hB1.out)
         have HZ2:=hid (show Blk W2 wr.heap.size 26 #[.int .i64 v.r.me,.int .i64 v.r.many,.int .i64 v.r.clock,.slice v.A v.n v.c,.slice v.A' v.n' v.c'] by
          rw[hW2];exact((((hZ1.out.set_ 0 _).set_ 1 _).set_ 2 _).set_ 3 _).set_ 4 _)
         go_upto_region 28 with (fail)
         rw[<- hW2];have back:∀{q:Addr} {x:Value},q.block<wr.heap.size->W1.cell? q=some x->W2.cell? q=some x:=λhq hx=>(HB2.out.cell hq).trans ((hB1.out.cell hq).symm.trans hx)
         have k2:=back (by exact hbl) c2;have k0:=back (by exact hhl) n0;have k1:=back (by exact hhl) n1;have k3:=back (by exact hhl) n2;have HMsg:=hid (hRep.out.msg u (List.mem_of_getElem? hu)).1;have HCap:=hid (hRep.out.msg u (List.mem_of_getElem? hu)).2.1;have HU:=hid hu;have HWw:=hid (show ww=who from HWho.out.symm);clear back c0 c2 c3 n0 n1 n2 d0 d1 d2 d3 d4 z0 z1 z2 z3 z4 y0 y1 y2 y3 y4 hW2 hu
         by_cases hsrc:u.m.src=(who:Int)
         ·have HS5:=hid (HRg.out.keep HB2.out)
          have hwl':who<rl'.length:=by rw[hln.out];exact hwl
          have hvin:=List.mem_of_getElem? HVm.out;have HKv:=hid (HS5.out.rep v hvin);have HSet:=hid (HS5.out.setRep hwl' v HKv.out.1 HKv.out.2.1 HKv.out.2.2 hvc);have HSame:=hid (set_self (by rw[HWho.out];exact HVm.out):rl'.set who v=rl');have Hact:=hid (act_deliver_own (a:=aa) hm3.out HU.out (by rw[HWw.out];exact hsrc):Rp.act (Rp.runs k (l.take t)) (.deliver ww aa)=Rp.runs k (l.take t));have hbw:=hid (hW3.out.trans (HB2.out.mono hw3));obtain⟨z0,z1,z2,z3,z4⟩:=HZ2.out.cells5;obtain⟨q0,q1,q2,q3,q4⟩:=HS5.out.repCells HVm.out;have t0:=HS5.out.reps.frozenAt (who*5);have t1:=HS5.out.reps.frozenAt (who*5+1);have t2:=HS5.out.reps.frozenAt (who*5+2);have t3:=HS5.out.reps.frozenAt (who*5+3);have t4:=HS5.out.reps.frozenAt (who*5+4);rw[<- HWho.out]at q0 q1 q2 q3 q4;clear hvin
          go_wp2_with fail
          go_roundw
          case rel =>
           refine⟨t+1,rl'.set who v,_,ml,by omega,rfl,by go_num,hid (by rw[<- hln.out];exact HSet.out),hid (by rw[List.length_set];exact hln.out),hid (by rw[HSu.out,Hact.out,HSame.out];exact hs3.out),hid (by rw[HSu.out,Hact.out];exact hm3.out),hid (by
            have hg0:=(HRg.out.reps.lt g rfl).1
            repeat(refine Below.setCell ?_ (by simp;omega) _)
            exact hbw.out)⟩
          case measure=>simp[intOf];omega
         ·have HCall:=hid (rhear_any W2.drew v.r v.A v.n v.c v.A' v.n' v.c' u.m u.M u.N u.C u.M' u.N' u.C' (((HVr.out.below HB2.out).more HB2.out.size).below (Below.refl _ _).drew) (((HMsg.out.below HB2.out).more HB2.out.size).below (Below.refl _ _).drew) hvc HCap.out)
          unfold GotRep zeroRep repV msgV at HCall;obtain⟨z0,z1,z2,z3,z4⟩:=HZ2.out.cells5;obtain⟨y0,y1,y2,y3,y4⟩:=HZ2.out.soft5;cases hwr:Rp.hear v.r u.m with
          | none =>
            rw[hwr]at HCall;simp only at HCall
            go_upto_region 29 with (fail)
            go_region_with (first
             | (go_at_call 26
                refine HCall.out.mono ?_;rintro e w4 ⟨hb4,rfl⟩;have hb6:Below W2.heap.size W2 w4:=(Below.refl _ _).drew.trans hb4;obtain⟨x0,x1,x2,x3,x4⟩:=(HZ2.out.below hb6 HZ2.out.lt).cells5;obtain⟨f0,f1,f2,f3,f4⟩:=(HZ2.out.below hb6 HZ2.out.lt).soft5))
            all_goals
             clear z0 z1 z2 z3 z4 y0 y1 y2 y3 y4 x0 x1 x2 x3 x4 f0 f1 f2 f3 f4 k0 k1 k2 k3;have hbz0:=hid (HB2.out.trans (hb6.mono HB2.out.size));have hact:=hid ((act_deliver_other (who:=ww) hs3.out (by exact HVm.out) hm3.out HU.out (by rw[HWw.out];exact hsrc)).trans (by rw[hwr]):Rp.act (Rp.runs k (l.take t)) (.deliver ww aa)=Rp.runs k (l.take t));clear hwr
             go_wp2_with fail
             go_roundw
             case rel =>
              refine⟨t+1,rl',_,ml,by omega,rfl,by go_num,hid (hRep.out.keep ?_),hln,hid (by rw[HSu.out,hact.out];exact hs3.out),hid (by rw[HSu.out,hact.out];exact hm3.out),hid (hW3.out.trans (Below.mono (?_:Below wr.heap.size wr _) hw3))⟩
              ·repeat(refine Below.setCell ?_ (by simp) _)
               exact hbz0.out
              ·repeat(refine Below.setCell ?_ (by simp) _)
               exact hbz0.out
             case measure=>simp[intOf];omega
          | some r' =>
            rw[hwr]at HCall;simp only at HCall
            go_upto_region 29 with (fail)
            go_region_with (first
             | (go_at_call 26
                refine HCall.out.mono ?_;rintro e w4 ⟨hb4,A5,n5,c5,A6,n6,c6,rfl,hR5,hF5,hF6,hcv⟩;have hb6:Below W2.heap.size W2 w4:=(Below.refl _ _).drew.trans hb4;obtain⟨x0,x1,x2,x3,x4⟩:=(HZ2.out.below hb6 HZ2.out.lt).cells5;obtain⟨f0,f1,f2,f3,f4⟩:=(HZ2.out.below hb6 HZ2.out.lt).soft5))
            all_goals
             clear z0 z1 z2 z3 z4 y0 y1 y2 y3 y4 x0 x1 x2 x3 x4 f0 f1 f2 f3 f4 k0 k1 k2 k3;have hbz0:=hid (HB2.out.trans (hb6.mono HB2.out.size));have hact:=hid ((act_deliver_other (who:=ww) hs3.out (by exact HVm.out) hm3.out HU.out (by rw[HWw.out];exact hsrc)).trans (by rw[hwr]):Rp.act (Rp.runs k (l.take t)) (.deliver ww aa)=(Rp.runs k (l.take t)).set ww r');obtain⟨W5,hW5⟩:∃W5,W5=((((w4.setCell ⟨wr.heap.size,0,none⟩ (.int .i64 r'.me)).setCell ⟨wr.heap.size,1,none⟩ (.int .i64 r'.many)).setCell ⟨wr.heap.size,2,none⟩ (.int .i64 r'.clock)).setCell ⟨wr.heap.size,3,none⟩ (.slice A5 n5 c5)).setCell ⟨wr.heap.size,4,none⟩ (.slice A6 n6 c6):=⟨_,rfl⟩;rw[<- hW5];have hs64:=hb6.size;have hs2w:=HB2.out.size;have hzw:=HZ2.out.lt;have hb5:Below wr.heap.size wr W5:=by
              rw[hW5]
              repeat(refine Below.setCell ?_ (by simp) _)
              exact hbz0.out
             have hsz5:W5.heap.size=w4.heap.size:=by rw[hW5];simp only[size_setCell]
             have hZ5:Blk W5 wr.heap.size 26 #[.int .i64 r'.me,.int .i64 r'.many,.int .i64 r'.clock,.slice A5 n5 c5,.slice A6 n6 c6]:=by
              rw[hW5];exact(((((HZ2.out.below hb6 HZ2.out.lt).set_ 0 _).set_ 1 _).set_ 2 _).set_ 3 _).set_ 4 _
             have hR5':RepR W5 W5.heap.size r' A5 n5 A6 n6:=by
              rw[hsz5,hW5]
              repeat(refine RepR.far0 ?_ (λ_ a e=>by have:=hF5 a e;have e1:W2.drew.heap.size=W2.heap.size:=rfl;simp only;omega) (λ_ a e=>by have:=hF6 a e;have e1:W2.drew.heap.size=W2.heap.size:=rfl;simp only;omega) _)
              exact hR5
             have HA5:=hid (Fresh.apt (n:=n5) HRg.out (A:=A5) (λa e=>by have:=hF5 a e;have e1:W2.drew.heap.size=W2.heap.size:=rfl;omega));have HA6:=hid (Fresh.apt (n:=n6) HRg.out (A:=A6) (λa e=>by have:=hF6 a e;have e1:W2.drew.heap.size=W2.heap.size:=rfl;omega));have HS5:=hid (HRg.out.keep hb5);have HQ5:=hid hR5';have hbw:=hid (hW3.out.trans (hb5.mono hw3));obtain⟨z0,z1,z2,z3,z4⟩:=hZ5.cells5;obtain⟨q0,q1,q2,q3,q4⟩:=HS5.out.repCells HVm.out;have t0:=HS5.out.reps.frozenAt (who*5);have t1:=HS5.out.reps.frozenAt (who*5+1);have t2:=HS5.out.reps.frozenAt (who*5+2);have t3:=HS5.out.reps.frozenAt (who*5+3);have t4:=HS5.out.reps.frozenAt (who*5+4);rw[<- HWho.out]at q0 q1 q2 q3 q4;have hwl':who<rl'.length:=by rw[hln.out];exact hwl
             have HSet:=hid (HS5.out.setRep hwl' ⟨r',A5,n5,c5,A6,n6,c6⟩ HQ5.out HA5.out HA6.out hcv);clear hW5 hb5 hZ5 hR5' hR5 hF5 hF6 hb6 hb4 hwr
             go_wp2_with fail
             go_roundw
             case rel =>
              refine⟨t+1,rl'.set who ⟨r',A5,n5,c5,A6,n6,c6⟩,_,ml,by omega,rfl,by go_num,hid (by rw[<- hln.out];exact HSet.out),hid (by rw[List.length_set];exact hln.out),hid (by rw[HSu.out,hact.out,HWw.out];show(Rp.runs k (l.take t)).reps.set who r'=_;rw[hs3.out,List.map_set]),hid (by rw[HSu.out,hact.out];exact hm3.out),hid (by
               have hg0:=(HRg.out.reps.lt g rfl).1
               repeat(refine Below.setCell ?_ (by simp;omega) _)
               exact hbw.out)⟩
             case measure=>simp[intOf];omega
      ·have htj:t=j:=by omega
       have hge:¬((t:Int)<(j:Int)):=by omega
       have hfin:=hid (show(Rp.runs k l).reps=rl'.map (·.r) by
        have:=hs3.out;rw[htj,List.take_of_length_le (by rw[HL.out];omega)]at this;exact this)
       go_wp2_with fail
       exact bodyPost_ret (v:=.tuple #[.slice Ab rl.length cb,.int .i64 0]) (by simp[results,results7,go_sem]) rfl ⟨_,rfl,rl',⟨_,ml,hR3.out⟩,hfin.out,hW3.out⟩
end
end Go.Proofs.YtnehgpeelgjjhaaGreatDoor.Tw
