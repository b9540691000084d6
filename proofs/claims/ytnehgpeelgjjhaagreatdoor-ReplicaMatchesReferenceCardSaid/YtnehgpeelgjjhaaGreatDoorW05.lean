/- Contracts of functions of the program, and plain laws, towards the laws of replicas. Joined of the texts: Valid, Log2, Valid2, App, Clone, Own, Right, RFB. -/
import Derived.Test.YtnehgpeelgjjhaaGreatDoorW04
import Derived.Maps.AppendAt
import Derived.Deep.AppendLies
import Derived.RegionTactic
import Derived.OwnWalk
import Derived.RangeFuncBound
set_option linter.all false
set_option maxRecDepth 100000
set_option maxHeartbeats 12800000
open Go.Lib (hid)
namespace Go.Proofs.YtnehgpeelgjjhaaGreatDoor.Tw
open Go.Proofs.Tryz
section
open Go.RowKit
theorem enters_of {F:FuncId}{fn:Func}{c:Code}(hf:prog.funcs[F]?=some fn)(hn:(fn.name == "runtime.NumGoroutine")=false)(hb:fn.body=some c):Enters F:=by
 intro args w;have h1:fn.name ≠ "runtime.NumGoroutine" := by simpa using hn
 simp[callFunc,hf,h1,hb]
theorem inr_any (n lo hi:Int)(w:World):Calls prog 54 #[.int .i64 n,.int .i64 lo,.int .i64 hi] w λe w'=>e=.returned (.bool (Rp.inr n lo hi))/\w=w':=in_any n lo hi w
theorem heard1_any (x most:Int)(b:Nat)(w:World)(hc:w.cell? ⟨b,0,none⟩=some (.int .i64 most)) :
 Calls prog 86 #[.int .i64 x,.pointer (some ⟨b,0,none⟩)] w λe w'=>e=.returned (.bool (!Rp.inr x 0 most))/\w=w':=by
 go_enter func86,ntmps86
 go_wp2_with (go_at_call 54;refine(inr_any _ _ _ _).mono ?_;rintro e w' ⟨rfl,rfl⟩)
 go_ret;exact⟨rfl,rfl⟩
theorem enters86 :Enters 86:=enters_of func86 (by kernel_rfl) rfl
theorem enters58 :Enters 58:=enters_of func58 (by kernel_rfl) rfl
theorem run_mf :∀(fn:Fn) (first cap:Array Value) (w:World),(Instr.makeFunc fn first cap).run prog w=.ok (.func fn first cap) w:=λ_ _ _ _=>rfl
theorem isHeard_any (w:World)(A:Option Addr)(n c:Nat)(xs:List Int)(many most:Int)
 (hx:Reads w w.heap.size 1 A n (xs.map (Value.int .i64))) (hn:n<=16777216) :
 Calls prog 55 #[.slice A n c,.int .i64 many,.int .i64 most] w λe w'=>e=.returned (.bool (Rp.isHeard xs many most))/\Below w.heap.size w w':=by
 have hlen:xs.length=n:=by have:=hx.1;simpa using this
 have hmf:=run_mf;have hpure:Rp.isHeard xs many most=(decide ((n:Int)=many)&&!anyB (λi=>!Rp.inr (xs.getD i 0) 0 most) n):=by
  rw[<- hlen,anyB_list xs 0 (λx=>!Rp.inr x 0 most)];unfold Rp.isHeard
  congr 1
  rw[List.not_any_eq_all_not];simp
 have HP:=hid hpure;clear hpure;have hb0:Below w.heap.size w (w.alloc (.cells #[.int .i64 most] 3)):=(Below.refl _ _).alloc (Nat.le_refl _) _;have hx':Reads (w.alloc (.cells #[.int .i64 most] 3)) (w.alloc (.cells #[.int .i64 most] 3)).heap.size 1 A n (xs.map (Value.int .i64)):=(hx.below hb0).more (by simp);have ht:Tells (w.alloc (.cells #[.int .i64 most] 3)) 86 #[.pointer (some ⟨w.heap.size,0,none⟩)] (λi=>#[.int .i64 (xs.getD i 0)]) (λi=>!Rp.inr (xs.getD i 0) 0 most) n:=by
  refine⟨enters86,λi _ w1 hb=>(heard1_any _ most w.heap.size w1 ?_).mono λe w2 ⟨h1,h2⟩=>⟨h1,h2▸Below.refl _ _⟩⟩;rw[hb.cell (p:=⟨w.heap.size,0,none⟩) (by simp)];simp
 have HC:=hid (containsInt _ A n c xs 86 _ _ hx' hn ht);clear hx ht hx';have HB:=hid hb0;clear hb0
 by_cases hm:(n:Int)=many
 ·have hm':((n:Int)==many)=true:=by simpa using hm
  have HM:=hid hm;clear hm
  go_enter func55,ntmps55
  go_wp2_with (go_at_call 85;refine HC.out.mono ?_;rintro e w' ⟨rfl,hb⟩)
  go_ret;exact⟨ret_bool (by rw[HP.out];simp[HM.out]),HB.out.trans (hb.mono (by simp))⟩
 ·have hm':((n:Int)==many)=false:=by simpa using hm
  have HM:=hid hm;clear hm
  go_enter func55,ntmps55
  go_wp2;go_ret;exact⟨ret_bool (by rw[HP.out];simp[HM.out]),HB.out⟩
end
section
open Go.RowKit
theorem cmp3_before (p q:Rp.Post):Rp.before p q=decide (cmp3 p.epoch p.origin p.number q.epoch q.origin q.number<0):=by
 rw[Bool.eq_iff_iff,decide_eq_true_eq,Rp.before_iff];unfold cmp3 or3 cmpI
 split<;>split<;>(try split)<;>(try split)<;>omega
theorem drop_at {l:List Rp.Post}{j:Nat}{q:Rp.Post}(h:l[j]?=some q):l.drop j=q::l.drop (j+1)/\l.take (j+1)=l.take j++[q]:=by
 obtain⟨hlt,rfl⟩:=List.getElem?_eq_some_iff.1 h;exact⟨List.drop_eq_getElem_cons hlt,by rw[List.take_succ_eq_append_getElem hlt]⟩
theorem logGo_at {many:Int}{l:List Rp.Post}{j:Nat}{q:Rp.Post}(h:l[j]?=some q) :
 Rp.logGo many (l.take j) (l.drop j)=(Rp.stepOk many (l.take j) q&&Rp.logGo many (l.take (j+1)) (l.drop (j+1))):=by
 obtain⟨h1,h2⟩:=drop_at h;rw[h1,h2];rfl
theorem linked_at {l:List Rp.Post}{j:Nat}{p q:Rp.Post}(hp:l[j - 1]?=some p)(hj:0<j):Rp.linked (l.take j) q=Rp.before p q:=by
 obtain⟨j,rfl⟩:∃i,j=i+1:=⟨j - 1,by omega⟩;simp at hp;rw[(drop_at hp).2];simp[Rp.linked]
def C (l:List Rp.Post)(j:Nat)(o:Nat):Int:=Rp.count (l.take j) o
def L (l:List Rp.Post)(j:Nat)(o:Nat):Int:=Rp.lastE (l.take j) o
theorem C_succ {l:List Rp.Post}{j:Nat}{q:Rp.Post}(h:l[j]?=some q)(o:Nat):C l (j+1) o=C l j o+if q.origin=o then 1 else 0:=by
 unfold C;rw[(drop_at h).2,Rp.count_snoc]
theorem L_succ {l:List Rp.Post}{j:Nat}{q:Rp.Post}(h:l[j]?=some q)(o:Nat):L l (j+1) o=if q.origin=o then q.epoch else L l j o:=by
 unfold L;rw[(drop_at h).2,Rp.lastE_snoc]
theorem C_le (l:List Rp.Post)(j o:Nat):0<=C l j o/\C l j o<=j:=by
 unfold C Rp.count;have h1:(Rp.own (l.take j) o).length<=(l.take j).length:=List.length_filter_le _ _;have h2:(l.take j).length<=j:=List.length_take_le _ _;omega
theorem isLog_any (w:World)(A:Option Addr)(n c:Nat)(l:List Rp.Post)(many:Int)
 (hx:Reads w w.heap.size 4 A n (encPs l)) (hl:l.length=n) (hm1:1<=many) (hm5:many<=5) (hn:n<=16777216) :
 Calls prog 56 #[.slice A n c,.int .i64 many] w λe w'=>e=.returned (.bool (Rp.isLog l many))/\Below w.heap.size w w':=by
 have HX:=hid hx;clear hx;have HL:=hid hl;clear hl
 by_cases h200:200<n
 ·have hr:Rp.isLog l many=false:=by unfold Rp.isLog;rw[HL.out];simp;omega
  have HR:=hid hr;clear hr
  go_enter func56,ntmps56
  go_wp2;go_ret;exact⟨ret_bool HR.out.symm,Below.refl _ _⟩
 ·have hr:Rp.isLog l many=Rp.logGo many [] l:=by unfold Rp.isLog;rw[HL.out];simp;omega
  have HR:=hid hr;clear hr
  go_enter func56,ntmps56
  go_wp2
  go_loopw [7,8,16] (λ_ _ k wr=>∃j:Nat,j<=n/\k=.int .i64 j/\Hid (Rp.isLog l many=Rp.logGo many (l.take j) (l.drop j))/\Below w.heap.size w wr /\
   Blk wr w.heap.size 88 (Row5 (C l j))/\Blk wr (w.heap.size+1) 88 (Row5 (L l j))) (λ_ _ k _=>n - (intOf k).toNat)
  case atStart =>
   refine⟨0,by omega,rfl,HR,(((Below.refl _ _).alloc (Nat.le_refl _) _).alloc (by simp) _),?_,?_⟩
   ·exact(Blk.new w _ _).alloc _
   ·have hbn:=Blk.new (w.alloc (.cells #[.int .i64 0,.int .i64 0,.int .i64 0,.int .i64 0,.int .i64 0] 88)) 88 #[.int .i64 0,.int .i64 0,.int .i64 0,.int .i64 0,.int .i64 0]
    simp only[World.size_alloc]at hbn;exact hbn
  case round =>
   obtain⟨j,hj,rfl,hf,hb,hC,hL⟩:=hrel
   by_cases hlt:j<n
   ·obtain⟨b,off,q,rfl,hbl,hq,h0,h1,h2,h3⟩:=HX.out.post HL.out hlt
    rw[<- hb.cell (p:=⟨b,_,none⟩) hbl]at h0 h1 h2 h3;have hgo:=logGo_at (many:=many) hq;rw[<- hf.out]at hgo;have HG:=hid hgo;clear hgo hf HR;have HQ:=hid hq;clear hq;have hbs:=hb.size;have hcs:=hC.lt;have hls:=hL.lt
    by_cases e1:Rp.inr q.epoch 1 1000000=true
    ·by_cases e2:Rp.inr q.origin 0 (many - 1)=true
     ·by_cases e3:(20000:Int)<(q.text.size:Int)
      ·go_wp2_with (go_at_call 54;refine(inr_any _ _ _ _).mono ?_;rintro e w' ⟨rfl,rfl⟩)
       go_ret;refine⟨ret_bool ?_,hb.alloc hbs _⟩;rw[HG.out];have:decide (q.text.size<=20000)=false:=by simp;omega
       simp[Rp.stepOk,Rp.formed,this]
      ·obtain⟨ep,og,nu,tx⟩:=q
       simp only at h0 h1 h2 h3 e1 e2 e3;have e2b:=Rp.inr_iff.1 e2;obtain⟨k,rfl⟩:∃k:Nat,og=k:=⟨og.toNat,by omega⟩;have hk5:k<5:=by omega
       have hCk:wr.cell? ⟨w.heap.size,k,none⟩=some (.int .i64 (C l j k)):=(hC.cell k).trans (Row5.get hk5);have hLk:wr.cell? ⟨w.heap.size+1,k,none⟩=some (.int .i64 (L l j k)):=(hL.cell k).trans (Row5.get hk5);have hne:Rp.isLog l many=((Rp.linked (l.take j) ⟨ep,k,nu,tx⟩&&(decide (nu=C l j k)&&decide (L l j k<ep)))&&Rp.logGo many (l.take (j+1)) (l.drop (j+1))):=by
        rw[HG.out];have:decide (tx.size<=20000)=true:=by simp;omega
        unfold Rp.stepOk Rp.formed;simp only[e1,e2,this,Bool.true_and,Bool.and_true];rfl
       have HN:=hid hne;clear hne HG;obtain⟨W0,hW0⟩:∃W0,W0=wr.alloc (.cells #[.int .i64 ep,.int .i64 k,.int .i64 nu,.string tx] 57):=⟨_,rfl⟩;have hs0:W0.heap.size=wr.heap.size+1:=by rw[hW0];simp
       have hbW:Below w.heap.size w W0:=by rw[hW0];exact hb.alloc hbs _
       have hCW:Blk W0 w.heap.size 88 (Row5 (C l j)):=by rw[hW0];exact hC.alloc _
       have hLW:Blk W0 (w.heap.size+1) 88 (Row5 (L l j)):=by rw[hW0];exact hL.alloc _
       have hBW:Blk W0 wr.heap.size 57 #[.int .i64 ep,.int .i64 k,.int .i64 nu,.string tx]:=by rw[hW0];exact Blk.new _ _ _
       have kB0:=Later.of (hBW.cell 0);have kB1:=Later.of (hBW.cell 1);have kB2:=Later.of (hBW.cell 2);have kB3:=Later.of (hBW.cell 3);have kC:=Later.of ((hCW.cell k).trans (Row5.get hk5));have kL:=Later.of ((hLW.cell k).trans (Row5.get hk5));have HW0:=hid hW0
       by_cases hj0:j=0
       ·have hlk:Rp.linked (l.take j) ⟨ep,k,nu,tx⟩=true:=by subst hj0;rfl
        have HK:=hid hlk;clear hlk;have hjn:decide (0<j)=false:=by simp;omega
        clear hj0
        by_cases g1:nu=C l j k
        ·have g1':(nu != C l j k)=false:=by simpa using g1
         have G1:=hid g1;clear g1
         by_cases g2:ep<=L l j k
         ·have g2':decide (ep<=L l j k)=true:=by simpa using g2
          have hx2:¬L l j k<ep:=by omega
          have G2:=hid hx2;clear hx2 g2
          go_wp2_with (go_at_call 54;refine(inr_any _ _ _ _).mono ?_;rintro e w' ⟨rfl,rfl⟩)
          rw[<- HW0.out];refine wp_region_later (by kernel_rfl) (by kernel_rfl) ?_
          repeat(go_big_quiet_step (fail))
          refine wpQuiet_nil ?_;rintro W1 ⟨⟨_,hW1⟩,rfl⟩;clear kB0 kB1 kB2 kB3 kC kL;go_wp2;go_ret;exact⟨ret_bool (by rw[HN.out,HK.out,decide_eq_false (show ¬_<ep from by have:=G2.out;omega)];simp),hbW.trans (hW1.mono hbW.size)⟩
         ·have g2':decide (ep<=L l j k)=false:=by simpa using g2
          have hx2:L l j k<ep:=by omega
          have G2:=hid hx2;clear hx2 g2
          go_wp2_with (go_at_call 54;refine(inr_any _ _ _ _).mono ?_;rintro e w' ⟨rfl,rfl⟩)
          rw[<- HW0.out];refine wp_region_later (by kernel_rfl) (by kernel_rfl) ?_
          repeat(go_big_quiet_step (fail))
          refine wpQuiet_nil ?_;rintro W1 ⟨⟨_,hW1⟩,rfl⟩;have B1:=kB1 ⟨W1,hW1⟩;have B0:=kB0 ⟨W1,hW1⟩;simp only at B0 B1;clear kB0 kB1 kB2 kB3 kC kL;have hC1:=hCW.below hW1 hCW.lt;have hL1:=hLW.below hW1 hLW.lt;have hsz:=hW1.size;have c1:=(hC1.cell k).trans (Row5.get hk5);have l1:=(hL1.cell k).trans (Row5.get hk5);have f1:=hC1.frozen k;have f2:=hL1.frozen k;obtain⟨cb0,cb1⟩:=C_le l j k;go_wp2;go_roundw
          case rel =>
           refine⟨j+1,by omega,by go_num,?_,?_,?_,?_⟩
           ·unfold Hid;rw[HN.out,HK.out,<- G1.out];simp[G2.out]
           ·exact((hbW.trans (hW1.mono hbW.size)).setCell (p:=⟨w.heap.size,k,none⟩) (Nat.le_refl _) _).setCell (p:=⟨w.heap.size+1,k,none⟩) (by simp) _
           ·have h:=(hC1.set_ k (.int .i64 (C l j k+1))).far (p:=⟨w.heap.size+1,k,none⟩) (by simp) (.int .i64 ep)
            rw[Row5.set (g:=C l (j+1)) hk5 (by rw[C_succ HQ.out];simp) (λo _ ho=>by rw[C_succ HQ.out];simp;omega)]at h;exact h
           ·have h:=((hL1.far (p:=⟨w.heap.size,k,none⟩) (by simp) (.int .i64 (C l j k+1)))).set_ k (.int .i64 ep)
            rw[Row5.set (g:=L l (j+1)) hk5 (by rw[L_succ HQ.out];simp) (λo _ ho=>by rw[L_succ HQ.out];simp;omega)]at h;exact h
          case measure=>simp[intOf];omega
        ·have g1':(nu != C l j k)=true:=by simpa using g1
         have G1:=hid g1;clear g1
         go_wp2_with (go_at_call 54;refine(inr_any _ _ _ _).mono ?_;rintro e w' ⟨rfl,rfl⟩)
         rw[<- HW0.out];refine wp_region_later (by kernel_rfl) (by kernel_rfl) ?_
         repeat(go_big_quiet_step (fail))
         refine wpQuiet_nil ?_;rintro W1 ⟨⟨_,hW1⟩,rfl⟩;clear kB0 kB1 kB2 kB3 kC kL;go_wp2;go_ret;exact⟨ret_bool (by rw[HN.out,HK.out];simp[G1.out]),hbW.trans (hW1.mono hbW.size)⟩
       ·have hjn:decide (0<j)=true:=by simp;omega
        obtain⟨b',off',q',hbo,hbl',hq',c0,c1,c2,c3⟩:=HX.out.post HL.out (show j - 1<n by omega);obtain⟨rfl,rfl⟩:b=b'/\off=off':=by simpa using hbo
        clear hbo;have hlk:=linked_at (q:=⟨ep,k,nu,tx⟩) hq' (show 0<j by omega);rw[cmp3_before]at hlk;simp only at hlk;rw[<- hbW.cell (p:=⟨b,_,none⟩) hbl]at c0 c1 c2 c3;obtain⟨i,rfl⟩:∃i,j=i+1:=⟨j - 1,by omega⟩;simp only[Nat.add_sub_cancel]at c0 c1 c2 c3;have k0:=Later.of c0;have k1:=Later.of c1;have k2:=Later.of c2;have k3:=Later.of c3;clear c0 c1 c2 c3 hq'
        by_cases g0:cmp3 q'.epoch q'.origin q'.number ep k nu<0
        ·have g0':decide (0<=cmp3 q'.epoch q'.origin q'.number ep k nu)=false:=by simp;omega
         have hlk2:Rp.linked (l.take (i+1)) ⟨ep,k,nu,tx⟩=true:=by rw[hlk];simpa using g0
         have HK:=hid hlk2;clear hlk hlk2 g0
         by_cases g1:nu=C l (i+1) k
         ·have g1':(nu != C l (i+1) k)=false:=by simpa using g1
          have G1:=hid g1;clear g1
          by_cases g2:ep<=L l (i+1) k
          ·have g2':decide (ep<=L l (i+1) k)=true:=by simpa using g2
           have hx2:¬L l (i+1) k<ep:=by omega
           have G2:=hid hx2;clear hx2 g2
           go_wp2_with (go_at_call 54;refine(inr_any _ _ _ _).mono ?_;rintro e w' ⟨rfl,rfl⟩)
           rw[<- HW0.out];refine wp_region_later (by kernel_rfl) (by kernel_rfl) ?_
           repeat(go_big_quiet_step ((go_at_call 64;exact later_of (postCompare_any _ _ _ _ _ _ _ _ _))))
           refine wpQuiet_nil ?_;rintro W1 ⟨⟨_,hW1⟩,rfl⟩;clear kB0 kB1 kB2 kB3 kC kL k0 k1 k2 k3;go_wp2;go_ret;exact⟨ret_bool (by rw[HN.out,HK.out,decide_eq_false (show ¬_<ep from by have:=G2.out;omega)];simp),hbW.trans (hW1.mono hbW.size)⟩
          ·have g2':decide (ep<=L l (i+1) k)=false:=by simpa using g2
           have hx2:L l (i+1) k<ep:=by omega
           have G2:=hid hx2;clear hx2 g2
           go_wp2_with (go_at_call 54;refine(inr_any _ _ _ _).mono ?_;rintro e w' ⟨rfl,rfl⟩)
           rw[<- HW0.out];refine wp_region_later (by kernel_rfl) (by kernel_rfl) ?_
           repeat(go_big_quiet_step ((go_at_call 64;exact later_of (postCompare_any _ _ _ _ _ _ _ _ _))))
           refine wpQuiet_nil ?_;rintro W1 ⟨⟨_,hW1⟩,rfl⟩;have B1:=kB1 ⟨W1,hW1⟩;have B0:=kB0 ⟨W1,hW1⟩;simp only at B0 B1;clear kB0 kB1 kB2 kB3 kC kL k0 k1 k2 k3;have hC1:=hCW.below hW1 hCW.lt;have hL1:=hLW.below hW1 hLW.lt;have hsz:=hW1.size;have c1:=(hC1.cell k).trans (Row5.get hk5);have l1:=(hL1.cell k).trans (Row5.get hk5);have f1:=hC1.frozen k;have f2:=hL1.frozen k;obtain⟨cb0,cb1⟩:=C_le l (i+1) k;go_wp2;go_roundw
           case rel =>
            refine⟨(i+1)+1,by omega,by go_num,?_,?_,?_,?_⟩
            ·unfold Hid;rw[HN.out,HK.out,<- G1.out];simp[G2.out]
            ·exact((hbW.trans (hW1.mono hbW.size)).setCell (p:=⟨w.heap.size,k,none⟩) (Nat.le_refl _) _).setCell (p:=⟨w.heap.size+1,k,none⟩) (by simp) _
            ·have h:=(hC1.set_ k (.int .i64 (C l (i+1) k+1))).far (p:=⟨w.heap.size+1,k,none⟩) (by simp) (.int .i64 ep)
             rw[Row5.set (g:=C l ((i+1)+1)) hk5 (by rw[C_succ HQ.out];simp) (λo _ ho=>by rw[C_succ HQ.out];simp;omega)]at h;exact h
            ·have h:=((hL1.far (p:=⟨w.heap.size,k,none⟩) (by simp) (.int .i64 (C l (i+1) k+1)))).set_ k (.int .i64 ep)
             rw[Row5.set (g:=L l ((i+1)+1)) hk5 (by rw[L_succ HQ.out];simp) (λo _ ho=>by rw[L_succ HQ.out];simp;omega)]at h;exact h
           case measure=>simp[intOf];omega
         ·have g1':(nu != C l (i+1) k)=true:=by simpa using g1
          have G1:=hid g1;clear g1
          go_wp2_with (go_at_call 54;refine(inr_any _ _ _ _).mono ?_;rintro e w' ⟨rfl,rfl⟩)
          rw[<- HW0.out];refine wp_region_later (by kernel_rfl) (by kernel_rfl) ?_
          repeat(go_big_quiet_step ((go_at_call 64;exact later_of (postCompare_any _ _ _ _ _ _ _ _ _))))
          refine wpQuiet_nil ?_;rintro W1 ⟨⟨_,hW1⟩,rfl⟩;clear kB0 kB1 kB2 kB3 kC kL k0 k1 k2 k3;go_wp2;go_ret;exact⟨ret_bool (by rw[HN.out,HK.out];simp[G1.out]),hbW.trans (hW1.mono hbW.size)⟩
        ·have g0':decide (0<=cmp3 q'.epoch q'.origin q'.number ep k nu)=true:=by simp;omega
         have hlk2:Rp.linked (l.take (i+1)) ⟨ep,k,nu,tx⟩=false:=by rw[hlk];simpa using g0
         have HK:=hid hlk2;clear hlk hlk2 g0
         go_wp2_with (go_at_call 54;refine(inr_any _ _ _ _).mono ?_;rintro e w' ⟨rfl,rfl⟩)
         rw[<- HW0.out];refine wp_region_later (by kernel_rfl) (by kernel_rfl) ?_
         repeat(go_big_quiet_step ((go_at_call 64;exact later_of (postCompare_any _ _ _ _ _ _ _ _ _))))
         refine wpQuiet_nil ?_;rintro W1 ⟨⟨_,hW1⟩,rfl⟩;clear kB0 kB1 kB2 kB3 kC kL k0 k1 k2 k3;go_wp2;go_ret;exact⟨ret_bool (by rw[HN.out,HK.out];simp),hbW.trans (hW1.mono hbW.size)⟩
     ·have e2':Rp.inr q.origin 0 (many - 1)=false:=by simpa using e2
      clear e2
      go_wp2_with (go_at_call 54;refine(inr_any _ _ _ _).mono ?_;rintro e w' ⟨rfl,rfl⟩)
      go_ret;refine⟨ret_bool ?_,hb.alloc hbs _⟩;rw[HG.out];simp[Rp.stepOk,Rp.formed,e2']
    ·have e1':Rp.inr q.epoch 1 1000000=false:=by simpa using e1
     clear e1
     go_wp2_with (go_at_call 54;refine(inr_any _ _ _ _).mono ?_;rintro e w' ⟨rfl,rfl⟩)
     go_ret;refine⟨ret_bool ?_,hb.alloc hbs _⟩;rw[HG.out];simp[Rp.stepOk,Rp.formed,e1']
   ·have h1:l.drop j=[]:=List.drop_eq_nil_iff.2 (by rw[HL.out];omega)
    go_wp2;go_ret;exact⟨ret_bool (by rw[hf.out,h1];rfl),hb⟩
end
section
open Go.RowKit
theorem valid1_any (p:Rp.Post)(b:Nat)(clock:Int)(w:World)(hc:w.cell? ⟨b,2,none⟩=some (.int .i64 clock)) :
 Calls prog 58 #[aggP p,.pointer (some ⟨b,0,none⟩)] w λe w'=>e=.returned (.bool (decide (clock<p.epoch)))/\Below w.heap.size w w':=by
 unfold aggP;have hlt:=lt_of_cell hc
 go_enter func58,ntmps58
 go_wp2;go_ret;exact⟨rfl,(Below.refl _ _).alloc (Nat.le_refl _) _⟩
def repV (r:Rp.Rep)(A:Option Addr)(n c:Nat)(A':Option Addr)(n' c':Nat):Value :=
 .agg #[.int .i64 r.me,.int .i64 r.many,.int .i64 r.clock,.slice A n c,.slice A' n' c']
structure RepR (w:World) (B:Nat) (r:Rp.Rep) (A:Option Addr) (n:Nat) (A':Option Addr) (n':Nat):Prop where
 posts:Reads w B 4 A n (encPs r.posts)
 len:r.posts.length=n
 heard:Reads w B 1 A' n' (r.heard.map (Value.int .i64))
 len':r.heard.length=n'
 few:n<=16777216
 few':n'<=16777216
theorem RepR.below {w w':World}{B:Nat}{r:Rp.Rep}{A A':Option Addr}{n n':Nat}(h:RepR w B r A n A' n')(hb:Below B w w'):RepR w' B r A n A' n' :=
 ⟨h.posts.below hb,h.len,h.heard.below hb,h.len',h.few,h.few'⟩
theorem RepR.more {w:World}{B B':Nat}{r:Rp.Rep}{A A':Option Addr}{n n':Nat}(h:RepR w B r A n A' n')(hB:B<=B'):RepR w B' r A n A' n' :=
 ⟨h.posts.more hB,h.len,h.heard.more hB,h.len',h.few,h.few'⟩
theorem any_not_all {l:List Rp.Post}{c:Int}:(l.any λp=>decide (c<p.epoch))=!(l.all λp=>decide (p.epoch<=c)):=by
 rw[List.not_all_eq_any_not]
 congr 1
 funext p
 by_cases h:c<p.epoch
 ·have:¬p.epoch<=c:=by omega
  simp[h,this]
 ·have:p.epoch<=c:=by omega
  simp[h,this]
theorem valid_any (w:World)(r:Rp.Rep)(A:Option Addr)(n c:Nat)(A':Option Addr)(n' c':Nat)(h:RepR w w.heap.size r A n A' n') :
 Calls prog 22 #[repV r A n c A' n' c'] w λe w'=>e=.returned (.bool (Rp.valid r))/\Below w.heap.size w w':=by
 have hmf:=run_mf;obtain⟨me,many,clock,posts,heard⟩:=r;unfold repV;simp only;obtain⟨W0,hW0⟩:∃W0,W0=w.alloc (.cells #[.int .i64 me,.int .i64 many,.int .i64 clock,.slice A n c,.slice A' n' c'] 26):=⟨_,rfl⟩;have hs0:W0.heap.size=w.heap.size+1:=by rw[hW0];simp
 have hbW:Below w.heap.size w W0:=by rw[hW0];exact(Below.refl _ _).alloc (Nat.le_refl _) _
 have hBW:Blk W0 w.heap.size 26 #[.int .i64 me,.int .i64 many,.int .i64 clock,.slice A n c,.slice A' n' c']:=by rw[hW0];exact Blk.new _ _ _
 have hR:=h.below hbW;have hR0:=hR.more (show w.heap.size<=W0.heap.size by omega);have H55:=hid (isHeard_any W0 A' n' c' heard many clock hR0.heard h.few');have L56:∀w1,Below W0.heap.size W0 w1->1<=many->many<=5->Calls prog 56 #[.slice A n c,.int .i64 many] w1 λe w'=>e=.returned (.bool (Rp.isLog posts many))/\Below w1.heap.size w1 w' :=
  λw1 hb h1 h5=>isLog_any w1 A n c posts many ((hR0.posts.below hb).more hb.size) h.len h1 h5 h.few
 have L57:∀w1,Below W0.heap.size W0 w1->Calls prog 57 #[.slice A n c,.func (.func 58) #[] #[.pointer (some ⟨w.heap.size,0,none⟩)]] w1 λe w'=>e=.returned (.bool (!posts.all λp=>decide (p.epoch<=clock)))/\Below w1.heap.size w1 w':=by
  intro w1 hb;have ht:Tells w1 58 #[.pointer (some ⟨w.heap.size,0,none⟩)] (λi=>#[aggP (posts.getD i default)]) (λi=>decide (clock<(posts.getD i default).epoch)) n :=
   ⟨enters58,λi _ w2 hb2=>valid1_any _ _ _ w2 (by
     rw[hb2.cell (p:=⟨w.heap.size,2,none⟩) (by have:=hb.size;simp;omega),hb.cell (p:=⟨w.heap.size,2,none⟩) (by simp;omega),hBW.cell 2];rfl)⟩
  refine(containsPost w1 A n c posts 58 _ _ ((hR0.posts.below hb).more hb.size) h.len h.few ht).mono λe w2 ⟨he,hb2⟩=>⟨?_,hb2⟩
  rw[he,<- h.len,anyB_list posts default (λp=>decide (clock<p.epoch)),any_not_all]
 have H56:=hid L56;have H57:=hid L57;clear L56 L57;have HW0:=hid hW0;have HB:=hid hbW;have hv:Rp.valid ⟨me,many,clock,posts,heard⟩=(Rp.inr many 1 5&&(Rp.inr me 0 (many - 1)&&(Rp.inr clock 0 1000000&&(Rp.isHeard heard many clock&&(Rp.isLog posts many&&posts.all λp=>decide (p.epoch<=clock)))))):=rfl;have HV:=hid hv;clear hv hbW hR hR0 h hBW
 by_cases e1:Rp.inr many 1 5=true
 ·have b1:=Rp.inr_iff.1 e1
  by_cases e2:Rp.inr me 0 (many - 1)=true
  ·by_cases e3:Rp.inr clock 0 1000000=true
   ·cases e4:Rp.isHeard heard many clock
    ·clear hs0
     subst hW0
     go_enter func22,ntmps22
     go_wp2_with (first|(go_at_call 54;refine(inr_any _ _ _ _).mono ?_;rintro e w' ⟨rfl,rfl⟩)|(go_at_call 55;refine H55.out.mono ?_;rintro e w1 ⟨rfl,hb1⟩))
     go_ret;refine⟨ret_bool ?_,HB.out.trans (hb1.mono HB.out.size)⟩;rw[HV.out,e1,e2,e3,e4];rfl
    ·cases e5:Rp.isLog posts many
     ·clear hs0
      subst hW0
      go_enter func22,ntmps22
      go_wp2_with (first|(go_at_call 54;refine(inr_any _ _ _ _).mono ?_;rintro e w' ⟨rfl,rfl⟩)|(go_at_call 55;refine H55.out.mono ?_;rintro e w1 ⟨rfl,hb1⟩;have k2:=(hb1.cell (p:=⟨w.heap.size,3,none⟩) (by simp));have k3:=(hb1.cell (p:=⟨w.heap.size,1,none⟩) (by simp))) |
       (go_at_call 56;refine(H56.out _ hb1 (by omega) (by omega)).mono ?_;rintro e w2 ⟨rfl,hb2⟩))
      go_ret;refine⟨ret_bool ?_,HB.out.trans ((hb1.trans (hb2.mono hb1.size)).mono HB.out.size)⟩;rw[HV.out,e1,e2,e3,e4,e5];rfl
     ·clear hs0
      subst hW0
      go_enter func22,ntmps22
      go_wp2_with (first|(go_at_call 54;refine(inr_any _ _ _ _).mono ?_;rintro e w' ⟨rfl,rfl⟩)|(go_at_call 55;refine H55.out.mono ?_;rintro e w1 ⟨rfl,hb1⟩;have k2:=(hb1.cell (p:=⟨w.heap.size,3,none⟩) (by simp));have k3:=(hb1.cell (p:=⟨w.heap.size,1,none⟩) (by simp))) |
       (go_at_call 56;refine(H56.out _ hb1 (by omega) (by omega)).mono ?_;rintro e w2 ⟨rfl,hb2⟩;have hb3:=hb1.trans (hb2.mono hb1.size);have j2:=(hb3.cell (p:=⟨w.heap.size,3,none⟩) (by simp))) |
       (go_at_call 57;refine(H57.out _ hb3).mono ?_;rintro e w3 ⟨rfl,hb4⟩))
      go_ret;refine⟨ret_bool ?_,HB.out.trans ((hb3.trans (hb4.mono hb3.size)).mono HB.out.size)⟩;rw[HV.out,e1,e2,e3,e4,e5];simp
   ·have e3':Rp.inr clock 0 1000000=false:=by simpa using e3
    clear e3 hs0
    go_enter func22,ntmps22
    go_wp2_with (go_at_call 54;refine(inr_any _ _ _ _).mono ?_;rintro e w' ⟨rfl,rfl⟩)
    go_ret;refine⟨ret_bool ?_,by rw[<- HW0.out];exact HB.out⟩;rw[HV.out,e1,e2,e3'];rfl
  ·have e2':Rp.inr me 0 (many - 1)=false:=by simpa using e2
   clear e2 hs0
   go_enter func22,ntmps22
   go_wp2_with (go_at_call 54;refine(inr_any _ _ _ _).mono ?_;rintro e w' ⟨rfl,rfl⟩)
   go_ret;refine⟨ret_bool ?_,by rw[<- HW0.out];exact HB.out⟩;rw[HV.out,e1,e2'];rfl
 ·have e1':Rp.inr many 1 5=false:=by simpa using e1
  clear e1 hs0
  go_enter func22,ntmps22
  go_wp2_with (go_at_call 54;refine(inr_any _ _ _ _).mono ?_;rintro e w' ⟨rfl,rfl⟩)
  go_ret;refine⟨ret_bool ?_,by rw[<- HW0.out];exact HB.out⟩;rw[HV.out,e1'];rfl
end
section
open Go.RowKit
section
variable {P:Program} (w:World)
theorem run_append_of_nil (base:Nat)(t ty e:TypeId)(i:TypeInfo)(size:Nat)(ht:P.underlying t=some (.slice e))(hi:P.info? e=some i)
 (v:Value) (n:Nat) (xs:List Value) (hown:w.ownsRow base e size v n xs) (c:Nat):(Builtin.append_ #[t,t] ty #[v,.slice none 0 c]).run P w=.ok v w:=by
 rcases hown.2 with ⟨rfl,rfl⟩|⟨g,cap,cur,rfl,_,_,hnc,_⟩
 ·simp[Builtin.append_,run_underlying ht,sizeOf,typeInfo,hi,Builtin.lenOf,Builtin.firstCells]
 ·simp[Builtin.append_,run_underlying ht,sizeOf,typeInfo,hi,Builtin.lenOf,Builtin.firstCells,hnc,storeCells]
theorem run_append_any (base:Nat)(t ty e:TypeId)(i:TypeInfo)(z:Value)(size bytes:Nat)(ht:P.underlying t=some (.slice e))(hi:P.info? e=some i)(hz:i.zero=some z)
 (hsize:i.size=size) (hby:i.bytes=bytes) (hzs:z.cells.size=size) (hsz:0<size)
 (v:Value) (n:Nat) (xs:List Value) (hown:w.ownsRow base e size v n xs)
 (B:Nat) (A:Option Addr) (m c:Nat) (news:List Value) (hr:Reads w B size A m news) (h1:∀u∈news,u.oneCell'=true)
 (h63:n+m<=maxLen) (hbytes:(n+m)*bytes<=140737488355328) (hbase:base<=w.heap.size) :
 ∃v' w',(Builtin.append_ #[t,t] ty #[v,.slice A m c]).run P w=.ok v' w'/\w'.ownsRow base e size v' (n+m) (xs++news)/\w.grownBy w' v.ownBlock /\
  (v'.ownBlock=v.ownBlock∨v'.ownBlock=some w.heap.size):=by
 rcases A with _|ad
 ·have hm:m=0:=by
   rcases Nat.eq_zero_or_pos m with h0|h0
   ·exact h0
   ·obtain⟨_,_,h,_⟩:=hr.2 h0
    cases h
  subst hm;have hn:news=[]:=List.eq_nil_of_length_eq_zero (by simpa using hr.1);subst hn;exact⟨v,w,run_append_of_nil w base t ty e i size ht hi v n xs hown c,by simpa using hown,World.grownBy.refl w _,.inl rfl⟩
 ·have hcells:∀j u,news[j]?=some u->w.cell? (ad.add j)=some u:=by
   intro j u hu;rcases Nat.eq_zero_or_pos m with h0|h0
   ·subst h0
    have hn:news=[]:=List.eq_nil_of_length_eq_zero (by simpa using hr.1);subst hn;simp at hu
   ·obtain⟨b,off,h,_,hc⟩:=hr.2 h0
    injection h with h
    subst h;rw[show(⟨b,off,none⟩:Addr).add j=⟨b,off+j,none⟩ by unfold Addr.add;split<;>simp_all];exact hc j u hu
  obtain⟨v',w',hrun,h2,h3,_,h5⟩:=run_append_own_at (P:=P) w base t ty e i z size bytes ht hi hz hsize hby hzs hsz v n xs hown ad m c news hr.1 hcells h1 h63 hbytes hbase;exact⟨v',w',hrun,h2,h3,h5⟩
theorem wp_append_any {o:Oper}{a:Act}{K:Act->World->Prop}{Q:Exit->Act->World->Prop}(s x:Operand)(t:TypeId)
 (ho:o.op=.call { callee:=.builtin .append,args:=#[s,x],argTypes:=#[t,t] })
 (base:Nat) (e:TypeId) (i:TypeInfo) (z:Value) (size bytes:Nat) (ht:P.underlying t=some (.slice e)) (hi:P.info? e=some i) (hz:i.zero=some z)
 (hsize:i.size=size) (hby:i.bytes=bytes) (hzs:z.cells.size=size) (hsz:0<size)
 (v:Value) (n:Nat) (xs:List Value) (hs:a.eval s=v) (hown:w.ownsRow base e size v n xs)
 (B:Nat) (A:Option Addr) (m c:Nat) (news:List Value) (hx:a.eval x=.slice A m c) (hr:Reads w B size A m news) (h1:∀u∈news,u.oneCell'=true)
 (h63:n+m<=maxLen) (hbytes:(n+m)*bytes<=140737488355328) (hbase:base<=w.heap.size)
 (h:∀v' w',w'.ownsRow base e size v' (n+m) (xs++news)->w.grownBy w' v.ownBlock->(v'.ownBlock=v.ownBlock∨v'.ownBlock=some w.heap.size)->K (a.put o.dst v') w'):o.wp P a w K Q:=by
 obtain⟨v',w',hrun,h2,h3,h4⟩:=run_append_any (P:=P) w base t o.type e i z size bytes ht hi hz hsize hby hzs hsz v n xs hown B A m c news hr h1 h63 hbytes hbase;unfold Oper.wp execOp;simp only[ho,resolve,invoke,builtin,Sem.run_bind,Sem.run_pure,Result.andThen_ok,List.map_toArray,List.map_cons,List.map_nil,hs,hx,hrun];exact h v' w' h2 h3 h4
theorem wpList_append_any {ops:Array Oper}{rest:List Oper}{o:Oper}{a:Act}{Q:Exit->Act->World->Prop}(hgd:o.guard=none)(s x:Operand)(t:TypeId)
 (ho:o.op=.call { callee:=.builtin .append,args:=#[s,x],argTypes:=#[t,t] })
 (base:Nat) (e:TypeId) (i:TypeInfo) (z:Value) (size bytes:Nat) (ht:P.underlying t=some (.slice e)) (hi:P.info? e=some i) (hz:i.zero=some z)
 (hsize:i.size=size) (hby:i.bytes=bytes) (hzs:z.cells.size=size) (hsz:0<size)
 (v:Value) (n:Nat) (xs:List Value) (hs:a.eval s=v) (hown:w.ownsRow base e size v n xs)
 (B:Nat) (A:Option Addr) (m c:Nat) (news:List Value) (hx:a.eval x=.slice A m c) (hr:Reads w B size A m news) (h1:∀u∈news,u.oneCell'=true)
 (h63:n+m<=maxLen) (hbytes:(n+m)*bytes<=140737488355328) (hbase:base<=w.heap.size)
 (h:∀v' w',w'.ownsRow base e size v' (n+m) (xs++news)->w.grownBy w' v.ownBlock->(v'.ownBlock=v.ownBlock∨v'.ownBlock=some w.heap.size)->wpList P ops Q rest (a.put o.dst v') w'):wpList P ops Q (o::rest) a w :=
 wpList_plain hgd λ_ hK=>wp_append_any w s x t ho base e i z size bytes ht hi hz hsize hby hzs hsz v n xs hs hown B A m c news hx hr h1 h63 hbytes hbase λv' w' h2 h3 h4=>hK _ _ (h v' w' h2 h3 h4)
end
end
section
open Go.RowKit
theorem info3 :(prog.info? 3).map (λi=>(i.zero,i.size,i.bytes))=some (some (.int .i64 0),1,8):=by kernel_rfl
theorem info57 :(prog.info? 57).map (λi=>(i.zero,i.size,i.bytes))=some (some (.agg #[.int .i64 0,.int .i64 0,.int .i64 0,.string ⟨#[]⟩]),4,40):=by kernel_rfl
theorem one_ints (l:List Int):∀u∈l.map (Value.int .i64),u.oneCell'=true:=by
 intro u hu;obtain⟨x,_,rfl⟩:=List.mem_map.1 hu;rfl
theorem one_posts (l:List Rp.Post):∀u∈encPs l,u.oneCell'=true:=by
 intro u hu;obtain⟨p,_,hp⟩:=List.mem_flatMap.1 hu;simp only[encP,List.mem_cons,List.not_mem_nil,or_false]at hp;rcases hp with rfl|rfl|rfl|rfl<;>rfl
theorem Reads.of_own {w:World}{base:Nat}{e:TypeId}{size n c:Nat}{A:Option Addr}{xs:List Value}(h:w.ownsRow base e size (.slice A n c) n xs):Reads w w.heap.size size A n xs:=by
 refine⟨h.1,λhn=>?_⟩;obtain⟨g,cap,hv,_,hlt⟩:=h.form hn;have hA:A=some ⟨g,0,none⟩:=by injection hv
 subst hA;refine⟨g,0,rfl,hlt,λj u hu=>?_⟩;have:=h.cells (g:=g) rfl j u hu;rw[show(⟨g,0,none⟩:Addr).add j=⟨g,0+j,none⟩ by unfold Addr.add;split<;>simp_all]at this;exact this
theorem own_slice {w:World}{base:Nat}{e:TypeId}{size n:Nat}{v:Value}{xs:List Value}(h:w.ownsRow base e size v n xs):∃A c,v=.slice A n c/\n<=c:=by
 obtain⟨h1,h2⟩:=h;rcases h2 with ⟨rfl,rfl⟩|⟨g,cap,cur,rfl,_,_,hc,_⟩
 ·exact⟨none,0,rfl,Nat.le_refl _⟩
 ·exact⟨_,cap,rfl,hc⟩
theorem own_empty (w:World)(e:TypeId)(size:Nat):(w.alloc (.cells #[] e)).ownsRow w.heap.size e size (.slice (some ⟨w.heap.size,0,none⟩) 0 0) 0 [] :=
 ⟨by simp,.inr ⟨w.heap.size,0,#[],rfl,Nat.le_refl _,heap_alloc_new w _,Nat.le_refl _,by simp[maxLen],by simp,by simp⟩⟩
theorem Reads.zero {w:World}{B size n:Nat}{xs:List Value}(h:Reads w B size none n xs):n=0/\xs=[]:=by
 rcases Nat.eq_zero_or_pos n with h0|h0
 ·subst h0;exact⟨rfl,List.eq_nil_of_length_eq_zero (by simpa using h.1)⟩
 ·obtain⟨_,_,h,_⟩:=h.2 h0;cases h
theorem clonePost (w:World)(A:Option Addr)(n c:Nat)(l:List Rp.Post)(hx:Reads w w.heap.size 4 A n (encPs l))(hn:n<=16777216) :
 Calls prog 46 #[.slice A n c] w λe w'=>∃v,e=.returned v/\w'.ownsRow w.heap.size 57 4 v n (encPs l)/\Below w.heap.size w w':=by
 obtain⟨i0,hi0,hz0,hz1,hz2⟩:=info_parts info57;have q23:∀(w:World) (a:Option Addr) (n c n' c':Nat),(binOp .eql 23 (.slice a n c) (.slice none n' c')).run prog w=.ok (.bool a.isNone) w:=λw a n c n' c'=>Lib.run_eql_slice_nil w _ _ a n c n' c' underlying23
 have HX:=hid hx;clear hx;rcases A with _|ad
 ·go_enter func46,ntmps46
  go_wp2;go_ret;obtain⟨rfl,h2⟩:=HX.out.zero;rw[h2];exact⟨_,rfl,World.ownsRow_nil _ _ _ _,Below.refl _ _⟩
 ·have hb0:Below w.heap.size w (w.alloc (.cells #[] 57)):=(Below.refl _ _).alloc (Nat.le_refl _) _
  have HB:=hid hb0;have HO:=hid (own_empty w 57 4);have HX1:=hid (HX.out.below hb0);clear hb0
  go_enter func46,ntmps46
  go_wp2_with (first
  | (at_builtin
     refine wpList_append_any _ rfl (.tmp 5) (.tmp 6) 23 rfl w.heap.size 57 i0 _ 4 40 underlying23 hi0 hz0 hz1 hz2 rfl (by omega) (.slice (some ⟨w.heap.size,0,none⟩) 0 0) 0 [] rfl
      HO.out w.heap.size (some ad) n c (encPs l) rfl HX1.out (one_posts l) (by simp only[maxLen];omega) (by omega) (by simp) ?_
     intro v1 w1 hown1 hg1 hat1))
  go_ret;refine⟨v1,rfl,by simpa using hown1,HB.out.grown hg1 (by simp) (λk hk=>?_)⟩;simp[Value.ownBlock]at hk;omega
theorem cloneInt (w:World)(A:Option Addr)(n c:Nat)(l:List Int)(hx:Reads w w.heap.size 1 A n (l.map (Value.int .i64)))(hn:n<=16777216) :
 Calls prog 47 #[.slice A n c] w λe w'=>∃v,e=.returned v/\w'.ownsRow w.heap.size 3 1 v n (l.map (Value.int .i64))/\Below w.heap.size w w':=by
 obtain⟨i0,hi0,hz0,hz1,hz2⟩:=info_parts info3;have q24:∀(w:World) (a:Option Addr) (n c n' c':Nat),(binOp .eql 24 (.slice a n c) (.slice none n' c')).run prog w=.ok (.bool a.isNone) w:=λw a n c n' c'=>Lib.run_eql_slice_nil w _ _ a n c n' c' underlying24
 have HX:=hid hx;clear hx;rcases A with _|ad
 ·go_enter func47,ntmps47
  go_wp2;go_ret;obtain⟨rfl,h2⟩:=HX.out.zero;rw[h2];exact⟨_,rfl,World.ownsRow_nil _ _ _ _,Below.refl _ _⟩
 ·have hb0:Below w.heap.size w (w.alloc (.cells #[] 3)):=(Below.refl _ _).alloc (Nat.le_refl _) _
  have HB:=hid hb0;have HO:=hid (own_empty w 3 1);have HX1:=hid (HX.out.below hb0);clear hb0
  go_enter func47,ntmps47
  go_wp2_with (first
  | (at_builtin
     refine wpList_append_any _ rfl (.tmp 5) (.tmp 6) 24 rfl w.heap.size 3 i0 _ 1 8 underlying24 hi0 hz0 hz1 hz2 rfl (by omega) (.slice (some ⟨w.heap.size,0,none⟩) 0 0) 0 [] rfl
      HO.out w.heap.size (some ad) n c (l.map (Value.int .i64)) rfl HX1.out (one_ints l) (by simp only[maxLen];omega) (by omega) (by simp) ?_
     intro v1 w1 hown1 hg1 hat1))
  go_ret;refine⟨v1,rfl,by simpa using hown1,HB.out.grown hg1 (by simp) (λk hk=>?_)⟩;simp[Value.ownBlock]at hk;omega
end
section
open Go.RowKit
theorem own_base {w:World}{B B':Nat}{e:TypeId}{size n:Nat}{v:Value}{xs:List Value}(h:w.ownsRow B e size v n xs)(hB:B'<=B):w.ownsRow B' e size v n xs:=by
 obtain⟨h1,h2⟩:=h;refine⟨h1,?_⟩;rcases h2 with h2|⟨g,cap,cur,hv,hg,r⟩
 ·exact .inl h2
 ·exact .inr ⟨g,cap,cur,hv,by omega,r⟩
theorem own_below {w w':World}{B:Nat}{e:TypeId}{size n:Nat}{v:Value}{xs:List Value}(h:w.ownsRow B e size v n xs)(hb:Below w.heap.size w w'):w'.ownsRow B e size v n xs:=by
 obtain⟨h1,h2⟩:=h;refine⟨h1,?_⟩;rcases h2 with h2|⟨g,cap,cur,hv,hg,hh,r⟩
 ·exact .inl h2
 ·refine .inr ⟨g,cap,cur,hv,hg,?_,r⟩
  have hlt:g<w.heap.size:=by
   rcases Nat.lt_or_ge g w.heap.size with hlt|hge
   ·exact hlt
   ·rw[Array.getElem?_eq_none hge]at hh;cases hh
  rw[hb.block g hlt];exact hh
theorem own_any (w:World)(r:Rp.Rep)(A:Option Addr)(n c:Nat)(A':Option Addr)(n' c':Nat)(h:RepR w w.heap.size r A n A' n') :
 Calls prog 42 #[repV r A n c A' n' c'] w λe w'=>∃A1 c1 A2 c2,e=.returned (repV r A1 n c1 A2 n' c2)/\w'.ownsRow w.heap.size 57 4 (.slice A1 n c1) n (encPs r.posts) /\
  w'.ownsRow w.heap.size 3 1 (.slice A2 n' c2) n' (r.heard.map (Value.int .i64))/\n<=c1/\n'<=c2/\Below w.heap.size w w':=by
 obtain⟨me,many,clock,posts,heard⟩:=r;unfold repV;simp only;obtain⟨h1,h2,h3,h4,h5,h6⟩:=h;simp only at h1 h2 h3 h4;obtain⟨W0,hW0⟩:∃W0,W0=(w.alloc (.cells #[.int .i64 me,.int .i64 many,.int .i64 clock,.slice A n c,.slice A' n' c'] 26)).alloc (.cells #[.int .i64 0,.int .i64 0,.int .i64 0,.slice none 0 0,.slice none 0 0] 26):=⟨_,rfl⟩;have hs0:W0.heap.size=w.heap.size+2:=by rw[hW0];simp
 have hbW:Below w.heap.size w W0:=by rw[hW0];exact((Below.refl _ _).alloc (Nat.le_refl _) _).alloc (by simp) _
 have hBW:Blk W0 w.heap.size 26 #[.int .i64 me,.int .i64 many,.int .i64 clock,.slice A n c,.slice A' n' c']:=by rw[hW0];exact(Blk.new _ _ _).alloc _
 have hRW:Blk W0 (w.heap.size+1) 26 #[.int .i64 0,.int .i64 0,.int .i64 0,.slice none 0 0,.slice none 0 0]:=by
  rw[hW0];have hbn:=Blk.new (w.alloc (.cells #[.int .i64 me,.int .i64 many,.int .i64 clock,.slice A n c,.slice A' n' c'] 26)) 26 #[.int .i64 0,.int .i64 0,.int .i64 0,.slice none 0 0,.slice none 0 0];simp only[World.size_alloc]at hbn;exact hbn
 have H1:=hid h1;have H3:=hid h3;clear h1 h3
 go_enter func42,ntmps42
 go_wp2;rw[<- hW0];have HW0:=hid hW0;clear hW0;have c3:=hBW.cell 3;have c4:=hBW.cell 4;have hlt0:w.heap.size<W0.heap.size:=by omega
 go_region_with ((first
  | (go_at_call 46;refine(clonePost _ _ _ _ posts ?hx h5).mono ?_;(case hx=>exact((H1.out.below hbW).more (by simp[hs0])));rintro e w1 ⟨v1,rfl,hown1,hb1⟩;obtain⟨A1,c1,rfl,hc1⟩:=own_slice hown1;have hB1:Below W0.heap.size W0 w1:=(Below.refl _ _).drew.trans hb1;have hsz1:=hB1.size;have k3:=(hB1.cell (p:=⟨w.heap.size,3,none⟩) (by simp[hs0])).trans c3;have k4:=(hB1.cell (p:=⟨w.heap.size,4,none⟩) (by simp[hs0])).trans c4)
  | (go_at_call 47;refine(cloneInt _ _ _ _ heard ?hx h6).mono ?_;(case hx=>exact((H3.out.below (hbW.trans (hB1.mono hbW.size))).more (by omega)));rintro e w2 ⟨v2,rfl,hown2,hb2⟩;obtain⟨A2,c2,rfl,hc2⟩:=own_slice hown2;have hB2:Below W0.heap.size W0 w2:=hB1.trans (hb2.mono hB1.size);have j3:=(hB2.cell (p:=⟨w.heap.size,3,none⟩) (by simp[hs0])).trans c3;have j4:=(hB2.cell (p:=⟨w.heap.size,4,none⟩) (by simp[hs0])).trans c4;have f3:=(hB2.frozen (p:=⟨w.heap.size,3,none⟩) (by simp[hs0])).trans (hBW.frozen 3);have f4:=(hB2.frozen (p:=⟨w.heap.size,4,none⟩) (by simp[hs0])).trans (hBW.frozen 4))))
 all_goals
  have b0:=(hB2.cell (p:=⟨w.heap.size,0,none⟩) (by simp[hs0])).trans (hBW.cell 0);have b1:=(hB2.cell (p:=⟨w.heap.size,1,none⟩) (by simp[hs0])).trans (hBW.cell 1);have b2:=(hB2.cell (p:=⟨w.heap.size,2,none⟩) (by simp[hs0])).trans (hBW.cell 2);have r0:=(hB2.cell (p:=⟨w.heap.size+1,0,none⟩) (by simp[hs0])).trans (hRW.cell 0);have r1:=(hB2.cell (p:=⟨w.heap.size+1,1,none⟩) (by simp[hs0])).trans (hRW.cell 1);have r2:=(hB2.cell (p:=⟨w.heap.size+1,2,none⟩) (by simp[hs0])).trans (hRW.cell 2);have r3:=(hB2.cell (p:=⟨w.heap.size+1,3,none⟩) (by simp[hs0])).trans (hRW.cell 3);have r4:=(hB2.cell (p:=⟨w.heap.size+1,4,none⟩) (by simp[hs0])).trans (hRW.cell 4);have s0:=(hB2.frozen (p:=⟨w.heap.size+1,0,none⟩) (by simp[hs0])).trans (hRW.frozen 0);have s1:=(hB2.frozen (p:=⟨w.heap.size+1,1,none⟩) (by simp[hs0])).trans (hRW.frozen 1);have s2:=(hB2.frozen (p:=⟨w.heap.size+1,2,none⟩) (by simp[hs0])).trans (hRW.frozen 2);have s3:=(hB2.frozen (p:=⟨w.heap.size+1,3,none⟩) (by simp[hs0])).trans (hRW.frozen 3);have s4:=(hB2.frozen (p:=⟨w.heap.size+1,4,none⟩) (by simp[hs0])).trans (hRW.frozen 4);simp at b0 b1 b2 r0 r1 r2 r3 r4;have o1:w2.ownsRow W0.heap.size 57 4 (.slice A1 n c1) n (encPs posts):=own_below hown1 hb2;have o2:w2.ownsRow W0.heap.size 3 1 (.slice A2 n' c2) n' (heard.map (Value.int .i64)):=own_base hown2 hB1.size;have hB2w:=hbW.trans (hB2.mono hbW.size);have O1:=hid o1;have O2:=hid o2;clear o1 o2 hown1 hown2;go_wp2;refine bodyPost_ret (v:=.agg #[.int .i64 me,.int .i64 many,.int .i64 clock,.slice A1 n c1,.slice A2 n' c2]) (by simp[results,results42,go_sem,r0,r1,r2,r3,r4]) rfl ⟨A1,c1,A2,c2,rfl,?_,?_,hc1,hc2,?_⟩
  ·refine own_base (B:=W0.heap.size) ?_ (by omega)
   repeat(refine ownsRow_setCell_below ?_ (by simp;omega) _)
   exact O1.out
  ·refine own_base (B:=W0.heap.size) ?_ (by omega)
   repeat(refine ownsRow_setCell_below ?_ (by simp;omega) _)
   exact O2.out
  ·repeat(refine Below.setCell ?_ (by simp) _)
   exact hB2w
end
section
open Go.RowKit
def zeroRep :Value:=.agg #[.int .i64 0,.int .i64 0,.int .i64 0,.slice none 0 0,.slice none 0 0]
def orErr (ok:Bool)(v z:Value)(e:Int):Value:=match ok with
 | true=>.tuple #[v,.int .i64 0]
 | false=>.tuple #[z,.int .i64 e]
theorem Blk.cells5 {w:World}{g:Nat}{t:TypeId}{a b c d e:Value}(h:Blk w g t #[a,b,c,d,e]) :
 w.cell? ⟨g,0,none⟩=some a/\w.cell? ⟨g,1,none⟩=some b/\w.cell? ⟨g,2,none⟩=some c/\w.cell? ⟨g,3,none⟩=some d/\w.cell? ⟨g,4,none⟩=some e :=
 ⟨h.cell 0,h.cell 1,h.cell 2,h.cell 3,h.cell 4⟩
theorem Blk.soft5 {w:World}{g:Nat}{t:TypeId}{cs:Array Value}(h:Blk w g t cs) :
 w.frozen? ⟨g,0,none⟩=false/\w.frozen? ⟨g,1,none⟩=false/\w.frozen? ⟨g,2,none⟩=false/\w.frozen? ⟨g,3,none⟩=false/\w.frozen? ⟨g,4,none⟩=false :=
 ⟨h.frozen 0,h.frozen 1,h.frozen 2,h.frozen 3,h.frozen 4⟩
theorem Blk.new2 (w:World)(o:Obj)(t:TypeId)(cs:Array Value):Blk ((w.alloc o).alloc (.cells cs t)) (w.heap.size+1) t cs:=by
 have hbn:=Blk.new (w.alloc o) t cs;simp only[World.size_alloc]at hbn;exact hbn
theorem right_any (w:World)(r:Rp.Rep)(A:Option Addr)(n c:Nat)(A':Option Addr)(n' c':Nat)(h:RepR w w.heap.size r A n A' n') :
 Calls prog 44 #[repV r A n c A' n' c'] w λe w'=>e=.returned (orErr (Rp.valid r) (repV r A n c A' n' c') zeroRep 310)/\Below w.heap.size w w':=by
 obtain⟨me,many,clock,posts,heard⟩:=r;obtain⟨W0,hW0⟩:∃W0,W0=(w.alloc (.cells #[.int .i64 me,.int .i64 many,.int .i64 clock,.slice A n c,.slice A' n' c'] 26)).alloc (.cells #[.int .i64 0,.int .i64 0,.int .i64 0,.slice none 0 0,.slice none 0 0] 26):=⟨_,rfl⟩;have hs0:W0.heap.size=w.heap.size+2:=by rw[hW0];simp
 have hbW:Below w.heap.size w W0:=by rw[hW0];exact((Below.refl _ _).alloc (Nat.le_refl _) _).alloc (by simp) _
 have hBW:Blk W0 w.heap.size 26 #[.int .i64 me,.int .i64 many,.int .i64 clock,.slice A n c,.slice A' n' c']:=by rw[hW0];exact(Blk.new _ _ _).alloc _
 have hRW:Blk W0 (w.heap.size+1) 26 #[.int .i64 0,.int .i64 0,.int .i64 0,.slice none 0 0,.slice none 0 0]:=by rw[hW0];exact Blk.new2 _ _ _ _
 have HV:=hid (valid_any W0 ⟨me,many,clock,posts,heard⟩ A n c A' n' c' ((h.below hbW).more (by omega)));have HW0:=hid hW0;clear h hW0;unfold repV at *;simp only at HV ⊢
 go_enter func44,ntmps44
 go_wp2_with fail
 rw[<- HW0.out];refine HV.out.mono ?_;rintro e w1 ⟨rfl,hb1⟩;have hb2:=hbW.trans (hb1.mono hbW.size);obtain⟨b0,b1,b2,b3,b4⟩:=(hBW.below hb1 (by omega)).cells5;have hR1:=hRW.below hb1 (by omega);obtain⟨r0,r1,r2,r3,r4⟩:=hR1.cells5;obtain⟨s0,s1,s2,s3,s4⟩:=hR1.soft5;cases hv:Rp.valid ⟨me,many,clock,posts,heard⟩
 ·go_wp2
  refine bodyPost_ret (v:=.tuple #[zeroRep,.int .i64 310]) (by simp[zeroRep,results,results44,go_sem,r0,r1,r2,r3,r4]) rfl ⟨by rw[hv];rfl,?_⟩
  repeat(refine Below.setCell ?_ (by simp) _)
  exact hb2
 ·go_wp2
  refine bodyPost_ret (v:=.tuple #[.agg #[.int .i64 me,.int .i64 many,.int .i64 clock,.slice A n c,.slice A' n' c'],.int .i64 0]) (by simp[results,results44,go_sem,r0,r1,r2,r3,r4]) rfl ⟨by rw[hv];rfl,?_⟩
  repeat(refine Below.setCell ?_ (by simp) _)
  exact hb2
end
end Go.Proofs.YtnehgpeelgjjhaaGreatDoor.Tw
namespace Go
open Go.RowKit
section
variable {F:Fence} {n:Nat} {P:Program}
def IterB (F:Fence)(n:Nat)(P:Program)(g:Nat)(lb:Array Value)(enc:Nat->Array Value)(b1 m:Nat)(w0:World):Prop :=
 ∀(l:Nat) (J:Nat->World->Prop) (W:World),Below w0.heap.size w0 W ->
  (∀i A B row,J i A->A.grownBy B row->(∀r,row=some r->r=b1)->J i B) ->
  (∀i W1,i<m->J i W1->YieldAt F (n - 1) P l (enc i) W1 λe W'=>e=.returned (.bool true)/\J (i+1) W'/\W'.heap[b1]?=W1.heap[b1]?/\W1.heap.size<=W'.heap.size) ->
  J 0 W ->
  CallsIn F n P g (#[.func (.yield l) #[] #[]]++lb) W λe W'=>(∃v,e=.returned v)/\J m W'
theorem wpIn_rangeFunc_box {g:Operand}{ps:Array Tmp}{assign body:Code}{Q:Exit->Act->World->Prop}{a:Act}{w w0:World}{b1 m:Nat}{enc:Nat->Array Value}
 (hro:F.round=none) (h1:1<=n) {gf:Nat} {lb:Array Value} (hg:a.eval g=.func (.func gf) #[] lb) (hFg:F.fn gf) (eg:∀args w,(callFunc gf args).run P w=.ok (.enter gf args) w)
 (hseq:IterB F (n - 1) P gf lb enc b1 m w0) (hb0:Below w0.heap.size w0 w) (hb1:b1<w.heap.size) (hps:∀i,(enc i).size=ps.size)
 (I:Nat->World->Prop) (hI:∀i A B row,I i A->A.grownBy B row->(∀r,row=some r->r=b1∨(w.heap.size<=r/\∃o:Obj,A.heap[r]?=some o/\o.isCells=false))->I i B) (h0:I 0 w) (a₁:Nat->Act)
 (hassign:∀(l i:Nat) (W:World) (K:Act->World->Prop),K (a₁ i) W ->
   assign.wpIn (F.inRound l) (n - 1 - 1) P (Exit.then K (λ_ _ _=>False)) { tmps:=(ps.zip (enc i)).foldl (λt (p,v)=>t.setIfInBounds p v) a.tmps,defers:=[] } W)
 (hbody:∀(l i:Nat) (W:World),i<m->I i W->body.wpIn (F.inRound l) (n - 1 - 1) P (λe _ W'=>e=.normal/\KeepsOthers W W'/\W'.heap[b1]?=W.heap[b1]?/\I (i+1) W') (a₁ i) W)
 (hdone:∀(D:Nat) (W:World),w.heap.size<=D->I m W->W.heap[D]?=some (.deferred (some []))->Q .normal { a with defers:={ target:=.collected D,args:=#[] }::a.defers } W) :
 (Code.rangeFunc g ps assign body).wpIn F n P Q a w:=by
 refine wpIn_rangeFunc λfn hfn=>?_
 rw[hro]
 let ready:Loop:={ state:=.ready,pending:=none,fn,tmps:=a.tmps,params:=ps,assign,body,defers:=w.heap.size }
 have hput:∀{i:Nat} {W:World} {o:Obj} (o':Obj),I i W->W.heap[w.heap.size+1]?=some o->o.isCells=false->I i (W.putObj (w.heap.size+1) o'):=fun {i W o} o' hi hl ho =>
  hI i W _ (some (w.heap.size+1)) hi (grownBy_putObj' W _ o') λr e=>.inr (by cases e;exact⟨by omega,o,hl,ho⟩)
 have hmake:∀{i:Nat} {W:World} (o:Obj),I i W->I i (W.alloc o):=fun {i W} o hi=>hI i W _ none hi (World.grownBy_alloc W o none) λr e=>by cases e
 obtain⟨W1,hW1⟩:∃W1,W1=(w.alloc (.deferred (some []))).alloc (.loop ready):=⟨_,rfl⟩;have hz1:W1.heap.size=w.heap.size+1+1:=by rw[hW1];simp
 have hL1:W1.heap[w.heap.size+1]?=some (.loop ready):=by
  have:=World.alloc_heap_new (w.alloc (.deferred (some []))) (.loop ready);rw[World.size_alloc]at this;rw[hW1];exact this
 have hD1:W1.heap[w.heap.size]?=some (.deferred (some [])):=by
  rw[hW1];exact(Below.heap_alloc _ _ _ (by simp)).trans (World.alloc_heap_new w _)
 have hI1:I 0 W1:=by rw[hW1];exact hmake _ (hmake _ h0)
 have hB1:Below w0.heap.size w0 W1:=by
  rw[hW1];exact hb0.trans ((((Below.refl _ w).alloc (Nat.le_refl _) _).alloc (by simp) _).mono hb0.size)
 refine⟨w.heap.size+1,[{ target:=.collected w.heap.size,args:=#[] }],W1,{ target:=.fn (.func gf) lb,args:=#[.func (.yield (w.heap.size+1)) #[] #[]] },W1,gf,#[.func (.yield (w.heap.size+1)) #[] #[]]++lb,W1,?_,?_,?_,?_,λ_=>h1,?_⟩
 ·rw[hW1];exact run_enterLoop_outer _ _ _ _ _
 ·simp only[resolve,hg]
  simp[go_sem]
 ·intro f' hf'
  simp[Target.leads]at hf';subst hf';exact hFg
 ·simp[invoke,go_sem,eg]
 ·refine(hseq (w.heap.size+1) (λi W=>I i W/\W.heap[w.heap.size+1]?=some (.loop ready)/\W.heap[w.heap.size]?=some (.deferred (some []))) W1 hB1 ?_ ?_ ⟨hI1,hL1,hD1⟩).mono ?_
  ·rintro i A B row ⟨x1,x2,x3⟩ hgr hr
   refine⟨hI i A B row x1 hgr λr e=>.inl (hr r e),?_,?_⟩
   ·exact(hgr.block _ (Array.getElem?_eq_some_iff.1 x2).1 λe=>by have:=hr _ e.symm;omega).trans x2
   ·exact(hgr.block _ (Array.getElem?_eq_some_iff.1 x3).1 λe=>by have:=hr _ e.symm;omega).trans x3
  ·rintro i W hi ⟨x1,x2,x3⟩
   have hlt:=(Array.getElem?_eq_some_iff.1 x2).1;refine⟨fn,_,assign,body,run_yield (P:=P) (args:=enc i) x2 (hps i),roundIn_of_wpIn hfn (hassign _ i W _ ⟨_,run_beginRound x2 rfl,?_⟩)⟩;obtain⟨W2,hW2⟩:∃W2,W2=W.putObj (w.heap.size+1) (.loop { ready with state:=.busy }):=⟨_,rfl⟩;have y2:W2.heap[w.heap.size+1]?=some (.loop { ready with state:=.busy }):=by rw[hW2];exact World.putObj_heap_same hlt
   have y3:W2.heap[w.heap.size]?=some (.deferred (some [])):=by rw[hW2];exact(World.putObj_heap_other (by omega)).trans x3
   have y1:I i W2:=by rw[hW2];exact hput _ x1 x2 rfl
   have y4:W2.heap[b1]?=W.heap[b1]?:=by rw[hW2];exact World.putObj_heap_other (by omega)
   have y5:W2.heap.size=W.heap.size:=by rw[hW2];simp
   show Code.wpIn _ _ _ _ _ _ (W.putObj (w.heap.size+1) (.loop { ready with state:=.busy }));rw[<- hW2];refine wpIn_mono (hbody _ i W2 hi y1) ?_;rintro e a3 W3 ⟨rfl,k3,k4,k5⟩;have z2:=k3.same _ _ y2 rfl;have z3:=k3.same _ _ y3 rfl;have hlt3:=(Array.getElem?_eq_some_iff.1 z2).1;refine⟨_,_,run_endRound (P:=P) none z2,rfl,⟨hput _ k5 z2 rfl,World.putObj_heap_same hlt3,(World.putObj_heap_other (by omega)).trans z3⟩,?_,?_⟩
   ·rw[World.putObj_heap_other (by omega),k4,y4]
   ·have:=k3.size
    simp;omega
  ·rintro e W2 ⟨⟨v,rfl⟩,x1,x2,x3⟩
   refine⟨none,_,run_endLoop (P:=P) x2 (by simp[ready]),?_⟩;exact hdone _ _ (Nat.le_refl _) (hput _ x1 x2 rfl) ((World.putObj_heap_other (by omega)).trans x3)
end
end Go
