/- Contracts of functions of the program, and plain laws, towards the laws of replicas. Joined of the texts: R11, R12, R13, R14, R15, R16. -/
import Derived.Test.YtnehgpeelgjjhaaGreatDoorW25
import Derived.Test.YtnehgpeelgjjhaaGreatDoorW12
import Derived.Test.YtnehgpeelgjjhaaGreatDoorW11
import Derived.Test.YtnehgpeelgjjhaaGreatDoorW10
set_option linter.all false
set_option maxRecDepth 100000
set_option maxHeartbeats 12800000
open Go.Lib (hid)
namespace Go.Proofs.YtnehgpeelgjjhaaGreatDoor.Tw
open Go.Proofs.Tryz
section
open Go.RowKit
theorem ints_any (w:World)(A:Option Addr)(n c:Nat)(l:List Int)(A':Option Addr)(n' c':Nat)(l':List Int)
 (hx:Reads w w.heap.size 1 A n (l.map (Value.int .i64))) (hx':Reads w w.heap.size 1 A' n' (l'.map (Value.int .i64))) (hn:n<=16777216) (hn':n'<=16777216) :
 Calls prog 37 #[.slice A n c,.slice A' n' c'] w λe w'=>e=.returned (.bool (decide (l=l')))/\Below w.heap.size w w':=by
 have hl:l.length=n:=by have:=hx.1;simpa using this
 have hl':l'.length=n':=by have:=hx'.1;simpa using this
 have HX:=hid hx;have HX':=hid hx';have HL:=hid hl;have HL':=hid hl';obtain⟨res,hres⟩:∃res,res=decide (l=l'):=⟨_,rfl⟩;rw[<- hres];have HR:=hid hres;clear hx hx' hl hl' hres
 by_cases hne:n=n'
 ·subst hne
  go_enter func37,ntmps37
  go_wp2_with fail
  go_loopw [5] (λq wr=>∃j:Nat,j<=n/\q=.int .i64 j/\Hid (l.take j=l'.take j)/\Hid (Below w.heap.size w wr)) (λq _=>n - (intOf q).toNat)
  case atStart=>exact⟨0,by omega,rfl,hid rfl,hid (Below.refl _ _)⟩
  case round =>
   obtain⟨j,hj,rfl,hT,hW⟩:=hrel
   by_cases hlt:j<n
   ·obtain⟨b,off,x,rfl,hbl,hq,h0⟩:=((HX.out.below hW.out).more hW.out.size).int hlt
    obtain⟨b',off',x',rfl,hbl',hq',h0'⟩:=((HX'.out.below hW.out).more hW.out.size).int hlt;have HQ:=hid hq;have HQ':=hid hq';have k0:=Later.of h0;have k0':=Later.of h0';clear hq hq'
    by_cases e1:x=x'
    ·have HE:=hid e1
     have hb1:(x != x')=false:=by simp[e1]
     clear e1
     go_wp2_with fail
     refine wp_region_later (by kernel_rfl) (by kernel_rfl) ?_
     repeat(go_big_quiet_step (fail))
     refine wpQuiet_nil ?_;rintro W1 ⟨⟨_,hW1⟩,rfl⟩;have hbe:=hid (hW.out.trans (hW1.mono hW.out.size));clear k0 k0' hW1
     go_wp2_with fail
     clear hb1;go_roundw
     case rel=>exact⟨j+1,by omega,by go_num,hid (by rw[List.take_add_one,List.take_add_one,HQ.out,HQ'.out,hT.out,HE.out]),hbe⟩
     case measure=>simp[intOf];omega
    ·have hb1:(x != x')=true:=by simp[e1]
     have hno:res=false:=by
      rw[HR.out];refine decide_eq_false λh=>e1 ?_
      have h1:=HQ.out;rw[h,HQ'.out]at h1;exact(Option.some.inj h1).symm
     subst hno;clear e1
     go_wp2_with fail
     refine wp_region_later (by kernel_rfl) (by kernel_rfl) ?_
     repeat(go_big_quiet_step (fail))
     refine wpQuiet_nil ?_;rintro W1 ⟨⟨_,hW1⟩,rfl⟩;have hbe:=hW.out.trans (hW1.mono hW.out.size);clear k0 k0' hW1
     go_wp2_with fail
     exact bodyPost_ret (v:=.bool false) (by simp[results,results37,go_sem]) rfl ⟨rfl,hbe⟩
   ·have hjn:j=n:=by omega
    subst hjn;have hyes:res=true:=by
     rw[HR.out];have:=hT.out;rw[List.take_of_length_le (by rw[HL.out];omega),List.take_of_length_le (by rw[HL'.out];omega)]at this;exact decide_eq_true this
    subst hyes;have hbe:=hW.out
    go_wp2_with fail
    exact bodyPost_ret (v:=.bool true) (by simp[results,results37,go_sem]) rfl ⟨rfl,hbe⟩
 ·have hno:res=false:=by
   rw[HR.out];refine decide_eq_false λh=>hne ?_
   rw[<- HL.out,<- HL'.out,h]
  subst hno;have hb1:((n:Int) != n')=true:=by simp;omega
  go_enter func37,ntmps37
  go_wp2_with fail
  exact bodyPost_ret (v:=.bool false) (by simp[results,results37,go_sem]) rfl ⟨rfl,Below.refl _ _⟩
end
section
open Go.RowKit
theorem rsame_any (w:World)(r:Rp.Rep)(A:Option Addr)(n c:Nat)(A':Option Addr)(n' c':Nat)(r2:Rp.Rep)(B:Option Addr)(m d:Nat)(B':Option Addr)(m' d':Nat)
 (h:RepR w w.heap.size r A n A' n') (h2:RepR w w.heap.size r2 B m B' m') :
 Calls prog 20 #[repV r A n c A' n' c',repV r2 B m d B' m' d'] w λe w'=>e=.returned (.bool (decide (r=r2)))/\Below w.heap.size w w':=by
 obtain⟨me,many,clock,posts,heard⟩:=r;obtain⟨me2,many2,clock2,posts2,heard2⟩:=r2;obtain⟨W0,hW0⟩:∃W0,W0=(w.alloc (.cells #[.int .i64 me,.int .i64 many,.int .i64 clock,.slice A n c,.slice A' n' c'] 26)).alloc (.cells #[.int .i64 me2,.int .i64 many2,.int .i64 clock2,.slice B m d,.slice B' m' d'] 26):=⟨_,rfl⟩;have hbW:Below w.heap.size w W0:=by rw[hW0];exact((Below.refl _ _).alloc (Nat.le_refl _) _).alloc (by simp) _
 have hA:Blk W0 w.heap.size 26 #[.int .i64 me,.int .i64 many,.int .i64 clock,.slice A n c,.slice A' n' c']:=by rw[hW0];exact(Blk.new _ _ _).alloc _
 have hB:Blk W0 (w.heap.size+1) 26 #[.int .i64 me2,.int .i64 many2,.int .i64 clock2,.slice B m d,.slice B' m' d']:=by rw[hW0];exact Blk.new2 _ _ _ _
 have HS:=hid (samePosts_any W0 A n c posts B m d posts2 ((h.posts.below hbW).more hbW.size) h.len ((h2.posts.below hbW).more hbW.size) h2.len h.few h2.few);have HI:=hid (λw1 (hb:Below W0.heap.size W0 w1)=>ints_any w1 A' n' c' heard B' m' d' heard2 (((h.heard.below hbW).more hbW.size).below hb |>.more hb.size) (((h2.heard.below hbW).more hbW.size).below hb |>.more hb.size) h.few' h2.few');obtain⟨res,hres⟩:∃res,res=decide ((⟨me,many,clock,posts,heard⟩:Rp.Rep)=⟨me2,many2,clock2,posts2,heard2⟩):=⟨_,rfl⟩;rw[<- hres];have HR:=hid hres;have HBW:=hid hbW;obtain⟨a0,a1,a2,a3,a4⟩:=hA.cells5;obtain⟨b0,b1,b2,b3,b4⟩:=hB.cells5;have hlA:=hA.lt;have hlB:=hB.lt;clear hres h h2 hbW hA hB;unfold repV;simp only
 go_enter func20,ntmps20
 go_upto_region 1 with (fail)
 rw[<- hW0];clear hW0
 by_cases e0:me=me2
 case neg =>
  have hno:res=false:=by rw[HR.out];exact decide_eq_false λh=>e0 (by injection h)
  have q0:(me==me2)=false:=beq_eq_false_iff_ne.2 e0;subst hno;clear e0
  go_wp2_with fail
  exact bodyPost_ret (v:=.bool false) (by simp[results,results20,go_sem]) rfl ⟨rfl,HBW.out⟩
 have q0:(me==me2)=true:=by rw[e0];exact beq_self_eq_true _
 have E0:=hid e0;clear e0
 by_cases e1:many=many2
 case neg =>
  have hno:res=false:=by rw[HR.out];exact decide_eq_false λh=>e1 (by injection h)
  have q1:(many==many2)=false:=beq_eq_false_iff_ne.2 e1;subst hno;clear e1
  go_wp2_with fail
  exact bodyPost_ret (v:=.bool false) (by simp[results,results20,go_sem]) rfl ⟨rfl,HBW.out⟩
 have q1:(many==many2)=true:=by rw[e1];exact beq_self_eq_true _
 have E1:=hid e1;clear e1
 by_cases e2:clock=clock2
 case neg =>
  have hno:res=false:=by rw[HR.out];exact decide_eq_false λh=>e2 (by injection h)
  have q2:(clock==clock2)=false:=beq_eq_false_iff_ne.2 e2;subst hno;clear e2
  go_wp2_with fail
  exact bodyPost_ret (v:=.bool false) (by simp[results,results20,go_sem]) rfl ⟨rfl,HBW.out⟩
 have q2:(clock==clock2)=true:=by rw[e2];exact beq_self_eq_true _
 have E2:=hid e2;clear e2
 by_cases e3:posts=posts2
 case neg =>
  have hno:res=false:=by rw[HR.out];exact decide_eq_false λh=>e3 (by injection h)
  subst hno;have E3:=hid (decide_eq_false e3);clear e3
  go_wp2_with (go_at_call 33;refine HS.out.mono ?_;rw[E3.out];rintro e w1 ⟨rfl,hb1⟩)
  exact bodyPost_ret (v:=.bool false) (by simp[results,results20,go_sem]) rfl ⟨rfl,HBW.out.trans (hb1.mono HBW.out.size)⟩
 have E3:=hid (decide_eq_true e3);have E3':=hid e3;clear e3;have hfin:res=decide (heard=heard2):=by
  rw[HR.out,E0.out,E1.out,E2.out,E3'.out]
  by_cases h:heard=heard2
  ·rw[h];simp
  ·rw[decide_eq_false h];exact decide_eq_false λe=>h (by injection e)
 subst hfin
 go_wp2_with (first
  | (go_at_call 33;refine HS.out.mono ?_;rw[E3.out];rintro e w1 ⟨rfl,hb1⟩;have a4':=(hb1.cell (p:=⟨w.heap.size,4,none⟩) hlA).trans a4;have b4':=(hb1.cell (p:=⟨w.heap.size+1,4,none⟩) hlB).trans b4)
  | (go_at_call 37;refine(HI.out w1 hb1).mono ?_;rintro e w2 ⟨rfl,hb2⟩))
 exact bodyPost_ret (v:=.bool (decide (heard=heard2))) (by simp[results,results20,go_sem]) rfl ⟨rfl,HBW.out.trans ((hb1.trans (hb2.mono hb1.size)).mono HBW.out.size)⟩
theorem rsameMsg_any (w:World)(r:Rp.Msg)(A:Option Addr)(n c:Nat)(A':Option Addr)(n' c':Nat)(r2:Rp.Msg)(B:Option Addr)(m d:Nat)(B':Option Addr)(m' d':Nat)
 (h:MsgR w w.heap.size r A n A' n') (h2:MsgR w w.heap.size r2 B m B' m') :
 Calls prog 21 #[msgV r A n c A' n' c',msgV r2 B m d B' m' d'] w λe w'=>e=.returned (.bool (decide (r=r2)))/\Below w.heap.size w w':=by
 obtain⟨src,posts,heard⟩:=r;obtain⟨src2,posts2,heard2⟩:=r2;obtain⟨W0,hW0⟩:∃W0,W0=(w.alloc (.cells #[.int .i64 src,.slice A n c,.slice A' n' c'] 28)).alloc (.cells #[.int .i64 src2,.slice B m d,.slice B' m' d'] 28):=⟨_,rfl⟩;have hbW:Below w.heap.size w W0:=by rw[hW0];exact((Below.refl _ _).alloc (Nat.le_refl _) _).alloc (by simp) _
 have hA:Blk W0 w.heap.size 28 #[.int .i64 src,.slice A n c,.slice A' n' c']:=by rw[hW0];exact(Blk.new _ _ _).alloc _
 have hB:Blk W0 (w.heap.size+1) 28 #[.int .i64 src2,.slice B m d,.slice B' m' d']:=by rw[hW0];exact Blk.new2 _ _ _ _
 have HS:=hid (samePosts_any W0 A n c posts B m d posts2 ((h.posts.below hbW).more hbW.size) h.len ((h2.posts.below hbW).more hbW.size) h2.len h.few h2.few);have HI:=hid (λw1 (hb:Below W0.heap.size W0 w1)=>ints_any w1 A' n' c' heard B' m' d' heard2 (((h.heard.below hbW).more hbW.size).below hb |>.more hb.size) (((h2.heard.below hbW).more hbW.size).below hb |>.more hb.size) h.few' h2.few');obtain⟨res,hres⟩:∃res,res=decide ((⟨src,posts,heard⟩:Rp.Msg)=⟨src2,posts2,heard2⟩):=⟨_,rfl⟩;rw[<- hres];have HR:=hid hres;have HBW:=hid hbW;obtain⟨a0,a1,a2⟩:=hA.cells3';obtain⟨b0,b1,b2⟩:=hB.cells3';have hlA:=hA.lt;have hlB:=hB.lt;clear hres h h2 hbW hA hB;unfold msgV;simp only
 go_enter func21,ntmps21
 go_upto_region 1 with (fail)
 rw[<- hW0];clear hW0
 by_cases e0:src=src2
 case neg =>
  have hno:res=false:=by rw[HR.out];exact decide_eq_false λh=>e0 (by injection h)
  have q0:(src==src2)=false:=beq_eq_false_iff_ne.2 e0;subst hno;clear e0
  go_wp2_with fail
  exact bodyPost_ret (v:=.bool false) (by simp[results,results21,go_sem]) rfl ⟨rfl,HBW.out⟩
 have q0:(src==src2)=true:=by rw[e0];exact beq_self_eq_true _
 have E0:=hid e0;clear e0
 by_cases e3:posts=posts2
 case neg =>
  have hno:res=false:=by rw[HR.out];exact decide_eq_false λh=>e3 (by injection h)
  subst hno;have E3:=hid (decide_eq_false e3);clear e3
  go_wp2_with (go_at_call 33;refine HS.out.mono ?_;rw[E3.out];rintro e w1 ⟨rfl,hb1⟩)
  exact bodyPost_ret (v:=.bool false) (by simp[results,results21,go_sem]) rfl ⟨rfl,HBW.out.trans (hb1.mono HBW.out.size)⟩
 have E3:=hid (decide_eq_true e3);have E3':=hid e3;clear e3;have hfin:res=decide (heard=heard2):=by
  rw[HR.out,E0.out,E3'.out]
  by_cases h:heard=heard2
  ·rw[h];simp
  ·rw[decide_eq_false h];exact decide_eq_false λe=>h (by injection e)
 subst hfin
 go_wp2_with (first
  | (go_at_call 33;refine HS.out.mono ?_;rw[E3.out];rintro e w1 ⟨rfl,hb1⟩;have a4':=(hb1.cell (p:=⟨w.heap.size,2,none⟩) hlA).trans a2;have b4':=(hb1.cell (p:=⟨w.heap.size+1,2,none⟩) hlB).trans b2)
  | (go_at_call 37;refine(HI.out w1 hb1).mono ?_;rintro e w2 ⟨rfl,hb2⟩))
 exact bodyPost_ret (v:=.bool (decide (heard=heard2))) (by simp[results,results21,go_sem]) rfl ⟨rfl,HBW.out.trans ((hb1.trans (hb2.mono hb1.size)).mono HBW.out.size)⟩
end
section
open Go.RowKit
theorem rformed_any (w:World)(m:Rp.Motion)(k sent:Nat)(hk5:k<=5)(hs:sent<=1000)(hok:m.ok k sent) :
 Calls prog 39 #[.agg #[.int .i64 (moK m),.int .i64 (moW m),.int .i64 (moA m),.string (moT m)],.int .i64 k,.int .i64 sent] w λe w'=>e=.returned (.bool true)/\Below w.heap.size w w':=by
 have HW:Hid (∀(i:Nat) W,i<k->Calls prog 38 #[.int .i64 i,.int .i64 0,.int .i64 ((k:Int) - 1)] W λe w'=>e=.returned (.bool true)/\W=w'):=hid λi W hi=>by
  have:=rin_any i 0 ((k:Int) - 1) W;rw[Rp.inr_iff.2 (by omega)]at this;exact this
 have HA:Hid (∀(i:Nat) W,i<sent->Calls prog 38 #[.int .i64 i,.int .i64 0,.int .i64 ((sent:Int) - 1)] W λe w'=>e=.returned (.bool true)/\W=w'):=hid λi W hi=>by
  have:=rin_any i 0 ((sent:Int) - 1) W;rw[Rp.inr_iff.2 (by omega)]at this;exact this
 obtain⟨W0,hW0⟩:∃W0,W0=w.alloc (.cells #[.int .i64 (moK m),.int .i64 (moW m),.int .i64 (moA m),.string (moT m)] 64):=⟨_,rfl⟩;have hb:=hid (show Below w.heap.size w W0 by rw[hW0];exact(Below.refl _ _).alloc (Nat.le_refl _) _);have hB:Blk W0 w.heap.size 64 #[.int .i64 (moK m),.int .i64 (moW m),.int .i64 (moA m),.string (moT m)]:=by rw[hW0];exact Blk.new _ _ _
 go_enter func39,ntmps39
 go_upto_region 1 with (fail)
 rw[<- hW0];clear hW0;cases m with
 | write i t =>
   obtain⟨h1,h2⟩:=hok;have HI:=hid (λW=>HW.out i W h1);simp only[moK,moW,moA,moT]at hB ⊢;obtain⟨b0,b1,b2,b3⟩:=hB.cells4;have hsz:(t.size:Int)<=20000:=by omega
   go_wp2_with (go_at_call 38;refine(HI.out _).mono ?_;rintro e w' ⟨rfl,rfl⟩)
   exact bodyPost_ret (v:=.bool true) (by simp[results,results39,go_sem]) rfl ⟨rfl,hb.out⟩
 | send i =>
   have h1:i<k:=hok;have HI:=hid (λW=>HW.out i W h1);simp only[moK,moW,moA,moT]at hB ⊢;obtain⟨b0,b1,b2,b3⟩:=hB.cells4
   go_wp2_with (go_at_call 38;refine(HI.out _).mono ?_;rintro e w' ⟨rfl,rfl⟩)
   exact bodyPost_ret (v:=.bool true) (by simp[results,results39,go_sem]) rfl ⟨rfl,hb.out⟩
 | deliver i a =>
   obtain⟨h1,h2⟩:=hok;have HI:=hid (λW=>HW.out i W h1);have HJ:=hid (λW=>HA.out a W h2);simp only[moK,moW,moA,moT]at hB ⊢;obtain⟨b0,b1,b2,b3⟩:=hB.cells4
   go_wp2_with (go_at_call 38;first|(with_reducible refine(HI.out _).mono ?_;rintro e w' ⟨rfl,rfl⟩)|(with_reducible refine(HJ.out _).mono ?_;rintro e w' ⟨rfl,rfl⟩))
   exact bodyPost_ret (v:=.bool true) (by simp[results,results39,go_sem]) rfl ⟨rfl,hb.out⟩
end
section
open Go.RowKit
def cutT (s:ByteArray)(k:Int):ByteArray:=s.extract 0 (min (s.size:Int) k).toNat
def cutP (p:Rp.Post):Rp.Post:={ p with text:=cutT p.text 20 }
def fewP (l:List Rp.Post):List Rp.Post:=(l.take 5).map cutP
theorem few_snoc {l:List Rp.Post}{j:Nat}{p:Rp.Post}(h:l[j]?=some p):(l.take (j+1)).map cutP=(l.take j).map cutP++[cutP p]:=by
 rw[List.take_add_one,h,List.map_append];rfl
theorem few_any (w:World)(A:Option Addr)(n c:Nat)(l:List Rp.Post)(hx:Reads w w.heap.size 4 A n (encPs l))(hl:l.length=n) :
 Calls prog 10 #[.slice A n c] w λe w'=>∃A3 c3,e=.returned (.slice A3 (fewP l).length c3)/\w'.ownsRow w.heap.size 57 4 (.slice A3 (fewP l).length c3) (fewP l).length (encPs (fewP l))/\Below w.heap.size w w':=by
 obtain⟨i0,hi0,hz0,hz1,hz2⟩:=info_parts info57;have HX:=hid hx;have HL:=hid hl;clear hx hl
 go_enter func10,ntmps10
 go_wp2_with fail
 go_loopw [3,4] (λs3 s4 wr=>∃(i:Nat) (A3:Option Addr) (c3:Nat),i<=n/\i<=5/\s3=.slice A3 i c3/\s4=.int .i64 i /\
  Hid (wr.ownsRow w.heap.size 57 4 (.slice A3 i c3) i (encPs ((l.take i).map cutP)))/\Hid (Below w.heap.size w wr)) (λ_ s4 _=>5 - (intOf s4).toNat)
 case atStart=>exact⟨0,none,0,by omega,by omega,rfl,rfl,hid (World.ownsRow_nil _ _ _ _),hid (Below.refl _ _)⟩
 case round =>
  obtain⟨i,A3,c3,hi,hi5,rfl,rfl,hO,hW⟩:=hrel;have hws:=hW.out.size
  by_cases hlt:i<n/\i<5
  ·obtain⟨hin,hi5'⟩:=hlt
   obtain⟨b,off,p,rfl,hbl,hq,h0,h1,h2,h3⟩:=((HX.out.below hW.out).more hws).post HL.out hin;have HQ:=hid hq;clear hq
   go_upto_region 6 with (fail)
   obtain⟨W1,hW1⟩:∃W1,W1=wr.alloc (.cells #[.int .i64 p.epoch,.int .i64 p.origin,.int .i64 p.number,.string p.text] 57):=⟨_,rfl⟩;rw[<- hW1];have hb1:Below wr.heap.size wr W1:=by rw[hW1];exact(Below.refl _ _).alloc (Nat.le_refl _) _
   have hK1:Blk W1 wr.heap.size 57 #[.int .i64 p.epoch,.int .i64 p.origin,.int .i64 p.number,.string p.text]:=by rw[hW1];exact Blk.new _ _ _
   clear hW1 h0 h1 h2 h3;obtain⟨p0,p1,p2,p3⟩:=hK1.cells4;have f3:=hK1.frozen 3
   go_upto_region 7 with (fail)
   obtain⟨W2,hW2⟩:∃W2,W2=W1.setCell ⟨wr.heap.size,3,none⟩ (.string (cutT p.text 20)):=⟨_,rfl⟩;have hW2':W1.setCell ⟨wr.heap.size,3,none⟩ (.string (p.text.extract 0 (min (p.text.size:Int) 20).toNat))=W2:=hW2.symm;rw[hW2'];have hK2:Blk W2 wr.heap.size 57 #[.int .i64 p.epoch,.int .i64 p.origin,.int .i64 p.number,.string (cutT p.text 20)]:=by
    rw[hW2];exact Blk.set_ (cs:=#[.int .i64 p.epoch,.int .i64 p.origin,.int .i64 p.number,.string p.text]) hK1 3 _
   have hb2:=hid (show Below wr.heap.size wr W2 by rw[hW2];exact hb1.setCell (by simp) _);clear hW2 hW2' hK1 hb1 p0 p1 p2 p3 f3;obtain⟨p0,p1,p2,p3⟩:=hK2.cells4;have hO5:=hid (own_below hO.out hb2.out);have hbw5:=hid (hW.out.trans (hb2.out.mono hws));have hs5:=hbw5.out.size;clear hK2 hO;obtain⟨tx,htx⟩:∃tx,tx=cutT p.text 20:=⟨_,rfl⟩;rw[<- htx]at p3;have HTx:=hid (show cutP p=⟨p.epoch,p.origin,p.number,tx⟩ by rw[htx];rfl);clear htx
   go_upto_region 4 with (first
    | (at_builtin
       refine wpList_append_lies _ (by rfl) _ _ 23 (by rfl) w.heap.size 57 i0 _ 4 40 underlying23 hi0 hz0 hz1 hz2 rfl (by omega) (.slice A3 i c3) i (encPs ((l.take i).map cutP)) (by rfl) (hO5.out.alloc _)
        ⟨W2.heap.size,0,none⟩ 1 1 [.int .i64 p.epoch,.int .i64 p.origin,.int .i64 p.number,.string tx] (by rfl) (by rfl) (World.news_of_block (cs:=#[.int .i64 p.epoch,.int .i64 p.origin,.int .i64 p.number,.string tx]) (t:=57) (fr:=(0,0)) (heap_alloc_new W2 _)) (by simp[Value.oneCell'])
        (by omega) (by simp only[maxLen];omega) (by omega) (by simp;omega) (W2.heap.size+1) (by simp) ?_
       intro g cap w7 hown7 hgrow hat hlt7)
    | fail)
   have hO7:=hid (show w7.ownsRow w.heap.size 57 4 (.slice (some ⟨g,0,none⟩) (i+1) cap) (i+1) (encPs ((l.take (i+1)).map cutP)) by rw[few_snoc HQ.out,encPs_snoc,HTx.out];exact hown7);have hb7:=hid (show Below w.heap.size w w7 from(hbw5.out.alloc hs5 _).grown hgrow (by simp;omega) (λj hj=>(hO5.out.lt j hj).1));clear hown7 hgrow hat hO5 p0 p1 p2 p3
   go_wp2_with fail
   go_roundw
   case rel=>exact⟨i+1,some ⟨g,0,none⟩,cap,by omega,by omega,rfl,by go_num,hO7,hb7⟩
   case measure=>simp[intOf];omega
  ·have hlen:(fewP l).length=i:=by
    unfold fewP;rw[List.length_map,List.length_take,HL.out];omega
   have htk:(l.take i).map cutP=fewP l:=by
    unfold fewP;rcases(by omega:i=5∨i=n)with h|h
    ·rw[h]
    ·rw[List.take_of_length_le (by rw[HL.out];omega),List.take_of_length_le (by rw[HL.out];omega)]
   have hO2:=hid (show wr.ownsRow w.heap.size 57 4 (.slice A3 i c3) i (encPs (fewP l)) by rw[<- htk];exact hO.out);have HLn:=hid hlen;clear hO hlen htk
   by_cases hA:i<n
   ·have h5:¬((i:Int)<5):=by omega
    go_wp2_with fail
    exact bodyPost_ret (v:=.slice A3 i c3) (by simp[results,results10,go_sem]) rfl ⟨A3,c3,by rw[HLn.out],by rw[HLn.out];exact hO2.out,hW.out⟩
   ·have hA':¬((i:Int)<n):=by omega
    go_wp2_with fail
    exact bodyPost_ret (v:=.slice A3 i c3) (by simp[results,results10,go_sem]) rfl ⟨A3,c3,by rw[HLn.out],by rw[HLn.out];exact hO2.out,hW.out⟩
end
section
open Go.RowKit
def shortR (r:Rp.Rep):Rp.Rep:={ r with posts:=fewP r.posts,heard:=r.heard.take 6 }
structure RepL (w:World) (B:Nat) (r:Rp.Rep) (A:Option Addr) (n:Nat) (A':Option Addr) (n':Nat):Prop where
 posts:Reads w B 4 A n (encPs r.posts)
 len:r.posts.length=n
 heard:Reads w B 1 A' n' (r.heard.map (Value.int .i64))
 len':r.heard.length=n'
theorem Reads.int_take {w:World}{B n:Nat}{A:Option Addr}{l:List Int}(h:Reads w B 1 A n (l.map (Value.int .i64)))(k:Nat)(hk:k<=n):Reads w B 1 A k ((l.take k).map (Value.int .i64)):=by
 have hl:l.length=n:=by have:=h.1;simpa using this
 refine⟨by simp;omega,λh0=>?_⟩;obtain⟨b,off,e,hb,hc⟩:=h.2 (by omega);refine⟨b,off,e,hb,λj u hu=>hc j u ?_⟩;rw[List.getElem?_map]at hu ⊢;have hj:j<k:=by
  rcases Nat.lt_or_ge j k with h|h
  ·exact h
  ·rw[List.getElem?_eq_none (by simp;omega)]at hu;cases hu
 rw[List.getElem?_take_of_lt hj]at hu;exact hu
theorem short_any (w:World)(r:Rp.Rep)(A:Option Addr)(n c:Nat)(A':Option Addr)(n' c':Nat)(h:RepL w w.heap.size r A n A' n')(hcap':n'<=c') :
 Calls prog 12 #[repV r A n c A' n' c'] w λe w'=>∃A1 c1,e=.returned (repV (shortR r) A1 (fewP r.posts).length c1 A' (min n' 6) c')/\(fewP r.posts).length<=c1/\RepR w' w'.heap.size (shortR r) A1 (fewP r.posts).length A' (min n' 6)/\Fresh w.heap.size A1/\Below w.heap.size w w':=by
 obtain⟨me,many,clock,posts,heard⟩:=r;obtain⟨W0,hW0⟩:∃W0,W0=(w.alloc (.cells #[.int .i64 me,.int .i64 many,.int .i64 clock,.slice A n c,.slice A' n' c'] 26)).alloc (.cells #[.int .i64 0,.int .i64 0,.int .i64 0,.slice none 0 0,.slice none 0 0] 26):=⟨_,rfl⟩;have hbW:Below w.heap.size w W0:=by rw[hW0];exact((Below.refl _ _).alloc (Nat.le_refl _) _).alloc (by simp) _
 have hBW:=hid (show Blk W0 w.heap.size 26 #[.int .i64 me,.int .i64 many,.int .i64 clock,.slice A n c,.slice A' n' c'] by rw[hW0];exact(Blk.new _ _ _).alloc _);have hRW:=hid (show Blk W0 (w.heap.size+1) 26 #[.int .i64 0,.int .i64 0,.int .i64 0,.slice none 0 0,.slice none 0 0] by rw[hW0];exact Blk.new2 _ _ _ _);have hs0:w.heap.size+2<=W0.heap.size:=by rw[hW0];simp
 have HH:=hid h;have HF:=hid (few_any W0 A n c posts ((h.posts.below hbW).more hbW.size) h.len);have HbW:=hid hbW;have hl':=h.len';have hf5:(fewP posts).length<=5:=by unfold fewP;rw[List.length_map,List.length_take];omega
 obtain⟨fn,hfn⟩:∃fn,fn=(fewP posts).length:=⟨_,rfl⟩;rw[<- hfn]at HF hf5;have HFn:=hid hfn;clear hfn;simp only at hl';clear h hbW;unfold repV;simp only
 go_enter func12,ntmps12
 go_upto_region 1 with (fail)
 rw[<- hW0];clear hW0;obtain⟨b0,b1,b2,b3,b4⟩:=hBW.out.cells5
 go_wp2_with fail
 refine HF.out.mono ?_;rintro e w1 ⟨A1,c1,rfl,ho1,hb1⟩;have hw1:=hb1.size;have hB1:=hid (hBW.out.below hb1 (by omega));have hR1:=hid (hRW.out.below hb1 (by omega));have HO1:=hid ho1;have hbe:=hid (HbW.out.trans (hb1.mono (by omega)));clear b0 b1 b2 b3 b4 ho1 hb1;obtain⟨b0,b1,b2,b3,b4⟩:=hB1.out.cells5;obtain⟨f0,f1,f2,f3,f4⟩:=hB1.out.soft5
 go_upto_region 2 with (fail)
 obtain⟨W2,hW2⟩:∃W2,W2=w1.setCell ⟨w.heap.size,3,none⟩ (.slice A1 fn c1):=⟨_,rfl⟩;rw[<- hW2];have hB2:=hid (show Blk W2 w.heap.size 26 #[.int .i64 me,.int .i64 many,.int .i64 clock,.slice A1 fn c1,.slice A' n' c'] by rw[hW2];exact Blk.set_ hB1.out 3 _);have hR2:=hid (show Blk W2 (w.heap.size+1) 26 #[.int .i64 0,.int .i64 0,.int .i64 0,.slice none 0 0,.slice none 0 0] by rw[hW2];exact hR1.out.far (by simp) _);have HO2:=hid (show W2.ownsRow W0.heap.size 57 4 (.slice A1 fn c1) fn (encPs (fewP posts)) by rw[hW2];exact ownsRow_setCell_below HO1.out (by simp;omega) _);have hbe2:=hid (show Below w.heap.size w W2 by rw[hW2];exact hbe.out.setCell (by simp) _);clear hW2 b0 b1 b2 b3 b4 f0 f1 f2 f3 f4;obtain⟨b0,b1,b2,b3,b4⟩:=hB2.out.cells5;obtain⟨f0,f1,f2,f3,f4⟩:=hB2.out.soft5
 go_upto_region 3 with (fail)
 have e6:(min (n':Int) 6).toNat=min n' 6:=by omega
 rw[e6];obtain⟨k6,hk6⟩:∃k6,k6=min n' 6:=⟨_,rfl⟩;rw[<- hk6];have HK6:=hid hk6;have hk6n:k6<=n':=by omega
 have hk66:k6<=6:=by omega
 clear e6 hk6;obtain⟨W3,hW3⟩:∃W3,W3=W2.setCell ⟨w.heap.size,4,none⟩ (.slice A' k6 c'):=⟨_,rfl⟩;rw[<- hW3];have hB3:=hid (show Blk W3 w.heap.size 26 #[.int .i64 me,.int .i64 many,.int .i64 clock,.slice A1 fn c1,.slice A' k6 c'] by rw[hW3];exact Blk.set_ hB2.out 4 _);have hR3:=hid (show Blk W3 (w.heap.size+1) 26 #[.int .i64 0,.int .i64 0,.int .i64 0,.slice none 0 0,.slice none 0 0] by rw[hW3];exact hR2.out.far (by simp) _);have HO3:=hid (show W3.ownsRow W0.heap.size 57 4 (.slice A1 fn c1) fn (encPs (fewP posts)) by rw[hW3];exact ownsRow_setCell_below HO2.out (by simp;omega) _);have hbe3:=hid (show Below w.heap.size w W3 by rw[hW3];exact hbe2.out.setCell (by simp) _);clear hW3 b0 b1 b2 b3 b4 f0 f1 f2 f3 f4;obtain⟨b0,b1,b2,b3,b4⟩:=hB3.out.cells5;obtain⟨r0,r1,r2,r3,r4⟩:=hR3.out.cells5;obtain⟨s0,s1,s2,s3,s4⟩:=hR3.out.soft5
 go_wp2_with fail
 refine bodyPost_ret (v:=.agg #[.int .i64 me,.int .i64 many,.int .i64 clock,.slice A1 fn c1,.slice A' k6 c']) (by simp[results,results12,go_sem,r0,r1,r2,r3,r4]) rfl ⟨A1,c1,by rw[<- HFn.out,<- HK6.out];rfl,by rw[<- HFn.out];exact own_cap HO3.out,?_,Fresh.of_own HO3.out (by have:=HbW.out.size;omega),?_⟩
 ·rw[<- HFn.out,<- HK6.out]
  have hbz:Below w.heap.size w _:=(((((hbe3.out.setCell (p:=⟨w.heap.size+1,0,none⟩) (by simp) (.int .i64 me)).setCell (p:=⟨w.heap.size+1,1,none⟩) (by simp) (.int .i64 many)).setCell (p:=⟨w.heap.size+1,2,none⟩) (by simp) (.int .i64 clock)).setCell (p:=⟨w.heap.size+1,3,none⟩) (by simp) (.slice A1 fn c1)).setCell (p:=⟨w.heap.size+1,4,none⟩) (by simp) (.slice A' k6 c'));refine⟨?_,HFn.out.symm,?_,by show(heard.take 6).length=k6;rw[List.length_take,HK6.out];omega,by omega,by omega⟩
  ·refine Reads.of_own (?_:World.ownsRow _ W0.heap.size 57 4 (.slice A1 fn c1) fn (encPs (fewP posts)))
   repeat(refine ownsRow_setCell_below ?_ (by simp;omega) _)
   exact HO3.out
  ·have h1:=((HH.out.heard.below hbz).more hbz.size).int_take k6 hk6n
   have e7:heard.take k6=heard.take 6:=by
    rw[HK6.out];rcases Nat.le_total n' 6 with h|h
    ·rw[Nat.min_eq_left h,List.take_of_length_le (by omega),List.take_of_length_le (by omega)]
    ·rw[Nat.min_eq_right h]
   simp only at h1;rw[e7]at h1;exact h1
 ·repeat(refine Below.setCell ?_ (by simp) _)
  exact hbe3.out
end
section
open Go.RowKit
def Apt (A:Option Addr)(n:Nat)(va vb:Value):Prop:=0<n->∀a,A=some a->va.ownBlock≠some a.block/\vb.ownBlock≠some a.block
structure RunS (B:Nat) (W:World) (va:Value) (rl:List RV) (vb:Value) (ml:List MV):Prop where
 reps:W.ownsRow B 26 5 va rl.length (encRs rl)
 msgs:W.ownsRow B 28 3 vb ml.length (encMs ml)
 rep:∀v∈rl,RepR W W.heap.size v.r v.A v.n v.A' v.n'/\Apt v.A v.n va vb/\Apt v.A' v.n' va vb
 msg:∀v∈ml,MsgR W W.heap.size v.m v.M v.N v.M' v.N'/\v.N<=v.C/\Apt v.M v.N va vb/\Apt v.M' v.N' va vb
 caps:∀v∈rl,v.n<=v.c
section
variable {B:Nat} {W W':World} {va vb:Value} {rl:List RV} {ml:List MV}
theorem RunS.keep (h:RunS B W va rl vb ml)(hb:Below W.heap.size W W'):RunS B W' va rl vb ml :=
 ⟨own_below h.reps hb,own_below h.msgs hb,λv hv=>⟨((h.rep v hv).1.below hb).more hb.size,(h.rep v hv).2⟩,
   λv hv=>⟨((h.msg v hv).1.below hb).more hb.size,(h.msg v hv).2⟩,h.caps⟩
theorem Fresh.apt {A:Option Addr}{n:Nat}(h:RunS B W va rl vb ml)(hf:Fresh W.heap.size A):Apt A n va vb:=by
 intro _ a ha;have h1:=hf a ha;have key:∀{e:TypeId} {s n:Nat} {v:Value} {xs:List Value},W.ownsRow B e s v n xs->v.ownBlock≠some a.block:=by
  intro e s n v xs ho e1;have:=ho.lt a.block e1;omega
 exact⟨key h.reps,key h.msgs⟩
theorem RunS.apart (h:RunS B W va rl vb ml):va.ownBlock=none∨va.ownBlock≠vb.ownBlock:=own_apart h.reps h.msgs (by decide)
end
theorem RunS.repCells {B g cap:Nat}{W:World}{vb:Value}{rl:List RV}{ml:List MV}{v:RV}{who:Nat}(h:RunS B W (.slice (some ⟨g,0,none⟩) rl.length cap) rl vb ml)(hv:rl[who]?=some v) :
 W.cell? ⟨g,who*5,none⟩=some (.int .i64 v.r.me)/\W.cell? ⟨g,who*5+1,none⟩=some (.int .i64 v.r.many)/\W.cell? ⟨g,who*5+2,none⟩=some (.int .i64 v.r.clock) /\
  W.cell? ⟨g,who*5+3,none⟩=some (.slice v.A v.n v.c)/\W.cell? ⟨g,who*5+4,none⟩=some (.slice v.A' v.n' v.c'):=by
 have hl:who<rl.length:=(List.getElem?_eq_some_iff.1 hv).1;have key:∀i,i<5->W.cell? ⟨g,who*5+i,none⟩=v.enc[i]?:=λi hi=>by
  rw[h.reps.cellAt (who*5+i) (by omega),encRs_get rl who v i hv hi]
 exact⟨key 0 (by omega),key 1 (by omega),key 2 (by omega),key 3 (by omega),key 4 (by omega)⟩
theorem RunS.msgCells {B g cap:Nat}{W:World}{va:Value}{rl:List RV}{ml:List MV}{v:MV}{a:Nat}(h:RunS B W va rl (.slice (some ⟨g,0,none⟩) ml.length cap) ml)(hv:ml[a]?=some v) :
 W.cell? ⟨g,a*3,none⟩=some (.int .i64 v.m.src)/\W.cell? ⟨g,a*3+1,none⟩=some (.slice v.M v.N v.C)/\W.cell? ⟨g,a*3+2,none⟩=some (.slice v.M' v.N' v.C'):=by
 have hl:a<ml.length:=(List.getElem?_eq_some_iff.1 hv).1;have key:∀i,i<3->W.cell? ⟨g,a*3+i,none⟩=v.enc[i]?:=λi hi=>by
  rw[h.msgs.cellAt (a*3+i) (by omega),encMs_get ml a v i hv hi]
 exact⟨key 0 (by omega),key 1 (by omega),key 2 (by omega)⟩
theorem row_storeS {B g n cap m k:Nat}{W:World}{vb:Value}{xs ys:List Value}(u:Value)
 (h:W.ownsRow B 26 5 (.slice (some ⟨g,0,none⟩) n cap) n xs/\W.ownsRow B 28 3 vb m ys) :
 (W.setCell ⟨g,k,none⟩ u).ownsRow B 26 5 (.slice (some ⟨g,0,none⟩) n cap) n (xs.set k u)/\(W.setCell ⟨g,k,none⟩ u).ownsRow B 28 3 vb m ys:=by
 obtain⟨hr,hm⟩:=h;refine⟨(hr.stored k u).1,own_far hm (p:=⟨g,k,none⟩) ?_ u⟩;intro e;exact(own_apart hm hr (by decide)).elim (λh=>by rw[h]at e;cases e) (λh=>h e)
theorem Apt.ne {A:Option Addr}{k g n c:Nat}{vb:Value}(h:Apt A k (.slice (some ⟨g,0,none⟩) n c) vb):0<k->∀a,A=some a->a.block≠g :=
 λhk a ha e=>(h hk a ha).1 (by simp[Value.ownBlock,e])
theorem RunS.setRep {B g cap:Nat}{W:World}{vb:Value}{rl:List RV}{ml:List MV}(h:RunS B W (.slice (some ⟨g,0,none⟩) rl.length cap) rl vb ml){who:Nat}(hw:who<rl.length)(v:RV)
 (hv:RepR W W.heap.size v.r v.A v.n v.A' v.n') (h1:Apt v.A v.n (.slice (some ⟨g,0,none⟩) rl.length cap) vb) (h2:Apt v.A' v.n' (.slice (some ⟨g,0,none⟩) rl.length cap) vb) (hcv:v.n<=v.c) :
 RunS B (((((W.setCell ⟨g,who*5,none⟩ (.int .i64 v.r.me)).setCell ⟨g,who*5+1,none⟩ (.int .i64 v.r.many)).setCell ⟨g,who*5+2,none⟩ (.int .i64 v.r.clock)).setCell ⟨g,who*5+3,none⟩ (.slice v.A v.n v.c)).setCell ⟨g,who*5+4,none⟩ (.slice v.A' v.n' v.c'))
  (.slice (some ⟨g,0,none⟩) rl.length cap) (rl.set who v) vb ml:=by
 obtain⟨r,m⟩:=row_storeS (k:=who*5+4) (.slice v.A' v.n' v.c') (row_storeS (k:=who*5+3) (.slice v.A v.n v.c) (row_storeS (k:=who*5+2) (.int .i64 v.r.clock) (row_storeS (k:=who*5+1) (.int .i64 v.r.many) (row_storeS (k:=who*5) (.int .i64 v.r.me) ⟨h.reps,h.msgs⟩))));rw[encRs_set rl who v hw]at r;refine⟨by rw[List.length_set];exact r,m,λv' hv'=>?_,λv' hv'=>?_,λv' hv'=>(List.mem_or_eq_of_mem_set hv').elim (h.caps v') (λe=>e▸hcv)⟩
 ·have key:RepR W W.heap.size v'.r v'.A v'.n v'.A' v'.n'/\Apt v'.A v'.n (.slice (some ⟨g,0,none⟩) rl.length cap) vb/\Apt v'.A' v'.n' (.slice (some ⟨g,0,none⟩) rl.length cap) vb:=by
   rcases List.mem_or_eq_of_mem_set hv' with h'|h'
   ·exact h.rep v' h'
   ·subst h';exact⟨hv,h1,h2⟩
  refine⟨?_,key.2⟩;simp only[size_setCell]
  repeat(refine RepR.far0 ?_ key.2.1.ne key.2.2.ne _)
  exact key.1
 ·have key:=h.msg v' hv'
  refine⟨?_,key.2⟩;simp only[size_setCell]
  repeat(refine MsgR.far0 ?_ key.2.2.1.ne key.2.2.2.ne _)
  exact key.1
theorem apt_push {w1:World}{va vb:Value}{g' n' c' k K:Nat}{s:Nat}{A:Option Addr}{xs:List Value}{w:World}(h:Apt A k va vb)(hr:Reads w K s A k xs)(hK:K<=w1.heap.size)(hat:vb.ownBlock=some g'∨w1.heap.size<=g') :
 Apt A k va (.slice (some ⟨g',0,none⟩) n' c'):=by
 intro hk a ha;obtain⟨h2,h3⟩:=h hk a ha;refine⟨h2,?_⟩;have h4:=hr.lt hk a ha;simp only[Value.ownBlock,ne_eq,Option.some.injEq];intro e;rcases hat with h5|h5
 ·rw[h5]at h3;simp at h3;omega
 ·omega
theorem apt_pushA {w1:World}{va vb:Value}{g' n' c' k K:Nat}{s:Nat}{A:Option Addr}{xs:List Value}{w:World}(h:Apt A k va vb)(hr:Reads w K s A k xs)(hK:K<=w1.heap.size)(hat:va.ownBlock=some g'∨w1.heap.size<=g') :
 Apt A k (.slice (some ⟨g',0,none⟩) n' c') vb:=by
 intro hk a ha;obtain⟨h2,h3⟩:=h hk a ha;refine⟨?_,h3⟩;have h4:=hr.lt hk a ha;simp only[Value.ownBlock,ne_eq,Option.some.injEq];intro e;rcases hat with h5|h5
 ·rw[h5]at h2;simp at h2;omega
 ·omega
theorem RunS.push {B g' cap':Nat}{W W1 w7:World}{va vb:Value}{rl:List RV}{ml:List MV}(h:RunS B W va rl vb ml)(v:MV)(hv:MsgR W W.heap.size v.m v.M v.N v.M' v.N')(hc:v.N<=v.C)
 (h1:Apt v.M v.N va vb) (h2:Apt v.M' v.N' va vb) (hW1:Below W.heap.size W W1) (hgrow:W1.grownBy w7 vb.ownBlock)
 (hown:w7.ownsRow B 28 3 (.slice (some ⟨g',0,none⟩) (ml.length+1) cap') (ml.length+1) (encMs ml++v.enc)) (hat:vb.ownBlock=some g'∨W1.heap.size<=g') :
 RunS B w7 va rl (.slice (some ⟨g',0,none⟩) (ml.length+1) cap') (ml++[v]):=by
 have hm1:=own_below h.msgs hW1;have hr1:=own_below h.reps hW1;have hr7:=hr1.kept hgrow (own_apart hr1 hm1 (by decide));have hs7:=hgrow.size;have hsW:=hW1.size;refine⟨hr7,?_,λv' hv'=>?_,λv' hv'=>?_,h.caps⟩
 ·rw[encMs_snoc,List.length_append]
  exact hown
 ·obtain⟨k1,k2,k3⟩:=h.rep v' hv'
  refine⟨?_,apt_push (w1:=W1) k2 k1.posts hsW hat,apt_push (w1:=W1) k3 k1.heard hsW hat⟩;exact((k1.below hW1).grown hgrow hsW (λhk a ha e=>(k2 hk a ha).2 e.symm) (λhk a ha e=>(k3 hk a ha).2 e.symm)).more (by omega)
 ·have key:MsgR W W.heap.size v'.m v'.M v'.N v'.M' v'.N'/\v'.N<=v'.C/\Apt v'.M v'.N va vb/\Apt v'.M' v'.N' va vb:=by
   rcases List.mem_append.1 hv' with h'|h'
   ·exact h.msg v' h'
   ·obtain rfl:v'=v:=by simpa using h'
    exact⟨hv,hc,h1,h2⟩
  obtain⟨k1,k0,k2,k3⟩:=key;refine⟨?_,k0,apt_push (w1:=W1) k2 k1.posts hsW hat,apt_push (w1:=W1) k3 k1.heard hsW hat⟩;exact((k1.below hW1).grown hgrow hsW (λhk a ha e=>(k2 hk a ha).2 e.symm) (λhk a ha e=>(k3 hk a ha).2 e.symm)).more (by omega)
theorem RunS.pushRep {B g' cap':Nat}{W W1 w7:World}{va vb:Value}{rl:List RV}{ml:List MV}(h:RunS B W va rl vb ml)(v:RV)(hv:RepR W W.heap.size v.r v.A v.n v.A' v.n')
 (h1:Apt v.A v.n va vb) (h2:Apt v.A' v.n' va vb) (hcv:v.n<=v.c) (hW1:Below W.heap.size W W1) (hgrow:W1.grownBy w7 va.ownBlock)
 (hown:w7.ownsRow B 26 5 (.slice (some ⟨g',0,none⟩) (rl.length+1) cap') (rl.length+1) (encRs rl++v.enc)) (hat:va.ownBlock=some g'∨W1.heap.size<=g') :
 RunS B w7 (.slice (some ⟨g',0,none⟩) (rl.length+1) cap') (rl++[v]) vb ml:=by
 have hm1:=own_below h.msgs hW1;have hr1:=own_below h.reps hW1;have hm7:=hm1.kept hgrow (own_apart hm1 hr1 (by decide));have hs7:=hgrow.size;have hsW:=hW1.size;refine⟨?_,hm7,λv' hv'=>?_,λv' hv'=>?_,λv' hv'=>(List.mem_append.1 hv').elim (h.caps v') (λe=>by have ev:v'=v:=(by simpa using e);rw[ev];exact hcv)⟩
 ·rw[encRs_snoc,List.length_append]
  exact hown
 ·have key:RepR W W.heap.size v'.r v'.A v'.n v'.A' v'.n'/\Apt v'.A v'.n va vb/\Apt v'.A' v'.n' va vb:=by
   rcases List.mem_append.1 hv' with h'|h'
   ·exact h.rep v' h'
   ·obtain rfl:v'=v:=by simpa using h'
    exact⟨hv,h1,h2⟩
  obtain⟨k1,k2,k3⟩:=key;refine⟨?_,apt_pushA (w1:=W1) k2 k1.posts hsW hat,apt_pushA (w1:=W1) k3 k1.heard hsW hat⟩;exact((k1.below hW1).grown hgrow hsW (λhk a ha e=>(k2 hk a ha).1 e.symm) (λhk a ha e=>(k3 hk a ha).1 e.symm)).more (by omega)
 ·obtain⟨k1,k0,k2,k3⟩:=h.msg v' hv'
  refine⟨?_,k0,apt_pushA (w1:=W1) k2 k1.posts hsW hat,apt_pushA (w1:=W1) k3 k1.heard hsW hat⟩;exact((k1.below hW1).grown hgrow hsW (λhk a ha e=>(k2 hk a ha).1 e.symm) (λhk a ha e=>(k3 hk a ha).1 e.symm)).more (by omega)
end
end Go.Proofs.YtnehgpeelgjjhaaGreatDoor.Tw
