/- Contracts of functions of the program, and plain laws, towards the laws of replicas. Joined of the texts: R10. -/
import Derived.Test.YtnehgpeelgjjhaaGreatDoorW24
import Derived.Test.YtnehgpeelgjjhaaGreatDoorW07
set_option linter.all false
set_option maxRecDepth 100000
set_option maxHeartbeats 12800000
open Go.Lib (hid)
namespace Go.Proofs.YtnehgpeelgjjhaaGreatDoor.Tw
open Go.Proofs.Tryz
section
open Go.RowKit
structure Boxes (w W:World) (rb mb:Array Value):Prop where
 r:Blk W w.heap.size 26 rb
 m:Blk W (w.heap.size+1) 28 mb
 z:Blk W (w.heap.size+1+1) 26 #[.int .i64 0,.int .i64 0,.int .i64 0,.slice none 0 0,.slice none 0 0]
 below:Below w.heap.size w W
theorem Boxes.later {w W W':World}{rb mb:Array Value}(h:Boxes w W rb mb)(hb:Below W.heap.size W W'):Boxes w W' rb mb :=
 ⟨h.r.below hb h.r.lt,h.m.below hb h.m.lt,h.z.below hb h.z.lt,h.below.trans (hb.mono h.below.size)⟩
theorem hear_nolog {r:Rp.Rep}{m:Rp.Msg}(h:Rp.isLog (Rp.merge r.posts m.posts) r.many=false):Rp.hear r m=none:=by
 unfold Rp.hear;have:Rp.valid (Rp.joined r m)=false:=by
  unfold Rp.valid Rp.joined;simp only;rw[h];simp
 rw[this];simp
theorem Blk.cells3' {w:World}{g:Nat}{t:TypeId}{a b c:Value}(h:Blk w g t #[a,b,c]) :
 w.cell? ⟨g,0,none⟩=some a/\w.cell? ⟨g,1,none⟩=some b/\w.cell? ⟨g,2,none⟩=some c:=⟨h.cell 0,h.cell 1,h.cell 2⟩
theorem rhear_any (w:World)(r:Rp.Rep)(A:Option Addr)(n c:Nat)(A':Option Addr)(n' c':Nat)(m:Rp.Msg)(M:Option Addr)(N C0:Nat)(M':Option Addr)(N' C':Nat)
 (h:RepR w w.heap.size r A n A' n') (hm:MsgR w w.heap.size m M N M' N') (hcapn:n<=c) (hcap:N<=C0) :
 Calls prog 26 #[repV r A n c A' n' c',msgV m M N C0 M' N' C'] w λe w'=>GotRep w w' e (Rp.hear r m):=by
 obtain⟨me,many,clock,posts,heard⟩:=r;obtain⟨src,mposts,mheard⟩:=m;obtain⟨W0,hW0⟩:∃W0,W0=((w.alloc (.cells #[.int .i64 me,.int .i64 many,.int .i64 clock,.slice A n c,.slice A' n' c'] 26)).alloc (.cells #[.int .i64 src,.slice M N C0,.slice M' N' C'] 28)).alloc (.cells #[.int .i64 0,.int .i64 0,.int .i64 0,.slice none 0 0,.slice none 0 0] 26):=⟨_,rfl⟩;have HX:=hid (show Boxes w W0 #[.int .i64 me,.int .i64 many,.int .i64 clock,.slice A n c,.slice A' n' c'] #[.int .i64 src,.slice M N C0,.slice M' N' C'] by
  rw[hW0];refine⟨((Blk.new _ _ _).alloc _).alloc _,(Blk.new2 _ _ _ _).alloc _,?_,(((Below.refl _ _).alloc (Nat.le_refl _) _).alloc (by simp) _).alloc (by simp;omega) _⟩;have hbn:=Blk.new2 (w.alloc (.cells #[.int .i64 me,.int .i64 many,.int .i64 clock,.slice A n c,.slice A' n' c'] 26)) (.cells #[.int .i64 src,.slice M N C0,.slice M' N' C'] 28) 26 #[.int .i64 0,.int .i64 0,.int .i64 0,.slice none 0 0,.slice none 0 0];simp only[World.size_alloc]at hbn;exact hbn)
 have HH:=hid h;have HM:=hid hm;have HV:=hid (rvalid_any W0 ⟨me,many,clock,posts,heard⟩ A n c A' n' c' ((h.below HX.out.below).more HX.out.below.size) hcapn);clear h hm;unfold repV msgV at *;simp only at HV ⊢
 go_enter func26,ntmps26
 go_upto_region 1 with (fail)
 rw[<- hW0];clear hW0;obtain⟨b0,b1,b2,b3,b4⟩:=HX.out.r.cells5;obtain⟨y0,y1,y2⟩:=HX.out.m.cells3';obtain⟨r0,r1,r2,r3,r4⟩:=HX.out.z.cells5;obtain⟨s0,s1,s2,s3,s4⟩:=HX.out.z.soft5
 go_wp2_with fail
 refine(HV.out).mono ?_;rintro e w1 ⟨rfl,hbN⟩;have HX':=hid (HX.out.later hbN);clear b0 b1 b2 b3 b4 y0 y1 y2 r0 r1 r2 r3 r4 s0 s1 s2 s3 s4;clear HX hbN;have HX:=HX';clear HX';obtain⟨b0,b1,b2,b3,b4⟩:=HX.out.r.cells5;obtain⟨y0,y1,y2⟩:=HX.out.m.cells3';obtain⟨r0,r1,r2,r3,r4⟩:=HX.out.z.cells5;obtain⟨s0,s1,s2,s3,s4⟩:=HX.out.z.soft5;cases hv:Rp.valid ⟨me,many,clock,posts,heard⟩
 ·have HN:=hid (hear_no (r:=⟨me,many,clock,posts,heard⟩) (m:=⟨src,mposts,mheard⟩) (by simp[Rp.mayHear,hv]))
  go_wp2;refine bodyPost_ret (v:=.tuple #[zeroRep,.int .i64 310]) (by simp[zeroRep,results,results26,go_sem,r0,r1,r2,r3,r4]) rfl ⟨?_,?_⟩
  ·repeat(refine Below.setCell ?_ (by simp;try omega) _)
   exact HX.out.below
  ·rw[HN.out]
 have HVV:=hid hv;obtain⟨⟨v1,v2⟩,⟨v3,v4⟩,⟨v5,v6⟩,v7,v8,v9⟩:=Rp.valid_iff.1 hv;simp only at v1 v2 v3 v4 v5 v6 v7 v8 v9;have V7:=hid v7;have V8:=hid v8;clear v7 v8 v9 hv v5 v6
 go_wp2_with fail
 refine(rin_any _ _ _ _).mono ?_;rintro e _ ⟨rfl,rfl⟩;cases hi:Rp.inr src 0 (many - 1)
 ·have HN:=hid (hear_no (r:=⟨me,many,clock,posts,heard⟩) (m:=⟨src,mposts,mheard⟩) (by simp[Rp.mayHear,hi]))
  go_wp2;refine bodyPost_ret (v:=.tuple #[zeroRep,.int .i64 310]) (by simp[zeroRep,results,results26,go_sem,r0,r1,r2,r3,r4]) rfl ⟨?_,?_⟩
  ·repeat(refine Below.setCell ?_ (by simp;try omega) _)
   exact HX.out.below
  ·rw[HN.out]
 have HI:=hid hi;clear hi
 go_wp2_with fail
 refine(rlog_any w1 M N C0 mposts many ((HM.out.posts.below HX.out.below).more HX.out.below.size) HM.out.len HM.out.few hcap ⟨v1,v2⟩).mono ?_;rintro e w2 ⟨rfl,hbN⟩;have HX':=hid (HX.out.later hbN);clear b0 b1 b2 b3 b4 y0 y1 y2 r0 r1 r2 r3 r4 s0 s1 s2 s3 s4;clear HX hbN;have HX:=HX';clear HX';obtain⟨b0,b1,b2,b3,b4⟩:=HX.out.r.cells5;obtain⟨y0,y1,y2⟩:=HX.out.m.cells3';obtain⟨r0,r1,r2,r3,r4⟩:=HX.out.z.cells5;obtain⟨s0,s1,s2,s3,s4⟩:=HX.out.z.soft5;cases hlog:Rp.isLog mposts many
 ·have HN:=hid (hear_no (r:=⟨me,many,clock,posts,heard⟩) (m:=⟨src,mposts,mheard⟩) (by simp[Rp.mayHear,hlog]))
  go_wp2;refine bodyPost_ret (v:=.tuple #[zeroRep,.int .i64 310]) (by simp[zeroRep,results,results26,go_sem,r0,r1,r2,r3,r4]) rfl ⟨?_,?_⟩
  ·repeat(refine Below.setCell ?_ (by simp;try omega) _)
   exact HX.out.below
  ·rw[HN.out]
 have HG:=hid hlog;clear hlog
 go_wp2_with fail
 refine(rheard_any w2 M' N' C' mheard many 1000000 ((HM.out.heard.below HX.out.below).more HX.out.below.size) HM.out.few').mono ?_;rintro e _ ⟨rfl,rfl⟩;cases hhd:Rp.isHeard mheard many 1000000
 ·have HN:=hid (hear_no (r:=⟨me,many,clock,posts,heard⟩) (m:=⟨src,mposts,mheard⟩) (by simp[Rp.mayHear,hhd]))
  go_wp2;refine bodyPost_ret (v:=.tuple #[zeroRep,.int .i64 310]) (by simp[zeroRep,results,results26,go_sem,r0,r1,r2,r3,r4]) rfl ⟨?_,?_⟩
  ·repeat(refine Below.setCell ?_ (by simp;try omega) _)
   exact HX.out.below
  ·rw[HN.out]
 have HD:=hid hhd;clear hhd;obtain⟨k,rfl⟩:∃k:Nat,me=k:=⟨me.toNat,by omega⟩;have hk5:k<5:=by omega
 have hpn:(n':Int)=many:=by have h1:=HH.out.len';have h2:=(Rp.isHeard_iff.1 V7.out).1;simp only at h1;omega
 have hpN:(N':Int)=many:=by have h1:=HM.out.len';have h2:=(Rp.isHeard_iff.1 HD.out).1;simp only at h1;omega
 have hkn:k<n':=by omega
 have hkN:k<N':=by omega
 have h200:n<=200:=by have h1:=(Rp.isLog_iff.1 V8.out).1;have h2:=HH.out.len;simp only at h2;omega
 have H200:N<=200:=by have h1:=(Rp.isLog_iff.1 HG.out).1;have h2:=HM.out.len;simp only at h2;omega
 obtain⟨bm,om,xm,rfl,hbm,hqm,hm0⟩:=HM.out.heard.int hkN;obtain⟨br,oo,xr,rfl,hbr,hqr,hr0⟩:=HH.out.heard.int hkn;have HQM:=hid hqm;have HQR:=hid hqr;have HM0:=hid hm0;have HR0:=hid hr0;clear hqm hqr v3 v4 hm0 hr0;have HS:=hid (Rp.isLog_iff.1 V8.out).2.2.1;have hml:=HH.out.len;have hmm:=HM.out.len;simp only at hml hmm;have HX2:=HX
 go_wp2_with fail
 refine(rjoined_any w2 A n c posts M N C0 mposts many ⟨v1,v2⟩ ((HH.out.posts.below HX.out.below).more HX.out.below.size) HH.out.len ((HM.out.posts.below HX.out.below).more HX.out.below.size) HM.out.len (by omega) HS.out).mono ?_;rintro e w4 ⟨A3,n3,c3,rfl,o3,l3,hb4⟩;have HJoin:=hid o3;have HLen:=hid l3;have hn3:n3<=400:=by have h1:=merge_length posts mposts;omega
 have hw24:=hb4.size;have HBel:=hid hb4;have hww2:=HX.out.below.size;have HX':=hid (HX.out.later hb4);clear b0 b1 b2 b3 b4 y0 y1 y2 r0 r1 r2 r3 r4 s0 s1 s2 s3 s4;clear HX hb4 o3 l3;have HX:=HX';clear HX';obtain⟨b0,b1,b2,b3,b4⟩:=HX.out.r.cells5;obtain⟨y0,y1,y2⟩:=HX.out.m.cells3';obtain⟨r0,r1,r2,r3,r4⟩:=HX.out.z.cells5;obtain⟨s0,s1,s2,s3,s4⟩:=HX.out.z.soft5;cases hok:Rp.isLog (Rp.merge posts mposts) many
 ·have HN:=hid (hear_nolog (r:=⟨k,many,clock,posts,heard⟩) (m:=⟨src,mposts,mheard⟩) hok)
  clear hok
  go_upto_region 4 with (fail)
  refine wp_region_later (by kernel_rfl) (by kernel_rfl) ?_
  repeat(go_big_quiet_step (fail))
  refine wpQuiet_nil ?_;rintro W1 ⟨⟨_,hbN⟩,rfl⟩;have HX':=hid (HX.out.later hbN);clear b0 b1 b2 b3 b4 y0 y1 y2 r0 r1 r2 r3 r4 s0 s1 s2 s3 s4;clear HX hbN;have HX:=HX';clear HX';obtain⟨b0,b1,b2,b3,b4⟩:=HX.out.r.cells5;obtain⟨y0,y1,y2⟩:=HX.out.m.cells3';obtain⟨r0,r1,r2,r3,r4⟩:=HX.out.z.cells5;obtain⟨s0,s1,s2,s3,s4⟩:=HX.out.z.soft5;go_wp2;refine bodyPost_ret (v:=.tuple #[zeroRep,.int .i64 310]) (by simp[zeroRep,results,results26,go_sem,r0,r1,r2,r3,r4]) rfl ⟨?_,?_⟩
  ·repeat(refine Below.setCell ?_ (by simp;try omega) _)
   exact HX.out.below
  ·rw[HN.out]
 have HOk:=hid hok;clear hok;have hm0:=Eq.trans (HX.out.below.cell (by exact hbm)) HM0.out;have hr0:=Eq.trans (HX.out.below.cell (by exact hbr)) HR0.out;have HC1:=hid (λx:Later w4=>rcount_any x.W M N C0 mposts k ((HM.out.posts.below (HX.out.below.trans (x.is.mono HX.out.below.size))).more (HX.out.below.trans (x.is.mono HX.out.below.size)).size) HM.out.len HM.out.few);have HC2:=hid (λx:Later w4=>rcount_any x.W A n c posts k ((HH.out.posts.below (HX.out.below.trans (x.is.mono HX.out.below.size))).more (HX.out.below.trans (x.is.mono HX.out.below.size)).size) HH.out.len HH.out.few);obtain⟨c1,hc1⟩:∃c1,c1=Rp.count mposts k:=⟨_,rfl⟩;obtain⟨c2,hc2⟩:∃c2,c2=Rp.count posts k:=⟨_,rfl⟩;rw[<- hc1]at HC1;rw[<- hc2]at HC2;have E1:=hid hc1;have E2:=hid hc2;clear hc1 hc2;have km:=Later.of hm0;have kr:=Later.of hr0;have kb0:=Later.of b0;have kb3:=Later.of b3;have kb4:=Later.of b4;have ky1:=Later.of y1;have ky2:=Later.of y2;have g1:=hid (show(mheard.getD k 0)=xm by have:=HQM.out;rw[List.getD_eq_getElem?_getD,this];rfl);have g2':=hid (show(heard.getD k 0)=xr by have:=HQR.out;rw[List.getD_eq_getElem?_getD,this];rfl)
 by_cases hc:c2<c1
 ·have hd:decide (c2<c1)=true:=decide_eq_true hc
  have HN:=hid (hear_no (r:=⟨k,many,clock,posts,heard⟩) (m:=⟨src,mposts,mheard⟩) (by
   have:decide (Rp.count mposts k<=Rp.count posts k)=false:=by rw[decide_eq_false_iff_not,<- E1.out,<- E2.out];omega
   simp only[Rp.mayHear,this,Bool.false_and,Bool.and_false]))
  clear hc
  go_upto_region 4 with (fail)
  refine wp_region_later (by kernel_rfl) (by kernel_rfl) ?_
  repeat(go_big_quiet_step ((go_at_call 45;first|with_reducible exact later_same (HC1.out _)|with_reducible exact later_same (HC2.out _))))
  refine wpQuiet_nil ?_;rintro W1 ⟨⟨_,hbN⟩,rfl⟩;clear km kr kb0 kb3 kb4 ky1 ky2 HC1 HC2 hm0 hr0;have HX':=hid (HX.out.later hbN);clear b0 b1 b2 b3 b4 y0 y1 y2 r0 r1 r2 r3 r4 s0 s1 s2 s3 s4;have hw41:=hbN.size;have HJoin':=hid (own_below HJoin.out hbN);have HBel':=hid (HBel.out.trans (hbN.mono HBel.out.size));clear HX hbN HJoin HBel;have HX:=HX';have HJoin:=HJoin';have HBel:=HBel';clear HX' HJoin' HBel';obtain⟨b0,b1,b2,b3,b4⟩:=HX.out.r.cells5;obtain⟨y0,y1,y2⟩:=HX.out.m.cells3';obtain⟨r0,r1,r2,r3,r4⟩:=HX.out.z.cells5;obtain⟨s0,s1,s2,s3,s4⟩:=HX.out.z.soft5;go_wp2;refine bodyPost_ret (v:=.tuple #[zeroRep,.int .i64 310]) (by simp[zeroRep,results,results26,go_sem,r0,r1,r2,r3,r4]) rfl ⟨?_,?_⟩
  ·repeat(refine Below.setCell ?_ (by simp;try omega) _)
   exact HX.out.below
  ·rw[HN.out]
 have hd:decide (c2<c1)=false:=decide_eq_false hc;have HCc:=hid hc;clear hc
 by_cases hh:xr<xm
 ·have hd2:decide (xr<xm)=true:=decide_eq_true hh
  have HN:=hid (hear_no (r:=⟨k,many,clock,posts,heard⟩) (m:=⟨src,mposts,mheard⟩) (by
   have:decide (mheard.getD ((k:Int).toNat) 0<=heard.getD ((k:Int).toNat) 0)=false:=by rw[decide_eq_false_iff_not,Int.toNat_natCast,g1.out,g2'.out];omega
   simp only[Rp.mayHear,this,Bool.and_false]))
  clear hh
  go_upto_region 4 with (fail)
  refine wp_region_later (by kernel_rfl) (by kernel_rfl) ?_
  repeat(go_big_quiet_step ((go_at_call 45;first|with_reducible exact later_same (HC1.out _)|with_reducible exact later_same (HC2.out _))))
  refine wpQuiet_nil ?_;rintro W1 ⟨⟨_,hbN⟩,rfl⟩;clear km kr kb0 kb3 kb4 ky1 ky2 HC1 HC2 hm0 hr0;have HX':=hid (HX.out.later hbN);clear b0 b1 b2 b3 b4 y0 y1 y2 r0 r1 r2 r3 r4 s0 s1 s2 s3 s4;have hw41:=hbN.size;have HJoin':=hid (own_below HJoin.out hbN);have HBel':=hid (HBel.out.trans (hbN.mono HBel.out.size));clear HX hbN HJoin HBel;have HX:=HX';have HJoin:=HJoin';have HBel:=HBel';clear HX' HJoin' HBel';obtain⟨b0,b1,b2,b3,b4⟩:=HX.out.r.cells5;obtain⟨y0,y1,y2⟩:=HX.out.m.cells3';obtain⟨r0,r1,r2,r3,r4⟩:=HX.out.z.cells5;obtain⟨s0,s1,s2,s3,s4⟩:=HX.out.z.soft5;go_wp2;refine bodyPost_ret (v:=.tuple #[zeroRep,.int .i64 310]) (by simp[zeroRep,results,results26,go_sem,r0,r1,r2,r3,r4]) rfl ⟨?_,?_⟩
  ·repeat(refine Below.setCell ?_ (by simp;try omega) _)
   exact HX.out.below
  ·rw[HN.out]
 have hd2:decide (xr<xm)=false:=decide_eq_false hh;have HN:=hid (hear_yes (r:=⟨k,many,clock,posts,heard⟩) (m:=⟨src,mposts,mheard⟩) (by
  rw[Rp.mayHear_iff];refine⟨HVV.out,Rp.inr_iff.1 HI.out,HG.out,HD.out,?_,?_⟩
  ·show Rp.count mposts k<=Rp.count posts k
   rw[<- E1.out,<- E2.out];have:=HCc.out;omega
  ·simp only[Int.toNat_natCast,g1.out,g2'.out];omega))
 clear hh
 go_upto_region 4 with (fail)
 refine wp_region_later (by kernel_rfl) (by kernel_rfl) ?_
 repeat(go_big_quiet_step ((go_at_call 45;first|with_reducible exact later_same (HC1.out _)|with_reducible exact later_same (HC2.out _))))
 refine wpQuiet_nil ?_;rintro W1 ⟨⟨_,hbN⟩,rfl⟩;clear km kr kb0 kb3 kb4 ky1 ky2 HC1 HC2 hm0 hr0;have HX':=hid (HX.out.later hbN);clear b0 b1 b2 b3 b4 y0 y1 y2 r0 r1 r2 r3 r4 s0 s1 s2 s3 s4;have hw41:=hbN.size;have HJoin':=hid (own_below HJoin.out hbN);have HBel':=hid (HBel.out.trans (hbN.mono HBel.out.size));clear HX hbN HJoin HBel;have HX:=HX';have HJoin:=HJoin';have HBel:=HBel';clear HX' HJoin' HBel';obtain⟨b0,b1,b2,b3,b4⟩:=HX.out.r.cells5;obtain⟨y0,y1,y2⟩:=HX.out.m.cells3';obtain⟨r0,r1,r2,r3,r4⟩:=HX.out.z.cells5;obtain⟨s0,s1,s2,s3,s4⟩:=HX.out.z.soft5;clear hd hd2;have hpos:0<n':=by omega
 have HOwn:=hid (rcopied_any W1 ⟨k,many,clock,posts,heard⟩ A n c (some ⟨br,oo,none⟩) n' c' ((HH.out.below HX.out.below).more HX.out.below.size));unfold repV at HOwn;simp only at HOwn
 go_wp2_with fail
 refine HOwn.out.mono ?_;rintro e w5 ⟨A1,cc1,A2,cc2,rfl,o1,o2,hcc1,hcc2,hb5⟩;obtain⟨g2,cap2,e2,hg2,hl2⟩:=o2.form hpos;injection e2 with e2 _ e2c
 subst e2 e2c;have hs5:=hb5.size
 go_upto_region 7 with (fail)
 obtain⟨W5,hW5⟩:∃W5,W5=w5.alloc (.cells #[.int .i64 k,.int .i64 many,.int .i64 clock,.slice A1 n cc1,.slice (some ⟨g2,0,none⟩) n' cc2] 26):=⟨_,rfl⟩;rw[<- hW5];have hbA:Below W1.heap.size W1 W5:=by rw[hW5];exact hb5.alloc hs5 _
 have hG5:Blk W5 w5.heap.size 26 #[.int .i64 k,.int .i64 many,.int .i64 clock,.slice A1 n cc1,.slice (some ⟨g2,0,none⟩) n' cc2]:=by rw[hW5];exact Blk.new _ _ _
 have O2:W5.ownsRow w2.heap.size 3 1 (.slice (some ⟨g2,0,none⟩) n' cc2) n' (heard.map (Value.int .i64)):=by rw[hW5];exact own_base (o2.alloc _) (by omega)
 have O3:W5.ownsRow w2.heap.size 57 4 (.slice A3 n3 c3) n3 (encPs (Rp.merge posts mposts)):=own_below HJoin.out hbA;have HX':=hid (HX.out.later hbA);have hcapJ:=hid (own_cap O3);clear HX;have HX:=HX';clear HX' hW5;have HM0':HearMid w2 W5 w5.heap.size #[.int .i64 k,.int .i64 many,.int .i64 clock,.slice A1 n cc1,.slice (some ⟨g2,0,none⟩) n' cc2] (.slice (some ⟨g2,0,none⟩) n' cc2) n' heard (.slice A3 n3 c3) n3 (Rp.merge posts mposts) :=
  ⟨hG5,O2,O3,HBel.out.trans (hbA.mono HBel.out.size),by omega⟩
 have HM1:=hid (show HearMid w2 (W5.setCell ⟨w5.heap.size,3,none⟩ (.slice A3 n3 c3)) w5.heap.size #[.int .i64 k,.int .i64 many,.int .i64 (Rp.maxE clock (mposts.take 0)),.slice A3 n3 c3,.slice (some ⟨g2,0,none⟩) n' cc2] (.slice (some ⟨g2,0,none⟩) n' cc2) n' (heard) (.slice A3 n3 c3) n3 (Rp.merge posts mposts)from HM0'.put 3 (.slice A3 n3 c3));have hzlt:=HX2.out.z.lt;have u0:w.heap.size≠w5.heap.size:=by omega
 have u1:w.heap.size+1≠w5.heap.size:=by omega
 have u2:w.heap.size+1+1≠w5.heap.size:=by omega
 have u0':=u0.symm;have u1':=u1.symm;have hGW:w2.heap.size<=w5.heap.size:=by omega
 have hbmW:bm<w5.heap.size:=by omega
 obtain⟨p0,p1,p2,p3,p4⟩:=hG5.cells5;obtain⟨f0,f1,f2,f3,f4⟩:=hG5.soft5;clear hG5 O2 O3 HM0' hbA o1 o2 hb5 HOwn;obtain⟨b0,b1,b2,b3,b4⟩:=(HX.out.r.far (p:=⟨w5.heap.size,3,none⟩) u0 (.slice A3 n3 c3)).cells5;obtain⟨y0,y1,y2⟩:=(HX.out.m.far (p:=⟨w5.heap.size,3,none⟩) u1 (.slice A3 n3 c3)).cells3'
 go_upto_region 8 with (fail)
 clear p0 p1 p2 p3 p4 f0 f1 f2 f3 f4
 go_wp2_with fail
 clear b0 b1 b2 b3 b4 y0 y1 y2
 go_loopw [9] (λq wr=>∃j:Nat,j<=N/\q=.int .i64 j/\HearMid w2 wr w5.heap.size #[.int .i64 k,.int .i64 many,.int .i64 (Rp.maxE clock (mposts.take j)),.slice A3 n3 c3,.slice (some ⟨g2,0,none⟩) n' cc2] (.slice (some ⟨g2,0,none⟩) n' cc2) n' (heard) (.slice A3 n3 c3) n3 (Rp.merge posts mposts)) (λq _=>N - (intOf q).toNat)
 case atStart=>exact⟨0,by omega,rfl,HM1.out⟩
 case round =>
  obtain⟨j,hj,rfl,hI⟩:=hrel;have hBj:=HX2.out.below.trans (hI.below.mono HX2.out.below.size);obtain⟨y0,y1,y2⟩:=(HX2.out.later hI.below).m.cells3';obtain⟨mc,hmc⟩:∃mc,mc=Rp.maxE clock (mposts.take j):=⟨_,rfl⟩;rw[<- hmc]at hI;have hMC:=hid hmc;clear hmc;obtain⟨p0,p1,p2,p3,p4⟩:=hI.blk.cells5;have HI:=hid hI
  by_cases hlt:j<N
  ·obtain⟨b,off,q,rfl,hbl,hq,h0,h1,h2,h3⟩:=HM.out.posts.post HM.out.len hlt
   rw[<- hBj.cell (p:=⟨b,_,none⟩) hbl]at h0;have HQ:=hid hq;clear hq hI h1 h2 h3;have L2:=Later.of p2;have K1:=Later.of y1;have E0:=Later.of h0;have kp2:=p2;clear p0 p1 p3 p4
   go_wp2_with fail
   refine Loose.wp_region_later [] 10 (by kernel_rfl) (by kernel_rfl) ?_
   (simp only[List.take_succ_cons,List.take_zero,List.drop_succ_cons,List.drop_zero])
   (repeat(first|refine Loose.walk_skip rfl ?_|(refine Loose.walk_plain rfl rfl rfl λK h=>?_;go_big_quiet_op;refine h _ ?_;clear h K)))
   refine Loose.walk_nil ?_;rintro V hV -;have HIV:=hid (HI.out.later hV);obtain⟨v0,v1,v2,v3,v4⟩:=HIV.out.blk.cells5;obtain⟨f0,f1,f2,f3,f4⟩:=HIV.out.blk.soft5;clear L2 K1 E0 p2 kp2 y0 y1 y2 h0 hV v0 v1 v3 v4 f0 f1 f3 f4
   go_wp2_with fail
   go_roundw
   case rel =>
    refine⟨j+1,by omega,by go_num,?_⟩;rw[maxE_take HQ.out,<- hMC.out]
    first|exact HIV.out.put 2 _|(rw[<- maxI];exact HIV.out.put 2 _)
   case measure=>simp[intOf];omega
  ·have hjn:j=N:=by omega
   subst hjn;have hge:¬((j:Int)<(j:Int)):=by omega
   clear p0 p1 p2 p3 p4 hI
   go_wp2_with fail
   clear y0 y1 y2
   go_loopw [10] (λq wr=>∃i:Nat,i<=N'/\q=.int .i64 i/\HearMid w2 wr w5.heap.size #[.int .i64 k,.int .i64 many,.int .i64 (Rp.maxN mc (mheard.take i)),.slice A3 n3 c3,.slice (some ⟨g2,0,none⟩) n' cc2] (.slice (some ⟨g2,0,none⟩) n' cc2) n' (hs k heard mheard i) (.slice A3 n3 c3) n3 (Rp.merge posts mposts)) (λq _=>N' - (intOf q).toNat)
   case atStart=>exact⟨0,by omega,rfl,HI.out⟩
   case round =>
    obtain⟨i,hi,rfl,hJ⟩:=hrel;have hBi:=HX2.out.below.trans (hJ.below.mono HX2.out.below.size);have HXr:=hid (HX2.out.later hJ.below);obtain⟨b0,b1,b2,b3,b4⟩:=HXr.out.r.cells5;obtain⟨y0,y1,y2⟩:=HXr.out.m.cells3';obtain⟨mn,hmn⟩:∃mn,mn=Rp.maxN mc (mheard.take i):=⟨_,rfl⟩;rw[<- hmn]at hJ;have hMN:=hid hmn;clear hmn;obtain⟨p0,p1,p2,p3,p4⟩:=hJ.blk.cells5;have HJ:=hid hJ;clear hJ
    by_cases hlt:i<N'
    ·obtain⟨b,off,x,e,hbl,hq,h0⟩:=HM.out.heard.int hlt
     injection e with e
     injection e with e1 e2
     subst e1 e2;rw[<- hBi.cell (p:=⟨bm,_,none⟩) hbl]at h0;have HQ:=hid hq;have him:(i:Int)<many:=by omega
     clear hq;have L2:=Later.of p2;have K2:=Later.of y2;have E0:=Later.of h0;clear p0 p1 p3 p4 b2 b3 b4 y0 y1
     go_upto_region 15 with (fail)
     refine Loose.wp_region_later [] 9 (by kernel_rfl) (by kernel_rfl) ?_
     (simp only[List.take_succ_cons,List.take_zero,List.drop_succ_cons,List.drop_zero])
     (repeat(first|refine Loose.walk_skip rfl ?_|(refine Loose.walk_plain rfl rfl rfl λK h=>?_;go_big_quiet_op;refine h _ ?_;clear h K)))
     refine Loose.walk_nil ?_;rintro V hV -;have HJV:=hid (HJ.out.later hV);obtain⟨v0,v1,v2,v3,v4⟩:=HJV.out.blk.cells5;obtain⟨f0,f1,f2,f3,f4⟩:=HJV.out.blk.soft5;have HXV:=hid (HXr.out.later hV);have h0V:=(hV.cell (p:=⟨bm,_,none⟩) (lt_of_cell h0)).trans h0;clear L2 K2 E0 p2 b0 b1 y2 h0 hV v0 v1 v3 v4 f0 f1 f3 f4
     go_upto_region 16 with (fail)
     obtain⟨b0,b1,b2,b3,b4⟩:=HXV.out.r.cells5;obtain⟨mx,hmx⟩:∃mx,mx=max mn x:=⟨_,rfl⟩
     try rw[maxI]
     try rw[<- hmx]
     have hJ2:=HJV.out.put 2 (.int .i64 mx);have HJ2:=hid (show HearMid w2 (V.setCell ⟨w5.heap.size,2,none⟩ (.int .i64 mx)) w5.heap.size #[.int .i64 k,.int .i64 many,.int .i64 (Rp.maxN mc (mheard.take (i+1))),.slice A3 n3 c3,.slice (some ⟨g2,0,none⟩) n' cc2] (.slice (some ⟨g2,0,none⟩) n' cc2) n' (hs k heard mheard i) (.slice A3 n3 c3) n3 (Rp.merge posts mposts)from by
      rw[maxN_take HQ.out,<- hMN.out,<- hmx];exact hJ2)
     have HXW:=hid (show Boxes w (V.setCell ⟨w5.heap.size,2,none⟩ (.int .i64 mx)) #[.int .i64 k,.int .i64 many,.int .i64 clock,.slice A n c,.slice (some ⟨br,oo,none⟩) n' c'] #[.int .i64 src,.slice M j C0,.slice (some ⟨bm,om,none⟩) N' C']from
      ⟨HXV.out.r.far u0 _,HXV.out.m.far u1 _,HXV.out.z.far u2 _,HXV.out.below.setCell (by simp;omega) _⟩)
     have h0W:(V.setCell ⟨w5.heap.size,2,none⟩ (.int .i64 mx)).cell? ⟨bm,om+i,none⟩=some (.int .i64 x):=(World.cell?_setCell_far V ⟨w5.heap.size,2,none⟩ ⟨bm,om+i,none⟩ _ (by simp;omega)).trans h0V;generalize V.setCell ⟨w5.heap.size,2,none⟩ (.int .i64 mx)=W2 at HJ2 HXW h0W ⊢;clear hJ2 HJV HXV HXr h0V b0 b1 b2 b3 b4 v2 f2 hmx;obtain⟨b0,b1,b2,b3,b4⟩:=HXW.out.r.cells5;obtain⟨y0,y1,y2⟩:=HXW.out.m.cells3'
     by_cases hik:i=k
     ·have hne:((i:Int) != (k:Int))=false:=by simp;omega
      have hhs:hs k heard mheard (i+1)=hs k heard mheard i:=by rw[hs,if_pos hik]
      clear hik
      go_wp2_with fail
      clear hne;go_roundw
      case rel =>
       refine⟨i+1,by omega,by go_num,?_⟩;rw[hhs];exact HJ2.out
      case measure=>simp[intOf];omega
     ·have hne:((i:Int) != (k:Int))=true:=by simp;omega
      have hk':=hid hik;clear hik;have hil:i<(hs k heard mheard i).length:=by rw[hs_len];have:=HH.out.len';simp only at this;omega
      obtain⟨hv,hhv⟩:∃hv,(hs k heard mheard i)[i]?=some hv:=⟨_,List.getElem?_eq_getElem hil⟩;have hi1:i<n'*1:=by omega
      have t1:=HJ2.out.own2.cellAt i hi1;rw[List.getElem?_map,hhv]at t1;simp only[Option.map_some]at t1;obtain⟨p0,p1,p2,p3,p4⟩:=HJ2.out.blk.cells5;have HHV:=hid hhv;clear hhv hil p0 p1 p2 p3
      go_upto_region 17 with (fail)
      clear hne b0 b1 b2 b3 b4;have L4:=Later.of p4;have LT:=Later.of t1;have K2:=Later.of y2;have E0:=Later.of h0W;refine Loose.wp_region_later [] 15 (by kernel_rfl) (by kernel_rfl) ?_
      (simp only[List.take_succ_cons,List.take_zero,List.drop_succ_cons,List.drop_zero])
      (repeat(first|refine Loose.walk_skip rfl ?_|(refine Loose.walk_plain rfl rfl rfl λK h=>?_;go_big_quiet_op;refine h _ ?_;clear h K)))
      refine Loose.walk_nil ?_;rintro V2 hV2 -;have HJ3:=hid (HJ2.out.later hV2);have t3:=HJ3.out.own2.frozenAt i;have t4:=(hV2.cell (p:=⟨g2,i,none⟩) (lt_of_cell t1)).trans t1;clear L4 LT K2 E0 p4 t1 y0 y1 y2 h0W hV2
      go_wp2_with fail
      go_roundw
      case rel =>
       refine⟨i+1,by omega,by go_num,?_⟩;rw[hs_next hk'.out HHV.out HQ.out]
       first|exact HJ3.out.store2 i _|(rw[<- maxI];exact HJ3.out.store2 i _)
      case measure=>simp[intOf];omega
    ·have hin:i=N':=by omega
     subst hin;have hstop:¬((i:Int)<many):=by omega
     have hfin:mn=Rp.maxN mc mheard:=by rw[hMN.out,List.take_of_length_le (by have:=HM.out.len';simp only at this;omega)]
     have hmc:mc=Rp.maxE clock mposts:=by rw[hMC.out,List.take_of_length_le (by omega)]
     have hhs:hs k heard mheard i=Rp.maxH k heard mheard:=by
      rw[<- hs_all];have h1:=HH.out.len';simp only at h1;have h2:i=heard.length:=by omega
      rw[<- h2]
     have HJn:Hid (Rp.joined ⟨k,many,clock,posts,heard⟩ ⟨src,mposts,mheard⟩=⟨k,many,mn,Rp.merge posts mposts,hs k heard mheard i⟩):=hid (by
      unfold Rp.joined;simp only[Int.toNat_natCast];rw[hfin,hmc,hhs])
     have hR6:RepR wr wr.heap.size ⟨k,many,mn,Rp.merge posts mposts,hs k heard mheard i⟩ A3 n3 (some ⟨g2,0,none⟩) n' :=
      ⟨Reads.of_own HJ.out.own3,HLen.out,Reads.of_own HJ.out.own2,by simp only[hs_len];exact HH.out.len',by omega,HH.out.few'⟩
     have HRight:=hid (rvalid_any wr _ A3 n3 c3 _ n' cc2 hR6 hcapJ.out);unfold repV at HRight;simp only at HRight;have HR6:=hid hR6;have N3:=hid (block_not HJ.out.own3 (g:=w.heap.size+1+1) (.inl (by omega)));have hne2:g2≠w.heap.size+1+1:=by have:=(HJ.out.own2.lt g2 rfl).1;omega
     have F3:=hid (Fresh.of_own HJ.out.own3 (B':=w.heap.size) (by omega));have hg2w:w.heap.size<=g2:=by have h1:=(HJ.out.own2.lt g2 rfl).1;omega
     clear hR6 hfin hmc hhs b0 b2 b3 b4 y0 y1 y2
     go_wp2_with fail
     refine HRight.out.mono ?_;rintro e w9 ⟨rfl,hb9⟩;have hbe:=hBi.trans (hb9.mono hBi.size);have hR9:=(HXr.out.later hb9).z;have hG9:=(HJ.out.later hb9).blk;obtain⟨r0,r1,r2,r3,r4⟩:=hR9.cells5;obtain⟨s0,s1,s2,s3,s4⟩:=hR9.soft5;clear p0 p1 p2 p3 p4;obtain⟨p0,p1,p2,p3,p4⟩:=hG9.cells5;cases hv2:Rp.valid ⟨k,many,mn,Rp.merge posts mposts,hs k heard mheard i⟩
     ·go_wp2
      refine bodyPost_ret (v:=.tuple #[zeroRep,.int .i64 310]) (by simp[zeroRep,results,results26,go_sem,r0,r1,r2,r3,r4]) rfl ⟨?_,?_⟩
      ·repeat(refine Below.setCell ?_ (by simp;try omega) _)
       exact hbe
      ·rw[HN.out,HJn.out,hv2];rfl
     ·go_wp2
      refine bodyPost_ret (v:=.tuple #[.agg #[.int .i64 k,.int .i64 many,.int .i64 mn,.slice A3 n3 c3,.slice (some ⟨g2,0,none⟩) n' cc2],.int .i64 0]) (by simp[results,results26,go_sem,r0,r1,r2,r3,r4]) rfl ⟨?_,?_⟩
      ·repeat(refine Below.setCell ?_ (by simp;try omega) _)
       exact hbe
      ·rw[HN.out,HJn.out,hv2]
       refine⟨A3,n3,c3,some ⟨g2,0,none⟩,n',cc2,rfl,?_,F3.out,(λa e=>by injection e with e;subst e;exact hg2w),hcapJ.out⟩;simp only[size_setCell]
       repeat(refine RepR.far ?_ (λa e h=>N3.out (by subst e;exact(congrArg some h).symm)) (λa e=>by injection e with e;subst e;exact hne2) _)
       exact(HR6.out.below hb9).more hb9.size
end
end Go.Proofs.YtnehgpeelgjjhaaGreatDoor.Tw
