/- Contracts of functions of the program, and plain laws, towards the laws of replicas. Joined of the texts: O3, O4, P3. -/
import Derived.Test.YtnehgpeelgjjhaaGreatDoorW28
import Derived.Test.YtnehgpeelgjjhaaGreatDoorW17
import Derived.Test.YtnehgpeelgjjhaaGreatDoorW18
import Derived.Test.YtnehgpeelgjjhaaGreatDoorRows
import Derived.WalkKit
import Derived.ProofKit
import Derived.OpenShut
import Derived.LaidMore
import Derived.ShutString
import Derived.ChangeOld
import Derived.Below
import Derived.Stop.Joined
import Derived.Test.YtnehgpeelgjjhaaGreatDoorW03
import Derived.WideKeyPair
import Derived.ChangeMaps5
set_option linter.all false
set_option maxRecDepth 100000
set_option maxHeartbeats 12800000
namespace Go.Proofs.YtnehgpeelgjjhaaGreatDoor.Tw
open Go.Proofs.Tryz
section
open Go.RowKit Go.ChangeShapes
section
variable {H:Type} {enc:TypeId×Value->H} {W:World} {sp:Nat->Bool} {held:Bool}
theorem cells57 :prog.cellsOf 57=4:=by kernel_rfl
theorem cells3' :prog.cellsOf 3=1:=by kernel_rfl
theorem cells9 :prog.cellsOf 9=1:=by kernel_rfl
theorem cells23 :prog.cellsOf 23=1:=by kernel_rfl
theorem cells24 :prog.cellsOf 24=1:=by kernel_rfl
theorem trod_post {fuel:Nat}{c0 c1 c2 c3:Value}{x:DataW H×List MemPlace}(h:DataW.trod enc prog W 0 sp held fuel 57 [c0,c1,c2,c3]=some x) :
 ∃p:Rp.Post,c0=.int .i64 p.epoch/\c1=.int .i64 p.origin/\c2=.int .i64 p.number/\c3=.string p.text:=by
 obtain⟨xs,n,rfl,_,hlen,hn,hf⟩:=DataW.trod_struct underlying57 h;have hn':xs.length=4:=hn;have f0:=hf 0 _ rfl;have f1:=hf 1 _ rfl;have f2:=hf 2 _ rfl;have f3:=hf 3 _ rfl;simp only[List.getElem_toArray,List.getElem_cons_zero,List.getElem_cons_succ,cells3',cells9,List.drop_zero,List.drop_succ_cons,List.take_succ_cons,List.take_zero]at f0 f1 f2 f3;rw[List.getElem?_eq_getElem (by omega)]at f0 f1 f2 f3;obtain⟨n0,q0,_,_⟩:=DataW.trod_int underlying3 f0;obtain⟨n1,q1,_,_⟩:=DataW.trod_int underlying3 f1;obtain⟨n2,q2,_,_⟩:=DataW.trod_int underlying3 f2;obtain⟨s,q3,_,_⟩:=DataW.trod_string underlying9 f3;cases q0;cases q1;cases q2;cases q3;exact⟨⟨n0,n1,n2,s⟩,rfl,rfl,rfl,rfl⟩
theorem readsP {fuel:Nat}{a:Option Addr}{n c:Nat}{x:DataW H×List MemPlace}(h:DataW.trod enc prog W 0 sp held fuel 23 [.slice a n c]=some x) :
 ∃l:List Rp.Post,Reads W W.heap.size 4 a n (encPs l)/\l.length=n/\n<=c:=by
 rcases DataW.trod_slice underlying23 h with ⟨hcs,_⟩|⟨a',len,cap,elems,rest,m,rfl,hcs,_,_,hcap,_,hlen,hel,_,_⟩
 ·simp at hcs
  obtain⟨rfl,rfl,rfl⟩:=hcs;exact⟨[],⟨rfl,λh=>absurd h (by decide)⟩,rfl,Nat.le_refl _⟩
 ·simp at hcs
  obtain⟨rfl,rfl,rfl⟩:=hcs;obtain⟨xs,hl,hp⟩:=list_of (α:=Rp.Post) (λj p=>W.cell? ((a'.add (j*4)).add 0)=some (.int .i64 p.epoch)/\W.cell? ((a'.add (j*4)).add 1)=some (.int .i64 p.origin)/\W.cell? ((a'.add (j*4)).add 2)=some (.int .i64 p.number)/\W.cell? ((a'.add (j*4)).add 3)=some (.string p.text)) n (λj hj=>by
   have h1:=hel j hj;rw[cells57,List.getElem?_eq_getElem (by omega)]at h1;obtain⟨cs,h2,h3⟩:=Option.bind_eq_some_iff.1 h1;obtain⟨_,hcl,hcell⟩:=World.cells?_some h2
   match cs,hcl with
   | [c0,c1,c2,c3],_ =>
     obtain⟨p,rfl,rfl,rfl,rfl⟩:=trod_post h3;exact⟨p,hcell 0 (by omega),hcell 1 (by omega),hcell 2 (by omega),hcell 3 (by omega)⟩)
  refine⟨xs,⟨?_,λhn=>?_⟩,hl,hcap⟩
  ·rw[encPs_length,hl]
  ·have hx0:xs[0]?=some (xs[0]'(by omega)):=List.getElem?_eq_getElem _
   obtain⟨c0,_⟩:=hp 0 _ hx0;rw[Nat.zero_mul]at c0;obtain⟨b,off,spot⟩:=a';have hs:spot=none:=by have:=World.cell?_spot c0;simpa[Addr.add]using this
   subst hs;simp only[add_off,Nat.add_zero]at c0 hp;refine⟨b,off,rfl,lt_of_cell c0,λj u hu=>?_⟩;have hj:j<xs.length*4:=by
    rcases Nat.lt_or_ge j (encPs xs).length with h|h
    ·rw[encPs_length]at h;exact h
    ·rw[List.getElem?_eq_none h]at hu;cases hu
   have hx:xs[j / 4]?=some (xs[j / 4]'(by omega)):=List.getElem?_eq_getElem _;obtain⟨c0,c1,c2,c3⟩:=hp (j / 4) _ hx;have hg:=encPs_get xs (j / 4) _ (j%4) hx (by omega);rw[show j / 4*4+j%4=j by omega]at hg;rw[hg]at hu;have h3:j%4=0∨j%4=1∨j%4=2∨j%4=3:=by omega
   rcases h3 with h3|h3|h3|h3<;>rw[h3]at hu<;>obtain rfl:=Option.some.inj hu
   ·rw[show off+j=off+j / 4*4 by omega];exact c0
   ·rw[show off+j=off+j / 4*4+1 by omega];exact c1
   ·rw[show off+j=off+j / 4*4+2 by omega];exact c2
   ·rw[show off+j=off+j / 4*4+3 by omega];exact c3
theorem readsI {fuel:Nat}{a:Option Addr}{n c:Nat}{x:DataW H×List MemPlace}(h:DataW.trod enc prog W 0 sp held fuel 24 [.slice a n c]=some x) :
 ∃l:List Int,Reads W W.heap.size 1 a n (l.map (Value.int .i64))/\l.length=n/\n<=c:=by
 rcases DataW.trod_slice underlying24 h with ⟨hcs,_⟩|⟨a',len,cap,elems,rest,m,rfl,hcs,_,_,hcap,_,hlen,hel,_,_⟩
 ·simp at hcs
  obtain⟨rfl,rfl,rfl⟩:=hcs;exact⟨[],⟨rfl,λh=>absurd h (by decide)⟩,rfl,Nat.le_refl _⟩
 ·simp at hcs
  obtain⟨rfl,rfl,rfl⟩:=hcs;obtain⟨xs,hl,hp⟩:=list_of (α:=Int) (λj y=>W.cell? ((a'.add (j*1)).add 0)=some (.int .i64 y)) n (λj hj=>by
   have h1:=hel j hj;rw[cells3',List.getElem?_eq_getElem (by omega)]at h1;obtain⟨cs,h2,h3⟩:=Option.bind_eq_some_iff.1 h1;obtain⟨_,hcl,hcell⟩:=World.cells?_some h2
   match cs,hcl with
   | [c0],_ =>
     obtain⟨n0,q0,_,_⟩:=DataW.trod_int underlying3 h3;cases q0;exact⟨n0,hcell 0 (by omega)⟩)
  refine⟨xs,⟨by simp[hl],λhn=>?_⟩,hl,hcap⟩;have hx0:xs[0]?=some (xs[0]'(by omega)):=List.getElem?_eq_getElem _;have c0:=hp 0 _ hx0;rw[Nat.zero_mul]at c0;obtain⟨b,off,spot⟩:=a';have hs:spot=none:=by have:=World.cell?_spot c0;simpa[Addr.add]using this
  subst hs;simp only[add_off,Nat.add_zero,Nat.mul_one]at c0 hp;refine⟨b,off,rfl,lt_of_cell c0,λj u hu=>?_⟩;rw[List.getElem?_map]at hu;obtain⟨y,hy,rfl⟩:=Option.map_eq_some_iff.1 hu;exact hp j y hy
theorem trod_slice_form {t e:TypeId}{fuel:Nat}{c0:Value}{x:DataW H×List MemPlace}(ht:prog.underlying t=some (.slice e))(h:DataW.trod enc prog W 0 sp held fuel t [c0]=some x):∃a n c,c0=.slice a n c:=by
 rcases DataW.trod_slice ht h with ⟨hcs,_⟩|⟨a',len,cap,elems,rest,m,rfl,hcs,_⟩
 ·simp at hcs;exact⟨_,_,_,hcs⟩
 ·simp at hcs;exact⟨_,_,_,hcs⟩
theorem trod_rep {fuel:Nat}{c0 c1 c2 c3 c4:Value}{x:DataW H×List MemPlace}(h:DataW.trod enc prog W 0 sp held fuel 26 [c0,c1,c2,c3,c4]=some x) :
 ∃(r:Rp.Rep) (A:Option Addr) (n c:Nat) (A':Option Addr) (n' c':Nat),c0=.int .i64 r.me/\c1=.int .i64 r.many/\c2=.int .i64 r.clock/\c3=.slice A n c/\c4=.slice A' n' c' /\
  Reads W W.heap.size 4 A n (encPs r.posts)/\r.posts.length=n/\Reads W W.heap.size 1 A' n' (r.heard.map (Value.int .i64))/\r.heard.length=n'/\n'<=c':=by
 obtain⟨xs,n,rfl,_,hlen,hn,hf⟩:=DataW.trod_struct underlying26 h;have hn':xs.length=5:=hn;have f0:=hf 0 _ rfl;have f1:=hf 1 _ rfl;have f2:=hf 2 _ rfl;have f3:=hf 3 _ rfl;have f4:=hf 4 _ rfl;simp only[List.getElem_toArray,List.getElem_cons_zero,List.getElem_cons_succ,cells3',cells23,cells24,List.drop_zero,List.drop_succ_cons,List.take_succ_cons,List.take_zero]at f0 f1 f2 f3 f4;rw[List.getElem?_eq_getElem (by omega)]at f0 f1 f2 f3 f4;obtain⟨n0,q0,_,_⟩:=DataW.trod_int underlying3 f0;obtain⟨n1,q1,_,_⟩:=DataW.trod_int underlying3 f1;obtain⟨n2,q2,_,_⟩:=DataW.trod_int underlying3 f2;obtain⟨A,na,ca,rfl⟩:=trod_slice_form underlying23 f3;obtain⟨A',nb,cb,rfl⟩:=trod_slice_form underlying24 f4;obtain⟨l,h1,h2,h3⟩:=readsP f3;obtain⟨l',h4,h5,h6⟩:=readsI f4;cases q0;cases q1;cases q2;exact⟨⟨n0,n1,n2,l,l'⟩,A,na,ca,A',nb,cb,rfl,rfl,rfl,rfl,rfl,h1,h2,h4,h5,h6⟩
theorem trod_msg {fuel:Nat}{c0 c3 c4:Value}{x:DataW H×List MemPlace}(h:DataW.trod enc prog W 0 sp held fuel 28 [c0,c3,c4]=some x) :
 ∃(os:Int) (op:List Rp.Post) (oh:List Int) (A:Option Addr) (n c:Nat) (A':Option Addr) (n' c':Nat),c0=.int .i64 os/\c3=.slice A n c/\c4=.slice A' n' c' /\
  Reads W W.heap.size 4 A n (encPs op)/\op.length=n/\Reads W W.heap.size 1 A' n' (oh.map (Value.int .i64))/\oh.length=n'/\n'<=c':=by
 obtain⟨xs,n,rfl,_,hlen,hn,hf⟩:=DataW.trod_struct underlying28 h;have hn':xs.length=3:=hn;have f0:=hf 0 _ rfl;have f3:=hf 1 _ rfl;have f4:=hf 2 _ rfl;simp only[List.getElem_toArray,List.getElem_cons_zero,List.getElem_cons_succ,cells3',cells23,cells24,List.drop_zero,List.drop_succ_cons,List.take_succ_cons,List.take_zero]at f0 f3 f4;rw[List.getElem?_eq_getElem (by omega)]at f0 f3 f4;obtain⟨n0,q0,_,_⟩:=DataW.trod_int underlying3 f0;obtain⟨A,na,ca,rfl⟩:=trod_slice_form underlying23 f3;obtain⟨A',nb,cb,rfl⟩:=trod_slice_form underlying24 f4;obtain⟨l,h1,h2,h3⟩:=readsP f3;obtain⟨l',h4,h5,h6⟩:=readsI f4;cases q0;exact⟨n0,l,l',A,na,ca,A',nb,cb,rfl,rfl,rfl,h1,h2,h4,h5,h6⟩
end
end
section
open Go.RowKit Go.ChangeShapes
theorem nums_exact {W:World}{sp:Nat->Bool}{held:Bool}{fuel:Nat}{cs:Array Value}{L:List Int}{ps:List MemPlace}{e:TypeId}(he:prog.underlying 242=some (.array 64 e))(hi:prog.underlying e=some (.int .u32))(hc:prog.cellsOf e=1)
 (h:DataW.trod (λ_=>()) prog W 0 sp held fuel 242 cs.toList=some (.agg (L.map λk=>.lit (.int .u32 k)),ps)):cs=(L.map (Value.int .u32)).toArray:=by
 obtain⟨xs,m,rfl,hx,hlen,hn,hel⟩:=DataW.trod_array he h;rw[cells242]at hlen;have hxL:L.map (λk=>(DataW.lit (.int .u32 k):DataW Unit))=xs.map (·.1):=by
  have:=congrArg Prod.fst hx;injection this
 have hL:L.length=64:=by
  have h1:=congrArg List.length hxL;simp only[List.length_map]at h1;omega
 apply Array.ext_getElem?;intro i
 by_cases hi':i<64
 ·have h1:=hel i hi'
  rw[hc,Nat.mul_one,List.getElem?_eq_getElem (by omega)]at h1;obtain⟨k,e1,e2,_⟩:=DataW.trod_int hi h1;have h2:(List.take 1 (List.drop i cs.toList))[0]?=some (.int .u32 k):=by rw[e1];rfl
  rw[List.getElem?_take_of_lt (by omega),List.getElem?_drop,Nat.add_zero,Array.getElem?_toList]at h2;rw[h2];have h3:(xs.map (·.1))[i]?=some (DataW.lit (.int .u32 k)):=by
   rw[List.getElem?_map,List.getElem?_eq_getElem (by omega),e2];rfl
  rw[<- hxL,List.getElem?_map,List.getElem?_eq_getElem (by omega)]at h3;simp only[Option.map_some,Option.some.injEq,DataW.lit.injEq,Lit.int.injEq,true_and]at h3;simp[List.getElem?_eq_getElem (show i<L.length by omega),h3]
 ·have:cs.size=64:=by simpa using hlen
  rw[Array.getElem?_eq_none (by omega),Array.getElem?_eq_none (by simp;omega)]
theorem tabC_lits :tabC=(tabL.map (Value.int .u32)).toArray:=by kernel_rfl
theorem tabC_of_laid {W:World}{a c:String}{x y z:DataW Unit}(hx:(x.handleName?).isSome=false)(hy:(y.handleName?).isSome=false)(hz:(z.handleName?).isSome=true)
 (hY:y=.agg (tabL.map λk=>.lit (.int .u32 k))) {e:TypeId} (he:prog.underlying 242=some (.array 64 e)) (hi:prog.underlying e=some (.int .u32)) (hc:prog.cellsOf e=1)
 (h:laidMetH prog [(a,x),("clearway/digest.round",y),(c,z)] W):Tab W tabC:=by
 have hx2:(x.handleName?).isNone=true:=by cases hh:x.handleName?<;>simp_all
 have hy2:(y.handleName?).isNone=true:=by cases hh:y.handleName?<;>simp_all
 have hz2:(z.handleName?).isNone=false:=by cases hh:z.handleName?<;>simp_all
 unfold laidMetH at h;simp only[List.filter,hx,hy,hz,hx2,hy2,hz2]at h;obtain⟨⟨ps,hps,_,hcell⟩,_⟩:=h;obtain⟨g0,t0,cs0,f0,p0,q0,_,_,_,_,hq0,rfl⟩:=hps;obtain⟨g1,t1,cs1,f1,p1,q1,hg1,ht1,hv1,hd1,_,rfl⟩:=hq0;obtain rfl:=Option.some.inj (gRound.symm.trans hg1);obtain rfl:=Option.some.inj (tRound.symm.trans ht1);have hn:=nums_of he hi hc hd1;rw[hY]at hd1;have hex:=nums_exact he hi hc hd1;rw[<- tabC_lits]at hex;rw[<- hex];refine⟨?_,hn⟩;obtain⟨⟨cc,t,hb⟩,_⟩:=hcell 0 0 (by
  refine List.mem_append.2 (.inr (List.mem_append.2 (.inl (List.mem_append.2 (.inl ?_)))));simp only[MemPlace.row,List.mem_map,List.mem_range,hn.1];exact⟨0,by omega,by simp[Addr.add]⟩)
 have:cc=cs1:=by
  unfold World.var? at hv1;rw[gRound]at hv1;simp only[Option.bind_some,hb]at hv1;exact Option.some.inj hv1
 subst this;exact⟨t,hb⟩
end
end Go.Proofs.YtnehgpeelgjjhaaGreatDoor.Tw
namespace Go.Proofs.YtnehgpeelgjjhaaGreatDoor
open Go.ChangeShapes Go.WideShapes Go.ChangeAt Go.RowKit Go.WideMaps Go.Proofs.YtnehgpeelgjjhaaGreatDoor.Tw
theorem own :ownKnob Tryz.prog.godebug=none:=by kernel_rfl
theorem cells87 :Tryz.prog.cellsOf 87=3:=by kernel_rfl
theorem cells3 :Tryz.prog.cellsOf 3=1:=by kernel_rfl
theorem cells179 :Tryz.prog.cellsOf 179=1:=by kernel_rfl
abbrev LL :List (String×DataW Unit):=[("math/bits.deBruijn32tab",Rows.laid_math_bits_deBruijn32tab),("clearway/digest.round",Rows.laid_clearway_digest_round),("clearway/dist.checks",Rows.laid_clearway_dist_checks)]
theorem door_met (os:Os)(args:Array Value):laidMetH Tryz.prog LL ((World.doorLaid Tryz.prog 24 os).forCall (λ_ _=>0) ⟨#[],args,[]⟩).memory :=
 laidMetH_of_parts3 (fuel:=8) (laidMet_of_run' 8 (by kernel_rfl) (by kernel_rfl)) (by kernel_rfl) (by kernel_rfl)
theorem pair29' :ArrKey Tryz.prog 29 3 2:=⟨Tryz.underlying29,by kernel_rfl,cells3,by kernel_rfl⟩
theorem tabC_laid {W:World}(h:laidMetH Tryz.prog LL W):Tab W tabC :=
 tabC_of_laid (by kernel_rfl) (by kernel_rfl) (by kernel_rfl) (by rfl) Tryz.underlying242 Tryz.underlying179 cells179 h
theorem agg_of26 {W:World}{base:Nat}{v:Value}(h:Value.okWide Tryz.prog W .any base 26 v):∃a b c d e,v=.agg #[a,b,c,d,e]:=by
 simp only[Value.okWide,Tryz.underlying26]at h;obtain⟨cs,rfl,hs,_⟩:=h;have hs5:cs.size=5:=hs.trans (by kernel_rfl);obtain⟨l⟩:=cs
 match l,hs5 with
 | [a,b,c,d,e],_=>exact⟨a,b,c,d,e,rfl⟩
theorem agg_of28 {W:World}{base:Nat}{v:Value}(h:Value.okWide Tryz.prog W .any base 28 v):∃a b c,v=.agg #[a,b,c]:=by
 simp only[Value.okWide,Tryz.underlying28]at h;obtain⟨cs,rfl,hs,_⟩:=h;have hs3:cs.size=3:=hs.trans (by kernel_rfl);obtain⟨l⟩:=cs
 match l,hs3 with
 | [a,b,c],_=>exact⟨a,b,c,rfl⟩
theorem lifted3 (os:Os)(started:os.Started)(H:Type)(enc:TypeId×Value->H) :
 ReturnsInHanded {} Tryz.checked os 3 .any (λw args=>(Rows.replicaMatchesReferenceSpec.pre enc Tryz.prog Tryz.f3 [] false w args/\laidMetH Tryz.prog LL w)/\sizedMet enc Tryz.prog Tryz.f3 (OpenSpec.ofChange Rows.replicaMatchesReferenceSpec) false w args)
  (Rows.replicaMatchesReferenceSpec.post enc Tryz.prog Tryz.f3 false true false false):=by
 refine returnsInHanded_of_change_and (C:=Tryz.checked) (X:=λw _=>laidMetH Tryz.prog LL w) (λ_ _ _ hh h=>h.of_heap hh) own started (by kernel_rfl) Tryz.func3
  (ChangeSpec.witness_shaped (enc:=enc) (C:=Tryz.checked) (os:=os) (X:=λw _=>laidMetH Tryz.prog LL w) false (World.doorLaid Tryz.prog 24 os) #[.int .i64 0,.slice none 0 0,.agg #[.int .i64 0,.int .i64 0,.int .i64 0,.slice none 0 0,.slice none 0 0],.agg #[.int .i64 0,.slice none 0 0,.slice none 0 0],.string ⟨#[]⟩,.agg #[.int .i64 0,.int .i64 0]] 8 rfl (World.shaped_of_RefB (by kernel_rfl) (by kernel_rfl)) (by kernel_rfl) (by kernel_rfl) (by kernel_rfl) (door_met os _)) ?_
 intro W base args ds gs before hval0 hW _ _ hL _;have hval:∀(j:Nat) t v,Tryz.f3.params[j]?=some t->args[j]?=some v->Value.okWide Tryz.prog W .any base t v:=hval0;have hW':=hW;obtain⟨p,q,hA0,hV,rfl,hfz,hnd⟩:=hW;have hA:DataW.TrodAll enc Tryz.prog W 0 (λ_=>true) true Tryz.f3.params.toList args.toList ds p:=hA0;rw[Tryz.params3]at hA hval;obtain⟨v0,vs0,d0,ds0,p0,q0,hargs,rfl,rfl,h0,r0⟩:=trodAll_cons hA;obtain⟨v1,vs1,d1,ds1,p1,q1,rfl,rfl,rfl,h1,r1⟩:=trodAll_cons r0;obtain⟨v2,vs2,d2,ds2,p2,q2,rfl,rfl,rfl,h2,r2⟩:=trodAll_cons r1;obtain⟨v3,vs3,d3,ds3,p3,q3,rfl,rfl,rfl,h3,r3⟩:=trodAll_cons r2;obtain⟨v4,vs4,d4,ds4,p4,q4,rfl,rfl,rfl,h4,r4⟩:=trodAll_cons r3;obtain⟨v5,vs5,d5,ds5,p5,q5,rfl,rfl,rfl,h5,r5⟩:=trodAll_cons r4;obtain⟨rfl,rfl,rfl⟩:=trodAll_nil r5;obtain rfl:args=#[v0,v1,v2,v3,v4,v5]:=by cases args;simp_all
 obtain⟨rfl,rfl⟩:=trodVars_none hV;obtain⟨a0,rfl,rfl,rfl,w0⟩:=open_int Tryz.underlying3 (hval 0 3 v0 rfl rfl) h0;obtain⟨a1,len1,cap1,rfl⟩:=okWide_slice Tryz.underlying22 (hval 1 22 v1 rfl rfl);obtain⟨c0,c1,c2,c3,c4,rfl⟩:=agg_of26 (hval 2 26 v2 rfl rfl);obtain⟨e0,e1,e2,rfl⟩:=agg_of28 (hval 3 28 v3 rfl rfl);obtain⟨f0,s0,rfl,rfl,rfl,wf,ws⟩:=open_pair pair29' Tryz.underlying3 (hval 5 29 v5 rfl rfl) h5;have k1:=h1;have k2:=h2;have k3:=h3;have lt1:∀x∈p1,x.block<W.heap.size:=by obtain⟨m,hm⟩:=k1;exact DataW.trod_lt m _ _ _ hm
 have lt2:∀x∈p2,x.block<W.heap.size:=by obtain⟨m,hm⟩:=k2;exact DataW.trod_lt m _ _ _ hm
 have lt3:∀x∈p3,x.block<W.heap.size:=by obtain⟨m,hm⟩:=k3;exact DataW.trod_lt m _ _ _ hm
 have lt4:∀x∈p4,x.block<W.heap.size:=by obtain⟨m,hm⟩:=h4;exact DataW.trod_lt m _ _ _ hm
 obtain⟨xs,hx,hl,hw⟩:=reads3 Tryz.underlying22 Tryz.underlying87 Tryz.underlying3 cells87 cells3 h1;obtain⟨m2,hm2⟩:=h2;obtain⟨raw,RA,rn,rc,RA',rn',rc',rfl,rfl,rfl,rfl,rfl,y1,y2,y3,y4,y5⟩:=trod_rep hm2;obtain⟨m3,hm3⟩:=h3;obtain⟨os',op,oh,OA,on,oc,OA',on',oc',rfl,rfl,rfl,z1,z2,z3,z4,z5⟩:=trod_msg hm3;obtain⟨str,rfl⟩:∃str,v4=.string str:=okWide_string Tryz.underlying9 (hval 4 9 v4 rfl rfl);have hT:=tabC_laid hL;clear hA0 hval0;refine(match_law W hT a0 (wf_i64 w0) a1 len1 cap1 xs hx hl hw raw RA rn rc RA' rn' rc' ⟨y1,y2,y3,y4⟩ y5 os' op oh OA on oc OA' on' oc' z1 z2 z3 z4 z5 str f0 s0).mono λe W' ⟨he,bel⟩=>?_
 subst he;exact⟨_,rfl,_,_,_,[],_,[],hW',trodAll_mk1 (shut_bool Tryz.underlying4 _),(trodAll_cons_mk (shut_int Tryz.underlying3 w0) (trodAll_cons_mk (Below.trod laid_out (by kernel_rfl) (of_decide_eq_true (by kernel_rfl)) k1 bel lt1) (trodAll_cons_mk (Below.trod laid_out (by kernel_rfl) (of_decide_eq_true (by kernel_rfl)) k2 bel lt2) (trodAll_cons_mk (Below.trod laid_out (by kernel_rfl) (of_decide_eq_true (by kernel_rfl)) k3 bel lt3) (trodAll_cons_mk (Below.trod laid_out (by kernel_rfl) (of_decide_eq_true (by kernel_rfl)) h4 bel lt4) (trodAll_cons_mk (shut_pair pair29' Tryz.underlying3 wf ws) trodAll_mk0)))))),rfl,bel.frame _,λh=>by cases h⟩
theorem matches_holds :Rows.ReplicaMatchesReferenceSaid :=
 OpenClaim.holds_of_wide 3 Tryz.f3 rfl rfl rfl rfl rfl rfl rfl ⟨rfl,rfl,rfl,rfl,rfl⟩ rfl rfl rfl rfl rfl fact_named3 Tryz.func3 matches_facts
  (of_decide_eq_true (by kernel_rfl)) (by unfold Func.isWrapper;first|(rw[if_pos (by decide +kernel)];kernel_rfl)|(rw[if_neg (by decide +kernel)];exact⟨rfl,rfl⟩))
  (λos started H enc _=>lifted3 os started H enc)
end Go.Proofs.YtnehgpeelgjjhaaGreatDoor
