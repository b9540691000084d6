/- Contracts of functions of the program, and plain laws, towards the laws of replicas. Joined of the texts: D5, D6, D7, R23, R24, R26p, K1, V13, H3, S4, S5, S6, S7. -/
import Derived.Test.YtnehgpeelgjjhaaGreatDoorW15
import Derived.Laws.IdiomStrings
import Derived.Laws.IdiomCopy
import Derived.Laws.AppendOwn
import Derived.Test.YtnehgpeelgjjhaaGreatDoorW04
import Derived.Deep.DeepCutAuto
import Derived.Test.YtnehgpeelgjjhaaGreatDoorW11
import Derived.Handy
set_option linter.all false
set_option maxRecDepth 100000
set_option maxHeartbeats 12800000
open Go.Lib (hid)
namespace Go.Proofs.YtnehgpeelgjjhaaGreatDoor.Tw
open Go.Proofs.Tryz
section
open Go.RowKit
def Bs (w:World)(base:Nat)(v:Value)(xs:List Int):Prop :=
 ∃g cap,v=.slice (some ⟨g,0,none⟩) xs.length cap/\base<=g/\g<w.heap.size/\xs.length<=cap/\(∀i,i<cap->(∃u,w.cell? ⟨g,i,none⟩=some u)/\w.frozen? ⟨g,i,none⟩=false) /\
  ∀i x,xs[i]?=some x->w.cell? ⟨g,i,none⟩=some (.int .u8 x)
theorem Bs.below {w w':World}{base:Nat}{v:Value}{xs:List Int}(h:Bs w base v xs)(hb:Below w.heap.size w w'):Bs w' base v xs:=by
 obtain⟨g,cap,rfl,h1,h2,h3,h4,h5⟩:=h;refine⟨g,cap,rfl,h1,Nat.lt_of_lt_of_le h2 hb.size,h3,λi hi=>?_,λi x hx=>(hb.cell h2).trans (h5 i x hx)⟩;obtain⟨⟨u,hu⟩,hf⟩:=h4 i hi;exact⟨⟨u,(hb.cell h2).trans hu⟩,(hb.frozen h2).trans hf⟩
theorem addr_add (g j:Nat):(⟨g,0,none⟩:Addr).add j=⟨g,j,none⟩:=by unfold Addr.add;split<;>simp_all
theorem info5' :(prog.info? 5).map (λi=>(i.size,i.bytes,i.zero))=some (1,1,some (.int .u8 0)):=by kernel_rfl
theorem info5 :∃i,prog.info? 5=some i/\i.size=1/\i.bytes=1/\i.zero=some (.int .u8 0):=by
 have h:=info5';cases hi:prog.info? 5 with
 | none=>rw[hi]at h;cases h
 | some i =>
   rw[hi]at h;simp only[Option.map_some,Option.some.injEq,Prod.mk.injEq]at h;exact⟨i,rfl,h.1,h.2.1,h.2.2⟩
theorem Bs.append1 {w:World}{base:Nat}{v:Value}{xs:List Int}(h:Bs w base v xs)(hbase:base<=w.heap.size)(hl:xs.length+1<=1099511627776)(ad:Addr)(c:Int)(cc:Nat)(hc:w.cell? ad=some (.int .u8 c))(ty:TypeId) :
 ∃v' w',(Builtin.append_ #[129,129] ty #[v,.slice (some ad) 1 cc]).run prog w=.ok v' w'/\Bs w' base v' (xs++[c])/\Below base w w':=by
 obtain⟨g,cap,rfl,h1,h2,h3,h4,h5⟩:=h;obtain⟨i5,hi,hs1,hb1,hz⟩:=info5;have hnews:∀j v,([Value.int .u8 c]:List Value)[j]?=some v->w.cell? (ad.add j)=some v:=by
  intro j v hj
  match j with
  | 0 =>
    simp at hj;subst hj;rw[show ad.add 0=ad by unfold Addr.add;split<;>simp_all];exact hc
  | j+1=>simp at hj
 by_cases hroom:xs.length+1<=cap
 ·have hst:=run_storeCells_cells (P:=prog) g xs.length [.int .u8 c] 0 w (λj hj=>by
   have:j=0:=by simpa using hj
   subst this;obtain⟨⟨u,hu⟩,_⟩:=h4 xs.length (by omega);show(w.cell? ⟨g,xs.length,none⟩).isSome=true;rw[hu];rfl) (λj hj=>by
   have:j=0:=by simpa using hj
   subst this;exact(h4 xs.length (by omega)).2) (by simp[Value.oneCell'])
  have hf:=run_firstCells_some (P:=prog) w 1 1 ad 1 cc [.int .u8 c] rfl hnews;have hset:w.setCells g (xs.length+0) [.int .u8 c]=w.setCell ⟨g,xs.length,none⟩ (.int .u8 c):=rfl;rw[hset]at hst;refine⟨.slice (some ⟨g,0,none⟩) (xs.length+1) cap,w.setCell ⟨g,xs.length,none⟩ (.int .u8 c),?_,⟨g,cap,by simp,h1,?_,by simp;exact hroom,λi hi=>?_,λi x hx=>?_⟩,(Below.refl base w).setCell (p:=⟨g,xs.length,none⟩) h1 _⟩
  ·simp[Builtin.append_,run_underlying underlying129,sizeOf,typeInfo,hi,hs1,Builtin.lenOf,hroom,hf,addr_add,hst]
  ·exact Nat.lt_of_lt_of_le h2 ((Below.refl base w).setCell (p:=⟨g,xs.length,none⟩) h1 (.int .u8 c)).size
  ·obtain⟨⟨u,hu⟩,hfz⟩:=h4 i hi
   refine⟨?_,by rw[World.frozen?_setCell];exact hfz⟩
   by_cases e:xs.length=i
   ·subst e
    exact⟨_,World.cell?_setCell_same w _ _ hu⟩
   ·exact⟨u,(World.cell?_setCell_other w _ _ _ (by simp)).trans hu⟩
  ·by_cases e:xs.length=i
   ·subst e
    obtain⟨⟨u,hu⟩,_⟩:=h4 xs.length (by omega);simp at hx;subst hx;exact World.cell?_setCell_same w _ _ hu
   ·have hlt:i<(xs++[c]).length:=(List.getElem?_eq_some_iff.1 hx).1
    simp at hlt;rw[List.getElem?_append_left (by omega)]at hx;exact(World.cell?_setCell_other w _ _ _ (by simp)).trans (h5 i x hx)
 ·have holds:∀j v,(xs.map (Value.int .u8))[j]?=some v->w.cell? ((⟨g,0,none⟩:Addr).add j)=some v:=by
   intro j v hj;rw[List.getElem?_map,Option.map_eq_some_iff]at hj;obtain⟨x,hx,rfl⟩:=hj;rw[addr_add];exact h5 j x hx
  have hr:=run_append_grow (P:=prog) w 129 ty 5 i5 (.int .u8 0) underlying129 hi hz ⟨g,0,none⟩ xs.length cap (xs.map (Value.int .u8)) (by simp[hs1]) holds ad 1 cc [.int .u8 c] (by simp[hs1]) hnews (by omega) (by omega)
   (growslice_fits (by omega) (by rw[hb1];omega))
  obtain⟨N,hN⟩:∃N,N=grownCap w (xs.length+1) cap 5:=⟨_,rfl⟩;have hge:xs.length+1<=N:=by rw[hN];exact grownCap_ge w (xs.length+1) cap 5
  rw[<- hN]at hr;have hsize:((xs.map (Value.int .u8)).toArray++[Value.int .u8 c].toArray++Builtin.zeroCells (Value.int .u8 0).cells (N - (xs.length+1))).size=N:=by
   simp only[Array.size_append,List.size_toArray,size_zeroCells,List.length_map];simp[Value.cells];omega
  refine⟨_,_,hr,⟨w.heap.size,N,by simp,hbase,by simp,by simp;exact hge,λi hi=>?_,λi x hx=>?_⟩,(Below.refl base w).drew.trans ((Below.refl base w.drew).alloc hbase _)⟩
  ·rw[cell_of_row _ w.heap.size i _ 5 (0,0) (heap_alloc_new w.drew _)]
   refine⟨⟨_,Array.getElem?_eq_getElem (by rw[hsize];exact hi)⟩,?_⟩;have:=Blk.new w.drew 5 ((xs.map (Value.int .u8)).toArray++[Value.int .u8 c].toArray++Builtin.zeroCells (Value.int .u8 0).cells (N - (xs.length+1)));exact this.frozen i
  ·rw[cell_of_row _ w.heap.size i _ 5 (0,0) (heap_alloc_new w.drew _)]
   have hlt:i<(xs++[c]).length:=(List.getElem?_eq_some_iff.1 hx).1;have:((xs.map (Value.int .u8)).toArray++[Value.int .u8 c].toArray)=((xs++[c]).map (Value.int .u8)).toArray:=by simp
   rw[this,Array.getElem?_append_left (by simpa using hlt)];simp only[List.getElem?_toArray,List.getElem?_map,hx];rfl
def bytesI (s:ByteArray):List Int:=s.data.toList.map λb=>(b.toNat:Int)
theorem bytesI_len (s:ByteArray):(bytesI s).length=s.size:=by unfold bytesI;rw[List.length_map,Array.length_toList];rfl
theorem Bs.of_string (w:World)(s:ByteArray):∃v w',(convert 9 129 (.string s)).run prog w=.ok v w'/\Bs w' w.heap.size v (bytesI s)/\Below w.heap.size w w':=by
 have hr:=run_bytes_of_string (P:=prog) w 9 129 5 s underlying9 underlying129 underlying5;obtain⟨N,hN⟩:∃N,N=grownCap w s.size 0 5:=⟨_,rfl⟩;have hge:s.size<=N:=by rw[hN];exact grownCap_ge w s.size 0 5
 rw[<- hN]at hr;have hsize:(bytesRow s N).size=N:=by
  unfold bytesRow;rw[Array.size_append,Array.size_map,Array.size_replicate];show s.size+(N - s.size)=N;omega
 obtain⟨C,hC⟩:∃C,C=bytesRow s N:=⟨_,rfl⟩;rw[<- hC]at hr hsize;have hg:=heap_alloc_new w.drew (.cells C 5 (C.size,C.size+1));refine⟨_,_,hr,⟨w.heap.size,N,by rw[bytesI_len],Nat.le_refl _,by simp,by rw[bytesI_len];exact hge,λi hi=>?_,λi x hx=>?_⟩,(Below.refl _ w).drew.trans ((Below.refl _ w.drew).alloc (Nat.le_refl _) _)⟩
 ·rw[cell_of_row _ w.heap.size i _ 5 _ hg]
  refine⟨⟨_,Array.getElem?_eq_getElem (by rw[hsize];exact hi)⟩,?_⟩;unfold World.frozen?;have hg':(w.drew.alloc (.cells C 5 (C.size,C.size+1))).heap[w.heap.size]?=some (.cells C 5 (C.size,C.size+1)):=hg;rw[hg'];simp;omega
 ·rw[cell_of_row _ w.heap.size i _ 5 _ hg,hC]
  have hlt:=(List.getElem?_eq_some_iff.1 hx).1;rw[bytesI_len]at hlt;unfold bytesRow;rw[Array.getElem?_append_left (by rw[Array.size_map];exact hlt)];simp only[bytesI,List.getElem?_map,Option.map_eq_some_iff]at hx;obtain⟨b,hb,rfl⟩:=hx;have hb':s.data[i]?=some b:=by rw[<- Array.getElem?_toList];exact hb
  rw[Array.getElem?_map,hb'];rfl
end
section
open Go.RowKit Go.Shelf
attribute [local go_sem] Oper.semAt_some
def KeepB (n p:Nat)(w w':World):Prop:=w.heap.size<=w'.heap.size/\∀k,k<n->k≠p->w'.heap[k]?=w.heap[k]?
theorem KeepB.trans {n p:Nat}{a b c:World}(h:KeepB n p a b)(k:KeepB n p b c):KeepB n p a c:=⟨Nat.le_trans h.1 k.1,λi hi hp=>(k.2 i hi hp).trans (h.2 i hi hp)⟩
theorem KeepB.refl (n p:Nat)(w:World):KeepB n p w w:=⟨Nat.le_refl _,λ_ _ _=>rfl⟩
theorem KeepB.of_below {n p B:Nat}{w w':World}(h:Below B w w')(hn:n<=B):KeepB n p w w':=⟨h.size,λk hk _=>h.block k (by omega)⟩
theorem KeepB.of_but {n p:Nat}{w w':World}(h:But p w w')(hn:n<=w.heap.size):KeepB n p w w':=⟨h.size,λk hk hp=>h.block k (by omega) hp⟩
theorem KeepB.cell {n p:Nat}{w w':World}(h:KeepB n p w w'){b i:Nat}(hb:b<n)(hp:b≠p):w'.cell? ⟨b,i,none⟩=w.cell? ⟨b,i,none⟩:=World.cell?_of_block (h.2 b hb hp)
theorem chunk_iter (n:Nat)(hn:1<=n)(l b1 b2 b cap m n₀ p:Nat)(J Jx:List (Fin m)->World->Prop)
 (hJ:∀s (A B:World),J s A->A.grownBy B none->J s B)
 (hY:∀pre (x:Fin m) W,J pre W->pre.length<m->YieldAt Fence.wide (n - 1) prog l #[.slice (some ⟨b,64*x.val,none⟩) 64 64] W λe W' =>
   (e=.returned (.bool true)/\J (pre++[x]) W'/\KeepB n₀ p W W')∨(e=.returned (.bool false)/\Jx (pre++[x]) W'))
 (W:World) (h1:W.cell? ⟨b1,0,none⟩=some (.slice (some ⟨b,0,none⟩) (64*m) cap)) (h2:W.cell? ⟨b2,0,none⟩=some (.int .i64 64)) (hb1:b1<n₀) (hb2:b2<n₀) (hp1:b1≠p) (hn₀:n₀<=W.heap.size) (hp2:b2≠p) (hcap:64*m<=cap) (hm:m<=1099511627776) (h0:J [] W) :
 CallsIn Fence.wide n prog 152 #[.func (.yield l) #[] #[],.pointer (some ⟨b1,0,none⟩),.pointer (some ⟨b2,0,none⟩)] W λe W'=>(∃v,e=.returned v) /\
  ((∃ys,ys=List.finRange m/\J ys W')∨(∃pre,True/\Jx pre W')):=by
 refine callsIn_of_wp func152 rfl trivial ?_ rfl;simp only[ntmps152,List.size_toArray,List.length_cons,List.length_nil,Nat.reduceAdd,Nat.reduceSub,Array.replicate_succ,Array.replicate_zero,List.push_toArray,List.append_toArray,List.nil_append,List.cons_append]
 gi_wp2
 gi_loopw [4] (λi wr=>∃(k:Nat) (pre:List (Fin m)),k<=m/\i=.int .i64 ((64*k:Nat):Int)/\pre.length=k/\Hid (pre=(List.finRange m).take k)/\Hid (J pre wr)/\Hid (KeepB n₀ p W wr)) (λi _=>64*m - (intOf i).toNat)
 case atStart=>exact⟨0,[],by omega,rfl,rfl,hid rfl,hid h0,hid (KeepB.refl _ _ _)⟩
 case round =>
  obtain⟨k,pre,hk,rfl,hpl,hpre,hJs,hK⟩:=hrel;have c1:=(hK.out.cell (i:=0) hb1 hp1).trans h1;have c2:=(hK.out.cell (i:=0) hb2 hp2).trans h2
  by_cases hlt:k<m
  ·gi_wp2
   have L1:=Later.of c1;have L2:=Later.of c2;refine wpIn_wide.2 (Loose.wp_region_later [] 7 (by kernel_rfl) (by kernel_rfl) ?_)
   (simp only[List.take_succ_cons,List.take_zero,List.drop_succ_cons,List.drop_zero])
   (repeat(first|refine Loose.walk_skip rfl ?_|(refine Loose.walk_plain rfl rfl rfl λK h=>?_;go_big_quiet_op;refine h _ ?_;clear h K)))
   refine Loose.walk_nil ?_;rintro U hU -;have hJU:=hJ _ _ _ hJs.out (grown_below hU none);have hKU:=hid (hK.out.trans (KeepB.of_below hU (Nat.le_trans hn₀ hK.out.1)));have d1:=(hKU.out.cell (i:=0) hb1 hp1).trans h1;have d2:=(hKU.out.cell (i:=0) hb2 hp2).trans h2;clear L1 L2 hU c1 c2;obtain⟨fn,tmps,assign,body,hy,hR⟩:=hY pre ⟨k,hlt⟩ U hJU (by omega);dsimp only at hy;clear hJU hJs
   go_wp2_with fail
   gi_wp2
   refine hR.mono ?_;rintro e W3 (⟨rfl,hJ3,hk3⟩|⟨rfl,hJx3⟩)
   ·have hK3:=hid (hKU.out.trans hk3)
    have e2:=(hK3.out.cell (i:=0) hb2 hp2).trans h2;have HJ:=hid hJ3;have hpre':Hid (pre++[⟨k,hlt⟩]=(List.finRange m).take (k+1)):=hid (by
     rw[List.take_succ_eq_append_getElem (by simpa using hlt),<- hpre.out];simp)
    clear hJ3 hk3 d1 d2 hy hR
    gi_wp2
    go_roundw
    case rel=>exact⟨k+1,_,by omega,by go_num,by simp[hpl],hpre',HJ,hK3⟩
    case measure=>simp[intOf];omega
   ·gi_wp2
    refine bodyPost_ret (results_none rfl _ _ _) rfl ?_;exact⟨⟨_,rfl⟩,.inr ⟨_,trivial,hJx3⟩⟩
  ·gi_wp2
   go_end0;exact⟨⟨_,rfl⟩,.inl ⟨pre,by rw[hpre.out,List.take_of_length_le (by simp;omega)],hJs.out⟩⟩
end
section
open Go.RowKit Go.Shelf
attribute [local go_sem] Oper.semAt_some
attribute [local irreducible] addF
theorem chunk_stops (n:Nat)(hn:1<=n)(b1 b2 b cap m n₀ p:Nat)(w:World)(h1:w.cell? ⟨b1,0,none⟩=some (.slice (some ⟨b,0,none⟩) (64*m) cap))(h2:w.cell? ⟨b2,0,none⟩=some (.int .i64 64))
 (hb1:b1<n₀) (hb2:b2<n₀) (hp1:b1≠p) (hp2:b2≠p) (hn₀:n₀<=w.heap.size) (hcap:64*m<=cap) (hm:m<=1099511627776) :
 SeqStopsK Fence.wide n prog 152 #[.pointer (some ⟨b1,0,none⟩),.pointer (some ⟨b2,0,none⟩)] (λx:Fin m=>#[Value.slice (some ⟨b,64*x.val,none⟩) 64 64]) (KeepB n₀ p) (λys=>ys=List.finRange m) (λ_=>True) m w :=
 λl J Jx W hW hJ _ hY h0=>chunk_iter n hn l b1 b2 b cap m n₀ p J Jx (λs A B hs hg=>hJ s A B none hs hg (λr e=>by cases e)) hY W ((hW.cell (lt_of_cell h1)).trans h1) ((hW.cell (lt_of_cell h2)).trans h2) hb1 hb2 hp1 (Nat.le_trans hn₀ hW.size) hp2 hcap hm h0
theorem chunk_any (w:World)(A:Option Addr)(n c:Nat):Calls prog 108 #[.slice A n c,.int .i64 64] w λe w'=>∃b1 b2,e=.returned (.func (.func 152) #[] #[.pointer (some ⟨b1,0,none⟩),.pointer (some ⟨b2,0,none⟩)])/\w.heap.size<=b1/\w.heap.size<=b2/\b1<w'.heap.size/\b2<w'.heap.size /\
 w'.cell? ⟨b1,0,none⟩=some (.slice A n c)/\w'.cell? ⟨b2,0,none⟩=some (.int .i64 64)/\Below w.heap.size w w':=by
 go_enter func108,ntmps108
 go_wp2;go_ret;have hX:=heap_alloc_new (w.alloc (.cells #[.slice A n c] 129)) (.cells #[.int .i64 64] 3);have hA:Blk ((w.alloc (.cells #[.slice A n c] 129)).alloc (.cells #[.int .i64 64] 3)) w.heap.size 129 #[.slice A n c]:=(Blk.new _ _ _).alloc _;have hB:Blk ((w.alloc (.cells #[.slice A n c] 129)).alloc (.cells #[.int .i64 64] 3)) (w.heap.size+1) 3 #[.int .i64 64]:=Blk.new2 _ _ _ _;exact⟨_,_,rfl,by omega,by omega,by simp;omega,by simp,hA.cell 0,hB.cell 0,((Below.refl _ _).alloc (Nat.le_refl _) _).alloc (by simp) _⟩
def iv :W8:=⟨1779033703,3144134277,1013904242,2773480762,1359893119,2600822924,528734635,1541459225⟩
def lenV :Value->Nat
 | .slice _ n _=>n
 | _=>0
theorem Bs.len {w:World}{B:Nat}{v:Value}{xs:List Int}(h:Bs w B v xs):∃A c,v=.slice A xs.length c:=by
 obtain⟨g,cap,rfl,_⟩:=h;exact⟨_,_,rfl⟩
theorem Bs.len' {w:World}{B:Nat}{v:Value}{xs:List Int}(h:Bs w B v xs){n:Nat}(hn:xs.length=n):∃A c,v=.slice A n c:=by
 subst hn;exact h.len
theorem with_act {P:Program}{c:Code}{Q:Exit->Act->World->Prop}{a:Act}{w:World}(h:∀b,b=a->c.wp P Q b w):c.wp P Q a w:=h a rfl
theorem KeepB.putObj {n p l:Nat}{W:World}(h:n<=l)(o:Obj):KeepB n p W (W.putObj l o):=⟨by simp,λk hk _=>World.putObj_heap_other (by omega)⟩
theorem KeepB.grown {n p:Nat}{w A B:World}{row:Option Nat}(h:KeepB n p w A)(hg:A.grownBy B row)(hr:∀r,row=some r->n<=r)(hn:n<=w.heap.size):KeepB n p w B :=
 ⟨Nat.le_trans h.1 hg.size,λk hk hp=>(hg.block k (by have:=h.1;omega) (λe=>by have:=hr k e.symm;omega)).trans (h.2 k hk hp)⟩
theorem nums_fold {m:Nat}(tab:Array Value)(f:Fin m->Nat->Int)(pre:List (Fin m)){hs:Array Value}(h:Nums 8 hs):Nums 8 (pre.foldl (λhs x=>addF tab (f x) hs) hs):=by
 induction pre generalizing hs with
 | nil=>exact h
 | cons x pre ih =>
   rw[List.foldl_cons];exact ih (nums_addF tab (f x) h)
def lenB1 (n j:Nat):Int:=(8*(n:Int)) / 2 ^ (8*(7 - j))%256
def lenB (n j:Nat):List Int:=(List.range j).map (lenB1 n)
theorem lenB_succ (n j:Nat):lenB n j++[lenB1 n j]=lenB n (j+1):=by simp[lenB,List.range_succ]
def padB (s:ByteArray):List Int:=bytesI s++[128]++List.replicate ((120 - ((bytesI s).length+1)%64)%64) 0++lenB s.size 8
def sumF (tab:Array Value)(s:ByteArray):List Int :=
 outB ((List.finRange ((padB s).length / 64)).foldl (λhs x=>addF tab (λi=>(padB s).getD (64*x.val+i) 0) hs) iv.cells) 8
theorem sumF_len (tab:Array Value)(s:ByteArray):(sumF tab s).length=32:=outB_len _ 8
theorem sumF_eq (tab:Array Value)(s:ByteArray)(zs:List Int)(m:Nat)(h1:zs=padB s)(h2:zs.length=64*m) :
 outB ((List.finRange m).foldl (λhs x=>addF tab (λi=>zs.getD (64*x.val+i) 0) hs) iv.cells) 8=sumF tab s:=by
 subst h1;obtain rfl:m=(padB s).length / 64:=by omega
 rfl
theorem own_sum {β:Type}{n p:Nat}{w4 w:World}(F:β->Array Value)(hp:p<n)(hn:n<=w4.heap.size)(hB:w.heap.size<=n):OwnFrom n (λs W=>Blk W p 181 (F s)/\KeepB n p w4 W/\Below w.heap.size w W):=by
 rintro s A B row ⟨h1,h2,h3⟩ hg hr;have hne:some p≠row:=λe=>by have:=(hr p e.symm).1;omega
 refine⟨(hg.block p h1.lt hne).trans h1,h2.grown hg (λr e=>(hr r e).1) hn,?_⟩;refine⟨hg.os.trans h3.os,hg.tape.trans h3.tape,hg.output.trans h3.output,Nat.le_trans h3.size hg.size,λk hk=>?_⟩;have hnk:some k≠row:=λe=>by have:=(hr k e.symm).1;omega
 exact(hg.block k (Nat.lt_of_lt_of_le hk h3.size) hnk).trans (h3.block k hk)
theorem KeepsOthers.of_but {p:Nat}{w w':World}(h:But p w w'){t:TypeId}{cs:Array Value}(hp:Blk w p t cs):KeepsOthers w w' :=
 ⟨h.size,λk o hk ho=>(h.block k (Array.getElem?_eq_some_iff.1 hk).1 (λe=>by subst e;rw[hp.heap]at hk;cases hk;cases ho)).trans hk⟩
theorem wpList_append1 {ops:Array Oper}{rest:List Oper}{o:Oper}{a:Act}{w:World}{Q:Exit->Act->World->Prop}(hgd:o.guard=none)(s x:Operand)
 (ho:o.op=.call { callee:=.builtin .append,args:=#[s,x],argTypes:=#[129,129] }) (base:Nat) (v:Value) (xs:List Int) (hs:a.eval s=v) (hB:Bs w base v xs) (hbase:base<=w.heap.size) (hl:xs.length+1<=1099511627776)
 (ad:Addr) (c:Int) (cc:Nat) (hx:a.eval x=.slice (some ad) 1 cc) (hc:w.cell? ad=some (.int .u8 c))
 (h:∀v' w',Bs w' base v' (xs++[c])->Below base w w'->wpList prog ops Q rest (a.put o.dst v') w'):wpList prog ops Q (o::rest) a w:=by
 refine wpList_plain hgd λK hK=>?_
 obtain⟨v',w',hr,h2,h3⟩:=hB.append1 hbase hl ad c cc hc o.type;unfold Oper.wp execOp;simp only[ho,resolve,invoke,builtin,Sem.run_bind,Sem.run_pure,Result.andThen_ok,List.map_toArray,List.map_cons,List.map_nil,hs,hx,hr];exact hK _ _ (h v' w' h2 h3)
theorem sum_any (w:World)(s:ByteArray)(tab:Array Value)(hT:Tab w tab)(hs:s.size<=1000000000) :
 Calls prog 77 #[.string s] w λe w'=>e=.returned (.string (strOfNums (sumF tab s)))/\Below w.heap.size w w':=by
 have HT:=hid hT;clear hT;refine calls_of_marks func77 rfl ?_;simp only[ntmps77,List.size_toArray,List.length_cons,List.length_nil,Nat.reduceAdd,Nat.reduceSub,Array.replicate_succ,Array.replicate_zero,List.push_toArray,List.append_toArray,List.nil_append,List.cons_append]
 go_upto_region 2 with (fail)
 obtain⟨W0,hW0⟩:∃W0,W0=w.alloc (.cells iv.cells 181):=⟨_,rfl⟩;have hH0:Blk W0 w.heap.size 181 iv.cells:=by rw[hW0];exact Blk.new _ _ _
 have hb0:Below w.heap.size w W0:=by rw[hW0];exact(Below.refl _ _).alloc (Nat.le_refl _) _
 have hz0:W0.heap.size=w.heap.size+1:=by rw[hW0];simp
 have e0:(W0=w.alloc (.cells #[.int .u32 1779033703,.int .u32 3144134277,.int .u32 1013904242,.int .u32 2773480762,.int .u32 1359893119,.int .u32 2600822924,.int .u32 528734635,.int .u32 1541459225] 181)):=hW0;rw[<- e0];clear hW0 e0;obtain⟨v0,w1,hcv,hB0,h1⟩:=Bs.of_string W0 s;obtain⟨A0,c0,rfl⟩:=hB0.len;have hk0:(w1.alloc (.cells #[.int .u8 128] 5)).cell? ⟨w1.heap.size,0,none⟩=some (.int .u8 128):=(Blk.new w1 5 #[.int .u8 128]).cell 0;have HB0:=hid (hB0.below ((Below.refl _ w1).alloc (Nat.le_refl _) (.cells #[.int .u8 128] 5)));have hz1:=h1.size;have hz1':W0.heap.size<=(w1.alloc (.cells #[.int .u8 128] 5)).heap.size:=by simp;omega
 have hl0:(bytesI s).length+1<=1099511627776:=by rw[bytesI_len];omega
 clear hB0
 go_wp2_with (at_builtin;refine wpList_append1 rfl (.tmp 9) (.tmp 10) rfl W0.heap.size (.slice A0 (bytesI s).length c0) (bytesI s) rfl HB0.out hz1' hl0 ⟨w1.heap.size,0,none⟩ 128 1 rfl hk0 ?_;intro v2 w2 hB2 h2;have HB2:=hid hB2;obtain⟨A2,c2,rfl⟩:=hB2.len;clear hB2)
 have hbb2:Below W0.heap.size W0 w2:=((h1.alloc h1.size _).trans h2);obtain⟨L,hL⟩:∃L,L=(bytesI s).length+1:=⟨_,rfl⟩;have HL:=hid hL;have hL':L<=1000000001:=by rw[hL,bytesI_len];omega
 have hxl:(bytesI s++[128]).length=L:=by simp[hL]
 rw[<- hL];obtain⟨xs0,hxs0⟩:∃xs0,xs0=bytesI s++[128]:=⟨_,rfl⟩;have HX0:=hid hxs0;rw[<- hxs0]at HB2 hxl;rw[hxl]at HB2;have hxl:=hid hxl;have HBB:=hid hbb2;clear hL hxs0 hk0 HB0 hcv h2 hbb2;rename_i hxl';clear hxl'
 go_loopw [4] (λv wr=>∃(k:Nat) (A:Option Addr) (c:Nat),k<=(120 - L%64)%64/\v=.slice A (L+k) c/\Hid (Bs wr W0.heap.size (.slice A (L+k) c) (xs0++List.replicate k 0))/\Hid (Below W0.heap.size W0 wr)) (λv _=>L+64 - lenV v)
 case atStart=>exact⟨0,A2,c2,by omega,rfl,hid (by simpa using HB2.out),HBB⟩
 case round =>
  clear HB2 HBB;obtain⟨k,A,c,hk,rfl,hB,hb⟩:=hrel
  by_cases h56:(L+k)%64=56
  ·have hkk:Hid (k=(120 - L%64)%64):=hid (by omega)
   go_wp2_with fail
   obtain⟨ys,hys⟩:∃ys,ys=xs0++List.replicate k 0:=⟨_,rfl⟩;have HYS:=hid hys;obtain⟨N,hN⟩:∃N,N=L+k:=⟨_,rfl⟩;have HN:=hid (show N%64=56 by omega);clear h56;have hNl:N<=1000000100:=by omega
   have hyl:ys.length=N:=by rw[hys,hN];simp[hxl.out]
   have hy:=hid hyl;rw[<- hys,<- hN]at hB;rw[<- hN];clear hN hys hyl;generalize (((L:Int)+(k:Int))%64 != 56)=bb
   go_loopw [4,5] (λv i wr=>∃(j:Nat) (A:Option Addr) (c:Nat),j<=8/\i=.int .i64 (7 - (j:Int))/\v=.slice A (N+j) c/\Hid (Bs wr W0.heap.size (.slice A (N+j) c) (ys++lenB s.size j))/\Hid (Below W0.heap.size W0 wr)) (λ_ i _=>(intOf i+1).toNat)
   case atStart=>exact⟨0,A,c,by omega,rfl,rfl,hid (by simpa[lenB]using hB.out),hb⟩
   case round =>
    clear hB hb;obtain⟨j,A,c,hj,rfl,rfl,hB,hb⟩:=hrel
    by_cases hlt:j<8
    ·have hlk:(ys++lenB s.size j).length+1<=1099511627776:=by simp[hy.out,lenB];omega
     have hzr:=hb.out.size;have hl3:((ys++lenB s.size j)++[lenB1 s.size j]).length=N+(j+1):=by simp[hy.out,lenB];try omega
     have he3:((ys++lenB s.size j)++[lenB1 s.size j])=ys++lenB s.size (j+1):=by rw[List.append_assoc,lenB_succ]
     have hkj:(wr.alloc (.cells #[.int .u8 (8*(s.size:Int) / 2 ^ (8*(7 - j))%256)] 5)).cell? ⟨wr.heap.size,0,none⟩=some (.int .u8 (lenB1 s.size j)):=(Blk.new wr 5 #[.int .u8 (8*(s.size:Int) / 2 ^ (8*(7 - j))%256)]).cell 0;have HB1:=hid (hB.out.below ((Below.refl _ wr).alloc (Nat.le_refl _) (.cells #[.int .u8 (8*(s.size:Int) / 2 ^ (8*(7 - j))%256)] 5)));have hzr':W0.heap.size<=(wr.alloc (.cells #[.int .u8 (8*(s.size:Int) / 2 ^ (8*(7 - j))%256)] 5)).heap.size:=by simp;omega
     go_wp2_with (at_builtin;refine wpList_append1 rfl (.tmp 23) (.tmp 31) rfl W0.heap.size (.slice A (N+j) c) (ys++lenB s.size j) rfl HB1.out hzr' hlk ⟨wr.heap.size,0,none⟩ (lenB1 s.size j) 1 rfl hkj ?_;intro v3 w3 hB3 h3;have HB3:=hid (he3▸hB3);have HW3:=hid ((hb.out.alloc hb.out.size (.cells #[.int .u8 (8*(s.size:Int) / 2 ^ (8*(7 - j))%256)] 5)).trans h3);obtain⟨A3,c3,rfl⟩:=hB3.len' hl3;clear hB3 h3)
     go_roundw
     case rel=>exact⟨j+1,A3,c3,by omega,by go_num,rfl,HB3,HW3⟩
     case measure=>simp[intOf];omega
    ·have hj8:j=8:=by omega
     subst hj8;obtain⟨m,hm⟩:∃m,N+8=64*m:=⟨(N+8) / 64,by have:=HN.out;omega⟩;have hzs:((ys++lenB s.size 8).length=64*m):=by simp[hy.out,lenB,hm]
     obtain⟨zs,hzse⟩:∃zs,zs=ys++lenB s.size 8:=⟨_,rfl⟩;have HZ:=hid hzse;rw[<- hzse]at hB hzs;rw[hm]at hB;have hzl:=hid hzs;clear hzse hzs
     go_wp2_with fail
     rw[hm];refine(chunk_any _ _ _ _).mono ?_;rintro e w4 ⟨b1,b2,rfl,hl1,hl2,hlt1,hlt2,hc1,hc2,h4⟩
     go_wp2_with fail
     obtain⟨g,cap,hv,hg1,hg2,hg3,hg4,hg5⟩:=hB.out;injection hv with hv1 hv2 hv3
     subst hv1;subst hv3;clear hv2;have hbw:=hb.out;have hzw:=hb.out.size;have hz4:=h4.size;obtain⟨n₀,hn₀⟩:∃n₀,n₀=w4.heap.size:=⟨_,rfl⟩;have HN0:=hid hn₀;have HP:Hid (Blk w4 w.heap.size 181 iv.cells):=hid ((hH0.below hbw (by omega)).below h4 (by omega));have HW4:Hid (Below w.heap.size w w4):=hid ((hb0.trans (hbw.mono (by omega))).trans (h4.mono (by omega)));have HBy:Hid (∀(x:Fin m) (i:Nat),i<64->w4.cell? ⟨g,64*x.val+i,none⟩=some (.int .u8 (zs.getD (64*x.val+i) 0))):=hid (λx i hi=>by
      have hx:=x.isLt;rw[h4.cell (p:=⟨g,64*x.val+i,none⟩) hg2];refine hg5 _ _ ?_;rw[List.getD_eq_getElem?_getD];have hlt:64*x.val+i<zs.length:=by rw[hzl.out];omega
      rw[List.getElem?_eq_getElem hlt];rfl)
     refine with_act ?_;intro b hb;refine wpIn_wide (n:=9).1 ?_;refine wpIn_rangeFunc_ownF (α:=Fin m) (F:=Fence.wide) rfl (by omega) (gf:=152) (lb:=#[.pointer (some ⟨b1,0,none⟩),.pointer (some ⟨b2,0,none⟩)]) (by rw[hb];rfl) trivial (enters_of func152 (by kernel_rfl) rfl)
      (chunk_stops 8 (by omega) b1 b2 g c m w4.heap.size w.heap.size w4 hc1 hc2 hlt1 hlt2 (by omega) (by omega) (Nat.le_refl _) (by have:=hzl.out;omega) (by omega)) (λh k=>h.trans k) (λW l o o' hl _ _ _=>KeepB.putObj hl o') (Below.refl _ _) (λ_=>rfl)
      (λpre W=>Blk W w.heap.size 181 (pre.foldl (λhs x=>addF tab (λi=>zs.getD (64*x.val+i) 0) hs) iv.cells)/\KeepB w4.heap.size w.heap.size w4 W/\Below w.heap.size w W)
      (λ_ _ _=>False)
      (own_sum _ (by omega) (Nat.le_refl _) (by omega))
      (λ_ _ _ _ _ hs _ _=>hs) ⟨HP.out,KeepB.refl _ _ _,HW4.out⟩ (λx=>{ tmps:=(b.tmps.setIfInBounds 35 (.slice (some ⟨g,64*x.val,none⟩) 64 64)).setIfInBounds 6 (.slice (some ⟨g,64*x.val,none⟩) 64 64),defers:=[] }) ?assign ?body ?done ?stop
     case assign =>
      subst hb;intro l x W K hK;simp only[List.setIfInBounds_toArray,List.set_cons_succ,List.set_cons_zero]at hK
      gi_wp2
      exact hK
     case body =>
      subst hb;rintro l pre x W ⟨hI1,hI2,hI3⟩ hlen;simp only[List.setIfInBounds_toArray,List.set_cons_succ,List.set_cons_zero]
      gi_wp2
      refine⟨trivial,?_⟩;have hg4:g<w4.heap.size:=by omega
      have hgW:g<W.heap.size:=by have:=hI2.1;omega
      have h0w:0<w.heap.size:=HT.out.1.lt;refine(CallsIn.inRound l (callsIn_wide.2 (add_any W w.heap.size g (64*x.val) (λi=>zs.getD (64*x.val+i) 0) _ tab ⟨HT.out.1.below hI3 h0w,HT.out.2⟩ hI1 (nums_fold tab (fun(x:Fin m) i=>zs.getD (64*x.val+i) 0) pre iv.nums) (λi hi=>(hI2.cell hg4 (by omega)).trans (HBy.out x i hi)) hgW))).mono ?_;rintro e W' ⟨rfl,hB',hBut⟩
      gi_wp2
      refine⟨KeepsOthers.of_but hBut hI1,KeepB.of_but hBut hI2.1,?_,hI2.trans (KeepB.of_but hBut hI2.1),?_⟩
      ·rw[List.foldl_append,List.foldl_cons,List.foldl_nil]
       exact hB'
      ·exact⟨hBut.os.trans hI3.os,hBut.tape.trans hI3.tape,hBut.output.trans hI3.output,Nat.le_trans hI3.size hBut.size,λk hk=>(hBut.block k (Nat.lt_of_lt_of_le hk hI3.size) (by omega)).trans (hI3.block k hk)⟩
     case done =>
      subst hb;rintro D xs W hD rfl ⟨hI1,hI2,hI3⟩ hK;have hNf:=nums_fold tab (fun(x:Fin m) i=>zs.getD (64*x.val+i) 0) (List.finRange m) iv.nums;obtain⟨hs,hhs⟩:∃hs,hs=(List.finRange m).foldl (λhs x=>addF tab (λi=>zs.getD (64*x.val+i) 0) hs) iv.cells:=⟨_,rfl⟩;rw[<- hhs]at hI1 hNf;have HH:=hid hhs;clear hhs;have HI1:=hid hI1;have hs8:=hNf.size8;clear hI1
      go_wp2_with (with_reducible refine wpList_load_row rfl 181 (.tmp 3) rfl w.heap.size rfl 181 hs (0,0) _ HI1.out.heap underlying181 rfl hs8 ?_)
      refine(digest_any W hs hNf).mono ?_;rintro e w5 ⟨rfl,h5⟩;have hD5:D<W.heap.size:=(Array.getElem?_eq_some_iff.1 hK).1;have hK5:w5.heap[D]?=some (.deferred (some [])):=(h5.block D hD5).trans hK;have hz5:=h5.size;have hzz:=hI3.size;have HB5:=hid (below_putObj (hI3.trans (h5.mono hzz)) (g:=D) (by omega) (.deferred none))
      go_wp2_with fail
      refine leaves_mark hK5 (results_tmp rfl _ _ _) ⟨?_,HB5.out⟩;have hpad:zs=padB s:=by rw[HZ.out,HYS.out,hkk.out,HX0.out,HL.out];rfl
      rw[<- sumF_eq tab s zs m hpad hzl.out,<- HH.out];rfl
     case stop=>intro D c' pre W _ _ h;exact h.elim
  ·have hlk:(xs0++List.replicate k 0).length+1<=1099511627776:=by simp[hxl.out];omega
   have hzr:=hb.out.size;have hl3:((xs0++List.replicate k 0)++[0]).length=L+(k+1):=by simp[hxl.out];try omega
   have he3:((xs0++List.replicate k 0)++[0])=xs0++List.replicate (k+1) 0:=by rw[List.append_assoc,<- List.replicate_succ']
   have hk0:(wr.alloc (.cells #[.int .u8 0] 5)).cell? ⟨wr.heap.size,0,none⟩=some (.int .u8 0):=(Blk.new wr 5 #[.int .u8 0]).cell 0;have HB1:=hid (hB.out.below ((Below.refl _ wr).alloc (Nat.le_refl _) (.cells #[.int .u8 0] 5)));have hzr':W0.heap.size<=(wr.alloc (.cells #[.int .u8 0] 5)).heap.size:=by simp;omega
   go_wp2_with (at_builtin;refine wpList_append1 rfl (.tmp 16) (.tmp 17) rfl W0.heap.size (.slice A (L+k) c) (xs0++List.replicate k 0) rfl HB1.out hzr' hlk ⟨wr.heap.size,0,none⟩ 0 1 rfl hk0 ?_;intro v3 w3 hB3 h3;have HB3:=hid (he3▸hB3);have HW3:=hid ((hb.out.alloc hb.out.size (.cells #[.int .u8 0] 5)).trans h3);obtain⟨A3,c3,rfl⟩:=hB3.len' hl3;clear hB3 h3)
   go_roundw
   case rel=>exact⟨k+1,A3,c3,by omega,rfl,HB3,HW3⟩
   case measure=>simp[lenV];omega
end
section
open Go.RowKit Go.Shelf
theorem bits_or_comm (k:IntKind)(x y:Int):bits BinOp.or k x y=bits BinOp.or k y x:=by
 simp only[bits,BitVec.or_comm]
theorem bits_u32_range (op:BinOp)(x y:Int):0<=bits op IntKind.u32 x y/\bits op IntKind.u32 x y<4294967296:=by
 have:∀n:Int,0<=IntKind.u32.wrap n/\IntKind.u32.wrap n<4294967296:=λn=>by
  have e:IntKind.u32.wrap n=n%4294967296:=by simp[IntKind.wrap,IntKind.bits,IntKind.signed]
  rw[e];omega
 exact this _
theorem bits_xor0 (y:Int)(h0:0<=y)(h1:y<4294967296):bits BinOp.xor IntKind.u32 0 y=y:=by
 obtain⟨n,rfl⟩:=Int.eq_ofNat_of_zero_le h0;have hn:n<4294967296:=by omega
 show IntKind.u32.wrap (((BitVec.ofInt 32 (0:Int)^^^BitVec.ofInt 32 (n:Int)).toNat:Nat):Int)=_;have e:∀n:Int,IntKind.u32.wrap n=n%4294967296:=λn=>by simp[IntKind.wrap,IntKind.bits,IntKind.signed]
 have h2:(BitVec.ofInt 32 (n:Int)).toNat=n:=by
  rw[BitVec.ofInt_natCast,BitVec.toNat_ofNat];exact Nat.mod_eq_of_lt (by omega)
 have h3:(BitVec.ofInt 32 (0:Int)).toNat=0:=by decide
 rw[BitVec.toNat_xor,h2,h3,Nat.zero_xor,e];omega
theorem rotl_range (x:Int)(n:Nat):0<=rotl x n/\rotl x n<4294967296:=bits_u32_range _ _ _
theorem mix2 (x:Int)(a b:Nat):mixF x [a,b]=bits BinOp.xor IntKind.u32 (rotl x a) (rotl x b):=by
 simp only[mixF,List.foldl_cons,List.foldl_nil];rw[bits_xor0 _ (rotl_range x a).1 (rotl_range x a).2]
theorem mix3 (x:Int)(a b c:Nat):mixF x [a,b,c]=bits BinOp.xor IntKind.u32 (bits BinOp.xor IntKind.u32 (rotl x a) (rotl x b)) (rotl x c):=by
 simp only[mixF,List.foldl_cons,List.foldl_nil];rw[bits_xor0 _ (rotl_range x a).1 (rotl_range x a).2]
theorem rotl_eq (x:Int)(n:Nat)(h:n<=32):bits BinOp.or IntKind.u32 (x / 2 ^ n) (x*2 ^ (32 - n)%4294967296)=rotl x n:=by
 unfold rotl;rw[bits_or_comm,show 32 - (32 - n)=n by omega]
theorem rotated_any (w:World)(x:Int)(n:Nat)(h1:1<=n)(h2:n<=31):Calls prog 155 #[.int .u32 x,.int .i64 n] w λe w'=>e=.returned (.int .u32 (rotl x n))/\Below w.heap.size w w':=by
 have hr:=rotl_eq x n (by omega)
 go_enter func155,ntmps155
 go_wp2_with fail
 refine wp_region_later (by kernel_rfl) (by kernel_rfl) ?_
 repeat(go_big_quiet_step (fail))
 refine wpQuiet_nil ?_;rintro W1 ⟨⟨_,hW1⟩,rfl⟩
 go_wp2_with fail
 go_ret;exact⟨rfl,hW1⟩
end
section
open Go.RowKit Go.Shelf
def tabC :Array Value:=#[.int .u32 1116352408,.int .u32 1899447441,.int .u32 3049323471,.int .u32 3921009573,.int .u32 961987163,.int .u32 1508970993,.int .u32 2453635748,.int .u32 2870763221,.int .u32 3624381080,.int .u32 310598401,.int .u32 607225278,.int .u32 1426881987,.int .u32 1925078388,.int .u32 2162078206,.int .u32 2614888103,.int .u32 3248222580,.int .u32 3835390401,.int .u32 4022224774,.int .u32 264347078,.int .u32 604807628,.int .u32 770255983,.int .u32 1249150122,.int .u32 1555081692,.int .u32 1996064986,.int .u32 2554220882,.int .u32 2821834349,.int .u32 2952996808,.int .u32 3210313671,.int .u32 3336571891,.int .u32 3584528711,.int .u32 113926993,.int .u32 338241895,.int .u32 666307205,.int .u32 773529912,.int .u32 1294757372,.int .u32 1396182291,.int .u32 1695183700,.int .u32 1986661051,.int .u32 2177026350,.int .u32 2456956037,.int .u32 2730485921,.int .u32 2820302411,.int .u32 3259730800,.int .u32 3345764771,.int .u32 3516065817,.int .u32 3600352804,.int .u32 4094571909,.int .u32 275423344,.int .u32 430227734,.int .u32 506948616,.int .u32 659060556,.int .u32 883997877,.int .u32 958139571,.int .u32 1322822218,.int .u32 1537002063,.int .u32 1747873779,.int .u32 1955562222,.int .u32 2024104815,.int .u32 2227730452,.int .u32 2361852424,.int .u32 2428436474,.int .u32 2756734187,.int .u32 3204031479,.int .u32 3329325298]
theorem consts_any (w:World):Calls prog 156 #[] w λe w'=>e=.returned (.slice (some ⟨w.heap.size,0,none⟩) 64 64)/\Blk w' w.heap.size 179 tabC/\Below w.heap.size w w':=by
 go_enter func156,ntmps156
 go_wp2_with fail
 go_ret;exact⟨rfl,Blk.new w 179 tabC,(Below.refl _ _).alloc (Nat.le_refl _) _⟩
end
section
open Go.RowKit Go.Shelf
theorem num_same {cs:Array Value}{i:Nat}(h:i<cs.size)(x:Int):num (cs.setIfInBounds i (.int .u32 x)) i=x:=by
 simp only[num,Array.getD_eq_getD_getElem?,Array.getElem?_setIfInBounds_self_of_lt h];rfl
theorem num_other {cs:Array Value}{i j:Nat}(h:i≠j)(x:Int):num (cs.setIfInBounds i (.int .u32 x)) j=num cs j:=by
 simp only[num,Array.getD_eq_getD_getElem?,Array.getElem?_setIfInBounds_ne h]
def wq (f:Nat->Int)(i:Nat):Int:=num (sched2 f 48) i
theorem sched1_num (f:Nat->Int):∀k i,i<k->k<=64->num (sched1 f k) i=word f i
 | 0,i,h,_=>by omega
 | k+1,i,h,hk=>by
   simp only[sched1]
   by_cases e:i=k
   ·subst e
    exact num_same (by rw[(nums_sched1 f i).1];omega) _
   ·rw[num_other (λh=>e h.symm)]
    exact sched1_num f k i (by omega) (by omega)
theorem sched2_stay (f:Nat->Int)(k:Nat):∀d i,i<16+k->num (sched2 f (k+d)) i=num (sched2 f k) i
 | 0,i,_=>rfl
 | d+1,i,h=>by
   rw[show k+(d+1)=(k+d)+1 from rfl];simp only[sched2,stepN];rw[num_other (by omega)];exact sched2_stay f k d i h
theorem wq_at (f:Nat->Int)(k i:Nat)(hk:k<=48)(hi:i<16+k):num (sched2 f k) i=wq f i:=by
 obtain⟨d,hd⟩:=Nat.exists_eq_add_of_le hk;unfold wq;rw[hd,sched2_stay f k d i hi]
theorem wq_lo (f:Nat->Int)(i:Nat)(h:i<16):wq f i=word f i:=by
 rw[<- wq_at f 0 i (by omega) (by omega)];exact sched1_num f 16 i h (by omega)
theorem wq_hi (f:Nat->Int)(n:Nat)(h1:16<=n)(h2:n<64):wq f n=next (wq f (n - 16)) (wq f (n - 15)) (wq f (n - 7)) (wq f (n - 2)):=by
 rw[<- wq_at f (n+1 - 16) n (by omega) (by omega),sched2_succ f n h1,stepN,num_same (by rw[(nums_sched2 f (n - 16)).1];omega)];rw[wq_at f (n - 16) (n - 16) (by omega) (by omega),wq_at f (n - 16) (n - 15) (by omega) (by omega),wq_at f (n - 16) (n - 7) (by omega) (by omega),wq_at f (n - 16) (n - 2) (by omega) (by omega)]
theorem next_eq (a b c d:Int):next a b c d=(a+bits BinOp.xor IntKind.u32 (bits BinOp.xor IntKind.u32 (rotl b 7) (rotl b 18)) (b / 8)+c+bits BinOp.xor IntKind.u32 (bits BinOp.xor IntKind.u32 (rotl d 17) (rotl d 19)) (d / 1024))%4294967296:=by
 simp only[next,mix2]
theorem sumN_num (cs ds:Array Value)(hcs:cs.size=8):∀k i,k<=8->num (sumN cs ds k) i=if i<k then (num cs i+num ds i)%4294967296 else num cs i
 | 0,i,_=>by simp[sumN]
 | k+1,i,hk=>by
   have hs:(sumN cs ds k).size=8:=by
    clear hk
    induction k with
    | zero=>exact hcs
    | succ k ih=>simp only[sumN,Array.size_setIfInBounds];exact ih
   simp only[sumN]
   by_cases e:i=k
   ·subst e
    rw[num_same (by omega),sumN_num cs ds hcs i i (by omega),if_neg (by omega),if_pos (by omega)]
   ·rw[num_other (λh=>e h.symm),sumN_num cs ds hcs k i (by omega)]
    by_cases h:i<k
    ·rw[if_pos h,if_pos (by omega)]
    ·rw[if_neg h,if_neg (by omega)]
def u32s (l:List Int):List Value:=l.map (Value.int .u32)
attribute [local irreducible] rounds8 sched2
theorem nums_list {n:Nat}{cs:Array Value}(h:Nums n cs):cs.toList=u32s ((List.range n).map (num cs)):=by
 apply List.ext_getElem?;intro i;rw[Array.getElem?_toList]
 by_cases hi:i<n
 ·rw[h.at_ hi,u32s,List.getElem?_map,List.getElem?_map,List.getElem?_range hi]
  rfl
 ·rw[Array.getElem?_eq_none (by rw[h.1];omega),List.getElem?_eq_none (by simp[u32s];omega)]
theorem t_eq (x:W8)(k w:Int):x.t k w=(x.h+bits BinOp.xor IntKind.u32 (bits BinOp.xor IntKind.u32 (rotl x.e 6) (rotl x.e 11)) (rotl x.e 25)+bits BinOp.xor IntKind.u32 (bits BinOp.and IntKind.u32 x.e x.f) (bits BinOp.and IntKind.u32 (bits BinOp.xor IntKind.u32 IntKind.u32.max x.e) x.g)+k+w)%4294967296:=by
 simp only[W8.t,mix3]
theorem u_eq (x:W8):x.u=(bits BinOp.xor IntKind.u32 (bits BinOp.xor IntKind.u32 (rotl x.a 2) (rotl x.a 13)) (rotl x.a 22)+bits BinOp.xor IntKind.u32 (bits BinOp.xor IntKind.u32 (bits BinOp.and IntKind.u32 x.a x.b) (bits BinOp.and IntKind.u32 x.a x.c)) (bits BinOp.and IntKind.u32 x.b x.c))%4294967296:=by
 simp only[W8.u,mix3]
theorem nums_addF' (tab:Array Value)(f:Nat->Int){hs:Array Value}(h:Nums 8 hs):(addF tab f hs).toList=u32s ((List.range 8).map λi=>(num hs i+num (rounds8 tab (sched2 f 48) (W8.of hs) 64).cells i)%4294967296):=by
 rw[nums_list (nums_addF tab f h)];refine congrArg u32s (List.map_congr_left λi hi=>?_);have hi':i<8:=by simpa using hi
 unfold addF;rw[sumN_num hs _ h.1 8 i (by omega),if_pos hi']
end
section
open Go.RowKit
theorem Blk.new' (w:World)(t:TypeId)(cs:Array Value){n:Nat}(h:n=w.heap.size):Blk (w.alloc (.cells cs t)) n t cs:=by subst h;exact Blk.new w t cs
variable {P:Program}
theorem results_cell2 {fn:Func}{p u:Tmp}{ty:TypeId}(h:fn.results=#[.cell p ty,.tmp u])(tmps:Array Value)(w:World)(g:Nat)(t:TypeId)(cs:Array Value)(d:TypeDesc)
 (hp:tmps.getD p undef=.pointer (some ⟨g,0,none⟩)) (hg:Blk w g t cs)
 (hu:P.underlying ty=some d) (hd:(match d with|.struct _|.array _ _=>true|_=>false)=true) (hi:(P.info? ty).map (·.size)=some cs.size) :
 (results fn tmps).run P w=.ok (.tuple #[.agg cs,tmps.getD u undef]) w:=by
 have hp':tmps[p]?.getD undef=.pointer (some ⟨g,0,none⟩):=by simpa using hp
 simp[results,h,hp',asAddr,run_loadVar_row w g t ty cs (0,0) d hg.heap hu hd hi]
theorem ldB {ops:Array Oper}{rest:List Oper}{o:Oper}{a:Act}{w:World}{Q:Exit->Act->World->Prop}(ty:TypeId)(x:Operand)(g:Nat)(cs:Array Value){t:TypeId}(H:Hid (Blk w g t cs)){d:TypeDesc}(hu:P.underlying ty=some d)
 (hd:(match d with|.struct _|.array _ _=>true|_=>false)=true) (hi:(P.info? ty).map (·.size)=some cs.size) (hgd:o.guard=none) (ho:o.op=.load ty x) (hx:a.eval x=.pointer (some ⟨g,0,none⟩))
 (h:wpList P ops Q rest (a.put o.dst (.agg cs)) w):wpList P ops Q (o::rest) a w:=wpList_load_row hgd ty x ho g hx t cs (0,0) d H.out.heap hu hd hi h
theorem stB {ops:Array Oper}{rest:List Oper}{o:Oper}{a:Act}{w:World}{Q:Exit->Act->World->Prop}(ty:TypeId)(x y:Operand)(g:Nat)(cs ds:Array Value){t:TypeId}(H:Hid (Blk w g t ds))
 (hi:(P.info? ty).map (·.size)=some cs.size) (hold:ds.size=cs.size) (h1:cs.all (·.oneCell')=true) (hgd:o.guard=none) (ho:o.op=.store ty x y) (hx:a.eval x=.pointer (some ⟨g,0,none⟩)) (hy:a.eval y=.agg cs)
 (h:wpList P ops Q rest (a.put o.dst undef) (w.setRow g cs)):wpList P ops Q (o::rest) a w:=wpList_store_row hgd ty x y ho g cs hx hy t ds H.out.heap hi hold h1 h
end
section
open Go.RowKit
theorem runBad (w:World)(b c:Nat)(h0:w.cell? ⟨b,0,none⟩=some (.int .i64 3))(h1:w.cell? ⟨b,1,none⟩=some (.int .i64 0))(h2:w.cell? ⟨b,2,none⟩=some (.int .i64 0))(h3:w.cell? ⟨b,3,none⟩=some (.string ⟨#[]⟩)) :
 Calls prog 29 #[.int .i64 2,.slice (some ⟨b,0,none⟩) 1 c] w λe w'=>e=.returned (.tuple #[.slice none 0 0,.int .i64 310])/\Below w.heap.size w w':=by
 have hbl:=lt_of_cell h0;have hin0:Rp.inr 2 1 5=true:=Rp.inr_iff.2 (by omega);have hin1:Rp.inr 0 0 1=true:=Rp.inr_iff.2 (by omega);have hin2:Rp.inr 0 0 (-1)=false:=by decide
 go_enter func29,ntmps29
 go_wp2_with (go_at_call 54;refine(inr_any _ _ _ _).mono ?_;rintro e _ ⟨rfl,rfl⟩;rw[hin0])
 refine wp_loop_rounds 2 ?_;rw[rounds_succ];have hb0:Below w.heap.size w (w.alloc (.cells #[.slice none 0 0,.slice none 0 0] 112)):=(Below.refl _ _).alloc (Nat.le_refl _) _;rw[<- hb0.cell (p:=⟨b,_,none⟩) hbl]at h0 h1 h2 h3;obtain⟨wr,hwr⟩:∃wr,wr=w.alloc (.cells #[.slice none 0 0,.slice none 0 0] 112):=⟨_,rfl⟩;rw[<- hwr]at h0 h1 h2 h3 hb0 ⊢;clear hwr;obtain⟨W1,hW1⟩:∃W1,W1=wr.alloc (.cells #[.int .i64 3,.int .i64 0,.int .i64 0,.string ⟨#[]⟩] 64):=⟨_,rfl⟩;have hb1:Below wr.heap.size wr W1:=by rw[hW1];exact(Below.refl _ _).alloc (Nat.le_refl _) _
 have hG1:Blk W1 wr.heap.size 64 #[.int .i64 3,.int .i64 0,.int .i64 0,.string ⟨#[]⟩]:=by rw[hW1];exact Blk.new _ _ _
 have HW1:=hid hW1;clear hW1;obtain⟨d0,d1,d2,d3⟩:=hG1.cells4;have kd0:=Later.of d0;go_wp2;have HWx:W1=wr.alloc (.cells #[.int .i64 3,.int .i64 0,.int .i64 0,.string ⟨#[]⟩] 64):=HW1.out;rw[<- HWx];clear HWx;refine wp_region_later (by kernel_rfl) (by kernel_rfl) ?_
 repeat(go_big_quiet_step (fail))
 refine wpQuiet_nil ?_;rintro W2 ⟨⟨_,hW2⟩,rfl⟩;have hG2:=hG1.below hW2 hG1.lt;clear d0 d1 d2 d3 kd0;obtain⟨d0,d1,d2,d3⟩:=hG2.cells4;have hb02:=hb1.trans (hW2.mono hb1.size);go_wp2;have hfe:=fn_eql 93
 go_region_held3 (λw'=>w'.cell? ⟨wr.heap.size,0,none⟩=some (.int .i64 3))
  (go_keep)
  (first
    | (go_at_call 68
       refine(motions_any _).mono ?_;rintro e w4 ⟨rfl,hT,hb4⟩;have hb24:Below W2.heap.size W2 w4:=(Below.refl _ _).drew.trans hb4;have k0:=(hb24.cell (p:=⟨wr.heap.size,0,none⟩) hG2.lt).trans d0;have hlook:(Instr.lookup 114 (.map (some W2.heap.size)) (.int .i64 3) false).run prog w4=.ok (.func (.func 93) #[] #[]) w4:=(table_look hT).2.2))
 have hG4:=hG2.below hb24 hG2.lt;have hb04:=hb02.trans (hb24.mono hb02.size);clear d0 d1 d2 d3 hlook hT;obtain⟨d0,d1,d2,d3⟩:=hG4.cells4
 go_wp2_with (go_at_call 54;refine(inr_any _ _ _ _).mono ?_;rintro e _ ⟨rfl,rfl⟩;first|rw[hin1]|rw[hin2])
 go_ret2;exact⟨rfl,hb0.trans (hb04.mono hb0.size)⟩
theorem ints2 (w:World)(a oa ca b ob cb:Nat)(x y:Int)(a0:w.cell? ⟨a,oa,none⟩=some (.int .i64 x))(a1:w.cell? ⟨a,oa+1,none⟩=some (.int .i64 y))(b0:w.cell? ⟨b,ob,none⟩=some (.int .i64 x))(b1:w.cell? ⟨b,ob+1,none⟩=some (.int .i64 y)) :
 Calls prog 37 #[.slice (some ⟨a,oa,none⟩) 2 ca,.slice (some ⟨b,ob,none⟩) 2 cb] w λe w'=>e=.returned (.bool true)/\Below w.heap.size w w':=by
 have L0:=Later.of a0;have L1:=Later.of b0
 go_enter func37,ntmps37
 go_wp2;refine wp_loop_rounds 3 ?_;rw[rounds_succ];go_wp2;refine wp_region_later (by kernel_rfl) (by kernel_rfl) ?_
 repeat(go_big_quiet_step (fail))
 refine wpQuiet_nil ?_;rintro U ⟨⟨_,hU⟩,rfl⟩;have c1:=(hU.cell (lt_of_cell a1)).trans a1;have c2:=(hU.cell (lt_of_cell b1)).trans b1;clear L0 L1 a0 a1 b0 b1;have L0:=Later.of c1;have L1:=Later.of c2;go_wp2;rw[rounds_succ];go_wp2;refine wp_region_later (by kernel_rfl) (by kernel_rfl) ?_
 repeat(go_big_quiet_step (fail))
 refine wpQuiet_nil ?_;rintro V ⟨⟨_,hV⟩,rfl⟩;clear L0 L1 c1 c2;go_wp2;rw[rounds_succ];go_wp2;go_ret;exact⟨rfl,hU.trans (hV.mono hU.size)⟩
end
section
open Go.RowKit
abbrev nil8 :Array Value:=#[nilS,nilS,nilS,nilS,nilS,nilS,nilS,nilS]
abbrev cert0 :Value:=.agg nil8
theorem nil8_at (k:Nat)(h:k<8):nil8[k]?=some nilS:=by
 match k,h with
 | 0,_=>rfl
 | 1,_=>rfl
 | 2,_=>rfl
 | 3,_=>rfl
 | 4,_=>rfl
 | 5,_=>rfl
 | 6,_=>rfl
 | 7,_=>rfl
theorem certValid0 (w:World):Calls prog 201 #[cert0] w λe w'=>e=.returned (.bool true)/\Below w.heap.size w w':=by
 go_enter func201,ntmps201
 go_wp2_with fail
 have HB:=hid (Blk.new w 167 nil8);have HW:=hid ((Below.refl w.heap.size w).alloc (Nat.le_refl _) (.cells nil8 167));obtain⟨W,hW⟩:∃W,W=w.alloc (.cells nil8 167):=⟨_,rfl⟩;have e:W=w.alloc (.cells #[.slice none 0 0,.slice none 0 0,.slice none 0 0,.slice none 0 0,.slice none 0 0,.slice none 0 0,.slice none 0 0,.slice none 0 0] 167):=hW;rw[<- hW]at HB HW;rw[<- e];clear hW e;have c0:=HB.out.cell 0
 go_loopw [10] (λi wr=>∃k:Nat,k<=7/\i=.int .i64 k/\wr=W) (λi _=>7 - (intOf i).toNat)
 case atStart=>exact⟨0,by omega,rfl,rfl⟩
 case round =>
  obtain⟨k,hk,rfl,rfl⟩:=hrel
  by_cases hlt:k<7
  ·have ck:=(HB.out.cell (1+k)).trans (nil8_at (1+k) (by omega))
   go_wp2_with fail
   refine wp_loop_rounds 1 ?_;rw[rounds_succ]
   go_wp2_with fail
   go_roundw
   case rel=>exact⟨k+1,by omega,by go_num,trivial⟩
   case measure=>simp[intOf];omega
  ·go_wp2_with fail
   go_ret;exact⟨rfl,HW.out⟩
theorem certEntries0 (w:World)(n:Nat)(h1:1<=n)(h7:n<=7):Calls prog 202 #[cert0,.int .i64 n] w λe w'=>e=.returned (.tuple #[nilS,.int .i64 0])/\Below w.heap.size w w':=by
 have hc:Hid (Blk (w.alloc (.cells nil8 167)) w.heap.size 167 nil8):=hid (Blk.new w 167 nil8);have hz:(prog.info? 167).map (·.size)=some nil8.size:=by kernel_rfl
 have n1:¬(n:Int)<1:=by omega
 have n2:¬(7:Int)<n:=by omega
 go_enter func202,ntmps202
 go_wp2_with (with_reducible refine ldB 167 (.tmp 2) w.heap.size nil8 hc underlying167 rfl hz rfl rfl rfl ?_)
 refine(certValid0 _).mono ?_;rintro e w1 ⟨rfl,h1⟩;have HB:=hid (hc.out.below h1 (by simp));have HW:=hid (((Below.refl w.heap.size w).alloc (Nat.le_refl _) (.cells nil8 167)).trans (h1.mono (by simp)));have ck:=(HB.out.cell n).trans (nil8_at n (by omega));clear h1 hc
 go_wp2_with fail
 refine wp_loop_rounds 1 ?_;rw[rounds_succ]
 go_wp2_with fail
 go_ret2;exact⟨rfl,HW.out⟩
end
section
open Go.RowKit
theorem witnesses0 (w:World)(p:Nat)(hF:Blk w p 497 fin0):Calls prog 376 #[.pointer (some ⟨p,0,none⟩)] w λe w'=>e=.returned nilS/\Below w.heap.size w w':=by
 have hp:=hF.lt;refine calls_of_marks func376 rfl ?_;simp only[ntmps376,List.size_toArray,List.length_cons,List.length_nil,Nat.reduceAdd,Nat.reduceSub,Array.replicate_succ,Array.replicate_zero,List.push_toArray,List.append_toArray,List.nil_append,List.cons_append];obtain⟨W0,hW0⟩:∃W0,W0=(w.alloc (.cells #[.pointer (some ⟨p,0,none⟩)] 492)).alloc (.cells #[nilS] 24):=⟨_,rfl⟩;have hA0:Blk W0 w.heap.size 492 #[.pointer (some ⟨p,0,none⟩)]:=by rw[hW0];exact(Blk.new _ _ _).alloc _
 have hB0:Blk W0 (w.heap.size+1) 24 #[nilS]:=by rw[hW0];exact Blk.new2 _ _ _ _
 have hb0:Below w.heap.size w W0:=by rw[hW0];go_grown
 have hF0:Blk W0 p 497 fin0:=hF.below hb0 hp;have hs0:w.heap.size+2<=W0.heap.size:=by rw[hW0];simp
 go_upto_region 1 with (fail)
 rw[<- hW0];have a0:W0.cell? ⟨w.heap.size,0,none⟩=some (.pointer (some ⟨p,0,none⟩)):=hA0.cell 0;have f1:=(hF0.cell 1).trans fin0_1;have HA:=hid hA0;have HB:=hid hB0;have HF:=hid hF0;clear hA0 hB0 hF0 hF hW0
 go_wp2_with fail
 refine(arcs0 _).mono ?_;rintro e w1 ⟨b,rfl,hb,hlb,h1⟩
 go_wp2_with fail
 refine wp_range_never rfl enters506 (λl W hW=>arcsIter0 W _ b (hb.below hW hb.lt)) ?_;intro D W hD h2 hK;have hlt1:=hb.lt;have hs1:=h1.size;have hX:Below W0.heap.size W0 W:=h1.trans (h2.mono (by omega));have HA2:=HA.out.below hX (by omega);have HB2:=HB.out.below hX (by omega);have HF2:=HF.out.below hX (by omega);have k0:W.cell? ⟨w.heap.size,0,none⟩=some (.pointer (some ⟨p,0,none⟩)):=HA2.cell 0;have g0:=(HF2.cell 0).trans fin0_0;have r0:W.cell? ⟨w.heap.size+1,0,none⟩=some nilS:=HB2.cell 0;have q0:=HB2.frozen 0;have HW:=hid ((hb0.trans (hX.mono hb0.size)).setCell (p:=⟨w.heap.size+1,0,none⟩) (by simp) nilS);have HK:=hid ((Below.heap_setCell W ⟨w.heap.size+1,0,none⟩ nilS D (by simp;omega)).trans hK);have HS:=hid ((HB2.set_ 0 nilS).putObj (r:=D) (by omega) (.deferred none));clear hX h1 h2 hK hb a0 f1 HA2 HB2 HF2
 go_wp2_with fail
 refine wp_loop_rounds 1 ?_;rw[rounds_succ]
 go_wp2_with fail
 exact leaves_mark HK.out (by have h0:=HS.out.cell 0;simp at h0;simp[results,results376,go_sem,h0]) ⟨rfl,below_putObj HW.out (by omega) _⟩
theorem neq24 :∀w,(binOp .neq 494 (.agg z24) (.agg z24)).run prog w=.ok (.bool false) w:=λ_=>by kernel_rfl
theorem strongBegin0 (w:World):Calls prog 372 #[g0] w λe w'=>∃p,e=.returned (.pointer (some ⟨p,0,none⟩))/\w.heap.size<=p/\Blk w' p 497 fin0/\Below w.heap.size w w':=by
 refine calls_of_marks func372 rfl ?_;simp only[ntmps372,List.size_toArray,List.length_cons,List.length_nil,Nat.reduceAdd,Nat.reduceSub,Array.replicate_succ,Array.replicate_zero,List.push_toArray,List.append_toArray,List.nil_append,List.cons_append]
 go_upto_region 2 with (fail)
 obtain⟨W0,hW0⟩:∃W0,W0=((w.alloc (.cells #[nilS,nilS,nilS] 79)).alloc (.cells fin0 497)).alloc (.cells #[.pointer (some ⟨w.heap.size+1,0,none⟩)] 492):=⟨_,rfl⟩;have hA0:Blk W0 w.heap.size 79 #[nilS,nilS,nilS]:=by rw[hW0];exact((Blk.new _ _ _).alloc _).alloc _
 have hB0:Blk W0 (w.heap.size+1) 497 fin0:=by rw[hW0];exact(Blk.new2 _ _ _ _).alloc _
 have hC0:Blk W0 (w.heap.size+1+1) 492 #[.pointer (some ⟨w.heap.size+1,0,none⟩)]:=by rw[hW0];exact heap_new' _ _ (by simp)
 have hb0:Below w.heap.size w W0:=by rw[hW0];go_grown
 rw[<- hW0];clear hW0;obtain⟨a0,a1,a2⟩:=hA0.three;have hs0:=hC0.lt
 go_wp2_with fail
 refine(reaches0 _).mono ?_;rintro e w1 ⟨rfl,h1⟩;have hb1:=hb0.trans (h1.mono hb0.size);have hA1:=hA0.below h1 hA0.lt;have hB1:=hB0.below h1 hB0.lt;have hC1:=hC0.below h1 hC0.lt;have hz1:=h1.size;have hA2:=hA1.alloc (.cells zu24 632);have hB2:=hB1.alloc (.cells zu24 632);have hC2:=hC1.alloc (.cells zu24 632);have hb2:Below w.heap.size w (w1.alloc (.cells zu24 632)):=hb1.alloc hb1.size _;clear a0 a1 a2;obtain⟨a0,a1,a2⟩:=hA2.three;have c0:=hC2.cell 0;simp only[List.getElem?_toArray,List.getElem?_cons_zero]at c0;obtain⟨W2,hW2⟩:∃W2,W2=w1.alloc (.cells zu24 632):=⟨_,rfl⟩;have hz2:W0.heap.size<=W2.heap.size:=by rw[hW2];simp;omega
 have HW2:=hid hW2;rw[<- hW2]at hA2 hB2 hC2 hb2 a0 a1 a2 c0;clear hW2
 go_upto_region 3 with (with_reducible refine wpList_store_last rfl 632 (.tmp 4) (.tmp 16) rfl zu24 _ rfl rfl rfl sizeu24 rfl oneu24 ?_)
 rw[<- HW2.out]
 go_wp2_with fail
 refine wp_loop_rounds 1 ?_;rw[rounds_succ]
 go_wp2_with fail
 refine(arcs0 _).mono ?_;rintro e w3 ⟨b,rfl,hb,hlb,h3⟩
 go_wp2_with fail
 refine wp_range_never rfl enters506 (λl W hW=>arcsIter0 W _ b (hb.below hW hb.lt)) ?_;intro D W hD h4 hK;have hz3:=h3.size;have hX:Below W2.heap.size W2 W:=h3.trans (h4.mono hz3);have hb5:=hb2.trans (hX.mono hb2.size);have HB:=hid (hB2.below hX hB2.lt);have HC:=hC2.below hX hC2.lt;have c5:W.cell? ⟨w.heap.size+1+1,0,none⟩=some (.pointer (some ⟨w.heap.size+1,0,none⟩)):=HC.cell 0;have L5:=Later.of c5;clear hX h3 h4 a0 a1 a2 c0 hA0 hA1 hA2 hB0 hB1 hB2 hC0 hC1 hC2 hb h1 HW2 hb2 hb1
 go_wp2_with fail
 refine Loose.wp_region_later [(3,.is (.agg z24)),(5,.is (.agg z24)),(6,.var W.heap.size 494 z24),(7,.var W.heap.size 494 z24)] 8 (by kernel_rfl) (by kernel_rfl) ?_;simp only[List.take_succ_cons,List.take_zero,List.drop_succ_cons,List.drop_zero]
 repeat(first|refine Loose.walk_skip rfl ?_|(refine Loose.walk_plain rfl rfl rfl λK h=>?_;go_big_quiet_op;refine h _ ?_;clear h K))
 refine Loose.walk_loose rfl rfl (λW' hW' _=>Loose.loose_loadA 494 (.tmp 104) rfl (w.heap.size+1) 27 rfl z24 (fin_range (HB.out.below hW' HB.out.lt)) underlying494 rfl size24) ?_;rintro _ _ _ rfl;simp only[Act.put,List.setIfInBounds_toArray,List.set_cons_succ,List.set_cons_zero]
 repeat(first|refine Loose.walk_skip rfl ?_|(refine Loose.walk_plain rfl rfl rfl λK h=>?_;go_big_quiet_op;refine h _ ?_;clear h K))
 refine Loose.walk_loose rfl rfl (λW' hW' _=>Loose.loose_call (f:=505) (args:=#[.pointer (some ⟨w.heap.size+1,0,none⟩)]) (by kernel_rfl) ((ranks0 W' _ (HB.out.below hW' HB.out.lt)).mono λe w' ⟨he,hb⟩=>⟨_,he,hb,rfl⟩)) ?_;rintro _ _ _ rfl;simp only[Act.put,List.setIfInBounds_toArray,List.set_cons_succ,List.set_cons_zero];refine Loose.walk_loose rfl rfl (λW' hW' _=>Loose.loose_val (u:=.pointer (some ⟨W'.heap.size,0,none⟩)) (W':=W'.alloc (.cells z24 494)) (by kernel_rfl) ((Below.refl _ _).alloc (Nat.le_refl _) _) ⟨_,rfl,hW'.size,Blk.new _ _ _⟩) ?_;rintro _ _ _ ⟨x,rfl,hx,_⟩;simp only[Act.put,List.setIfInBounds_toArray,List.set_cons_succ,List.set_cons_zero];refine Loose.walk_loose rfl rfl (λW' hW' _=>Loose.loose_val (u:=.pointer (some ⟨W'.heap.size,0,none⟩)) (W':=W'.alloc (.cells z24 494)) (by kernel_rfl) ((Below.refl _ _).alloc (Nat.le_refl _) _) ⟨_,rfl,hW'.size,Blk.new _ _ _⟩) ?_;rintro _ _ _ ⟨y,rfl,hy,_⟩;simp only[Act.put,List.setIfInBounds_toArray,List.set_cons_succ,List.set_cons_zero];refine Loose.walk_nil ?_;rintro U hU ⟨⟨⟨⟨_,_⟩,_⟩,hFx⟩,hFy⟩;obtain⟨hx,hBx⟩:=Loose.Pred.var_at hFx;obtain⟨hy,hBy⟩:=Loose.Pred.var_at hFy;have hb6:=hb5.trans (hU.mono hb5.size);have HBU:=hid (HB.out.below hU HB.out.lt);have hKlt:=(Array.getElem?_eq_some_iff.1 hK).1;have HKU:=hid ((hU.block D hKlt).trans hK);have cU:=(hU.cell (p:=⟨w.heap.size+1+1,0,none⟩) HC.lt).trans c5;have HX:=hid hBx;have HY:=hid hBy;have hne:=neq24;have hse:=setRow_self U x z24 494 (0,0) hBx;have hse2:=setRow_self U y z24 494 (0,0) hBy;clear hFx hFy hBx hBy L5 c5
 go_wp2_with (first
  | (with_reducible refine wpList_store_row rfl 494 (.tmp 10) (.tmp 105) rfl x z24 rfl rfl 494 z24 HX.out.heap size24 rfl one24 ?_;rw[hse])
  | (with_reducible refine wpList_store_row rfl 494 (.tmp 11) (.tmp 107) rfl y z24 rfl rfl 494 z24 HY.out.heap size24 rfl one24 ?_;rw[hse2]))
 refine wp_loop_rounds 1 ?_;rw[rounds_succ]
 go_wp2_with (first
  | (with_reducible refine wpList_load_row rfl 494 (.tmp 10) rfl x rfl 494 z24 (0,0) _ HX.out.heap underlying494 rfl size24 ?_)
  | (with_reducible refine wpList_load_row rfl 494 (.tmp 11) rfl y rfl 494 z24 (0,0) _ HY.out.heap underlying494 rfl size24 ?_))
 exact leaves_mark HKU.out (results_tmp rfl _ _ _) ⟨_,rfl,by omega,HBU.out.putObj (by omega) _,below_putObj hb6 (by omega) _⟩
end
section
open Go.RowKit
def rowP :Loose.Pred:=⟨λu _=>∃cs,u=.agg cs/\Row24 cs,λ_ _ _ h _=>h⟩
theorem row_after {U:World}{x y:Nat}{c cs d:Array Value}(hx:Blk U x 494 d)(hy:Blk U y 494 c)(hc:Row24 c)(hcs:Row24 cs):∃e,Blk (U.setRow x cs) y 494 e/\Row24 e:=by
 by_cases h:y=x
 ·subst h;exact⟨cs,hx.setRow_same cs,hcs⟩
 ·exact⟨c,hy.setRow h cs,hc⟩
theorem Row24.same {c d:Array Value}(h:Row24 c)(k:Row24 d):c.size=d.size:=h.1.trans k.1.symm
theorem strong0 (w:World):Calls prog 303 #[g0] w λe w'=>e=.returned (.tuple #[nilS,.int .i64 0])/\Below w.heap.size w w':=by
 obtain⟨W0,hW0⟩:∃W0,W0=w.alloc (.cells #[nilS,nilS,nilS] 79):=⟨_,rfl⟩;have hb0:Below w.heap.size w W0:=by rw[hW0];go_grown
 have hB0:Blk W0 w.heap.size 79 #[nilS,nilS,nilS]:=by rw[hW0];exact Blk.new _ _ _
 have HW0:=hid hW0;clear hW0;obtain⟨b0,b1,b2⟩:=hB0.three
 go_enter func303,ntmps303
 go_wp2_with fail
 rw[<- HW0.out];refine(valid0 _).mono ?_;rintro e w1 ⟨rfl,h1⟩;have hB1:=hB0.below h1 hB0.lt;have hb1:=hb0.trans (h1.mono hb0.size);clear b0 b1 b2;obtain⟨b0,b1,b2⟩:=hB1.three
 go_wp2_with fail
 refine(strongBegin0 _).mono ?_;rintro e w2 ⟨p,rfl,hp,hF,h2⟩;have hB2:=hB1.below h2 hB1.lt;have hb2:=hb1.trans (h2.mono hb1.size);have hB3:=hB2.alloc (.cells #[.pointer (some ⟨p,0,none⟩)] 492);have hF3:=hF.alloc (.cells #[.pointer (some ⟨p,0,none⟩)] 492);have hP3:Blk (w2.alloc (.cells #[.pointer (some ⟨p,0,none⟩)] 492)) w2.heap.size 492 #[.pointer (some ⟨p,0,none⟩)]:=Blk.new _ _ _;have hb3:Below w.heap.size w (w2.alloc (.cells #[.pointer (some ⟨p,0,none⟩)] 492)):=hb2.alloc hb2.size _;obtain⟨W3,hW3⟩:∃W3,W3=w2.alloc (.cells #[.pointer (some ⟨p,0,none⟩)] 492):=⟨_,rfl⟩;have HW3:=hid hW3;rw[<- hW3]at hB3 hF3 hP3 hb3;have hz3:w2.heap.size<=W3.heap.size:=by rw[hW3];simp
 clear b0 b1 b2 hW3;obtain⟨b0,b1,b2⟩:=hB3.three;have c0:W3.cell? ⟨w2.heap.size,0,none⟩=some (.pointer (some ⟨p,0,none⟩)):=hP3.cell 0;have hmf:=mkf
 go_upto_region 4 with (fail)
 rw[<- HW3.out]
 go_wp2_with fail
 refine wp_loop_rounds 1 ?_;rw[rounds_succ]
 go_wp2_with fail
 go_quiet (fail)
 have HF:=hid (hF3.drewN nq);have HB:=hid (hB3.drewN nq);have hb4:=belowN (n:=nq) hb3;obtain⟨W,hW⟩:∃W,W=W3.drewN nq:=⟨_,rfl⟩;have c1:W.cell? ⟨w2.heap.size,0,none⟩=some (.pointer (some ⟨p,0,none⟩)):=by rw[hW];exact c0
 rw[<- hW]at HF HB hb4;have HW:=hid hW;clear hW b0 b1 b2 c0 hB0 hB1 hB2 hB3 hF hF3 hP3 hb0 hb1 hb2 hb3 h1 h2 HW0
 go_upto_region 12 with (fail)
 rw[<- HW.out];have L1:=Later.of c1;refine Loose.wp_region_later [(2,rowP),(5,rowP),(7,.is nilS),(9,rowP),(10,.var W.heap.size 494 z24),(11,.var W.heap.size 494 z24),(12,.var W.heap.size 494 z24)] 13 (by kernel_rfl) (by kernel_rfl) ?_;simp only[List.take_succ_cons,List.take_zero,List.drop_succ_cons,List.drop_zero]
 repeat(first|refine Loose.walk_skip rfl ?_|(refine Loose.walk_plain rfl rfl rfl λK h=>?_;go_big_quiet_op;refine h _ ?_;clear h K))
 refine Loose.walk_loose rfl rfl (λW' hW' _=>Loose.loose_call (f:=375) (args:=#[nilS,.func (.func 373) #[.pointer (some ⟨p,0,none⟩)] #[]]) (by kernel_rfl) ((search0 W' _).mono λe w' ⟨cs,he,hr,hb⟩=>⟨_,he,hb,_,rfl,hr⟩)) ?_;rintro _ _ _ ⟨cs1,rfl,r1⟩;simp only[Act.put,List.setIfInBounds_toArray,List.set_cons_succ,List.set_cons_zero]
 repeat(first|refine Loose.walk_skip rfl ?_|(refine Loose.walk_plain rfl rfl rfl λK h=>?_;go_big_quiet_op;refine h _ ?_;clear h K))
 refine Loose.walk_loose rfl rfl (λW' hW' _=>Loose.loose_call (f:=375) (args:=#[nilS,.func (.func 374) #[.pointer (some ⟨p,0,none⟩)] #[]]) (by kernel_rfl) ((search0 W' _).mono λe w' ⟨cs,he,hr,hb⟩=>⟨_,he,hb,_,rfl,hr⟩)) ?_;rintro _ _ _ ⟨cs2,rfl,r2⟩;simp only[Act.put,List.setIfInBounds_toArray,List.set_cons_succ,List.set_cons_zero]
 repeat(first|refine Loose.walk_skip rfl ?_|(refine Loose.walk_plain rfl rfl rfl λK h=>?_;go_big_quiet_op;refine h _ ?_;clear h K))
 refine Loose.walk_loose rfl rfl (λW' hW' _=>Loose.loose_call (f:=376) (args:=#[.pointer (some ⟨p,0,none⟩)]) (by kernel_rfl) ((witnesses0 W' _ (HF.out.below hW' HF.out.lt)).mono λe w' ⟨he,hb⟩=>⟨_,he,hb,rfl⟩)) ?_;rintro _ _ _ rfl;simp only[Act.put,List.setIfInBounds_toArray,List.set_cons_succ,List.set_cons_zero]
 repeat(first|refine Loose.walk_skip rfl ?_|(refine Loose.walk_plain rfl rfl rfl λK h=>?_;go_big_quiet_op;refine h _ ?_;clear h K))
 refine Loose.walk_loose rfl rfl (λW' hW' _=>Loose.loose_call (f:=375) (args:=#[nilS,.func (.func 373) #[.pointer (some ⟨p,0,none⟩)] #[]]) (by kernel_rfl) ((search0 W' _).mono λe w' ⟨cs,he,hr,hb⟩=>⟨_,he,hb,_,rfl,hr⟩)) ?_;rintro _ _ _ ⟨cs3,rfl,r3⟩;simp only[Act.put,List.setIfInBounds_toArray,List.set_cons_succ,List.set_cons_zero];refine Loose.walk_loose rfl rfl (λW' hW' _=>Loose.loose_val (u:=.pointer (some ⟨W'.heap.size,0,none⟩)) (W':=W'.alloc (.cells z24 494)) (by kernel_rfl) ((Below.refl _ _).alloc (Nat.le_refl _) _) ⟨_,rfl,hW'.size,Blk.new _ _ _⟩) ?_;rintro _ _ _ ⟨x,rfl,_,_⟩;simp only[Act.put,List.setIfInBounds_toArray,List.set_cons_succ,List.set_cons_zero];refine Loose.walk_loose rfl rfl (λW' hW' _=>Loose.loose_val (u:=.pointer (some ⟨W'.heap.size,0,none⟩)) (W':=W'.alloc (.cells z24 494)) (by kernel_rfl) ((Below.refl _ _).alloc (Nat.le_refl _) _) ⟨_,rfl,hW'.size,Blk.new _ _ _⟩) ?_;rintro _ _ _ ⟨y,rfl,_,_⟩;simp only[Act.put,List.setIfInBounds_toArray,List.set_cons_succ,List.set_cons_zero];refine Loose.walk_loose rfl rfl (λW' hW' _=>Loose.loose_val (u:=.pointer (some ⟨W'.heap.size,0,none⟩)) (W':=W'.alloc (.cells z24 494)) (by kernel_rfl) ((Below.refl _ _).alloc (Nat.le_refl _) _) ⟨_,rfl,hW'.size,Blk.new _ _ _⟩) ?_;rintro _ _ _ ⟨z,rfl,_,_⟩;simp only[Act.put,List.setIfInBounds_toArray,List.set_cons_succ,List.set_cons_zero];refine Loose.walk_nil ?_;rintro U hU ⟨⟨⟨_,hFx⟩,hFy⟩,hFz⟩;obtain⟨hx,hBx⟩:=Loose.Pred.var_at hFx;obtain⟨hy,hBy⟩:=Loose.Pred.var_at hFy;obtain⟨hz,hBz⟩:=Loose.Pred.var_at hFz;have hb5:=hb4.trans (hU.mono hb4.size);have hU0:=hU.size;have hW0:=HB.out.lt;obtain⟨e2,hBy2,q2⟩:=row_after hBx hBy row24_z r1;obtain⟨e3,hBz2,q3⟩:=row_after hBx hBz row24_z r1;obtain⟨e4,hBz3,q4⟩:=row_after hBy2 hBz2 q3 r2;have HX:=hid hBx;have HY:=hid hBy2;have HZ:=hid hBz3;have hE:=below_setRow (below_setRow (below_setRow hU (g:=x) (by omega) cs1) (g:=y) (by omega) cs2) (g:=z) (by omega) cs3;have HB9:=HB.out.below hE HB.out.lt;have HE:=hid (hb4.trans (hE.mono hb4.size));obtain⟨b0,b1,b2⟩:=HB9.three;have R1:=hid r1;have R2:=hid r2;have R3:=hid r3;have Q2:=hid q2;have Q4:=hid q4;clear hFx hFy hFz hBx hBy hBz hBy2 hBz2 hBz3 r1 r2 r3 q2 q3 q4 L1 c1 hE
 go_wp2_with (first
  | (with_reducible refine wpList_store_row rfl 494 (.tmp 10) (.tmp 56) rfl x cs1 rfl rfl 494 z24 HX.out.heap R1.out.size (row24_z.same R1.out) R1.out.one ?_)
  | (with_reducible refine wpList_store_row rfl 494 (.tmp 11) (.tmp 59) rfl y cs2 rfl rfl 494 e2 HY.out.heap R2.out.size (Q2.out.same R2.out) R2.out.one ?_)
  | (with_reducible refine wpList_store_row rfl 494 (.tmp 12) (.tmp 63) rfl z cs3 rfl rfl 494 e4 HZ.out.heap R3.out.size (Q4.out.same R3.out) R3.out.one ?_))
 refine wp_loop_rounds 1 ?_;rw[rounds_succ]
 go_wp2_with fail
 go_outline;go_ret2;exact⟨rfl,HE.out⟩
end
section
open Go.RowKit
theorem sides0 (w:World):Calls prog 401 #[g0] w λe w'=>e=.returned (.agg z24)/\Below w.heap.size w w':=by
 obtain⟨W0,hW0⟩:∃W0,W0=(w.alloc (.cells #[nilS,nilS,nilS] 79)).alloc (.cells z24 494):=⟨_,rfl⟩;have hA0:Blk W0 w.heap.size 79 #[nilS,nilS,nilS]:=by rw[hW0];exact(Blk.new _ _ _).alloc _
 have hB0:Blk W0 (w.heap.size+1) 494 z24:=by rw[hW0];exact Blk.new2 _ _ _ _
 have hb0:Below w.heap.size w W0:=by rw[hW0];go_grown
 obtain⟨b0,b1,b2⟩:=hA0.three;have hse:=setRow_self W0 (w.heap.size+1) z24 494 (0,0) hB0;have HB:=hid hB0;have HW0:=hid hW0;clear hW0
 go_enter func401,ntmps401
 go_upto_region 1 with (fail)
 rw[<- HW0.out];clear HW0 hB0 hA0
 go_wp2_with fail
 refine wp_loop_rounds 1 ?_;rw[rounds_succ]
 go_wp2_with (first
  | (with_reducible refine wpList_load_row rfl 494 (.tmp 2) rfl (w.heap.size+1) rfl 494 z24 (0,0) _ HB.out.heap underlying494 rfl size24 ?_)
  | (with_reducible refine wpList_store_row rfl 494 (.tmp 2) (.tmp 26) rfl (w.heap.size+1) z24 rfl rfl 494 z24 HB.out.heap size24 rfl one24 ?_;rw[hse]))
 exact bodyPost_ret (results_cell_row rfl _ _ (w.heap.size+1) 494 z24 (0,0) _ rfl HB.out.heap underlying494 rfl size24) rfl ⟨rfl,hb0⟩
theorem eligible0 (w:World):Calls prog 399 #[g0] w λe w'=>∃b c,e=.returned (.func (.func 531) #[] #[.pointer (some ⟨b,0,none⟩),.pointer (some ⟨c,0,none⟩)])/\Blk w' b 79 #[nilS,nilS,nilS]/\w.heap.size<=b/\Below w.heap.size w w':=by
 have hmf:=mkf;obtain⟨W0,hW0⟩:∃W0,W0=w.alloc (.cells #[nilS,nilS,nilS] 79):=⟨_,rfl⟩;have hb0:Below w.heap.size w W0:=by rw[hW0];go_grown
 have hB0:Blk W0 w.heap.size 79 #[nilS,nilS,nilS]:=by rw[hW0];exact Blk.new _ _ _
 have HW0:=hid hW0;clear hW0;obtain⟨b0,b1,b2⟩:=hB0.three
 go_enter func399,ntmps399
 go_upto_region 1 with (fail)
 rw[<- HW0.out]
 go_wp2_with fail
 refine(sides0 _).mono ?_;rintro e w1 ⟨rfl,h1⟩;have hB1:=(hB0.below h1 hB0.lt).alloc (.cells z24 494);have hb1:=(hb0.trans (h1.mono hb0.size)).alloc (hb0.trans (h1.mono hb0.size)).size (.cells z24 494)
 go_wp2_with (with_reducible refine wpList_store_last rfl 494 (.tmp 3) (.tmp 5) rfl z24 _ rfl rfl rfl size24 rfl one24 ?_)
 go_ret;exact⟨_,_,rfl,hB1,by omega,hb1⟩
theorem enters531 :∀args w,(callFunc 531 args).run prog w=.ok (.enter 531 args) w:=Go.Proofs.enters_of func531 (by kernel_rfl) rfl
theorem eligIter0 (w:World)(y:Value)(b c:Nat)(hB:Blk w b 79 #[nilS,nilS,nilS]):Calls prog 531 #[y,.pointer (some ⟨b,0,none⟩),.pointer (some ⟨c,0,none⟩)] w λe w'=>(∃v,e=.returned v)/\Below w.heap.size w w':=by
 obtain⟨b0,b1,b2⟩:=hB.three
 go_enter func531,ntmps531
 go_wp2
 go_rounds 1
 go_returns;exact⟨⟨_,rfl⟩,by go_grown⟩
theorem sortInt0 (w:World):Calls prog 260 #[nilS] w λe w'=>e=.returned (.tuple #[])/\w=w':=by
 go_enter func260,ntmps260
 go_wp2_with (first|(go_at_call 335;refine(len0 _).mono ?_;rintro e w1 ⟨rfl,rfl⟩)|go_in)
 repeat(go_rounds 1)
 go_returns;exact⟨rfl,rfl⟩
theorem pairSolve0 (w:World)(p:Nat)(h1:w.cell? ⟨p,2450,none⟩=some nilS)(h2:w.cell? ⟨p,2451,none⟩=some nilS):Calls prog 530 #[.pointer (some ⟨p,0,none⟩)] w λe w'=>e=.returned nilS/\Below w.heap.size w w':=by
 go_enter func530,ntmps530
 go_wp2_with fail
 go_quiet (fail)
 obtain⟨W0,hW0⟩:∃W0,W0=w.drewN nq:=⟨_,rfl⟩;have hb0:Below w.heap.size w W0:=by rw[hW0];exact belowN (Below.refl _ _)
 rw[<- hW0];clear hW0
 go_wp2_with fail
 refine Loose.wp_region_later [(2,.row W0.heap.size 3 1 #[.int .i64 0]),(5,.row W0.heap.size 3 1 #[.int .i64 0])] 8 (by kernel_rfl) (by kernel_rfl) ?_;simp only[List.take_succ_cons,List.take_zero,List.drop_succ_cons,List.drop_zero]
 repeat(first|refine Loose.walk_skip rfl ?_|(refine Loose.walk_plain rfl rfl rfl λK h=>?_;go_big_quiet_op;refine h _ ?_;clear h K))
 refine Loose.walk_loose rfl rfl (λW' hW' _=>Loose.loose_val (u:=.slice (some ⟨W'.heap.size,0,none⟩) 1 1) (W':=W'.alloc (.cells #[.int .i64 0] 3)) (by kernel_rfl) ((Below.refl _ _).alloc (Nat.le_refl _) _) ⟨_,rfl,hW'.size,Blk.new _ _ _⟩) ?_;rintro _ _ _ ⟨x1,rfl,_,_⟩;simp only[Act.put,List.setIfInBounds_toArray,List.set_cons_succ,List.set_cons_zero]
 repeat(first|refine Loose.walk_skip rfl ?_|(refine Loose.walk_plain rfl rfl rfl λK h=>?_;go_big_quiet_op;refine h _ ?_;clear h K))
 refine Loose.walk_loose rfl rfl (λW' hW' _=>Loose.loose_val (u:=.slice (some ⟨W'.heap.size,0,none⟩) 1 1) (W':=W'.alloc (.cells #[.int .i64 0] 3)) (by kernel_rfl) ((Below.refl _ _).alloc (Nat.le_refl _) _) ⟨_,rfl,hW'.size,Blk.new _ _ _⟩) ?_;rintro _ _ _ ⟨x2,rfl,_,_⟩;simp only[Act.put,List.setIfInBounds_toArray,List.set_cons_succ,List.set_cons_zero]
 repeat(first|refine Loose.walk_skip rfl ?_|(refine Loose.walk_plain rfl rfl rfl λK h=>?_;go_big_quiet_op;refine h _ ?_;clear h K))
 refine Loose.walk_nil ?_;rintro U1 hU1 ⟨⟨_,hFx⟩,hFy⟩;have hb1:=hb0.trans (hU1.mono hb0.size);clear hFx hFy
 go_wp2_with fail
 refine Loose.wp_region_later [(2,.row U1.heap.size 3 1 #[.int .i64 0]),(5,.row U1.heap.size 3 1 #[.int .i64 0])] 8 (by kernel_rfl) (by kernel_rfl) ?_;simp only[List.take_succ_cons,List.take_zero,List.drop_succ_cons,List.drop_zero]
 repeat(first|refine Loose.walk_skip rfl ?_|(refine Loose.walk_plain rfl rfl rfl λK h=>?_;go_big_quiet_op;refine h _ ?_;clear h K))
 refine Loose.walk_loose rfl rfl (λW' hW' _=>Loose.loose_val (u:=.slice (some ⟨W'.heap.size,0,none⟩) 1 1) (W':=W'.alloc (.cells #[.int .i64 0] 3)) (by kernel_rfl) ((Below.refl _ _).alloc (Nat.le_refl _) _) ⟨_,rfl,hW'.size,Blk.new _ _ _⟩) ?_;rintro _ _ _ ⟨x3,rfl,_,_⟩;simp only[Act.put,List.setIfInBounds_toArray,List.set_cons_succ,List.set_cons_zero]
 repeat(first|refine Loose.walk_skip rfl ?_|(refine Loose.walk_plain rfl rfl rfl λK h=>?_;go_big_quiet_op;refine h _ ?_;clear h K))
 refine Loose.walk_loose rfl rfl (λW' hW' _=>Loose.loose_val (u:=.slice (some ⟨W'.heap.size,0,none⟩) 1 1) (W':=W'.alloc (.cells #[.int .i64 0] 3)) (by kernel_rfl) ((Below.refl _ _).alloc (Nat.le_refl _) _) ⟨_,rfl,hW'.size,Blk.new _ _ _⟩) ?_;rintro _ _ _ ⟨x4,rfl,_,_⟩;simp only[Act.put,List.setIfInBounds_toArray,List.set_cons_succ,List.set_cons_zero]
 repeat(first|refine Loose.walk_skip rfl ?_|(refine Loose.walk_plain rfl rfl rfl λK h=>?_;go_big_quiet_op;refine h _ ?_;clear h K))
 refine Loose.walk_nil ?_;rintro U2 hU2 ⟨⟨_,hFx⟩,hFy⟩;have hb2:=hb1.trans (hU2.mono hb1.size);clear hFx hFy
 go_wp2_with fail
 refine wp_loop_rounds 1 ?_;rw[rounds_succ]
 go_wp2_with fail
 refine wp_loop_rounds 1 ?_;rw[rounds_succ]
 go_wp2_with fail
 refine(sortInt0 _).mono ?_;rintro e w2 ⟨rfl,rfl⟩
 go_wp2_with fail
 go_ret;exact⟨rfl,hb2⟩
theorem index24 :∀(k:Nat),k<24->∀w,(Instr.index 494 (.agg z24) (.int .i64 k)).run prog w=.ok (.int .i64 0) w
 | 0,_,_=>by kernel_rfl
 | 1,_,_=>by kernel_rfl
 | 2,_,_=>by kernel_rfl
 | 3,_,_=>by kernel_rfl
 | 4,_,_=>by kernel_rfl
 | 5,_,_=>by kernel_rfl
 | 6,_,_=>by kernel_rfl
 | 7,_,_=>by kernel_rfl
 | 8,_,_=>by kernel_rfl
 | 9,_,_=>by kernel_rfl
 | 10,_,_=>by kernel_rfl
 | 11,_,_=>by kernel_rfl
 | 12,_,_=>by kernel_rfl
 | 13,_,_=>by kernel_rfl
 | 14,_,_=>by kernel_rfl
 | 15,_,_=>by kernel_rfl
 | 16,_,_=>by kernel_rfl
 | 17,_,_=>by kernel_rfl
 | 18,_,_=>by kernel_rfl
 | 19,_,_=>by kernel_rfl
 | 20,_,_=>by kernel_rfl
 | 21,_,_=>by kernel_rfl
 | 22,_,_=>by kernel_rfl
 | 23,_,_=>by kernel_rfl
 | n+24,h,_=>by omega
theorem pairBegin0 (w:World):Calls prog 529 #[g0] w λe w'=>∃p,e=.returned (.pointer (some ⟨p,0,none⟩))/\w'.cell? ⟨p,2450,none⟩=some nilS/\w'.cell? ⟨p,2451,none⟩=some nilS/\Below w.heap.size w w':=by
 have hmm:=@run_makeMap prog;refine calls_of_marks func529 rfl ?_;simp only[ntmps529,List.size_toArray,List.length_cons,List.length_nil,Nat.reduceAdd,Nat.reduceSub,Array.replicate_succ,Array.replicate_zero,List.push_toArray,List.append_toArray,List.nil_append,List.cons_append]
 go_wp2_with fail
 obtain⟨W0,hW0⟩:∃W0,W0=((((w.alloc (.cells #[nilS,nilS,nilS] 79)).alloc (.cells Tryz.zeroCells713 713)).alloc (.cells #[.pointer (some ⟨w.heap.size+1,0,none⟩)] 668)).alloc (.map #[] 0)).alloc (.cells #[.map (some (w.heap.size+1+1+1))] 714):=⟨_,rfl⟩;have hA0:Blk W0 w.heap.size 79 #[nilS,nilS,nilS]:=by rw[hW0];exact((((Blk.new _ _ _).alloc _).alloc _).alloc _).alloc _
 have hT0:Blk W0 (w.heap.size+1) 713 Tryz.zeroCells713:=by rw[hW0];exact(((Blk.new2 _ _ _ _).alloc _).alloc _).alloc _
 have hP0:Blk W0 (w.heap.size+1+1) 668 #[.pointer (some ⟨w.heap.size+1,0,none⟩)]:=by rw[hW0];exact Blk.alloc (Blk.alloc (heap_new' _ _ (by simp)) _) _
 have hb0:Below w.heap.size w W0:=by rw[hW0];go_grown
 rw[<- hW0];clear hW0;refine(sides0 _).mono ?_;rintro e w1 ⟨rfl,h1⟩;have hA1:=hA0.below h1 hA0.lt;have hT1:=hT0.below h1 hT0.lt;have hP1:=hP0.below h1 hP0.lt;have hb1:=hb0.trans (h1.mono hb0.size);clear hA0 hT0 hP0 hb0 h1
 go_wp2_with fail
 go_loopw [19] (λi wr=>∃k:Nat,k<=24/\i=.int .i64 k/\w1=wr) (λi _=>24 - (intOf i).toNat)
 case atStart=>exact⟨0,by omega,rfl,rfl⟩
 case round =>
  obtain⟨k,hk,rfl,rfl⟩:=hrel
  by_cases hlt:k<24
  ·have hix:=index24 k hlt
   go_wp2_with fail
   go_roundw
   case rel=>exact⟨k+1,by omega,by go_num,trivial⟩
   case measure=>simp[intOf];omega
  ·go_wp2_with fail
   have hc0:Tryz.zeroCells713.size=2452/\Tryz.zeroCells713[2450]?=some nilS/\Tryz.zeroCells713[2451]?=some nilS:=⟨by kernel_rfl,by kernel_rfl,by kernel_rfl⟩;have HT1:=hid hT1;have HP1:=hid hP1;have HA1:=hid hA1;have HC:=hid hc0;clear hT1 hP1 hA1 hc0
   go_loopw [63] (λi wr=>∃(k:Nat) (cs:Array Value),k<=25/\i=.int .i64 k/\Hid (Blk wr (w.heap.size+1) 713 cs)/\Hid (Blk wr (w.heap.size+1+1) 668 #[.pointer (some ⟨w.heap.size+1,0,none⟩)])/\Hid (Blk wr w.heap.size 79 #[nilS,nilS,nilS])/\Hid (cs.size=2452/\cs[2450]?=some nilS/\cs[2451]?=some nilS)/\Hid (Below w.heap.size w wr)) (λi _=>25 - (intOf i).toNat)
   case atStart=>exact⟨0,_,by omega,rfl,HT1,HP1,HA1,HC,hid hb1⟩
   case round =>
    obtain⟨i,cs,hi,rfl,hT,hP,hA,hC,hb⟩:=hrel
    by_cases hlt2:i<25
    ·go_wp2_with fail
     go_loopw [66] (λi ws=>∃(k:Nat) (cs:Array Value),k<=49/\i=.int .i64 k/\Hid (Blk ws (w.heap.size+1) 713 cs)/\Hid (Blk ws (w.heap.size+1+1) 668 #[.pointer (some ⟨w.heap.size+1,0,none⟩)])/\Hid (Blk ws w.heap.size 79 #[nilS,nilS,nilS])/\Hid (cs.size=2452/\cs[2450]?=some nilS/\cs[2451]?=some nilS)/\Hid (Below w.heap.size w ws)) (λi _=>49 - (intOf i).toNat)
     case atStart=>exact⟨0,_,by omega,rfl,hT,hP,hA,hC,hb⟩
     case round =>
      obtain⟨j,ds,hj,rfl,hT,hP,hA,hC,hb⟩:=hrel
      by_cases hlt3:j<49
      ·have p0:wr.cell? ⟨w.heap.size+1+1,0,none⟩=some (.pointer (some ⟨w.heap.size+1,0,none⟩)):=hP.out.cell 0
       obtain⟨v,hv⟩:∃v,wr.cell? ⟨w.heap.size+1,1225+i*49+j,none⟩=some v:=⟨ds[1225+i*49+j]'(by have:=hC.out.1;omega),by rw[hT.out.cell];exact Array.getElem?_eq_getElem _⟩;have hf:=hT.out.frozen (1225+i*49+j);have S1:=hid (hT.out.set_ (1225+i*49+j) (.int .i64 (-1)));have S2:=hid (hb.out.setCell (p:=⟨w.heap.size+1,1225+i*49+j,none⟩) (by simp) (.int .i64 (-1)));have S3:=hid (hP.out.far (p:=⟨w.heap.size+1,1225+i*49+j,none⟩) (by simp) (.int .i64 (-1)));have S4:=hid (hA.out.far (p:=⟨w.heap.size+1,1225+i*49+j,none⟩) (by simp) (.int .i64 (-1)));have S5:Hid ((ds.setIfInBounds (1225+i*49+j) (.int .i64 (-1))).size=2452/\(ds.setIfInBounds (1225+i*49+j) (.int .i64 (-1)))[2450]?=some nilS/\(ds.setIfInBounds (1225+i*49+j) (.int .i64 (-1)))[2451]?=some nilS):=hid ⟨by rw[Array.size_setIfInBounds];exact hC.out.1,by rw[Array.getElem?_setIfInBounds_ne (by omega)];exact hC.out.2.1,by rw[Array.getElem?_setIfInBounds_ne (by omega)];exact hC.out.2.2⟩
       go_wp2_with fail
       go_roundw
       case rel=>exact⟨j+1,_,by omega,by go_num,S1,S3,S4,S5,S2⟩
       case measure=>simp[intOf];omega
      ·go_wp2_with fail
       go_roundw
       case rel=>exact⟨i+1,_,by omega,by go_num,hT,hP,hA,hC,hb⟩
       case measure=>simp[intOf];omega
    ·obtain⟨b0,b1,b2⟩:=hA.out.three
     have p0:wr.cell? ⟨w.heap.size+1+1,0,none⟩=some (.pointer (some ⟨w.heap.size+1,0,none⟩)):=hP.out.cell 0
     go_wp2_with fail
     refine(eligible0 _).mono ?_;rintro e w4 ⟨b,c,rfl,hB,hlb,h4⟩
     go_wp2_with fail
     refine wp_range_never rfl enters531 (λl W hW=>eligIter0 W _ b c (hB.below hW hB.lt)) ?_;intro D W hD h5 hK;have hX:=h4.trans (h5.mono h4.size);have HT:=hid (hT.out.below hX hT.out.lt);have q0:W.cell? ⟨w.heap.size+1+1,0,none⟩=some (.pointer (some ⟨w.heap.size+1,0,none⟩)):=(hP.out.below hX hP.out.lt).cell 0;have hW:=hid (hb.out.trans (hX.mono hb.out.size));have hlt4:=hP.out.lt;have hz4:=h4.size;have HK:=hid hK;clear hX h4 h5 hK hB b0 b1 b2 p0
     go_wp2_with fail
     go_outline;exact leaves_mark HK.out (results_tmp rfl _ _ _) ⟨_,rfl,((HT.out.putObj (by omega) _).cell 2450).trans hC.out.2.1,((HT.out.putObj (by omega) _).cell 2451).trans hC.out.2.2,below_putObj hW.out (by omega) _⟩
end
section
open Go.RowKit
theorem pairMatching0 (w:World):Calls prog 398 #[g0] w λe w'=>e=.returned (.tuple #[nilS,.int .i64 0,.int .i64 0])/\Below w.heap.size w w':=by
 obtain⟨W0,hW0⟩:∃W0,W0=w.alloc (.cells #[nilS,nilS,nilS] 79):=⟨_,rfl⟩;have hb0:Below w.heap.size w W0:=by rw[hW0];go_grown
 have hB0:Blk W0 w.heap.size 79 #[nilS,nilS,nilS]:=by rw[hW0];exact Blk.new _ _ _
 have HW0:=hid hW0;clear hW0;obtain⟨b0,b1,b2⟩:=hB0.three
 go_enter func398,ntmps398
 go_wp2_with fail
 rw[<- HW0.out];refine(valid0 _).mono ?_;rintro e w1 ⟨rfl,h1⟩;have hB1:=hB0.below h1 hB0.lt;have hb1:=hb0.trans (h1.mono hb0.size);clear b0 b1 b2;obtain⟨b0,b1,b2⟩:=hB1.three
 go_wp2_with fail
 refine(pairBegin0 _).mono ?_;rintro e w2 ⟨p,rfl,k1,k2,h2⟩;have hb2:=hb1.trans (h2.mono hb1.size)
 go_wp2_with fail
 refine(pairSolve0 _ p k1 k2).mono ?_;rintro e w3 ⟨rfl,h3⟩;have hB3:=(hB1.below h2 hB1.lt).below h3 (Nat.lt_of_lt_of_le hB1.lt h2.size);have hb3:=hb2.trans (h3.mono hb2.size);clear b0 b1 b2 k1 k2;obtain⟨b0,b1,b2⟩:=hB3.three
 go_wp2_with fail
 refine wp_loop_rounds 1 ?_;rw[rounds_succ]
 go_wp2_with fail
 go_ret3;exact⟨rfl,hb3⟩
theorem pair0 (w:World):Calls prog 312 #[g0] w λe w'=>e=.returned (.tuple #[nilS,.int .i64 0])/\Below w.heap.size w w':=by
 obtain⟨W0,hW0⟩:∃W0,W0=w.alloc (.cells #[nilS,nilS,nilS] 79):=⟨_,rfl⟩;have hb0:Below w.heap.size w W0:=by rw[hW0];go_grown
 have hB0:Blk W0 w.heap.size 79 #[nilS,nilS,nilS]:=by rw[hW0];exact Blk.new _ _ _
 have HW0:=hid hW0;clear hW0;obtain⟨b0,b1,b2⟩:=hB0.three;refine calls_of_marks func312 rfl ?_;simp only[ntmps312,List.size_toArray,List.length_cons,List.length_nil,Nat.reduceAdd,Nat.reduceSub,Array.replicate_succ,Array.replicate_zero,List.push_toArray,List.append_toArray,List.nil_append,List.cons_append]
 go_wp2_with fail
 rw[<- HW0.out];refine(pairMatching0 _).mono ?_;rintro e w1 ⟨rfl,h1⟩;have hB1:=hB0.below h1 hB0.lt;have hb1:=hb0.trans (h1.mono hb0.size);clear b0 b1 b2;obtain⟨b0,b1,b2⟩:=hB1.three;obtain⟨W2,hW2⟩:∃W2,W2=(((w1.alloc (.cells #[nilS] 24)).alloc (.cells z24 494)).alloc (.cells z24 494)).alloc (.cells z24 494):=⟨_,rfl⟩;have hb2:Below w.heap.size w W2:=by rw[hW2];exact(((hb1.alloc hb1.size _).alloc (by simp;have:=hb1.size;omega) _).alloc (by simp;have:=hb1.size;omega) _).alloc (by simp;have:=hb1.size;omega) _
 have hB2:Blk W2 w.heap.size 79 #[nilS,nilS,nilS]:=by rw[hW2];exact(((hB1.alloc _).alloc _).alloc _).alloc _
 have hR2:Blk W2 (w1.heap.size+1+1) 494 z24:=by rw[hW2];exact Blk.alloc (heap_new' _ _ (by simp)) _
 have hM2:Blk W2 (w1.heap.size+1+1+1) 494 z24:=by rw[hW2];exact heap_new' _ _ (by simp)
 have hlw:w.heap.size<w1.heap.size:=hB1.lt
 go_wp2_with (with_reducible refine wpList_store_last rfl 494 (.tmp 9) (.tmp 31) rfl z24 _ rfl rfl (by simp) size24 rfl one24 ?_)
 rw[<- hW2];have HB2:=hid hB2;have HR2:=hid hR2;have HM2:=hid hM2;clear hW2 hB2 hR2 hM2 b0 b1 b2 HW0 hB0 hB1 hb0 h1
 go_loopw [32] (λi wr=>∃(k:Nat) (cs ds:Array Value),k<=24/\i=.int .i64 k/\Hid (Blk wr (w1.heap.size+1+1) 494 cs)/\Hid (Row24 cs)/\Hid (Blk wr (w1.heap.size+1+1+1) 494 ds)/\Hid (Row24 ds)/\Hid (Blk wr w.heap.size 79 #[nilS,nilS,nilS])/\Hid (Below w.heap.size w wr)) (λi _=>24 - (intOf i).toNat)
 case atStart=>exact⟨0,_,_,by omega,rfl,HR2,hid row24_z,HM2,hid row24_z,HB2,hid hb2⟩
 case round =>
  obtain⟨k,cs,ds,hk,rfl,hR,r1,hM,r2,hB,hb⟩:=hrel
  by_cases hlt:k<24
  ·obtain⟨v,hv⟩:∃v,wr.cell? ⟨w1.heap.size+1+1,k,none⟩=some v:=⟨cs[k]'(by have:=r1.out.1;omega),by rw[hR.out.cell];exact Array.getElem?_eq_getElem _⟩
   obtain⟨u,hu⟩:∃v,wr.cell? ⟨w1.heap.size+1+1+1,k,none⟩=some v:=⟨ds[k]'(by have:=r2.out.1;omega),by rw[hM.out.cell];exact Array.getElem?_eq_getElem _⟩;have hf:=hR.out.frozen k;have hg:=hM.out.frozen k;have S1:=hid ((hR.out.far (p:=⟨w1.heap.size+1+1+1,k,none⟩) (by simp) (.int .i64 (-1))).set_ k (.int .i64 (-1)));have S2:=hid ((hM.out.set_ k (.int .i64 (-1))).far (p:=⟨w1.heap.size+1+1,k,none⟩) (by simp) (.int .i64 (-1)));have S3:=hid ((hB.out.far (p:=⟨w1.heap.size+1+1+1,k,none⟩) (by simp;omega) (.int .i64 (-1))).far (p:=⟨w1.heap.size+1+1,k,none⟩) (by simp;omega) (.int .i64 (-1)));have S4:=hid ((hb.out.setCell (p:=⟨w1.heap.size+1+1+1,k,none⟩) (by simp;omega) (.int .i64 (-1))).setCell (p:=⟨w1.heap.size+1+1,k,none⟩) (by simp;omega) (.int .i64 (-1)))
   go_wp2_with fail
   go_roundw
   case rel=>exact⟨k+1,_,_,by omega,by go_num,S1,hid (r1.out.set _ _),S2,hid (r2.out.set _ _),S3,S4⟩
   case measure=>simp[intOf];omega
  ·obtain⟨b0,b1,b2⟩:=hB.out.three
   have hltB:=hB.out.lt
   go_wp2_with fail
   refine(eligible0 _).mono ?_;rintro e w4 ⟨b,c,rfl,hE,hlb,h4⟩
   go_wp2_with fail
   refine wp_range_never rfl enters531 (λl W hW=>eligIter0 W _ b c (hE.below hW hE.lt)) ?_;intro D W hD h5 hK;have hX:=h4.trans (h5.mono h4.size);have HB5:=hB.out.below hX hltB;have hb5:=hb.out.trans (hX.mono hb.out.size);have hz4:=h4.size;have hDW:=(Array.getElem?_eq_some_iff.1 hK).1;have HK:=hid hK;clear hX h4 h5 hK hE b0 b1 b2
   go_wp2_with fail
   refine wp_loop_rounds 2 ?_;rw[rounds_succ];obtain⟨W6,hW6⟩:∃W6,W6=W.alloc (.cells #[.bool false] 4):=⟨_,rfl⟩;have HW6:=hid hW6;have hb6:Below w.heap.size w W6:=by rw[hW6];exact hb5.alloc hb5.size _
   have hB6:Blk W6 w.heap.size 79 #[nilS,nilS,nilS]:=by rw[hW6];exact HB5.alloc _
   have hT6:Blk W6 W.heap.size 4 #[.bool false]:=by rw[hW6];exact Blk.new _ _ _
   have HK6:Hid (W6.heap[D]?=some (.deferred (some []))):=hid (by rw[hW6];exact heap_old _ HK.out);have hz6:W.heap.size+1=W6.heap.size:=by rw[hW6];simp
   have hz6':W.heap.size<W6.heap.size:=by omega
   clear hz6 hW6;obtain⟨b0,b1,b2⟩:=hB6.three
   go_upto_region 20 with (fail)
   rw[<- HW6.out]
   go_wp2_with fail
   refine(eligible0 _).mono ?_;rintro e w7 ⟨b',c',rfl,hE,hlb',h7⟩
   go_wp2_with fail
   refine wp_range_never rfl enters531 (λl W hW=>eligIter0 W _ b' c' (hE.below hW hE.lt)) ?_;intro D2 W8 hD2 h8 hK2;have hX:=h7.trans (h8.mono h7.size);have HB8:=hB6.below hX hB6.lt;have hb8:=hb6.trans (hX.mono hb6.size);have t8:W8.cell? ⟨W.heap.size,0,none⟩=some (.bool false):=(hT6.below hX hT6.lt).cell 0;have HK8:Hid (W8.heap[D]?=some (.deferred (some []))):=hid ((hX.block D (Nat.lt_trans hDW hz6')).trans HK6.out);have HK82:=hid hK2;have hz7:=h7.size;clear hX h7 h8 hK2 hE b0 b1 b2
   go_wp2_with fail
   rw[rounds_succ];obtain⟨W9,hW9⟩:∃W9,W9=W8.alloc (.cells #[.bool false] 4):=⟨_,rfl⟩;have HW9:=hid hW9;have hb9:Below w.heap.size w W9:=by rw[hW9];exact hb8.alloc hb8.size _
   have hB9:Blk W9 w.heap.size 79 #[nilS,nilS,nilS]:=by rw[hW9];exact HB8.alloc _
   have HK9:Hid (W9.heap[D]?=some (.deferred (some []))):=hid (by rw[hW9];exact heap_old _ HK8.out);have HK92:Hid (W9.heap[D2]?=some (.deferred (some []))):=hid (by rw[hW9];exact heap_old _ HK82.out);clear hW9;obtain⟨b0,b1,b2⟩:=hB9.three
   go_upto_region 30 with (fail)
   rw[<- HW9.out]
   go_wp2_with fail
   refine(sides0 _).mono ?_;rintro e w10 ⟨rfl,h10⟩;have hB10:=(hB9.below h10 hB9.lt).alloc (.cells z24 494);have hb10:=hb9.trans (h10.mono hb9.size);have hb11:=hb10.alloc hb10.size (.cells z24 494);have hD9:=(Array.getElem?_eq_some_iff.1 HK9.out).1;have hD92:=(Array.getElem?_eq_some_iff.1 HK92.out).1;have HK11:=hid (heap_old (.cells z24 494) ((h10.block D hD9).trans HK9.out));have HK112:=hid (heap_old (.cells z24 494) ((h10.block D2 hD92).trans HK92.out));clear b0 b1 b2 h10;obtain⟨b0,b1,b2⟩:=hB10.three;obtain⟨W11,hW11⟩:∃W11,W11=w10.alloc (.cells z24 494):=⟨_,rfl⟩;have HW11:=hid hW11;rw[<- hW11]at hB10 hb11 HK11 HK112 b0 b1 b2;clear hW11
   go_upto_region 31 with (with_reducible refine wpList_store_last rfl 494 (.tmp 18) (.tmp 113) rfl z24 _ rfl rfl rfl size24 rfl one24 ?_)
   rw[<- HW11.out]
   go_wp2_with fail
   refine wp_loop_rounds 1 ?_;rw[rounds_succ]
   go_wp2_with fail
   exact leaves_marks HK112.out HK11.out (by omega) (results_tmp2 rfl _ _ _) ⟨rfl,below_putObj (below_putObj hb11 (by omega) _) (by omega) _⟩
end
end Go.Proofs.YtnehgpeelgjjhaaGreatDoor.Tw
