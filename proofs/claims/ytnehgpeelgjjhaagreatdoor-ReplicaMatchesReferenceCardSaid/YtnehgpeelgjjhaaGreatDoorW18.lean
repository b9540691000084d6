/- Contracts of functions of the program, and plain laws, towards the laws of replicas. Joined of the texts: Sh, D8, D9, D10, D11a, R26. -/
import Derived.Test.YtnehgpeelgjjhaaGreatDoorProg
import Derived.Shelf.Strings.OnBuilder
import Derived.Test.YtnehgpeelgjjhaaGreatDoorW16
import Derived.Handy
set_option linter.all false
set_option maxRecDepth 100000
set_option maxHeartbeats 12800000
open Go.Lib (hid)
namespace Go.Proofs
open Go.Shelf Go.RowKit
def Tryz.lays156_ren :Go.Shelf.Ren:=⟨fun|156=>151|165=>209|166=>210|169=>211|240=>265|241=>266|276=>336|277=>337|n=>n,fun|31=>86|9=>9|3=>3|4=>4|0=>0|20=>20|72=>315|76=>319|70=>289|37=>129|75=>318|127=>386|164=>452|5=>5|80=>186|n=>n,fun|n=>n⟩
theorem Tryz.lays156 :Go.Proofs.Lays.n156 Tryz.prog Tryz.lays156_ren:={
 mixed:=by kernel_rfl
 f156:=Tryz.func151.trans (congrArg some (by kernel_rfl))
 f165:=Tryz.func209.trans (congrArg some (by kernel_rfl))
 f166:=Tryz.func210.trans (congrArg some (by kernel_rfl))
 f169:=Tryz.func211.trans (congrArg some (by kernel_rfl))
 f240:=Tryz.func265.trans (congrArg some (by kernel_rfl))
 f241:=Tryz.func266.trans (congrArg some (by kernel_rfl))
 f276:=Tryz.func336.trans (congrArg some (by kernel_rfl))
 f277:=Tryz.func337.trans (congrArg some (by kernel_rfl))
 t0:=Tryz.underlying0
 a0:=Tryz.isAgg0
 z0:=Tryz.sizeOf0
 v0:=Tryz.zeroValue0
 t3:=Tryz.underlying3
 a3:=Tryz.isAgg3
 z3:=Tryz.sizeOf3
 v3:=Tryz.zeroValue3
 t4:=Tryz.underlying4
 a4:=Tryz.isAgg4
 z4:=Tryz.sizeOf4
 v4:=Tryz.zeroValue4
 t9:=Tryz.underlying9
 a9:=Tryz.isAgg9
 z9:=Tryz.sizeOf9
 v9:=Tryz.zeroValue9
 t20:=Tryz.underlying20
 a20:=Tryz.isAgg20
 z20:=Tryz.sizeOf20
 v20:=Tryz.zeroValue20
 t31:=Tryz.underlying86
 a31:=Tryz.isAgg86
 z31:=Tryz.sizeOf86
 v31:=Tryz.zeroValue86
 t37:=Tryz.underlying129
 a37:=Tryz.isAgg129
 z37:=Tryz.sizeOf129
 v37:=Tryz.zeroValue129
 t70:=Tryz.underlying289
 a70:=Tryz.isAgg289
 z70:=Tryz.sizeOf289
 v70:=Tryz.zeroValue289
 t72:=Tryz.underlying315
 a72:=Tryz.isAgg315
 z72:=Tryz.sizeOf315
 v72:=Tryz.zeroValue315
 t75:=Tryz.underlying318
 a75:=Tryz.isAgg318
 z75:=Tryz.sizeOf318
 v75:=Tryz.zeroValue318
 t76:=Tryz.underlying319
 a76:=Tryz.isAgg319
 z76:=Tryz.sizeOf319
 v76:=Tryz.zeroValue319
 t127:=Tryz.underlying386
 a127:=Tryz.isAgg386
 z127:=Tryz.sizeOf386
 v127:=Tryz.zeroValue386
 t164:=Tryz.underlying452
 a164:=Tryz.isAgg452
 z164:=Tryz.sizeOf452
 v164:=Tryz.zeroValue452 }
theorem Tryz.Builder_Extra_156 :Builder.Extra Tryz.prog Tryz.lays156_ren where
 sizeBuilder:=by kernel_rfl
 liesBuilder:=by kernel_rfl
 t5:=Tryz.underlying5
 a5:=Tryz.isAgg5
 z5:=Tryz.sizeOf5
 v5:=Tryz.zeroValue5
 infoByte:=by kernel_rfl
 cellsByte:=by kernel_rfl
 sizeByte:=by kernel_rfl
 neB5:=by decide
theorem Tryz.strings_Join (bk o c:Nat)(xs:List ByteArray)(sep:ByteArray)(w:World)(hcells:∀(j:Nat) x,xs[j]?=some x->w.cell? ⟨bk,o+j,none⟩=some (.string x))(hbk:bk<w.heap.size)(hN:xs.length<=140737488355328)(hcap:xs.length<=c)(hlen:(Lib.join (xs.map (·.data.toList)) sep.data.toList).length<=140737488355328) :
 Calls Tryz.prog 151 #[.slice (some ⟨bk,o,none⟩) xs.length c,.string sep] w λe w'=>e=.returned (.string ⟨(Lib.join (xs.map (·.data.toList)) sep.data.toList).toArray⟩)/\Below w.heap.size w w':=Any.strings_Join Tryz.lays156 Tryz.Builder_Extra_156 bk o c xs sep w hcells hbk hN hcap hlen
end Go.Proofs
namespace Go.Proofs.YtnehgpeelgjjhaaGreatDoor.Tw
open Go.Proofs.Tryz
section
open Go.RowKit Go.Shelf
attribute [local irreducible] sumF
def cat (xs:List ByteArray):ByteArray:=⟨(Lib.join (xs.map (·.data.toList)) []).toArray⟩
def markF (tab:Array Value)(mark:ByteArray)(xs:List ByteArray):ByteArray:=strOfNums (sumF tab (mark++cat xs))
theorem markF_size (tab:Array Value)(mark:ByteArray)(xs:List ByteArray):(markF tab mark xs).size=32:=by
 unfold markF;rw[strOfNums_size,sumF_len]
theorem marked1_any (w:World)(bk c bx:Nat)(xs:List ByteArray)(mark:ByteArray)(tab:Array Value)(hT:Tab w tab)(hM:w.cell? ⟨bx,0,none⟩=some (.string mark))
 (hX:∀(j:Nat) x,xs[j]?=some x->w.cell? ⟨bk,0+j,none⟩=some (.string x)) (hbk:bk<w.heap.size) (hc:xs.length<=c) (hn:xs.length<=1000000) (hs:(mark++cat xs).size<=1000000000) :
 Calls prog 150 #[.slice (some ⟨bk,0,none⟩) xs.length c,.pointer (some ⟨bx,0,none⟩)] w λe w'=>e=.returned (.string (markF tab mark xs))/\Below w.heap.size w w':=by
 have HT:=hid hT;have HX:=hid hX;clear hT hX;have hcs:Hid ((Lib.join (xs.map (·.data.toList)) []).length<=140737488355328):=hid (by
  have h1:(mark++cat xs).size=mark.size+(cat xs).size:=by simp
  have h2:(cat xs).size=(Lib.join (xs.map (·.data.toList)) []).length:=rfl;omega)
 have hsz:¬9223372036854775807<mark.size+(cat xs).size:=by
  have h1:(mark++cat xs).size=mark.size+(cat xs).size:=by simp
  omega
 have h0:0<w.heap.size:=HT.out.1.lt;have L0:=Later.of hM
 go_enter func150,ntmps150
 go_wp2_with fail
 refine Loose.wp_region_later [(2,.is (.string (cat xs))),(4,.is (.string (markF tab mark xs)))] 6 (by kernel_rfl) (by kernel_rfl) ?_
 (simp only[List.take_succ_cons,List.take_zero,List.drop_succ_cons,List.drop_zero])
 (repeat(first|refine Loose.walk_skip rfl ?_|(refine Loose.walk_plain rfl rfl rfl λK h=>?_;go_big_quiet_op;refine h _ ?_;clear h K)))
 refine Loose.walk_loose rfl rfl (λW' hW' hF=>Loose.loose_call (f:=151) (args:=#[.slice (some ⟨bk,0,none⟩) xs.length c,.string ⟨#[]⟩]) (by kernel_rfl) ((Tryz.strings_Join bk 0 c xs ⟨#[]⟩ W' (λj x hj=>(hW'.cell hbk).trans (HX.out j x hj)) (Nat.lt_of_lt_of_le hbk hW'.size) (by omega) hc hcs.out).mono λe w' ⟨he,hb⟩=>⟨_,he,hb,rfl⟩)) ?_;rintro _ _ _ rfl
 (simp only[Act.put,List.setIfInBounds_toArray,List.set_cons_succ,List.set_cons_zero])
 (repeat(first|refine Loose.walk_skip rfl ?_|(refine Loose.walk_plain rfl rfl rfl λK h=>?_;go_big_quiet_op;refine h _ ?_;clear h K)))
 refine Loose.walk_loose rfl rfl (λW' hW' hF=>Loose.loose_call (f:=77) (args:=#[.string (mark++cat xs)]) (by kernel_rfl) ((sum_any W' (mark++cat xs) tab ⟨HT.out.1.below hW' h0,HT.out.2⟩ hs).mono λe w' ⟨he,hb⟩=>⟨.string (markF tab mark xs),he,hb,rfl⟩)) ?_;rintro _ _ _ rfl
 (simp only[Act.put,List.setIfInBounds_toArray,List.set_cons_succ,List.set_cons_zero])
 (repeat(first|refine Loose.walk_skip rfl ?_|(refine Loose.walk_plain rfl rfl rfl λK h=>?_;go_big_quiet_op;refine h _ ?_;clear h K)))
 refine Loose.walk_nil ?_;rintro U hU -
 go_wp2_with fail
 go_ret;exact⟨rfl,hU⟩
end
section
open Go.RowKit Go.Shelf
attribute [local irreducible] sumF markF
theorem marked_any (w:World)(mark:ByteArray):Calls prog 107 #[.string mark] w λe w'=>∃bx,e=.returned (.func (.func 150) #[] #[.pointer (some ⟨bx,0,none⟩)])/\w'.cell? ⟨bx,0,none⟩=some (.string mark)/\Below w.heap.size w w':=by
 go_enter func107,ntmps107
 go_wp2;go_ret;exact⟨_,rfl,(Blk.new w 9 #[.string mark]).cell 0,(Below.refl _ _).alloc (Nat.le_refl _) _⟩
def leafF (tab:Array Value)(s:ByteArray):ByteArray:=markF tab ⟨#[0]⟩ [s]
def nodeF (tab:Array Value)(a b:ByteArray):ByteArray:=markF tab ⟨#[1]⟩ [a,b]
theorem leafF_size (tab:Array Value)(s:ByteArray):(leafF tab s).size=32:=markF_size _ _ _
theorem nodeF_size (tab:Array Value)(a b:ByteArray):(nodeF tab a b).size=32:=markF_size _ _ _
theorem cat1 (s:ByteArray):(cat [s]).size=s.size:=by
 show(Lib.join [s.data.toList] []).toArray.size=s.size;simp[Lib.join]
theorem cat2 (a b:ByteArray):(cat [a,b]).size=a.size+b.size:=by
 show(Lib.join [a.data.toList,b.data.toList] []).toArray.size=_;simp[Lib.join]
theorem leaf_any (w:World)(s:ByteArray)(tab:Array Value)(hT:Tab w tab)(hs:s.size<=900000000):Calls prog 75 #[.string s] w λe w'=>e=.returned (.string (leafF tab s))/\Below w.heap.size w w':=by
 have HT:=hid hT;clear hT;have h0:0<w.heap.size:=HT.out.1.lt;have hc1:=cat1 s;have hz:((⟨#[0]⟩:ByteArray)++cat [s]).size<=1000000000:=by simp only[ByteArray.size_append,hc1];show 1+s.size<=_;omega
 have HZ:=hid hz;clear hz hc1
 go_enter func75,ntmps75
 go_wp2_with fail
 refine(marked_any _ _).mono ?_;rintro e w1 ⟨bx,rfl,hm,h1⟩;have hmx:=World.cell?_alloc_some w1 ⟨bx,0,none⟩ (.cells #[.string s] 9) (by rw[hm];rfl);have hk:=(Blk.new w1 9 #[.string s]);have hsz1:=h1.size
 go_wp2_with fail
 refine(marked1_any _ w1.heap.size 1 bx [s] ⟨#[0]⟩ tab ⟨(HT.out.1.below h1 h0).alloc _,HT.out.2⟩ (hmx.trans hm) (λj x hj=>by
  match j with
  | 0=>simp at hj;subst hj;exact hk.cell 0
  | j+1=>simp at hj) (by simp) (by simp) (by simp) HZ.out).mono ?_
 rintro e w2 ⟨rfl,h2⟩
 go_wp2_with fail
 go_ret;exact⟨rfl,(h1.alloc hsz1 _).trans (h2.mono (by simp;omega))⟩
theorem node_any (w:World)(a b:ByteArray)(tab:Array Value)(hT:Tab w tab)(ha:a.size<=900000)(hb:b.size<=900000):Calls prog 76 #[.string a,.string b] w λe w'=>e=.returned (.string (nodeF tab a b))/\Below w.heap.size w w':=by
 have HT:=hid hT;clear hT;have h0:0<w.heap.size:=HT.out.1.lt;have hc1:=cat2 a b;have hz:((⟨#[1]⟩:ByteArray)++cat [a,b]).size<=1000000000:=by simp only[ByteArray.size_append,hc1];show 1+(a.size+b.size)<=_;omega
 have HZ:=hid hz;clear hz hc1
 go_enter func76,ntmps76
 go_wp2_with fail
 refine(marked_any _ _).mono ?_;rintro e w1 ⟨bx,rfl,hm,h1⟩;have hmx:=World.cell?_alloc_some w1 ⟨bx,0,none⟩ (.cells #[.string a,.string b] 9) (by rw[hm];rfl);have hk:=(Blk.new w1 9 #[.string a,.string b]);have hsz1:=h1.size
 go_wp2_with fail
 refine(marked1_any _ w1.heap.size 2 bx [a,b] ⟨#[1]⟩ tab ⟨(HT.out.1.below h1 h0).alloc _,HT.out.2⟩ (hmx.trans hm) (λj x hj=>by
  match j with
  | 0=>simp at hj;subst hj;exact hk.cell 0
  | 1=>simp at hj;subst hj;exact hk.cell 1
  | j+2=>simp at hj) (by simp) (by simp) (by simp) HZ.out).mono ?_
 rintro e w2 ⟨rfl,h2⟩
 go_wp2_with fail
 go_ret;exact⟨rfl,(h1.alloc hsz1 _).trans (h2.mono (by simp;omega))⟩
end
section
open Go.RowKit Go.Shelf
def Vs (w:World)(base:Nat)(v:Value)(xs:List Value):Prop :=
 (v=.slice none 0 0/\xs=[]) ∨
 ∃g cap,v=.slice (some ⟨g,0,none⟩) xs.length cap/\base<=g/\g<w.heap.size/\xs.length<=cap/\(∀i,i<cap->(∃u,w.cell? ⟨g,i,none⟩=some u)/\w.frozen? ⟨g,i,none⟩=false) /\
  ∀i x,xs[i]?=some x->w.cell? ⟨g,i,none⟩=some x
theorem Vs.nil (w:World)(base:Nat):Vs w base (.slice none 0 0) []:=.inl ⟨rfl,rfl⟩
theorem Vs.below {w w':World}{base:Nat}{v:Value}{xs:List Value}(h:Vs w base v xs)(hb:Below w.heap.size w w'):Vs w' base v xs:=by
 rcases h with h|⟨g,cap,rfl,h1,h2,h3,h4,h5⟩
 ·exact .inl h
 ·refine .inr ⟨g,cap,rfl,h1,Nat.lt_of_lt_of_le h2 hb.size,h3,λi hi=>?_,λi x hx=>(hb.cell h2).trans (h5 i x hx)⟩
  obtain⟨⟨u,hu⟩,hf⟩:=h4 i hi;exact⟨⟨u,(hb.cell h2).trans hu⟩,(hb.frozen h2).trans hf⟩
theorem Vs.len {w:World}{B:Nat}{v:Value}{xs:List Value}(h:Vs w B v xs){n:Nat}(hn:xs.length=n):∃A c,v=.slice A n c:=by
 subst hn;rcases h with ⟨rfl,rfl⟩|⟨g,cap,rfl,_⟩
 ·exact⟨_,_,rfl⟩
 ·exact⟨_,_,rfl⟩
theorem Vs.kept {w w':World}{base:Nat}{v:Value}{xs:List Value}{row:Option Nat}(h:Vs w base v xs)(hg:w.grownBy w' row)(hne:v.ownBlock=none∨v.ownBlock≠row):Vs w' base v xs:=by
 rcases h with h|⟨g,cap,rfl,h1,h2,h3,h4,h5⟩
 ·exact .inl h
 ·have hb:w'.heap[g]?=w.heap[g]?:=hg.block g h2 (by simpa[Value.ownBlock]using hne)
  refine .inr ⟨g,cap,rfl,h1,Nat.lt_of_lt_of_le h2 hg.size,h3,λi hi=>?_,λi x hx=>(World.cell?_of_block hb).trans (h5 i x hx)⟩;obtain⟨⟨u,hu⟩,hf⟩:=h4 i hi;exact⟨⟨u,(World.cell?_of_block hb).trans hu⟩,(World.frozen?_of_block hb).trans hf⟩
theorem Vs.own {w:World}{base:Nat}{v:Value}{xs:List Value}(h:Vs w base v xs):∀k,v.ownBlock=some k->base<=k/\k<w.heap.size:=by
 intro k hk;rcases h with ⟨rfl,_⟩|⟨g,cap,rfl,h1,h2,_⟩
 ·simp[Value.ownBlock]at hk
 ·simp[Value.ownBlock]at hk
  subst hk;exact⟨h1,h2⟩
theorem grown_base {w w':World}{base:Nat}{v:Value}{xs:List Value}(h:Vs w base v xs)(hg:w.grownBy w' v.ownBlock)(hb:base<=w.heap.size):Below base w w' :=
 ⟨hg.os,hg.tape,hg.output,hg.size,λk hk=>hg.block k (by omega) (λe=>by have:=h.own k e.symm;omega)⟩
theorem Vs.take {w:World}{B:Nat}{g n c:Nat}{xs:List Value}(h:Vs w B (.slice (some ⟨g,0,none⟩) n c) xs)(k:Nat)(hk:k<=xs.length):Vs w B (.slice (some ⟨g,0,none⟩) k c) (xs.take k):=by
 rcases h with ⟨h,_⟩|⟨g',cap,hv,h1,h2,h3,h4,h5⟩
 ·cases h
 ·injection hv with e1 e2 e3
  injection e1 with e1
  injection e1 with e1
  subst e1 e3;refine .inr ⟨g,c,by rw[List.length_take,Nat.min_eq_left hk],h1,h2,by rw[List.length_take];omega,h4,λi x hx=>?_⟩;rw[List.getElem?_take]at hx
  split at hx
  ·exact h5 i x hx
  ·cases hx
theorem Vs.append1 {P:Program}{t e:TypeId}{z:Value}{by_:Nat}(hu:P.underlying t=some (.slice e))(hinfo:(P.info? e).map (λi=>(i.size,i.bytes,i.zero))=some (1,by_,some z))(hzc:z.cells.size=1)(hby:by_<=16)
 {w:World} {base:Nat} {v:Value} {xs:List Value} (h:Vs w base v xs) (hbase:base<=w.heap.size) (hl:xs.length+1<=1099511627776) (ad:Addr) (c:Value) (h1c:c.oneCell'=true) (cc:Nat) (hc:w.cell? ad=some c) (ty:TypeId) :
 ∃v' w',(Builtin.append_ #[t,t] ty #[v,.slice (some ad) 1 cc]).run P w=.ok v' w'/\Vs w' base v' (xs++[c])/\w.grownBy w' v.ownBlock/\(v'.ownBlock=v.ownBlock∨∃k,v'.ownBlock=some k/\w.heap.size<=k):=by
 obtain⟨i5,hi,hs1,hb1,hz⟩:∃i,P.info? e=some i/\i.size=1/\i.bytes=by_/\i.zero=some z:=by
  cases hi:P.info? e with
  | none=>rw[hi]at hinfo;cases hinfo
  | some i =>
    rw[hi]at hinfo;simp only[Option.map_some,Option.some.injEq,Prod.mk.injEq]at hinfo;exact⟨i,rfl,hinfo.1,hinfo.2.1,hinfo.2.2⟩
 have hnews:∀j v,([c]:List Value)[j]?=some v->w.cell? (ad.add j)=some v:=by
  intro j v hj
  match j with
  | 0 =>
    simp at hj;subst hj;rw[show ad.add 0=ad by unfold Addr.add;split<;>simp_all];exact hc
  | j+1=>simp at hj
 rcases h with ⟨rfl,rfl⟩|⟨g,cap,rfl,h1,h2,h3,h4,h5⟩
 ·obtain⟨v',w',r1,r2,r3,_⟩:=run_append_own (P:=P) w w.heap.size t ty e i5 z 1 by_ hu hi hz hs1 hb1 hzc (by decide) (.slice none 0 0) 0 [] (World.ownsRow_nil w _ e 1) ad 1 cc [c] rfl hnews (by simpa using h1c) (by unfold maxLen;omega) (by omega) (Nat.le_refl _)
  obtain⟨q1,q2⟩:=r2;rcases q2 with ⟨_,q2⟩|⟨g,cap,cur,rfl,hg1,hg2,hg3,hg4,hg5,hg6⟩
  ·cases q2
  ·refine⟨_,w',r1,?_,r3,.inr ⟨g,rfl,hg1⟩⟩
   have hlt:g<w'.heap.size:=(Array.getElem?_eq_some_iff.1 hg2).1;refine .inr ⟨g,cap,rfl,by omega,hlt,hg3,λi hi'=>?_,λi x hx=>?_⟩
   ·rw[cell_of_row w' g i cur e (0,0) hg2]
    refine⟨⟨_,Array.getElem?_eq_getElem (by omega)⟩,?_⟩;simp[World.frozen?,hg2]
   ·rw[cell_of_row w' g i cur e (0,0) hg2]
    have hx':([]++[c])[i]?=some x:=hx;rw[<- hg6,List.getElem?_take]at hx'
    split at hx'
    ·simpa using hx'
    ·cases hx'
 ·by_cases hroom:xs.length+1<=cap
  ·have hst:=run_storeCells_cells (P:=P) g xs.length [c] 0 w (λj hj=>by
    have:j=0:=by simpa using hj
    subst this;obtain⟨⟨u,hu⟩,_⟩:=h4 xs.length (by omega);show(w.cell? ⟨g,xs.length,none⟩).isSome=true;rw[hu];rfl) (λj hj=>by
    have:j=0:=by simpa using hj
    subst this;exact(h4 xs.length (by omega)).2) (by simpa using h1c)
   have hf:=run_firstCells_some (P:=P) w 1 1 ad 1 cc [c] rfl hnews;have hset:w.setCells g (xs.length+0) [c]=w.setCell ⟨g,xs.length,none⟩ c:=rfl;rw[hset]at hst;refine⟨.slice (some ⟨g,0,none⟩) (xs.length+1) cap,w.setCell ⟨g,xs.length,none⟩ c,?_,.inr ⟨g,cap,by simp,h1,?_,by simp;exact hroom,λi hi=>?_,λi x hx=>?_⟩,?_,.inl rfl⟩
   ·simp[Builtin.append_,run_underlying hu,sizeOf,typeInfo,hi,hs1,Builtin.lenOf,hroom,hf,addr_add,hst]
   ·exact Nat.lt_of_lt_of_le h2 ((Below.refl base w).setCell (p:=⟨g,xs.length,none⟩) h1 c).size
   ·obtain⟨⟨u,hu⟩,hfz⟩:=h4 i hi
    refine⟨?_,by rw[World.frozen?_setCell];exact hfz⟩
    by_cases e:xs.length=i
    ·subst e
     exact⟨_,World.cell?_setCell_same w _ _ hu⟩
    ·exact⟨u,(World.cell?_setCell_other w _ _ _ (by simp)).trans hu⟩
   ·by_cases e:xs.length=i
    ·subst e
     obtain⟨⟨u,hu⟩,_⟩:=h4 xs.length (by omega);simp at hx;subst hx;exact World.cell?_setCell_same w _ _ hu
    ·have hlt:i<(xs++[c]).length:=(List.getElem?_eq_some_iff.1 hx).1
     simp at hlt;rw[List.getElem?_append_left (by omega)]at hx;exact(World.cell?_setCell_other w _ _ _ (by simp)).trans (h5 i x hx)
   ·have hb:=(Below.refl base w).setCell (p:=⟨g,xs.length,none⟩) h1 c
    exact⟨hb.os,hb.tape,hb.output,hb.size,λk _ hk=>Below.heap_setCell w ⟨g,xs.length,none⟩ c k (λe=>hk (by simp[Value.ownBlock,e]))⟩
  ·have holds:∀j v,xs[j]?=some v->w.cell? ((⟨g,0,none⟩:Addr).add j)=some v:=by
    intro j v hj;rw[addr_add];exact h5 j v hj
   have hr:=run_append_grow (P:=P) w t ty e i5 z hu hi hz ⟨g,0,none⟩ xs.length cap xs (by simp[hs1]) holds ad 1 cc [c] (by simp[hs1]) hnews (by omega) (by omega)
    (growslice_fits (by omega) (by rw[hb1];exact Nat.le_trans (Nat.mul_le_mul hl hby) (by decide)))
   obtain⟨N,hN⟩:∃N,N=grownCap w (xs.length+1) cap e:=⟨_,rfl⟩;have hge:xs.length+1<=N:=by rw[hN];exact grownCap_ge w (xs.length+1) cap e
   rw[<- hN]at hr;have hsize:(xs.toArray++[c].toArray++Builtin.zeroCells z.cells (N - (xs.length+1))).size=N:=by
    simp only[Array.size_append,List.size_toArray,size_zeroCells,hzc];simp;omega
   refine⟨_,_,hr,.inr ⟨w.heap.size,N,by simp,hbase,by simp,by simp;exact hge,λi hi=>?_,λi x hx=>?_⟩,⟨rfl,rfl,rfl,by simp,λk hk _=>(Below.refl w.heap.size w).drew.block k hk▸((Below.refl w.heap.size w.drew).alloc (Nat.le_refl _) _).block k hk⟩,.inr ⟨w.heap.size,rfl,Nat.le_refl _⟩⟩
   ·rw[cell_of_row _ w.heap.size i _ e (0,0) (heap_alloc_new w.drew _)]
    refine⟨⟨_,Array.getElem?_eq_getElem (by rw[hsize];exact hi)⟩,?_⟩;have:=Blk.new w.drew e (xs.toArray++[c].toArray++Builtin.zeroCells z.cells (N - (xs.length+1)));exact this.frozen i
   ·rw[cell_of_row _ w.heap.size i _ e (0,0) (heap_alloc_new w.drew _)]
    have hlt:i<(xs++[c]).length:=(List.getElem?_eq_some_iff.1 hx).1;have:(xs.toArray++[c].toArray)=(xs++[c]).toArray:=by simp
    rw[this,Array.getElem?_append_left (by simpa using hlt)];simpa using hx
theorem info9 :(prog.info? 9).map (λi=>(i.size,i.bytes,i.zero))=some (1,16,some (.string ⟨#[]⟩)):=by kernel_rfl
theorem infoI3 :(prog.info? 3).map (λi=>(i.size,i.bytes,i.zero))=some (1,8,some (.int .i64 0)):=by kernel_rfl
end
section
open Go.RowKit Go.Shelf
attribute [local irreducible] sumF markF leafF nodeF
theorem wpList_appendV {P:Program}{t e:TypeId}{z:Value}{by_:Nat}(hu:P.underlying t=some (.slice e))(hinfo:(P.info? e).map (λi=>(i.size,i.bytes,i.zero))=some (1,by_,some z))(hzc:z.cells.size=1)(hby:by_<=16)
 {ops:Array Oper} {rest:List Oper} {o:Oper} {a:Act} {w:World} {Q:Exit->Act->World->Prop} (hgd:o.guard=none) (s x:Operand)
 (ho:o.op=.call { callee:=.builtin .append,args:=#[s,x],argTypes:=#[t,t] }) (base:Nat) (v:Value) (xs:List Value) (hs:a.eval s=v) (hV:Vs w base v xs) (hbase:base<=w.heap.size) (hl:xs.length+1<=1099511627776)
 (ad:Addr) (c:Value) (h1c:c.oneCell'=true) (cc:Nat) (hx:a.eval x=.slice (some ad) 1 cc) (hc:w.cell? ad=some c)
 (h:∀v' w',Vs w' base v' (xs++[c])->w.grownBy w' v.ownBlock->(v'.ownBlock=v.ownBlock∨∃k,v'.ownBlock=some k/\w.heap.size<=k)->wpList P ops Q rest (a.put o.dst v') w'):wpList P ops Q (o::rest) a w:=by
 refine wpList_plain hgd λK hK=>?_
 obtain⟨v',w',hr,h2,h3,h4⟩:=hV.append1 hu hinfo hzc hby hbase hl ad c h1c cc hc o.type;unfold Oper.wp execOp;simp only[ho,resolve,invoke,builtin,Sem.run_bind,Sem.run_pure,Result.andThen_ok,List.map_toArray,List.map_cons,List.map_nil,hs,hx,hr];exact hK _ _ (h v' w' h2 h3 h4)
def strs (l:List ByteArray):List Value:=l.map Value.string
def ints (l:List Int):List Value:=l.map (Value.int .i64)
structure Stk (w:World) (b:Nat) (v u:Value) (l:List ByteArray) (ns:List Int):Prop where
 whole:Vs w b v (strs l)
 sizes:Vs w b u (ints ns)
 apart:v.ownBlock=none∨v.ownBlock≠u.ownBlock
theorem Stk.below {w w':World}{b:Nat}{v u:Value}{l:List ByteArray}{ns:List Int}(h:Stk w b v u l ns)(hb:Below w.heap.size w w'):Stk w' b v u l ns:=⟨h.whole.below hb,h.sizes.below hb,h.apart⟩
theorem Stk.pushW {w w':World}{b:Nat}{v u v':Value}{l:List ByteArray}{ns:List Int}{d:ByteArray}(h:Stk w b v u l ns)(h1:Vs w' b v' (strs l++[.string d]))(hg:w.grownBy w' v.ownBlock)(ho:v'.ownBlock=v.ownBlock∨∃k,v'.ownBlock=some k/\w.heap.size<=k) :
 Stk w' b v' u (l++[d]) ns:=by
 refine⟨by simpa[strs]using h1,h.sizes.kept hg ?_,?_⟩
 ·rcases h.apart with e|e
  ·rw[e]
   cases u.ownBlock<;>simp
  ·exact .inr (Ne.symm e)
 ·rcases ho with e|⟨k,e,hk⟩
  ·rw[e];exact h.apart
  ·rw[e]
   refine .inr λe'=>?_
   have:=(h.sizes.own k e'.symm).2;omega
theorem Stk.pushS {w w':World}{b:Nat}{v u u':Value}{l:List ByteArray}{ns:List Int}{x:Int}(h:Stk w b v u l ns)(h1:Vs w' b u' (ints ns++[.int .i64 x]))(hg:w.grownBy w' u.ownBlock)(ho:u'.ownBlock=u.ownBlock∨∃k,u'.ownBlock=some k/\w.heap.size<=k) :
 Stk w' b v u' l (ns++[x]):=by
 refine⟨h.whole.kept hg ?_,by simpa[ints]using h1,?_⟩
 ·exact h.apart
 ·rcases ho with e|⟨k,e,hk⟩
  ·rw[e];exact h.apart
  ·rw[e]
   refine .inr λe'=>?_
   have:=(h.whole.own k e').2;omega
theorem Vs.sm {w:World}{B:Nat}{A:Option Addr}{n c:Nat}{xs:List Value}(h:Vs w B (.slice A n c) xs)(hn:0<n):∃g,A=.some ⟨g,0,none⟩:=by
 rcases h with ⟨h,_⟩|⟨g,cap,hv,_⟩
 ·injection h with _ h _
  omega
 ·injection hv with e _ _
  exact⟨g,e⟩
theorem Vs.at_ {w:World}{B g n c:Nat}{xs:List Value}(h:Vs w B (.slice (.some ⟨g,0,none⟩) n c) xs)(i:Nat)(hi:i<xs.length):w.cell? ⟨g,i,none⟩=.some xs[i]:=by
 rcases h with ⟨h,_⟩|⟨g',cap,hv,h1,h2,h3,h4,h5⟩
 ·cases h
 ·injection hv with e _ _
  injection e with e
  injection e with e
  subst e;exact h5 i _ (List.getElem?_eq_getElem hi)
theorem Stk.d {w:World}{B g n c:Nat}{u:Value}{l:List ByteArray}{ns:List Int}(h:Stk w B (.slice (.some ⟨g,0,none⟩) n c) u l ns)(i:Nat)(hi:i<l.length):∃d,l[i]?=.some d/\w.cell? ⟨g,i,none⟩=.some (.string d):=by
 refine⟨l[i],List.getElem?_eq_getElem hi,?_⟩;have:=h.whole.at_ i (by simpa[strs]using hi);simpa[strs]using this
theorem Stk.n {w:World}{B g n c:Nat}{v:Value}{l:List ByteArray}{ns:List Int}(h:Stk w B v (.slice (.some ⟨g,0,none⟩) n c) l ns)(i:Nat)(hi:i<ns.length):∃y,w.cell? ⟨g,i,none⟩=.some (.int .i64 y):=by
 refine⟨ns[i],?_⟩;have:=h.sizes.at_ i (by simpa[ints]using hi);simpa[ints]using this
def Both (w:World)(b g g' p c c':Nat):Prop:=∃l ns,l.length=p/\ns.length=p/\(∀d∈l,d.size=32)/\Stk w b (.slice (.some ⟨g,0,none⟩) p c) (.slice (.some ⟨g',0,none⟩) p c') l ns
end
section
open Go.RowKit Go.Shelf
theorem wq_num (f:Nat->Int)(k:Nat):wq f k=num (sched2 f 48) k:=rfl
attribute [local irreducible] rounds8 sched2 wq rotl word
theorem infoU32 :(prog.info? 179).map (λi=>(i.size,i.bytes,i.zero))=some (1,4,some (.int .u32 0)):=by kernel_rfl
def wqs (f:Nat->Int)(k:Nat):List Value:=u32s ((List.range k).map (wq f))
theorem wqs_len (f:Nat->Int)(k:Nat):(wqs f k).length=k:=by simp[wqs,u32s]
theorem wqs_succ (f:Nat->Int)(k:Nat):wqs f k++[.int .u32 (wq f k)]=wqs f (k+1):=by simp[wqs,u32s,List.range_succ]
theorem wqs_get (f:Nat->Int)(k i:Nat)(h:i<k):(wqs f k)[i]?=some (.int .u32 (wq f i)):=by
 simp[wqs,u32s,List.getElem?_range h]
theorem Vs.wq_at {w:World}{B g n c:Nat}{f:Nat->Int}(h:Vs w B (.slice (.some ⟨g,0,none⟩) n c) (wqs f n))(i:Nat)(hi:i<n):w.cell? ⟨g,i,none⟩=.some (.int .u32 (Tw.wq f i)):=by
 have h1:=h.at_ i (by rw[wqs_len];exact hi);rw[h1];have h2:=wqs_get f n i hi;rw[List.getElem?_eq_getElem (by rw[wqs_len];exact hi)]at h2;exact h2
def cells8 (w:World)(g:Nat)(x:W8):Prop:=w.cell? ⟨g,0,none⟩=some (.int .u32 x.a)/\w.cell? ⟨g,1,none⟩=some (.int .u32 x.b)/\w.cell? ⟨g,2,none⟩=some (.int .u32 x.c)/\w.cell? ⟨g,3,none⟩=some (.int .u32 x.d) /\
 w.cell? ⟨g,4,none⟩=some (.int .u32 x.e)/\w.cell? ⟨g,5,none⟩=some (.int .u32 x.f)/\w.cell? ⟨g,6,none⟩=some (.int .u32 x.g)/\w.cell? ⟨g,7,none⟩=some (.int .u32 x.h)
theorem cells8.below {w w':World}{g:Nat}{x:W8}(h:cells8 w g x)(hb:Below w.heap.size w w')(hg:g<w.heap.size):cells8 w' g x:=by
 obtain⟨h0,h1,h2,h3,h4,h5,h6,h7⟩:=h;exact⟨(hb.cell (by exact hg)).trans h0,(hb.cell (by exact hg)).trans h1,(hb.cell (by exact hg)).trans h2,(hb.cell (by exact hg)).trans h3,(hb.cell (by exact hg)).trans h4,(hb.cell (by exact hg)).trans h5,(hb.cell (by exact hg)).trans h6,(hb.cell (by exact hg)).trans h7⟩
theorem cells8.blk {w:World}{g:Nat}{x:W8}(h:Blk w g 179 x.cells):cells8 w g x:=⟨h.cell 0,h.cell 1,h.cell 2,h.cell 3,h.cell 4,h.cell 5,h.cell 6,h.cell 7⟩
theorem cells8.of {w:World}{g:Nat}{hs:Array Value}(h:∀i,i<8->w.cell? ⟨g,i,none⟩=some (.int .u32 (num hs i))):cells8 w g (W8.of hs) :=
 ⟨h 0 (by omega),h 1 (by omega),h 2 (by omega),h 3 (by omega),h 4 (by omega),h 5 (by omega),h 6 (by omega),h 7 (by omega)⟩
theorem rounds8_zero (tab sc:Array Value)(x:W8):rounds8 tab sc x 0=x:=by rw[rounds8]
theorem rounds8_succ (tab sc:Array Value)(x:W8)(k:Nat):rounds8 tab sc x (k+1)=(rounds8 tab sc x k).step (num tab k) (num sc k):=by rw[rounds8]
theorem infoU :∃i,prog.info? 179=some i/\i.zero=some (.int .u32 0)/\i.size=1/\i.bytes=4:=by
 have h:=infoU32;cases e:prog.info? 179 with
 | none=>rw[e]at h;cases h
 | some i =>
   rw[e]at h;simp only[Option.map_some,Option.some.injEq,Prod.mk.injEq]at h;exact⟨i,rfl,h.2.2,h.1,h.2.1⟩
theorem nums_lits (l:List Int){cs:Array Value}(h:cs=(l.map (Value.int .u32)).toArray):Nums l.length cs:=by
 subst h;have hg:∀i,i<l.length->(l.map (Value.int .u32)).toArray[i]?=some (.int .u32 (num (l.map (Value.int .u32)).toArray i)):=by
  intro i hi;have e:(l.map (Value.int .u32)).toArray[i]?=some (.int .u32 l[i]):=by simp[List.getElem?_eq_getElem hi]
  rw[e];simp only[num,Array.getD_eq_getD_getElem?,e];rfl
 refine⟨by simp,?_,hg⟩;simp[Array.all_toList,Value.oneCell']
def tabL :List Int:=[1116352408,1899447441,3049323471,3921009573,961987163,1508970993,2453635748,2870763221,3624381080,310598401,607225278,1426881987,1925078388,2162078206,2614888103,3248222580,3835390401,4022224774,264347078,604807628,770255983,1249150122,1555081692,1996064986,2554220882,2821834349,2952996808,3210313671,3336571891,3584528711,113926993,338241895,666307205,773529912,1294757372,1396182291,1695183700,1986661051,2177026350,2456956037,2730485921,2820302411,3259730800,3345764771,3516065817,3600352804,4094571909,275423344,430227734,506948616,659060556,883997877,958139571,1322822218,1537002063,1747873779,1955562222,2024104815,2227730452,2361852424,2428436474,2756734187,3204031479,3329325298]
theorem nums_tabC :Nums 64 tabC:=nums_lits tabL (by kernel_rfl)
theorem cells8.at_ {w:World}{g:Nat}{x:W8}(h:cells8 w g x):∀i,i<8->w.cell? ⟨g,i,none⟩=some (.int .u32 (num x.cells i)):=by
 obtain⟨h0,h1,h2,h3,h4,h5,h6,h7⟩:=h;intro i hi
 match i,hi with
 | 0,_=>exact h0
 | 1,_=>exact h1
 | 2,_=>exact h2
 | 3,_=>exact h3
 | 4,_=>exact h4
 | 5,_=>exact h5
 | 6,_=>exact h6
 | 7,_=>exact h7
theorem vs_base {w:World}{B B':Nat}{v:Value}{xs:List Value}(h:Vs w B v xs)(hb:B'<=B):Vs w B' v xs:=by
 rcases h with h|⟨g,cap,h1,h2,h3⟩
 ·exact .inl h
 ·exact .inr ⟨g,cap,h1,Nat.le_trans hb h2,h3⟩
def outs (hs:Array Value)(x:W8)(j:Nat):List Value:=u32s ((List.range j).map λi=>(num hs i+num x.cells i)%4294967296)
theorem outs_len (hs:Array Value)(x:W8)(j:Nat):(outs hs x j).length=j:=by simp[outs,u32s]
theorem outs_succ (hs:Array Value)(x:W8)(j:Nat):outs hs x (j+1)=outs hs x j++[.int .u32 ((num hs j+num x.cells j)%4294967296)]:=by simp[outs,u32s,List.range_succ]
theorem block_any (w:World)(gh ch gb ob cb:Nat)(f:Nat->Int)(hs:Array Value)(hN:Nums 8 hs)(hH:∀i,i<8->w.cell? ⟨gh,i,none⟩=some (.int .u32 (num hs i)))(hgh:gh<w.heap.size)(hch:8<=ch)(hB:Bytes w gb ob 64 f)(hb:gb<w.heap.size)(hcb:64<=cb) :
 Calls prog 114 #[.slice (some ⟨gh,0,none⟩) 8 ch,.slice (some ⟨gb,ob,none⟩) 64 cb] w λe w'=>∃A c,e=.returned (.slice A 8 c)/\Vs w' w.heap.size (.slice A 8 c) (addF tabC f hs).toList/\Below w.heap.size w w':=by
 have HB:=hid hB;have HH:=hid hH;have HN:=hid hN;clear hB hH hN
 go_enter func114,ntmps114
 go_wp2_with fail
 go_loopw [5,6] (λv i wr=>∃(k:Nat) (A:Option Addr) (c:Nat),k<=16/\i=.int .i64 k/\v=.slice A k c/\Hid (Vs wr w.heap.size (.slice A k c) (wqs f k))/\Hid (Below w.heap.size w wr)) (λ_ i _=>16 - (intOf i).toNat)
 case atStart=>exact⟨0,none,0,by omega,rfl,rfl,hid (Vs.nil _ _),hid (Below.refl _ _)⟩
 case round =>
  obtain⟨k,A,c,hk,rfl,rfl,hV,hW⟩:=hrel
  by_cases hlt:k<16
  ·have c0:=(hW.out.cell (p:=⟨gb,ob+4*k,none⟩) hb).trans (HB.out (4*k) (by omega))
   have c1:=(hW.out.cell (p:=⟨gb,ob+(4*k+1),none⟩) hb).trans (HB.out (4*k+1) (by omega));have c2:=(hW.out.cell (p:=⟨gb,ob+(4*k+2),none⟩) hb).trans (HB.out (4*k+2) (by omega));have c3:=(hW.out.cell (p:=⟨gb,ob+(4*k+3),none⟩) hb).trans (HB.out (4*k+3) (by omega));have L0:=Later.of c0;have L1:=Later.of c1;have L2:=Later.of c2;have L3:=Later.of c3
   go_wp2_with fail
   refine Loose.wp_region_later [(34,.row wr.heap.size 179 1 #[.int .u32 (bits BinOp.or IntKind.u32 (bits BinOp.or IntKind.u32 (bits BinOp.or IntKind.u32 (f (4*k)%4294967296*16777216%4294967296) (f (4*k+1)%4294967296*65536%4294967296)) (f (4*k+2)%4294967296*256%4294967296)) (f (4*k+3)%4294967296))])] 35 (by kernel_rfl) (by kernel_rfl) ?_
   (simp only[List.take_succ_cons,List.take_zero,List.drop_succ_cons,List.drop_zero])
   (repeat(first|refine Loose.walk_skip rfl ?_|(refine Loose.walk_plain rfl rfl rfl λK h=>?_;go_big_quiet_op;refine h _ ?_;clear h K)))
   refine Loose.walk_loose rfl rfl (λW' hW' _=>Loose.loose_val (u:=.slice (.some ⟨W'.heap.size,0,none⟩) 1 1) (W':=W'.alloc (.cells #[.int .u32 (bits BinOp.or IntKind.u32 (bits BinOp.or IntKind.u32 (bits BinOp.or IntKind.u32 (f (4*k)%4294967296*16777216%4294967296) (f (4*k+1)%4294967296*65536%4294967296)) (f (4*k+2)%4294967296*256%4294967296)) (f (4*k+3)%4294967296))] 179)) (by kernel_rfl) ((Below.refl _ _).alloc (Nat.le_refl _) _) ⟨_,rfl,hW'.size,Blk.new _ _ _⟩) ?_;rintro _ _ _ ⟨q,rfl,hq,_⟩
   (simp only[Act.put,List.setIfInBounds_toArray,List.set_cons_succ,List.set_cons_zero])
   (repeat(first|refine Loose.walk_skip rfl ?_|(refine Loose.walk_plain rfl rfl rfl λK h=>?_;go_big_quiet_op;refine h _ ?_;clear h K)))
   refine Loose.walk_nil ?_;rintro V hVb hVF;have hqb:=(Loose.Pred.row_at (B:=wr.heap.size) (t:=179) (n:=1) (cs:=#[.int .u32 (bits BinOp.or IntKind.u32 (bits BinOp.or IntKind.u32 (bits BinOp.or IntKind.u32 (f (4*k)%4294967296*16777216%4294967296) (f (4*k+1)%4294967296*65536%4294967296)) (f (4*k+2)%4294967296*256%4294967296)) (f (4*k+3)%4294967296))]) (x:=q) (W:=V) hVF.2).2;have hkq:=hqb.cell 0;simp only[List.getElem?_toArray,List.getElem?_cons_zero]at hkq;have HV1:=hid (hV.out.below hVb);have hWV:=hid (hW.out.trans (hVb.mono hW.out.size));have hzV:w.heap.size<=V.heap.size:=hWV.out.size;have HE:=hid (show wqs f k++[.int .u32 (bits BinOp.or IntKind.u32 (bits BinOp.or IntKind.u32 (bits BinOp.or IntKind.u32 (f (4*k)%4294967296*16777216%4294967296) (f (4*k+1)%4294967296*65536%4294967296)) (f (4*k+2)%4294967296*256%4294967296)) (f (4*k+3)%4294967296))]=wqs f (k+1) by rw[<- wqs_succ,wq_lo f k hlt];unfold word;rfl);have hlk:(wqs f k).length+1<=1099511627776:=by rw[wqs_len];omega
   clear hVF hqb hVb L0 L1 L2 L3 c0 c1 c2 c3 hV hW
   go_wp2_with (at_builtin;refine wpList_appendV underlying189 infoU32 rfl (by decide) rfl (.tmp 23) (.tmp 57) rfl w.heap.size (.slice A k c) (wqs f k) rfl HV1.out hzV hlk ⟨q,0,none⟩ (.int .u32 (bits BinOp.or IntKind.u32 (bits BinOp.or IntKind.u32 (bits BinOp.or IntKind.u32 (f (4*k)%4294967296*16777216%4294967296) (f (4*k+1)%4294967296*65536%4294967296)) (f (4*k+2)%4294967296*256%4294967296)) (f (4*k+3)%4294967296))) rfl 1 rfl hkq ?_;intro v2 w2 hV2 hg2 ho2;rw[HE.out]at hV2;have HV2:=hid hV2;obtain⟨A2,c2,rfl⟩:=hV2.len (n:=k+1) (wqs_len _ _);have HG2:=hid hg2;clear hV2 hg2 ho2)
   go_roundw
   case rel=>exact⟨k+1,A2,c2,by omega,by go_num,rfl,HV2,hid (hWV.out.trans (grown_base HV1.out HG2.out hzV))⟩
   case measure=>simp[intOf];omega
  ·have hk16:=hid (show k=16 by omega)
   go_wp2_with fail
   go_loopw [5,7,8,9] (λv i _ _ wr=>∃(n:Nat) (g:Nat) (c:Nat),16<=n/\n<=64/\i=.int .i64 n/\v=.slice (some ⟨g,0,none⟩) n c/\g<wr.heap.size/\Hid (Vs wr w.heap.size (.slice (some ⟨g,0,none⟩) n c) (wqs f n))/\Hid (Below w.heap.size w wr)) (λ_ i _ _ _=>64 - (intOf i).toNat)
   case atStart =>
    obtain⟨g,rfl⟩:=hV.out.sm (by omega);exact⟨k,g,c,by omega,by omega,by rw[hk16.out];rfl,rfl,(hV.out.own g rfl).2,hV,hW⟩
   case round =>
    clear hV hW;obtain⟨n,g,c,hl,hn,rfl,rfl,hgl,hV,hW⟩:=hrel
    by_cases hlt2:n<64
    ·have c1:=hV.out.wq_at (n - 15) (by omega)
     have c3:=hV.out.wq_at (n - 2) (by omega);have L1:=Later.of c1;have L3:=Later.of c3
     go_wp2_with fail
     refine Loose.wp_region_later [(5,.is (.int .u32 (rotl (wq f (n - 15)) 7))),(11,.is (.int .u32 (rotl (wq f (n - 15)) 18)))] 21 (by kernel_rfl) (by kernel_rfl) ?_
     (simp only[List.take_succ_cons,List.take_zero,List.drop_succ_cons,List.drop_zero])
     (repeat(first|refine Loose.walk_skip rfl ?_|(refine Loose.walk_plain rfl rfl rfl λK h=>?_;go_big_quiet_op;refine h _ ?_;clear h K)))
     refine Loose.walk_loose rfl rfl (λW' hW' hF=>Loose.loose_call (f:=155) (args:=#[.int .u32 (wq f (n - 15)),.int .i64 7]) (by kernel_rfl) ((rotated_any W' (wq f (n - 15)) 7 (by decide) (by decide)).mono λe w' ⟨he,hb⟩=>⟨_,he,hb,rfl⟩)) ?_;rintro _ _ _ rfl
     (simp only[Act.put,List.setIfInBounds_toArray,List.set_cons_succ,List.set_cons_zero])
     (repeat(first|refine Loose.walk_skip rfl ?_|(refine Loose.walk_plain rfl rfl rfl λK h=>?_;go_big_quiet_op;refine h _ ?_;clear h K)))
     refine Loose.walk_loose rfl rfl (λW' hW' hF=>Loose.loose_call (f:=155) (args:=#[.int .u32 (wq f (n - 15)),.int .i64 18]) (by kernel_rfl) ((rotated_any W' (wq f (n - 15)) 18 (by decide) (by decide)).mono λe w' ⟨he,hb⟩=>⟨_,he,hb,rfl⟩)) ?_;rintro _ _ _ rfl
     (simp only[Act.put,List.setIfInBounds_toArray,List.set_cons_succ,List.set_cons_zero])
     (repeat(first|refine Loose.walk_skip rfl ?_|(refine Loose.walk_plain rfl rfl rfl λK h=>?_;go_big_quiet_op;refine h _ ?_;clear h K)))
     refine Loose.walk_nil ?_;rintro U hU -;have HVU:=hid (hV.out.below hU);have HWU:=hid (hW.out.trans (hU.mono hW.out.size));have hgU:g<U.heap.size:=by have:=hU.size;omega
     clear L1 L3 c1 c3 hU hV hW hgl;have c3:=HVU.out.wq_at (n - 2) (by omega);have L3:=Later.of c3
     go_wp2_with fail
     refine Loose.wp_region_later [(5,.is (.int .u32 (rotl (wq f (n - 2)) 17))),(11,.is (.int .u32 (rotl (wq f (n - 2)) 19)))] 21 (by kernel_rfl) (by kernel_rfl) ?_
     (simp only[List.take_succ_cons,List.take_zero,List.drop_succ_cons,List.drop_zero])
     (repeat(first|refine Loose.walk_skip rfl ?_|(refine Loose.walk_plain rfl rfl rfl λK h=>?_;go_big_quiet_op;refine h _ ?_;clear h K)))
     refine Loose.walk_loose rfl rfl (λW' hW' hF=>Loose.loose_call (f:=155) (args:=#[.int .u32 (wq f (n - 2)),.int .i64 17]) (by kernel_rfl) ((rotated_any W' (wq f (n - 2)) 17 (by decide) (by decide)).mono λe w' ⟨he,hb⟩=>⟨_,he,hb,rfl⟩)) ?_;rintro _ _ _ rfl
     (simp only[Act.put,List.setIfInBounds_toArray,List.set_cons_succ,List.set_cons_zero])
     (repeat(first|refine Loose.walk_skip rfl ?_|(refine Loose.walk_plain rfl rfl rfl λK h=>?_;go_big_quiet_op;refine h _ ?_;clear h K)))
     refine Loose.walk_loose rfl rfl (λW' hW' hF=>Loose.loose_call (f:=155) (args:=#[.int .u32 (wq f (n - 2)),.int .i64 19]) (by kernel_rfl) ((rotated_any W' (wq f (n - 2)) 19 (by decide) (by decide)).mono λe w' ⟨he,hb⟩=>⟨_,he,hb,rfl⟩)) ?_;rintro _ _ _ rfl
     (simp only[Act.put,List.setIfInBounds_toArray,List.set_cons_succ,List.set_cons_zero])
     (repeat(first|refine Loose.walk_skip rfl ?_|(refine Loose.walk_plain rfl rfl rfl λK h=>?_;go_big_quiet_op;refine h _ ?_;clear h K)))
     refine Loose.walk_nil ?_;rintro U2 hU2 -;have HV3:=hid (HVU.out.below hU2);have HW3:=hid (HWU.out.trans (hU2.mono HWU.out.size));have hgU2:g<U2.heap.size:=by have:=hU2.size;omega
     clear L3 c3 hU2 HVU HWU hgU;have c0:=HV3.out.wq_at (n - 16) (by omega);have c2:=HV3.out.wq_at (n - 7) (by omega);have L0:=Later.of c0;have L2:=Later.of c2
     go_wp2_with fail
     refine Loose.wp_region_later [(16,.row U2.heap.size 179 1 #[.int .u32 (((wq f (n - 16)+bits BinOp.xor IntKind.u32 (bits BinOp.xor IntKind.u32 (rotl (wq f (n - 15)) 7) (rotl (wq f (n - 15)) 18)) (wq f (n - 15) / 8)+wq f (n - 7))%4294967296+bits BinOp.xor IntKind.u32 (bits BinOp.xor IntKind.u32 (rotl (wq f (n - 2)) 17) (rotl (wq f (n - 2)) 19)) (wq f (n - 2) / 1024))%4294967296)])] 17 (by kernel_rfl) (by kernel_rfl) ?_
     (simp only[List.take_succ_cons,List.take_zero,List.drop_succ_cons,List.drop_zero])
     (repeat(first|refine Loose.walk_skip rfl ?_|(refine Loose.walk_plain rfl rfl rfl λK h=>?_;go_big_quiet_op;refine h _ ?_;clear h K)))
     refine Loose.walk_loose rfl rfl (λW' hW' _=>Loose.loose_val (u:=.slice (.some ⟨W'.heap.size,0,none⟩) 1 1) (W':=W'.alloc (.cells #[.int .u32 (((wq f (n - 16)+bits BinOp.xor IntKind.u32 (bits BinOp.xor IntKind.u32 (rotl (wq f (n - 15)) 7) (rotl (wq f (n - 15)) 18)) (wq f (n - 15) / 8)+wq f (n - 7))%4294967296+bits BinOp.xor IntKind.u32 (bits BinOp.xor IntKind.u32 (rotl (wq f (n - 2)) 17) (rotl (wq f (n - 2)) 19)) (wq f (n - 2) / 1024))%4294967296)] 179)) (by kernel_rfl) ((Below.refl _ _).alloc (Nat.le_refl _) _) ⟨_,rfl,hW'.size,Blk.new _ _ _⟩) ?_;rintro _ _ _ ⟨q,rfl,hq,_⟩
     (simp only[Act.put,List.setIfInBounds_toArray,List.set_cons_succ,List.set_cons_zero])
     (repeat(first|refine Loose.walk_skip rfl ?_|(refine Loose.walk_plain rfl rfl rfl λK h=>?_;go_big_quiet_op;refine h _ ?_;clear h K)))
     refine Loose.walk_nil ?_;rintro V hVb hVF;have hqb:=(Loose.Pred.row_at (B:=U2.heap.size) (t:=179) (n:=1) (cs:=#[.int .u32 (((wq f (n - 16)+bits BinOp.xor IntKind.u32 (bits BinOp.xor IntKind.u32 (rotl (wq f (n - 15)) 7) (rotl (wq f (n - 15)) 18)) (wq f (n - 15) / 8)+wq f (n - 7))%4294967296+bits BinOp.xor IntKind.u32 (bits BinOp.xor IntKind.u32 (rotl (wq f (n - 2)) 17) (rotl (wq f (n - 2)) 19)) (wq f (n - 2) / 1024))%4294967296)]) (x:=q) (W:=V) hVF.2).2;have hkq:=hqb.cell 0;simp only[List.getElem?_toArray,List.getElem?_cons_zero]at hkq;have HV1:=hid (HV3.out.below hVb);have hWV:=hid (HW3.out.trans (hVb.mono HW3.out.size));have hzV:w.heap.size<=V.heap.size:=hWV.out.size;have HE:=hid (show wqs f n++[.int .u32 (((wq f (n - 16)+bits BinOp.xor IntKind.u32 (bits BinOp.xor IntKind.u32 (rotl (wq f (n - 15)) 7) (rotl (wq f (n - 15)) 18)) (wq f (n - 15) / 8)+wq f (n - 7))%4294967296+bits BinOp.xor IntKind.u32 (bits BinOp.xor IntKind.u32 (rotl (wq f (n - 2)) 17) (rotl (wq f (n - 2)) 19)) (wq f (n - 2) / 1024))%4294967296)]=wqs f (n+1) by rw[<- wqs_succ,wq_hi f n hl hlt2,next_eq,Int.emod_add_emod]);have hlk:(wqs f n).length+1<=1099511627776:=by rw[wqs_len];omega
     clear hVF hqb hVb L0 L2 c0 c2 HV3 HW3
     go_wp2_with (at_builtin;refine wpList_appendV underlying189 infoU32 rfl (by decide) rfl (.tmp 103) (.tmp 119) rfl w.heap.size (.slice (some ⟨g,0,none⟩) n c) (wqs f n) rfl HV1.out hzV hlk ⟨q,0,none⟩ (.int .u32 (((wq f (n - 16)+bits BinOp.xor IntKind.u32 (bits BinOp.xor IntKind.u32 (rotl (wq f (n - 15)) 7) (rotl (wq f (n - 15)) 18)) (wq f (n - 15) / 8)+wq f (n - 7))%4294967296+bits BinOp.xor IntKind.u32 (bits BinOp.xor IntKind.u32 (rotl (wq f (n - 2)) 17) (rotl (wq f (n - 2)) 19)) (wq f (n - 2) / 1024))%4294967296)) rfl 1 rfl hkq ?_;intro v2 w2 hV2 hg2 ho2;rw[HE.out]at hV2;have HV2:=hid hV2;obtain⟨A2,c2,rfl⟩:=hV2.len (n:=n+1) (wqs_len _ _);have HG2:=hid hg2;clear hV2 hg2 ho2)
     obtain⟨g2,rfl⟩:=HV2.out.sm (by omega);have hg2l:=(HV2.out.own g2 rfl).2;go_roundw
     case rel=>exact⟨n+1,g2,c2,by omega,by omega,by go_num,rfl,hg2l,HV2,hid (hWV.out.trans (grown_base HV1.out HG2.out hzV))⟩
     case measure=>simp[intOf];omega
    ·have hn64:=hid (show n=64 by omega)
     obtain⟨ui,hui,hu0,hu1,hu2⟩:=infoU
     rename World=>Wn
     have hWn:=hW.out.size
     go_upto_region 14 with (first|(go_at_call 156;refine(consts_any _).mono ?_;rintro e w3 ⟨rfl,hC3,hb3⟩))
     have HC3:=hid hC3;have HV3:=hid (hV.out.below hb3);have HW3:=hid (hW.out.trans (hb3.mono hWn));have hz3:=hb3.size;have hgk:=hC3.lt;obtain⟨gk,hgk0⟩:∃gk,gk=Wn.heap.size:=⟨_,rfl⟩;rw[<- hgk0]at HC3 hgk ⊢;have hg3:g<w3.heap.size:=by omega
     clear hgk0 hC3 hb3 hV hW hgl;have HHr:Hid (Reads w3 w3.heap.size 1 (some ⟨gh,0,none⟩) 8 (u32s ((List.range 8).map (num hs)))):=hid ⟨by simp[u32s],λ_=>⟨gh,0,rfl,by have:=HW3.out.size;omega,λj u hj=>by
      have hj8:j<8:=by have:=(List.getElem?_eq_some_iff.1 hj).1;simpa[u32s]using this
      simp[u32s,List.getElem?_range hj8]at hj;rw[Nat.zero_add,HW3.out.cell (p:=⟨gh,j,none⟩) hgh,HH.out j hj8,<- hj]⟩⟩
     go_upto_region 15 with (first
      | (at_builtin
         refine wpList_append_any _ rfl (.tmp 122) (.tmp 123) 189 rfl w3.heap.size 179 ui _ 1 4 underlying189 hui hu0 hu1 hu2 rfl (by omega) (.slice none 0 0) 0 [] rfl
          (World.ownsRow_nil _ _ _ _) w3.heap.size (some ⟨gh,0,none⟩) 8 ch _ rfl HHr.out (by intro u hu;simp[u32s]at hu;obtain⟨j,_,rfl⟩:=hu;rfl) (by simp only[maxLen];omega) (by omega) (Nat.le_refl _) ?_
         intro v1 W4 hown1 hg1 hat1;have hown4:W4.ownsRow w3.heap.size 179 1 v1 8 (u32s ((List.range 8).map (num hs))):=by simpa using hown1
         obtain⟨g4,c4,rfl,hg4a,hg4b⟩:=hown4.form (by omega)))
     have HO4:=hid (show cells8 W4 g4 (W8.of hs)from cells8.of (λi hi=>by have:=hown4.cellAt i (by simp[u32s];omega);rw[this];simp[u32s,List.getElem?_range hi]));have hb4:Below w3.heap.size w3 W4:=(Below.refl _ w3).grown hg1 (Nat.le_refl _) (λk hk=>by simp[Value.ownBlock]at hk);have hz4:=hb4.size;have HV4:=hid (HV3.out.below hb4);have HC4:=hid (HC3.out.below hb4 hgk);have HW4:=hid (HW3.out.trans (hb4.mono HW3.out.size));obtain⟨B4,hB4⟩:∃B4,B4=W4.heap.size:=⟨_,rfl⟩;have hgB:g<B4:=by omega
     have hkB:gk<B4:=by omega
     have hg4B:g4<W4.heap.size:=hg4b;have HBB:=hid hB4;clear hown1 hown4 hg1 hat1 hb4 HV3 HC3 HW3 HHr hB4 hg3 hgk hg4a
     rename World=>Wz
     go_wp2_with fail
     go_loopw [11,12,13,14,15,16] (λv i _ _ _ _ wr=>∃(k g' c':Nat) (x:W8),k<=64/\i=.int .i64 k/\v=.slice (some ⟨g',0,none⟩) 8 c'/\g'<wr.heap.size/\Hid (cells8 wr g' x)/\Hid (x=rounds8 tabC (sched2 f 48) (W8.of hs) k)/\Hid (Below B4 Wz wr)) (λ_ i _ _ _ _ _=>64 - (intOf i).toNat)
     case atStart=>exact⟨0,g4,c4,_,by omega,rfl,rfl,hg4B,HO4,hid (rounds8_zero _ _ _).symm,hid (by rw[HBB.out];exact Below.refl _ _)⟩
     case round =>
      obtain⟨k,g',c',x,hk6,rfl,rfl,hg',hX,hx,hWz⟩:=hrel
      by_cases hlt3:k<64
      ·obtain⟨x0,x1,x2,x3,x4,x5,x6,x7⟩:=hX.out
       have ck:=(hWz.out.cell (p:=⟨gk,k,none⟩) hkB).trans ((HC4.out.cell k).trans (nums_tabC.at_ hlt3));have cw:=(hWz.out.cell (p:=⟨g,k,none⟩) hgB).trans (HV4.out.wq_at k (by have:=hn64.out;omega))
       go_upto_region 20 with (fail)
       have Lk:=Later.of ck;have Lw:=Later.of cw;have X0:=Later.of x0;have X5:=Later.of x5;have X6:=Later.of x6;have X7:=Later.of x7;refine Loose.wp_region_later [(4,.is (.int .u32 (rotl x.e 6))),(6,.is (.int .u32 (rotl x.e 11))),(9,.is (.int .u32 (rotl x.e 25)))] 36 (by kernel_rfl) (by kernel_rfl) ?_
       (simp only[List.take_succ_cons,List.take_zero,List.drop_succ_cons,List.drop_zero])
       (repeat(first|refine Loose.walk_skip rfl ?_|(refine Loose.walk_plain rfl rfl rfl λK h=>?_;go_big_quiet_op;refine h _ ?_;clear h K)))
       refine Loose.walk_loose rfl rfl (λW' hW' hF=>Loose.loose_call (f:=155) (args:=#[.int .u32 (x.e),.int .i64 6]) (by kernel_rfl) ((rotated_any W' (x.e) 6 (by decide) (by decide)).mono λe w' ⟨he,hb⟩=>⟨_,he,hb,rfl⟩)) ?_;rintro _ _ _ rfl
       (simp only[Act.put,List.setIfInBounds_toArray,List.set_cons_succ,List.set_cons_zero])
       (repeat(first|refine Loose.walk_skip rfl ?_|(refine Loose.walk_plain rfl rfl rfl λK h=>?_;go_big_quiet_op;refine h _ ?_;clear h K)))
       refine Loose.walk_loose rfl rfl (λW' hW' hF=>Loose.loose_call (f:=155) (args:=#[.int .u32 (x.e),.int .i64 11]) (by kernel_rfl) ((rotated_any W' (x.e) 11 (by decide) (by decide)).mono λe w' ⟨he,hb⟩=>⟨_,he,hb,rfl⟩)) ?_;rintro _ _ _ rfl
       (simp only[Act.put,List.setIfInBounds_toArray,List.set_cons_succ,List.set_cons_zero])
       (repeat(first|refine Loose.walk_skip rfl ?_|(refine Loose.walk_plain rfl rfl rfl λK h=>?_;go_big_quiet_op;refine h _ ?_;clear h K)))
       refine Loose.walk_loose rfl rfl (λW' hW' hF=>Loose.loose_call (f:=155) (args:=#[.int .u32 (x.e),.int .i64 25]) (by kernel_rfl) ((rotated_any W' (x.e) 25 (by decide) (by decide)).mono λe w' ⟨he,hb⟩=>⟨_,he,hb,rfl⟩)) ?_;rintro _ _ _ rfl
       (simp only[Act.put,List.setIfInBounds_toArray,List.set_cons_succ,List.set_cons_zero])
       (repeat(first|refine Loose.walk_skip rfl ?_|(refine Loose.walk_plain rfl rfl rfl λK h=>?_;go_big_quiet_op;refine h _ ?_;clear h K)))
       refine Loose.walk_nil ?_;rintro U hU -;obtain⟨T0,hT0⟩:∃T0,T0=((x.h+bits BinOp.xor IntKind.u32 (bits BinOp.xor IntKind.u32 (rotl x.e 6) (rotl x.e 11)) (rotl x.e 25)+bits BinOp.xor IntKind.u32 (bits BinOp.and IntKind.u32 x.e x.f) (bits BinOp.and IntKind.u32 (bits BinOp.xor IntKind.u32 (if IntKind.u32.signed=true then -1 else IntKind.u32.max) x.e) x.g)+num tabC k)%4294967296+wq f k)%4294967296:=⟨_,rfl⟩;rw[<- hT0];have HT0:=hid (show T0=x.t (num tabC k) (wq f k) by rw[hT0,t_eq,Int.emod_add_emod];rfl);have hXU:=hX.out.below hU hg';have HWU:=hid (hWz.out.trans (hU.mono (by have:=hWz.out.size;have:=HBB.out;omega)));have hgU:g'<U.heap.size:=by have:=hU.size;omega
       have HXU:=hid hXU;clear hT0 X0 X5 X6 X7 Lk Lw x0 x1 x2 x3 x4 x5 x6 x7 ck cw hU hX hWz hg';obtain⟨x0,x1,x2,x3,x4,x5,x6,x7⟩:=hXU
       go_upto_region 21 with (fail)
       have X1:=Later.of x1;have X2:=Later.of x2;refine Loose.wp_region_later [(1,.is (.int .u32 (rotl x.a 2))),(3,.is (.int .u32 (rotl x.a 13))),(6,.is (.int .u32 (rotl x.a 22)))] 29 (by kernel_rfl) (by kernel_rfl) ?_
       (simp only[List.take_succ_cons,List.take_zero,List.drop_succ_cons,List.drop_zero])
       (repeat(first|refine Loose.walk_skip rfl ?_|(refine Loose.walk_plain rfl rfl rfl λK h=>?_;go_big_quiet_op;refine h _ ?_;clear h K)))
       refine Loose.walk_loose rfl rfl (λW' hW' hF=>Loose.loose_call (f:=155) (args:=#[.int .u32 (x.a),.int .i64 2]) (by kernel_rfl) ((rotated_any W' (x.a) 2 (by decide) (by decide)).mono λe w' ⟨he,hb⟩=>⟨_,he,hb,rfl⟩)) ?_;rintro _ _ _ rfl
       (simp only[Act.put,List.setIfInBounds_toArray,List.set_cons_succ,List.set_cons_zero])
       (repeat(first|refine Loose.walk_skip rfl ?_|(refine Loose.walk_plain rfl rfl rfl λK h=>?_;go_big_quiet_op;refine h _ ?_;clear h K)))
       refine Loose.walk_loose rfl rfl (λW' hW' hF=>Loose.loose_call (f:=155) (args:=#[.int .u32 (x.a),.int .i64 13]) (by kernel_rfl) ((rotated_any W' (x.a) 13 (by decide) (by decide)).mono λe w' ⟨he,hb⟩=>⟨_,he,hb,rfl⟩)) ?_;rintro _ _ _ rfl
       (simp only[Act.put,List.setIfInBounds_toArray,List.set_cons_succ,List.set_cons_zero])
       (repeat(first|refine Loose.walk_skip rfl ?_|(refine Loose.walk_plain rfl rfl rfl λK h=>?_;go_big_quiet_op;refine h _ ?_;clear h K)))
       refine Loose.walk_loose rfl rfl (λW' hW' hF=>Loose.loose_call (f:=155) (args:=#[.int .u32 (x.a),.int .i64 22]) (by kernel_rfl) ((rotated_any W' (x.a) 22 (by decide) (by decide)).mono λe w' ⟨he,hb⟩=>⟨_,he,hb,rfl⟩)) ?_;rintro _ _ _ rfl
       (simp only[Act.put,List.setIfInBounds_toArray,List.set_cons_succ,List.set_cons_zero])
       (repeat(first|refine Loose.walk_skip rfl ?_|(refine Loose.walk_plain rfl rfl rfl λK h=>?_;go_big_quiet_op;refine h _ ?_;clear h K)))
       refine Loose.walk_nil ?_;rintro U2 hU2 -;obtain⟨U0,hU0⟩:∃U0,U0=(bits BinOp.xor IntKind.u32 (bits BinOp.xor IntKind.u32 (rotl x.a 2) (rotl x.a 13)) (rotl x.a 22)+bits BinOp.xor IntKind.u32 (bits BinOp.xor IntKind.u32 (bits BinOp.and IntKind.u32 x.a x.b) (bits BinOp.and IntKind.u32 x.a x.c)) (bits BinOp.and IntKind.u32 x.b x.c))%4294967296:=⟨_,rfl⟩;rw[<- hU0];have HU0:=hid (show U0=x.u by rw[hU0,u_eq]);have hXU2:=HXU.out.below hU2 hgU;have HWU2:=hid (HWU.out.trans (hU2.mono (by have:=HWU.out.size;have:=HBB.out;omega)));have hgU2:g'<U2.heap.size:=by have:=hU2.size;omega
       clear hU0 X1 X2 x0 x1 x2 x3 x4 x5 x6 x7 hU2 HXU HWU hgU;obtain⟨x0,x1,x2,x3,x4,x5,x6,x7⟩:=hXU2
       go_upto_region 22 with (fail)
       have X1:=Later.of x1;have X2:=Later.of x2;have X3:=Later.of x3;have X5:=Later.of x5;have X6:=Later.of x6;refine Loose.wp_region_later [(22,.row U2.heap.size 179 8 #[.int .u32 ((T0+U0)%4294967296),.int .u32 x.a,.int .u32 x.b,.int .u32 x.c,.int .u32 ((x.d+T0)%4294967296),.int .u32 x.e,.int .u32 x.f,.int .u32 x.g])] 24 (by kernel_rfl) (by kernel_rfl) ?_
       (simp only[List.take_succ_cons,List.take_zero,List.drop_succ_cons,List.drop_zero])
       (repeat(first|refine Loose.walk_skip rfl ?_|(refine Loose.walk_plain rfl rfl rfl λK h=>?_;go_big_quiet_op;refine h _ ?_;clear h K)))
       refine Loose.walk_loose rfl rfl (λW' hW' _=>Loose.loose_val (u:=.slice (.some ⟨W'.heap.size,0,none⟩) 8 8) (W':=W'.alloc (.cells #[.int .u32 ((T0+U0)%4294967296),.int .u32 x.a,.int .u32 x.b,.int .u32 x.c,.int .u32 ((x.d+T0)%4294967296),.int .u32 x.e,.int .u32 x.f,.int .u32 x.g] 179)) (by kernel_rfl) ((Below.refl _ _).alloc (Nat.le_refl _) _) ⟨_,rfl,hW'.size,Blk.new _ _ _⟩) ?_;rintro _ _ _ ⟨q,rfl,hq,_⟩
       (simp only[Act.put,List.setIfInBounds_toArray,List.set_cons_succ,List.set_cons_zero])
       (repeat(first|refine Loose.walk_skip rfl ?_|(refine Loose.walk_plain rfl rfl rfl λK h=>?_;go_big_quiet_op;refine h _ ?_;clear h K)))
       refine Loose.walk_nil ?_;rintro V hVb hVF;have hqb:=(Loose.Pred.row_at (B:=U2.heap.size) (t:=179) (n:=8) (cs:=#[.int .u32 ((T0+U0)%4294967296),.int .u32 x.a,.int .u32 x.b,.int .u32 x.c,.int .u32 ((x.d+T0)%4294967296),.int .u32 x.e,.int .u32 x.f,.int .u32 x.g]) (x:=q) (W:=V) hVF.2).2;have HXn:=hid (show cells8 V q (x.step (num tabC k) (num (sched2 f 48) k)) by
        refine cells8.blk ?_;rw[HT0.out,HU0.out,wq_num]at hqb;exact hqb)
       have hqV:=hqb.lt;have HWV:=hid (HWU2.out.trans (hVb.mono (by have:=HWU2.out.size;have:=HBB.out;omega)));clear X1 X2 X3 X5 X6 x0 x1 x2 x3 x4 x5 x6 x7 hVb hVF hqb HWU2 hgU2
       go_wp2_with fail
       go_roundw
       case rel=>exact⟨k+1,q,8,_,by omega,by go_num,rfl,hqV,HXn,hid (by rw[rounds8_succ,<- hx.out]),HWV⟩
       case measure=>simp[intOf];omega
      ·have hk64:=hid (show k=64 by omega)
       have hX64:=hid (show x=rounds8 tabC (sched2 f 48) (W8.of hs) 64 by rw[hx.out,hk64.out]);have HHz:=hid (λi (hi:i<8)=>(hWz.out.cell (p:=⟨gh,i,none⟩) (by have:=HW4.out.size;have:=HBB.out;simp only;omega)).trans ((HW4.out.cell (p:=⟨gh,i,none⟩) hgh).trans (HH.out i hi)));have HWr:=hid (HW4.out.trans (hWz.out.mono (by have:=HW4.out.size;have:=HBB.out;omega)));have hXc:=hid (cells8.at_ hX.out);have hgw:=HWr.out.size
       rename World=>Wy
       go_wp2_with fail
       go_loopw [17,18] (λv i wr=>∃(j:Nat) (A:Option Addr) (c:Nat),j<=8/\i=.int .i64 j/\v=.slice A j c/\Hid (Vs wr Wy.heap.size (.slice A j c) (outs hs x j))/\Hid (Below Wy.heap.size Wy wr)) (λ_ i _=>8 - (intOf i).toNat)
       case atStart=>exact⟨0,none,0,by omega,rfl,rfl,hid (Vs.nil _ _),hid (Below.refl _ _)⟩
       case round =>
        obtain⟨j,A,c,hj,rfl,rfl,hV,hWy⟩:=hrel
        by_cases hlt4:j<8
        ·have ch_:=(hWy.out.cell (p:=⟨gh,j,none⟩) (by simp only;omega)).trans (HHz.out j hlt4)
         have cx:=(hWy.out.cell (p:=⟨g',j,none⟩) hg').trans (hXc.out j hlt4);have Lh:=Later.of ch_;have Lx:=Later.of cx
         go_wp2_with fail
         refine Loose.wp_region_later [(10,.row wr.heap.size 179 1 #[.int .u32 ((num hs j+num x.cells j)%4294967296)])] 11 (by kernel_rfl) (by kernel_rfl) ?_
         (simp only[List.take_succ_cons,List.take_zero,List.drop_succ_cons,List.drop_zero])
         (repeat(first|refine Loose.walk_skip rfl ?_|(refine Loose.walk_plain rfl rfl rfl λK h=>?_;go_big_quiet_op;refine h _ ?_;clear h K)))
         refine Loose.walk_loose rfl rfl (λW' hW' _=>Loose.loose_val (u:=.slice (.some ⟨W'.heap.size,0,none⟩) 1 1) (W':=W'.alloc (.cells #[.int .u32 ((num hs j+num x.cells j)%4294967296)] 179)) (by kernel_rfl) ((Below.refl _ _).alloc (Nat.le_refl _) _) ⟨_,rfl,hW'.size,Blk.new _ _ _⟩) ?_;rintro _ _ _ ⟨q,rfl,hq,_⟩
         (simp only[Act.put,List.setIfInBounds_toArray,List.set_cons_succ,List.set_cons_zero])
         (repeat(first|refine Loose.walk_skip rfl ?_|(refine Loose.walk_plain rfl rfl rfl λK h=>?_;go_big_quiet_op;refine h _ ?_;clear h K)))
         refine Loose.walk_nil ?_;rintro V hVb hVF;have hqb:=(Loose.Pred.row_at (B:=wr.heap.size) (t:=179) (n:=1) (cs:=#[.int .u32 ((num hs j+num x.cells j)%4294967296)]) (x:=q) (W:=V) hVF.2).2;have hkq:=hqb.cell 0;simp only[List.getElem?_toArray,List.getElem?_cons_zero]at hkq;have HV1:=hid (hV.out.below hVb);have hWV:=hid (hWy.out.trans (hVb.mono hWy.out.size));have hzV:Wy.heap.size<=V.heap.size:=hWV.out.size;have HE:=hid (show outs hs x j++[.int .u32 ((num hs j+num x.cells j)%4294967296)]=outs hs x (j+1)from(outs_succ hs x j).symm);have hlk:(outs hs x j).length+1<=1099511627776:=by rw[outs_len];omega
         clear hVF hqb hVb Lh Lx ch_ cx hV hWy
         go_wp2_with (at_builtin;refine wpList_appendV underlying189 infoU32 rfl (by decide) rfl (.tmp 225) (.tmp 235) rfl Wy.heap.size (.slice A j c) (outs hs x j) rfl HV1.out hzV hlk ⟨q,0,none⟩ (.int .u32 ((num hs j+num x.cells j)%4294967296)) rfl 1 rfl hkq ?_;intro v2 w2 hV2 hg2 ho2;rw[HE.out]at hV2;have HV2:=hid hV2;obtain⟨A2,c2,rfl⟩:=hV2.len (n:=j+1) (outs_len _ _ _);have HG2:=hid hg2;clear hV2 hg2 ho2)
         go_roundw
         case rel=>exact⟨j+1,A2,c2,by omega,by go_num,rfl,HV2,hid (hWV.out.trans (grown_base HV1.out HG2.out hzV))⟩
         case measure=>simp[intOf];omega
        ·have hj8:=hid (show j=8 by omega)
         go_wp2_with fail
         go_ret;exact⟨A,c,by rw[hj8.out];rfl,by rw[nums_addF' tabC f HN.out,<- hX64.out];have:=hV.out;rw[hj8.out]at this;exact vs_base this hgw,HWr.out.trans (hWy.out.mono hgw)⟩
end
end Go.Proofs.YtnehgpeelgjjhaaGreatDoor.Tw
