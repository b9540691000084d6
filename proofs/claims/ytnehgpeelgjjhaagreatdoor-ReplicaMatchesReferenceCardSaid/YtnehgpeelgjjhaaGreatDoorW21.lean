/- Contracts of functions of the program, and plain laws, towards the laws of replicas. Joined of the texts: R21, R22, R28, V8, V9, H4, V2. -/
import Derived.Test.YtnehgpeelgjjhaaGreatDoorW20
import Derived.Test.YtnehgpeelgjjhaaGreatDoorW12
import Derived.Test.YtnehgpeelgjjhaaGreatDoorW19
import Derived.Test.YtnehgpeelgjjhaaGreatDoorW15
import Derived.Test.YtnehgpeelgjjhaaGreatDoorW16
import Derived.Test.YtnehgpeelgjjhaaGreatDoorW17
set_option linter.all false
set_option maxRecDepth 100000
set_option maxHeartbeats 12800000
open Go.Lib (hid)
namespace Go.Proofs.YtnehgpeelgjjhaaGreatDoor.Tw
open Go.Proofs.Tryz
section
open Go.RowKit Go.Shelf
attribute [local irreducible] sumF markF leafF nodeF
attribute [local go_sem] Oper.semAt_some
def noneF (tab:Array Value):ByteArray:=strOfNums (sumF tab ⟨#[]⟩)
def rootX (tab:Array Value)(xs:List ByteArray):ByteArray:=Rp.rootR (leafF tab) (nodeF tab) (noneF tab) xs
def castI (l:List Nat):List Int:=l.map fun(n:Nat)=>(n:Int)
def SX (tab:Array Value)(xs l:List ByteArray)(ns:List Int):Prop:=∃nn,ns=castI nn/\Rp.Stacked (leafF tab) (nodeF tab) (noneF tab) xs l nn
def SY (tab:Array Value)(xs l:List ByteArray)(ns:List Int):Prop:=∃nn,ns=castI nn/\Rp.Stack (leafF tab) (nodeF tab) (noneF tab) xs l nn
section
variable {tab:Array Value} {xs l:List ByteArray} {ns:List Int}
theorem SX.nil :SX tab [] [] []:=⟨[],rfl,Rp.Stacked.nil⟩
theorem SX.push (h:SX tab xs l ns)(x:ByteArray):SY tab (xs++[x]) (l++[leafF tab x]) (ns++[1]):=by
 obtain⟨nn,rfl,h⟩:=h;exact⟨nn++[1],by simp[castI],h.push x⟩
theorem SX.pushTake {k:Nat}{x:ByteArray}(h:SX tab (xs.take k) l ns)(hx:xs[k]?=some x):SY tab (xs.take (k+1)) (l++[leafF tab x]) (ns++[1]):=by
 have:=h.push x;rw[List.take_add_one,hx];exact this
theorem castI_get (nn:List Nat)(i:Nat):(castI nn)[i]?=(nn[i]?).map fun(n:Nat)=>(n:Int):=by simp[castI]
theorem two_back {α:Type}{l:List α}{p:Nat}{a b:α}(hl:l.length=p)(hp:2<=p)(ha:l[p - 2]?=some a)(hb:l[p - 1]?=some b):l=l.take (p - 2)++[a,b]:=by
 have h1:l.drop (p - 2)=[a,b]:=by
  have ha':p - 2<l.length:=by omega
  have hb':p - 2+1<l.length:=by omega
  rw[List.drop_eq_getElem_cons ha',List.drop_eq_getElem_cons hb',List.drop_of_length_le (by omega)];rw[List.getElem?_eq_getElem ha']at ha;rw[show p - 1=p - 2+1 by omega,List.getElem?_eq_getElem hb']at hb;injection ha with ha
  injection hb with hb
  rw[ha,hb]
 rw[<- h1,List.take_append_drop]
theorem SY.done1 {p:Nat}(h:SY tab xs l ns)(hl:l.length=1):SX tab xs l ns:=by
 obtain⟨nn,rfl,h⟩:=h;have h2:=h.len
 match l,nn,hl,h2 with
 | [a],[k],_,_=>exact⟨[k],rfl,h.done1⟩
theorem SY.done {p:Nat}{y1 y2:Int}(h:SY tab xs l ns)(hl:ns.length=p)(hp:2<=p)(h1:ns[p - 2]?=some y1)(h2:ns[p - 1]?=some y2)(hy:y1≠y2):SX tab xs l ns:=by
 obtain⟨nn,rfl,h⟩:=h;rw[castI_get]at h1 h2;obtain⟨k1,e1,rfl⟩:=Option.map_eq_some_iff.1 h1;obtain⟨k2,e2,rfl⟩:=Option.map_eq_some_iff.1 h2;have e:=two_back (p:=p) (by simpa[castI]using hl) hp e1 e2;refine⟨nn,rfl,?_⟩;rw[e]at h ⊢;exact h.done (by omega)
theorem SY.join {p:Nat}{y:Int}{d1 d2:ByteArray}(h:SY tab xs l ns)(hl:l.length=p)(hn:ns.length=p)(hp:2<=p)(h1:l[p - 2]?=some d1)(h2:l[p - 1]?=some d2)(h3:ns[p - 2]?=some y)(h4:ns[p - 1]?=some y) :
 SY tab xs (l.take (p - 2)++[nodeF tab d1 d2]) (ns.take (p - 2)++[2*y]):=by
 obtain⟨nn,rfl,h⟩:=h;rw[castI_get]at h3 h4;obtain⟨k1,e1,rfl⟩:=Option.map_eq_some_iff.1 h3;obtain⟨k2,e2,e⟩:=Option.map_eq_some_iff.1 h4;obtain rfl:k2=k1:=by omega
 rw[two_back hl hp h1 h2,two_back (p:=p) (by simpa[castI]using hn) hp e1 e2]at h;refine⟨nn.take (p - 2)++[2*k2],by simp[castI,List.map_take],h.join⟩
theorem SY.bound {i:Nat}{y:Int}(h:SY tab xs l ns)(hy:ns[i]?=some y):0<=y/\y<=xs.length:=by
 obtain⟨nn,rfl,h⟩:=h;rw[castI_get]at hy;obtain⟨k1,e1,rfl⟩:=Option.map_eq_some_iff.1 hy;have:=h.le k1 (List.mem_of_getElem? e1);omega
theorem SX.root {d:ByteArray}(h:SX tab xs (l++[d]) ns):l.foldr (nodeF tab) d=rootX tab xs:=by
 obtain⟨nn,_,h⟩:=h;exact h.root
end
theorem finRange_fold {α β:Type}(f:α->β->β)(S:Nat->α):∀(k:Nat) (d:β),(List.finRange k).foldl (λd x=>f (S (k - 1 - x.val)) d) d=((List.range k).map S).foldr f d
 | 0,d=>rfl
 | k+1,d=>by
   rw[List.finRange_succ,List.foldl_cons,List.foldl_map,List.range_succ,List.map_append,List.foldr_append];rw[<- finRange_fold f S k];have:∀x:Fin k,k+1 - 1 - x.succ.val=k - 1 - x.val:=λx=>by simp;omega
   simp only[this];rfl
theorem Stk.n2 {w:World}{B g n c:Nat}{v:Value}{l:List ByteArray}{ns:List Int}(h:Stk w B v (.slice (.some ⟨g,0,none⟩) n c) l ns)(i:Nat)(hi:i<ns.length):∃y,ns[i]?=.some y/\w.cell? ⟨g,i,none⟩=.some (.int .i64 y):=by
 refine⟨ns[i],List.getElem?_eq_getElem hi,?_⟩;have:=h.sizes.at_ i (by simpa[ints]using hi);simpa[ints]using this
def BothX (tab:Array Value)(xs:List ByteArray)(w:World)(b g g' p c c':Nat):Prop:=∃l ns,l.length=p/\ns.length=p/\(∀d∈l,d.size=32)/\Stk w b (.slice (.some ⟨g,0,none⟩) p c) (.slice (.some ⟨g',0,none⟩) p c') l ns/\SY tab xs l ns
structure BX (f:ByteArray->ByteArray->ByteArray) (S:Nat->ByteArray) (m:Nat) (d0:ByteArray) (w w4:World) (p:Nat) (pre:List (Fin m)) (W:World):Prop where
 out:Blk W p 9 #[.string (pre.foldl (λd x=>f (S (m - 1 - x.val)) d) d0)]
 keep:KeepB w4.heap.size p w4 W
 low:Below w.heap.size w W
theorem BX.own {f:ByteArray->ByteArray->ByteArray}{S:Nat->ByteArray}{m:Nat}{d0:ByteArray}{w w4:World}{p:Nat}(hw:w.heap.size<=w4.heap.size):OwnFrom w4.heap.size (fun(pre:List (Fin m)) W=>BX f S m d0 w w4 p pre W):=by
 rintro s A C row ⟨h2,h6,h7⟩ hg hr;refine⟨blk_own w4.heap.size _ _ _ () A C row h2 hg hr,h6.grown hg (λr e=>(hr r e).1) (Nat.le_refl _),?_⟩;refine⟨hg.os.trans h7.os,hg.tape.trans h7.tape,hg.output.trans h7.output,Nat.le_trans h7.size hg.size,λk hk=>?_⟩;have hnk:(Option.some k:Option Nat)≠row:=λe=>by have:=(hr k e.symm).1;omega
 exact(hg.block k (Nat.lt_of_lt_of_le hk h7.size) hnk).trans (h7.block k hk)
theorem fold32 {m:Nat}{f:ByteArray->ByteArray->ByteArray}{S:Nat->ByteArray}(hf:∀a b,(f a b).size=32):∀(pre:List (Fin m)) (d:ByteArray),d.size=32->(pre.foldl (λd x=>f (S (m - 1 - x.val)) d) d).size=32
 | [],_,h=>h
 | x::pre,d,h=>fold32 hf pre _ (hf _ _)
theorem root_of {tab:Array Value}{xs l:List ByteArray}{ns:List Int}{k n m:Nat}{d0:ByteArray}(hkn:k=n)(hN:xs.length=n)(hll:l.length=m)(hm:0<m)(hd0:l[m - 1]?=some d0)(h:SX tab (xs.take k) l ns) :
 ((List.range (m - 1)).map (λi=>l[i]?.getD ⟨#[]⟩)).foldr (nodeF tab) d0=rootX tab xs:=by
 rw[List.take_of_length_le (by omega)]at h;have hl:l=(List.range (m - 1)).map (λi=>l[i]?.getD ⟨#[]⟩)++[d0]:=by
  apply List.ext_getElem?;intro i
  by_cases hi:i<m - 1
  ·rw[List.getElem?_append_left (by simpa using hi),List.getElem?_map,List.getElem?_range hi,List.getElem?_eq_getElem (by omega)]
   simp[List.getElem?_eq_getElem (show i<l.length by omega)]
  ·rw[List.getElem?_append_right (by simp;omega)]
   by_cases hi2:i=m - 1
   ·subst hi2
    simp[hd0]
   ·rw[List.getElem?_eq_none (by omega),List.getElem?_eq_none (by simp;omega)]
 rw[hl]at h;exact h.root
theorem rootX_any (w:World)(bk c n:Nat)(xs:List ByteArray)(tab:Array Value)(hT:Tab w tab)(hX:∀(j:Nat) x,xs[j]?=some x->w.cell? ⟨bk,j,none⟩=some (.string x))(hbk:bk<w.heap.size)(hn0:0<n)(hn:n<=1000)(hn':xs.length=n)(hc:n<=c)(hs:∀x∈xs,x.size<=900000000) :
 Calls prog 51 #[.slice (some ⟨bk,0,none⟩) n c] w λe w'=>∃d:ByteArray,e=.returned (.string d)/\(d=rootX tab xs/\d.size=32)/\Below w.heap.size w w':=by
 have HT:=hid hT;have HX:=hid hX;have HS:=hid hs;have HN:=hid hn';have h0:0<w.heap.size:=HT.out.1.lt;clear hT hX hs hn';refine calls_of_marks func51 rfl ?_;simp only[ntmps51,List.size_toArray,List.length_cons,List.length_nil,Nat.reduceAdd,Nat.reduceSub,Array.replicate_succ,Array.replicate_zero,List.push_toArray,List.append_toArray,List.nil_append,List.cons_append]
 go_wp2_with fail
 go_loopw [3,4,13] (λv u i wr=>∃(k:Nat) (l:List ByteArray) (ns:List Int) (A A':Option Addr) (m c1 c2:Nat),k<=n/\i=.int .i64 k/\v=.slice A m c1/\u=.slice A' m c2/\m<=k/\(0<k->0<m)/\Hid (SX tab (xs.take k) l ns)/\Hid (l.length=m/\ns.length=m/\∀d∈l,d.size=32)/\Hid (Stk wr w.heap.size (.slice A m c1) (.slice A' m c2) l ns)/\Hid (Below w.heap.size w wr)) (λ_ _ i _=>n - (intOf i).toNat)
 case atStart=>exact⟨0,[],[],none,none,0,0,0,by omega,rfl,rfl,rfl,by omega,by omega,hid SX.nil,hid ⟨rfl,rfl,by simp⟩,hid ⟨Vs.nil _ _,Vs.nil _ _,.inl rfl⟩,hid (Below.refl _ _)⟩
 case round =>
  obtain⟨k,l,ns,A,A',m,c1,c2,hk,rfl,rfl,rfl,hmk,hm0,hSX,hL,hS,hW⟩:=hrel
  by_cases hlt:k<n
  ·obtain⟨x,hx⟩:∃x,xs[k]?=some x:=by
    have hlt':k<xs.length:=by rw[HN.out];exact hlt
    exact⟨xs[k],List.getElem?_eq_getElem hlt'⟩
   have hcx:=(hW.out.cell (p:=⟨bk,k,none⟩) hbk).trans (HX.out k x hx);have hxs:=HS.out x (List.mem_of_getElem? hx);have HXX:=hid hx;clear hx
   go_wp2_with fail
   refine(leaf_any wr x tab ⟨HT.out.1.below hW.out h0,HT.out.2⟩ hxs).mono ?_;rintro e w1 ⟨rfl,h1⟩;obtain⟨d,hd⟩:∃d,d=leafF tab x:=⟨_,rfl⟩;have hd32:Hid (d.size=32):=hid (by rw[hd];exact leafF_size _ _);have HSY:=hid (hSX.out.pushTake HXX.out);rw[<- hd]at HSY;rw[<- hd];clear hd;have hzw:=hW.out.size;have hz1:=h1.size;have HS1:=hid ((hS.out.below h1).below ((Below.refl _ w1).alloc (Nat.le_refl _) (.cells #[.string d] 9)));have HW1:=hid ((hW.out.trans (h1.mono hzw)).alloc (by omega) (.cells #[.string d] 9));have hk1:(w1.alloc (.cells #[.string d] 9)).cell? ⟨w1.heap.size,0,none⟩=some (.string d):=(Blk.new w1 9 #[.string d]).cell 0;have hzb1:w.heap.size<=(w1.alloc (.cells #[.string d] 9)).heap.size:=by simp;omega
   have hl1:(strs l).length+1<=1099511627776:=by simp[strs,hL.out.1];omega
   have hl2:(ints ns).length+1<=1099511627776:=by simp[ints,hL.out.2.1];omega
   go_wp2_with (first
    | (at_builtin;refine wpList_appendV underlying86 info9 rfl (by decide) rfl (.tmp 17) (.tmp 20) rfl w.heap.size (.slice A m c1) (strs l) rfl HS1.out.whole hzb1 hl1 ⟨w1.heap.size,0,none⟩ (.string d) rfl 1 rfl hk1 ?_;intro v2 w2 hV2 hg2 ho2;obtain⟨A2,c3,rfl⟩:=hV2.len (n:=m+1) (by simp[strs,hL.out.1]);have HS2:=hid ((HS1.out.pushW hV2 hg2 ho2).below ((Below.refl _ w2).alloc (Nat.le_refl _) (.cells #[.int .i64 1] 3)));have HW2:=hid ((HW1.out.trans (grown_base HS1.out.whole hg2 hzb1)).alloc (by have:=hg2.size;omega) (.cells #[.int .i64 1] 3));have hk2:(w2.alloc (.cells #[.int .i64 1] 3)).cell? ⟨w2.heap.size,0,none⟩=some (.int .i64 1):=(Blk.new w2 3 #[.int .i64 1]).cell 0;have hzb2:w.heap.size<=(w2.alloc (.cells #[.int .i64 1] 3)).heap.size:=HW2.out.size;clear hV2 hg2 ho2)
    | (at_builtin;refine wpList_appendV underlying24 infoI3 rfl (by decide) rfl (.tmp 22) (.tmp 23) rfl w.heap.size (.slice A' m c2) (ints ns) rfl HS2.out.sizes hzb2 hl2 ⟨w2.heap.size,0,none⟩ (.int .i64 1) rfl 1 rfl hk2 ?_;intro v3 w3 hV3 hg3 ho3;obtain⟨A3,c4,rfl⟩:=hV3.len (n:=m+1) (by simp[ints,hL.out.2.1]);have HS3:=hid (HS2.out.pushS hV3 hg3 ho3);have HW3:=hid (HW2.out.trans (grown_base HS2.out.sizes hg3 hzb2));clear hV3 hg3 ho3))
   obtain⟨g,rfl⟩:=HS3.out.whole.sm (by omega);obtain⟨g',rfl⟩:=HS3.out.sizes.sm (by omega);have HB3:Hid (BothX tab (xs.take (k+1)) w3 w.heap.size g g' (m+1) c3 c4):=hid ⟨_,_,by simp[hL.out.1],by simp[hL.out.2.1],(λy hy=>by
    rcases List.mem_append.1 hy with h|h
    ·exact hL.out.2.2 y h
    ·simp at h;subst h;exact hd32.out),HS3.out,HSY.out⟩
   have hb1:=HW1.out.size;clear HS1 HS2 HS3 HW1 HW2 hk1 hk2 hzb1 hzb2 hl1 hl2 h1 hcx hS hW
   go_loopw [3,4,7] (λv u i wr=>∃(p:Nat) (g g' c c':Nat),1<=p/\p<=m+1/\i=.int .i64 p/\v=.slice (some ⟨g,0,none⟩) p c/\u=.slice (some ⟨g',0,none⟩) p c'/\Hid (BothX tab (xs.take (k+1)) wr w.heap.size g g' p c c')/\Hid (Below w.heap.size w wr)) (λ_ _ i _=>(intOf i).toNat)
   case atStart=>exact⟨m+1,g,g',c3,c4,by omega,by omega,by go_num,rfl,rfl,HB3,HW3⟩
   case round =>
    clear HB3 HW3;obtain⟨p,g,g',c3,c4,hp1,hp2,rfl,rfl,rfl,hB,hW⟩:=hrel;obtain⟨l,ns,hll,hnl,hgood,hS,hsy⟩:=hB.out;have HSy:=hid hsy;clear hsy HSY
    by_cases h1p:1<p
    ·obtain⟨y1,hq1,hy1⟩:=hS.n2 (p - 2) (by omega)
     obtain⟨y2,hq2,hy2⟩:=hS.n2 (p - 1) (by omega);have HQ1:=hid hq1;have HQ2:=hid hq2;have HNe:=hid (fun(hne:y1≠y2)=>SY.done HSy.out hnl (by omega) hq1 hq2 hne);clear hq1 hq2;have L1:=Later.of hy1;have L2:=Later.of hy2;have hgd:decide ((1:Int)<(p:Int))=true:=by simp;omega
     have HG:=hid hgd;clear hgd
     go_wp2_with fail
     refine Loose.wp_region_later [] 15 (by kernel_rfl) (by kernel_rfl) ?_
     (simp only[List.take_succ_cons,List.take_zero,List.drop_succ_cons,List.drop_zero])
     iterate 3 (refine Loose.walk_plain rfl rfl rfl λK h=>?_;go_big_quiet_op;refine h _ ?_;clear h K)
     rw[HG.out]
     iterate 12 (refine Loose.walk_plain rfl rfl rfl λK h=>?_;go_big_quiet_op;refine h _ ?_;clear h K)
     refine Loose.walk_nil ?_;rintro U hU -;have HWU:=hid (hW.out.trans (hU.mono hW.out.size));have HSU:=hid (hS.below hU);clear L1 L2 hy1 hy2
     by_cases hyy:y1=y2
     ·subst hyy
      have hcp:=HSU.out.whole.cap;have hcp':=HSU.out.sizes.cap;simp only[strs,ints,List.length_map,hll,hnl]at hcp hcp';obtain⟨d1,hd1,hc1⟩:=HSU.out.d (p - 2) (by omega);obtain⟨d2,hd2,hc2⟩:=HSU.out.d (p - 1) (by omega);obtain⟨y2,hy2⟩:=HSU.out.n (p - 1) (by omega);have hs1:=hgood d1 (List.mem_of_getElem? hd1);have hs2:=hgood d2 (List.mem_of_getElem? hd2);have HG1:=hid (And.intro hs1 hs2);have HJ:=hid (SY.join HSy.out hll hnl (by omega) hd1 hd2 HQ1.out HQ2.out);have HYb:=hid (SY.bound HSy.out HQ2.out);clear hs1 hs2 hd1 hd2;have L1:=Later.of hc1;have L2:=Later.of hc2
      go_wp2_with fail
      refine Loose.wp_region_later [(14,.is (.string (nodeF tab d1 d2))),(15,.row U.heap.size 9 1 #[.string (nodeF tab d1 d2)])] 16 (by kernel_rfl) (by kernel_rfl) ?_
      (simp only[List.take_succ_cons,List.take_zero,List.drop_succ_cons,List.drop_zero])
      (repeat(first|refine Loose.walk_skip rfl ?_|(refine Loose.walk_plain rfl rfl rfl λK h=>?_;go_big_quiet_op;refine h _ ?_;clear h K)))
      refine Loose.walk_loose rfl rfl (λW' hW' hF=>Loose.loose_call (f:=76) (args:=#[.string d1,.string d2]) (by kernel_rfl) ((node_any W' d1 d2 tab ⟨(HT.out.1.below HWU.out h0).below hW' (by have:=HWU.out.size;omega),HT.out.2⟩ (by have:=HG1.out.1;omega) (by have:=HG1.out.2;omega)).mono λe w' ⟨he,hb⟩=>⟨_,he,hb,rfl⟩)) ?_;rintro _ _ _ rfl
      (simp only[Act.put,List.setIfInBounds_toArray,List.set_cons_succ,List.set_cons_zero])
      (repeat(first|refine Loose.walk_skip rfl ?_|(refine Loose.walk_plain rfl rfl rfl λK h=>?_;go_big_quiet_op;refine h _ ?_;clear h K)))
      refine Loose.walk_loose rfl rfl (λW' hW' _=>Loose.loose_val (u:=.slice (.some ⟨W'.heap.size,0,none⟩) 1 1) (W':=W'.alloc (.cells #[.string (nodeF tab d1 d2)] 9)) (by kernel_rfl) ((Below.refl _ _).alloc (Nat.le_refl _) _) ⟨_,rfl,hW'.size,Blk.new _ _ _⟩) ?_;rintro _ _ _ ⟨q,rfl,hq,_⟩
      (simp only[Act.put,List.setIfInBounds_toArray,List.set_cons_succ,List.set_cons_zero])
      (repeat(first|refine Loose.walk_skip rfl ?_|(refine Loose.walk_plain rfl rfl rfl λK h=>?_;go_big_quiet_op;refine h _ ?_;clear h K)))
      refine Loose.walk_nil ?_;rintro V hVb hVF;have hqb:=(Loose.Pred.row_at (B:=U.heap.size) (t:=9) (n:=1) (cs:=#[.string (nodeF tab d1 d2)]) (x:=q) (W:=V) hVF.2).2;have hkq:=hqb.cell 0;have HSV:=HSU.out.below hVb;have hWV:=hid (HWU.out.trans (hVb.mono HWU.out.size));have hgg:(Option.some g:Option Nat)≠Option.some g':=by
       rcases HSV.apart with h|h
       ·cases h
       ·simpa[Value.ownBlock]using h
      have hT1:=hid (HSV.whole.take (p - 2) (by simp[strs,hll]));have hS1:=hid HSV.sizes;have hzV:w.heap.size<=V.heap.size:=hWV.out.size;have hl1:(List.take (p - 2) (strs l)).length+1<=1099511627776:=by simp[strs,hll];omega
      have hl3:(List.take (p - 2) (strs l)).length=p - 2:=by simp[strs,hll]
      have hn32:=nodeF_size tab d1 d2;obtain⟨nd,hnd⟩:∃nd,nd=nodeF tab d1 d2:=⟨_,rfl⟩;rw[<- hnd]at hkq hn32 HJ ⊢;clear L1 L2 hc1 hc2 hcp hVF hqb hVb HSU HWU hnd hy2 HSV
      go_wp2_with (at_builtin;refine wpList_appendV underlying86 info9 rfl (by decide) rfl (.tmp 47) (.tmp 59) rfl w.heap.size (.slice (.some ⟨g,0,none⟩) (p - 2) c3) (List.take (p - 2) (strs l)) rfl hT1.out hzV hl1 ⟨q,0,none⟩ (.string nd) rfl 1 rfl hkq ?_;intro v5 w5 hV5 hg5 ho5;obtain⟨A5,c5,rfl⟩:=hV5.len (n:=p - 1) (by simp[hl3];omega);have HV5:=hid hV5;have HG5:=hid hg5;have HO5:=hid ho5;clear hV5 hg5 ho5)
      have hS5:=hS1.out.kept HG5.out (.inr (by simpa[Value.ownBlock]using Ne.symm hgg));obtain⟨y3,hy3e,hy3⟩:∃y,y=y1/\w5.cell? ⟨g',p - 1,none⟩=.some (.int .i64 y):=by
       refine⟨ns[p - 1]'(by omega),by have:=HQ2.out;rw[List.getElem?_eq_getElem (by omega)]at this;exact Option.some.inj this,?_⟩;have:=hS5.at_ (p - 1) (by simp[ints,hnl];omega);simpa[ints]using this
      have HY3:=hid hy3e;clear hy3e;have hW5:=hid (hWV.out.trans (grown_base hT1.out HG5.out hzV));have L3:=Later.of hy3;have HS5:=hid hS5;clear hkq hS5 hl1 hzV;refine Loose.wp_region_later [(10,.row w5.heap.size 3 1 #[.int .i64 (wrap64 (2*y3))])] 11 (by kernel_rfl) (by kernel_rfl) ?_
      (simp only[List.take_succ_cons,List.take_zero,List.drop_succ_cons,List.drop_zero])
      (repeat(first|refine Loose.walk_skip rfl ?_|(refine Loose.walk_plain rfl rfl rfl λK h=>?_;go_big_quiet_op;refine h _ ?_;clear h K)))
      refine Loose.walk_loose rfl rfl (λW' hW' _=>Loose.loose_val (u:=.slice (.some ⟨W'.heap.size,0,none⟩) 1 1) (W':=W'.alloc (.cells #[.int .i64 (wrap64 (2*y3))] 3)) (by kernel_rfl) ((Below.refl _ _).alloc (Nat.le_refl _) _) ⟨_,rfl,hW'.size,Blk.new _ _ _⟩) ?_;rintro _ _ _ ⟨q6,rfl,hq6,_⟩
      (simp only[Act.put,List.setIfInBounds_toArray,List.set_cons_succ,List.set_cons_zero])
      (repeat(first|refine Loose.walk_skip rfl ?_|(refine Loose.walk_plain rfl rfl rfl λK h=>?_;go_big_quiet_op;refine h _ ?_;clear h K)))
      refine Loose.walk_nil ?_;rintro V6 hVb6 hVF6;have hqb6:=(Loose.Pred.row_at (B:=w5.heap.size) (t:=3) (n:=1) (cs:=#[.int .i64 (wrap64 (2*y3))]) (x:=q6) (W:=V6) hVF6.2).2;have hkq6:=hqb6.cell 0;have hT6:=hid ((HS5.out.below hVb6).take (p - 2) (by simp[ints,hnl]));have hA6:=hid (HV5.out.below hVb6);have hW6:=hid (hW5.out.trans (hVb6.mono hW5.out.size));have hz6:w.heap.size<=V6.heap.size:=hW6.out.size;have hl6:(List.take (p - 2) (ints ns)).length+1<=1099511627776:=by simp[ints,hnl];omega
      have hl7:(List.take (p - 2) (ints ns)).length=p - 2:=by simp[ints,hnl]
      have hyw:wrap64 (2*y3)=2*y1:=by
       have:=HYb.out;rw[HY3.out];simp only[List.length_take]at this;unfold wrap64;omega
      have HYy:=hid hyw;clear hyw;generalize wrap64 (2*y3)=yy at *;clear L3 hy3 hVF6 hqb6 hVb6
      go_wp2_with (at_builtin;refine wpList_appendV underlying24 infoI3 rfl (by decide) rfl (.tmp 64) (.tmp 71) rfl w.heap.size (.slice (.some ⟨g',0,none⟩) (p - 2) c4) (List.take (p - 2) (ints ns)) rfl hT6.out hz6 hl6 ⟨q6,0,none⟩ (.int .i64 yy) rfl 1 rfl hkq6 ?_;intro v7 w7 hV7 hg7 ho7;obtain⟨A7,c7,rfl⟩:=hV7.len (n:=p - 1) (by simp[hl7];omega);have HV7:=hid hV7;have HG7:=hid hg7;have HO7:=hid ho7;clear hV7 hg7 ho7)
      have hlg':g'<V.heap.size:=(hS1.out.own g' rfl).2;have hz5:=HG5.out.size;have hzv6:=HG7.out.size;have hA5own:=hA6.out.own;have hne5:(Value.slice A5 (p - 1) c5).ownBlock≠Option.some g':=by
       rcases HO5.out with e|⟨k',e,hk'⟩
       ·rw[e];exact hgg
       ·rw[e]
        intro e';injection e' with e'
        omega
      have hX7:=hA6.out.kept HG7.out (.inr hne5);have hap:(Value.slice A5 (p - 1) c5).ownBlock≠(Value.slice A7 (p - 1) c7).ownBlock:=by
       rcases HO7.out with e|⟨k',e,hk'⟩
       ·rw[e];exact hne5
       ·rw[e]
        intro e';have:=(hA5own k' e').2;omega
      obtain⟨g5,rfl⟩:=hX7.sm (by omega);obtain⟨g7,rfl⟩:=HV7.out.sm (by omega);have hB7:Hid (BothX tab (xs.take (k+1)) w7 w.heap.size g5 g7 (p - 1) c5 c7):=hid ⟨l.take (p - 2)++[nd],ns.take (p - 2)++[yy],by simp[hll];omega,by simp[hnl];omega,(λy hy=>by
       rcases List.mem_append.1 hy with h|h
       ·exact hgood y (List.mem_of_mem_take h)
       ·simp at h;subst h;exact hn32),⟨by simpa[strs,List.map_take]using hX7,by simpa[ints,List.map_take]using HV7.out,.inr hap⟩,by rw[HYy.out];exact HJ.out⟩
      have hW7:=hid (hW6.out.trans (grown_base hT6.out HG7.out hz6));exact⟨⟨p - 1,g5,g7,c5,c7,by omega,by omega,by congr 1;omega,rfl,rfl,hB7,hW7⟩,by simp[intOf];omega⟩
     ·go_wp2_with fail
      go_roundw
      case rel=>exact⟨k+1,l,ns,some ⟨g,0,none⟩,some ⟨g',0,none⟩,p,c3,c4,by omega,by go_num,rfl,rfl,by omega,by omega,hid (HNe.out hyy),hid ⟨hll,hnl,hgood⟩,hid (hS.below hU),HWU⟩
      case measure=>simp[intOf];omega
    ·obtain rfl:p=1:=by omega
     go_wp2_with fail
     refine wp_region_later (by kernel_rfl) (by kernel_rfl) ?_
     repeat(go_big_quiet_step (fail))
     refine wpQuiet_nil ?_;rintro U ⟨⟨_,hU⟩,rfl⟩;have HWU:=hid (hW.out.trans (hU.mono hW.out.size))
     go_wp2_with fail
     go_roundw
     case rel=>exact⟨k+1,l,ns,some ⟨g,0,none⟩,some ⟨g',0,none⟩,1,c3,c4,by omega,by go_num,rfl,rfl,by omega,by omega,hid (SY.done1 (p:=1) HSy.out hll),hid ⟨hll,hnl,hgood⟩,hid (hS.below hU),HWU⟩
     case measure=>simp[intOf];omega
  ·have hkn:k=n:=by omega
   have hmp:=hm0 (by omega);obtain⟨g,rfl⟩:=hS.out.whole.sm hmp;have hll:=hL.out.1;have hgood:=hL.out.2.2;obtain⟨d0,hd0,hc0⟩:=hS.out.d (m - 1) (by omega);have HRoot:Hid (((List.range (m - 1)).map (λi=>l[i]?.getD ⟨#[]⟩)).foldr (nodeF tab) d0=rootX tab xs):=hid (root_of hkn HN.out hll hmp hd0 hSX.out);have hs0:=hgood d0 (List.mem_of_getElem? hd0);have hcap:=hS.out.whole.cap;simp only[strs,List.length_map,hll]at hcap;have hgl:g<wr.heap.size:=(hS.out.whole.own g rfl).2;have HWh:=hid hS.out.whole;have HG:=hid hgood;have HLL:=hid hll;clear hL hS hd0 hgood hll hSX
   go_wp2_with fail
   refine(backward_any _ _ _ _).mono ?_;rintro e w4 ⟨b1,rfl,hb1,hlb,h4⟩;have hz4:=h4.size;simp only[World.size_alloc]at hz4 hlb;have HP:Hid (Blk w4 wr.heap.size 9 #[.string d0]):=hid ((Blk.new wr 9 #[.string d0]).below h4 (by simp));have hWw:=hW.out.size;have HW4:Hid (Below w.heap.size w w4):=hid ((hW.out.alloc hW.out.size (.cells #[.string d0] 9)).trans (h4.mono (by simp;omega)));have HCE:Hid (∀i,i<m->w4.cell? ⟨g,i,none⟩=.some (.string (l[i]?.getD ⟨#[]⟩))):=hid (λi hi=>by
    rw[h4.cell (p:=⟨g,i,none⟩) (by simp;omega),World.cell?_alloc_some wr ⟨g,i,none⟩ _ (by rw[HWh.out.at_ i (by simp[strs,HLL.out];omega)];rfl),HWh.out.at_ i (by simp[strs,HLL.out];omega)];have hil:i<l.length:=by rw[HLL.out];exact hi
    simp[strs,List.getElem?_eq_getElem hil])
   have H32:Hid (∀i,i<m->(l[i]?.getD ⟨#[]⟩:ByteArray).size=32):=hid (λi hi=>by
    have hil:i<l.length:=by rw[HLL.out];exact hi
    rw[List.getElem?_eq_getElem hil];exact HG.out _ (List.getElem_mem hil))
   have HB1:=hid hb1;have HS0:=hid hs0;clear h4 hb1 hs0 hc0 hW HWh
   go_wp2_with fail
   refine with_act ?_;intro b hb;refine wpIn_wide (n:=9).1 ?_;obtain⟨S,hS⟩:∃S:Nat->ByteArray,S=λi=>l[i]?.getD ⟨#[]⟩:=⟨_,rfl⟩
   have HC2:Hid (∀i,i<m - 1->w4.cell? ⟨g,i,none⟩=.some (.string (S i))):=hid (by rw[hS];exact λi hi=>HCE.out i (by omega));have H33:Hid (∀i,i<m->(S i).size=32):=hid (by rw[hS];exact H32.out);have HRoot:=hid (show((List.range (m - 1)).map S).foldr (nodeF tab) d0=rootX tab xs by rw[hS];exact HRoot.out);clear HCE H32 hS;refine wpIn_rangeFunc_ownF (α:=Fin (m - 1)) (F:=Fence.wide) rfl (by omega) (gf:=111) (lb:=#[.pointer (.some ⟨b1,0,none⟩)]) (by rw[hb];rfl) trivial (enters_of func111 (by kernel_rfl) rfl)
    (back_stops 8 (by omega) b1 g (m - 1) c1 w4.heap.size wr.heap.size S w4 HB1.out HC2.out (by omega) HB1.out.lt (by omega) (by omega) (by omega) (by omega)) (λh k=>h.trans k) (λW l o o' hl _ _ _=>KeepB.putObj hl o') (Below.refl _ _) (λ_=>rfl)
    (λpre W=>BX (nodeF tab) S (m - 1) d0 w w4 wr.heap.size pre W) (λ_ _ _=>False) (BX.own HW4.out.size) (λ_ _ _ _ _ hs _ _=>hs) ⟨HP.out,KeepB.refl _ _ _,HW4.out⟩
    (λx=>{ tmps:=((b.tmps.setIfInBounds 90 (.int .i64 ((m - 1 - 1 - x.val:Nat):Int))).setIfInBounds 91 (.string (S (m - 1 - 1 - x.val)))).setIfInBounds 10 (.string (S (m - 1 - 1 - x.val))),defers:=[] }) ?assign ?body ?done ?stop
   case assign =>
    subst hb;intro l x W K hK;simp only[List.setIfInBounds_toArray,List.set_cons_succ,List.set_cons_zero]at hK
    gi_wp2
    exact hK
   case body =>
    subst hb;rintro l pre x W ⟨hP,hI2,hI3⟩ hlen;have hd:=fold32 (m:=m - 1) (S:=S) (nodeF_size tab) pre d0 HS0.out;have hnext:Hid ((pre++[x]).foldl (λd x=>nodeF tab (S (m - 1 - 1 - x.val)) d) d0=nodeF tab (S (m - 1 - 1 - x.val)) (pre.foldl (λd x=>nodeF tab (S (m - 1 - 1 - x.val)) d) d0)):=hid (by rw[List.foldl_append,List.foldl_cons,List.foldl_nil]);obtain⟨d,hde⟩:∃d,d=pre.foldl (λd x=>nodeF tab (S (m - 1 - 1 - x.val)) d) d0:=⟨_,rfl⟩;rw[<- hde]at hP hd hnext;clear hde;have cp:=hP.cell 0;have hx:=x.isLt;have hSx:=H33.out (m - 1 - 1 - x.val) (by omega);obtain⟨r,hr⟩:∃r,r=S (m - 1 - 1 - x.val):=⟨_,rfl⟩;rw[<- hr]at hSx hnext ⊢;obtain⟨ix,hix⟩:∃ix:Int,ix=((m - 1 - 1 - x.val:Nat):Int):=⟨_,rfl⟩;rw[<- hix];clear hr hix;simp only[List.setIfInBounds_toArray,List.set_cons_succ,List.set_cons_zero]
    gi_wp2
    refine⟨trivial,?_⟩;refine(CallsIn.inRound _ (callsIn_wide.2 (node_any W r d tab ⟨HT.out.1.below hI3 h0,HT.out.2⟩ (by omega) (by omega)))).mono ?_;rintro e W' ⟨rfl,hb'⟩;have hP':=hP.below hb' hP.lt;have cp':=hP'.cell 0;have fp':=hP'.frozen 0;have hn32:=nodeF_size tab r d;obtain⟨nd,hnd⟩:∃nd,nd=nodeF tab r d:=⟨_,rfl⟩;rw[<- hnd]at hn32 hnext ⊢;have hBut:=hid ((But.of_below (p:=wr.heap.size) hb').setCell 0 (.string nd));have HPn:=hid (hP'.set_ 0 (.string nd));clear hnd hb' hP'
    gi_wp2
    exact⟨KeepsOthers.of_but hBut.out hP,KeepB.of_but hBut.out hI2.1,⟨by rw[hnext.out];exact HPn.out,hI2.trans (KeepB.of_but hBut.out hI2.1),hBut.out.below hI3 (by omega) (Nat.le_refl _)⟩⟩
   case done =>
    subst hb;rintro D ys W hD rfl ⟨hP,hI2,hI3⟩ hK;have hd:=fold32 (m:=m - 1) (S:=S) (nodeF_size tab) (List.finRange (m - 1)) d0 HS0.out;have hfin:(List.finRange (m - 1)).foldl (λd x=>nodeF tab (S (m - 1 - 1 - x.val)) d) d0=rootX tab xs:=(finRange_fold (nodeF tab) S (m - 1) d0).trans HRoot.out;obtain⟨d,hde⟩:∃d,d=(List.finRange (m - 1)).foldl (λd x=>nodeF tab (S (m - 1 - 1 - x.val)) d) d0:=⟨_,rfl⟩;rw[<- hde]at hP hd hfin;have HFin:=hid hfin;clear hde hfin;have cp:=hP.cell 0
    go_wp2_with fail
    exact leaves_mark hK (results_tmp rfl _ _ _) ⟨d,rfl,⟨HFin.out,hd⟩,below_putObj hI3 (by have:=HW4.out.size;omega) _⟩
   case stop=>intro D c' pre W _ _ h;exact h.elim
end
section
open Go.RowKit Go.Shelf
attribute [local irreducible] sumF markF leafF nodeF
attribute [local go_sem] Oper.semAt_some
theorem root0_any (w:World)(A:Option Addr)(c:Nat)(tab:Array Value)(hT:Tab w tab) :
 Calls prog 51 #[.slice A 0 c] w λe w'=>e=.returned (.string (noneF tab))/\Below w.heap.size w w':=by
 have HT:=hid hT;clear hT;have HS:=hid (sum_any w ⟨#[]⟩ tab HT.out (by decide));unfold noneF
 go_enter func51,ntmps51
 go_wp2_with fail
 refine wp_loop_rounds 1 ?_;rw[rounds_succ]
 go_wp2_with fail
 refine HS.out.mono ?_;rintro e w1 ⟨rfl,h1⟩
 go_wp2_with fail
 go_ret;exact⟨rfl,h1⟩
theorem logGo_number {many:Int}:∀(l pre:List Rp.Post),Rp.logGo many pre l=true->∀p∈l,0<=p.number/\p.number<=(pre++l).length
 | [],_,_,p,hp=>by cases hp
 | q::l,pre,h,p,hp=>by
   simp only[Rp.logGo,Rp.stepOk,Bool.and_eq_true,decide_eq_true_eq]at h;rcases List.mem_cons.1 hp with rfl|hp
   ·have h1:=h.1.2.2.1
    have h2:(Rp.own pre p.origin).length<=pre.length:=List.length_filter_le _ _;rw[h1];unfold Rp.count;rw[List.length_append];omega
   ·have:=logGo_number l (pre++[q]) h.2 p hp
    simp only[List.append_assoc,List.cons_append,List.nil_append]at this;exact this
def MidP (p:Rp.Post):Prop:=(0<=p.epoch/\p.epoch<1048576)/\(0<=p.origin/\p.origin<1048576)/\(0<=p.number/\p.number<1048576)/\p.text.size<=20000
theorem midP_of {r:Rp.Rep}(h:Rp.valid r=true):∀p∈r.posts,MidP p:=by
 obtain⟨h1,h2,h3,h4,h5,h6⟩:=Rp.valid_iff.1 h;intro p hp;have hf:=Rp.formed_iff.1 ((Rp.isLog_iff.1 h5).2.1 p hp);simp only[Rp.isLog,Bool.and_eq_true,decide_eq_true_eq]at h5;have hn:=logGo_number r.posts [] h5.2 p hp;simp only[List.nil_append]at hn;have hl:=h5.1;refine⟨⟨by omega,by omega⟩,⟨by omega,by omega⟩,⟨by omega,by omega⟩,by omega⟩
def encRp (p:Rp.Post):ByteArray:=encPost p.epoch.toNat p.origin.toNat p.number.toNat p.text
def digF (tab:Array Value)(r:Rp.Rep):ByteArray:=rootX tab (r.posts.map encRp)
theorem encRp_eq (ne no nn:Nat)(tx:ByteArray):encRp ⟨ne,no,nn,tx⟩=(⟨#[]⟩:ByteArray)++encI ne++encI no++encI nn++(encI tx.size++tx):=rfl
theorem encRp_size {p:Rp.Post}(h:MidP p):(encRp p).size<=20012:=by
 have h1:=encPost_size p.epoch.toNat p.origin.toNat p.number.toNat p.text;have h2:=h.2.2.2;unfold encRp;omega
theorem rootAll (w:World)(B n c:Nat)(A:Option Addr)(xs:List ByteArray)(tab:Array Value)(hT:Tab w tab)(hV:Vs w B (.slice A n c) (strs xs))(hn:n<=1000)(hn':xs.length=n)(hs:∀x∈xs,x.size<=900000000) :
 Calls prog 51 #[.slice A n c] w λe w'=>e=.returned (.string (rootX tab xs))/\Below w.heap.size w w':=by
 by_cases h0:0<n
 ·obtain⟨g,rfl⟩:=hV.sm h0
  refine(rootX_any w g c n xs tab hT (λj x hx=>by
   have hj:j<xs.length:=(List.getElem?_eq_some_iff.1 hx).1;have:=hV.at_ j (by simpa[strs]using hj);rw[this];have e:=(List.getElem?_eq_some_iff.1 hx).2;simp[strs,e]) (hV.own g rfl).2 h0 hn hn' (by have:=hV.cap;simpa[strs,hn']using this) hs).mono ?_
  rintro e w2 ⟨d,rfl,⟨rfl,hd⟩,h2⟩;exact⟨rfl,h2⟩
 ·obtain rfl:n=0:=by omega
  obtain rfl:xs=[]:=List.length_eq_zero_iff.1 hn';exact root0_any w A c tab hT
attribute [local irreducible] encI rootX encRp
theorem digest_rep (w:World)(tab:Array Value)(hT:Tab w tab)(r:Rp.Rep)(A:Option Addr)(n c:Nat)(A':Option Addr)(n' c':Nat)(h:RepR w w.heap.size r A n A' n')(hv:Rp.valid r=true) :
 Calls prog 18 #[repV r A n c A' n' c'] w λe w'=>e=.returned (.tuple #[.string (digF tab r),.int .i64 0])/\Below w.heap.size w w':=by
 have HT:=hid hT;have ht0:=hT.1.lt;have HR:=hid h;have HV:=hid hv;have HP:=hid (midP_of hv);have hn200:n<=1000:=by
  have h5:=(Rp.valid_iff.1 hv).2.2.2.2.1;simp only[Rp.isLog,Bool.and_eq_true,decide_eq_true_eq]at h5;have:=h.len;omega
 clear hT h hv;obtain⟨me,many,clock,posts,heard⟩:=r;unfold repV;simp only;have hX:=hid (Blk.new w 26 #[.int .i64 me,.int .i64 many,.int .i64 clock,.slice A n c,.slice A' n' c']);have hW:=hid ((Below.refl w.heap.size w).alloc (Nat.le_refl _) (.cells #[.int .i64 me,.int .i64 many,.int .i64 clock,.slice A n c,.slice A' n' c'] 26));obtain⟨d0,d1,d2,d3,d4⟩:=hX.out.cells5
 go_enter func18,ntmps18
 go_wp2_with fail
 refine(valid_any _ ⟨me,many,clock,posts,heard⟩ A n c A' n' c' ((HR.out.below hW.out).more hW.out.size)).mono ?_;rw[HV.out];rintro e w1 ⟨rfl,h1⟩;have hX1:=hid (hX.out.below h1 hX.out.lt);have hW1:=hid (hW.out.trans (h1.mono hW.out.size));clear d0 d1 d2 d3 d4 h1 hX hW;obtain⟨d0,d1,d2,d3,d4⟩:=hX1.out.cells5
 go_wp2_with fail
 go_loopw [4,20] (λv i wr=>∃(k:Nat) (xs:List ByteArray) (B:Option Addr) (cc:Nat),k<=n/\i=.int .i64 k/\v=.slice B k cc/\Hid (xs.length=k/\xs=(posts.take k).map encRp)/\Hid (Vs wr w.heap.size (.slice B k cc) (strs xs))/\Hid (Below w.heap.size w wr)) (λ_ i _=>n - (intOf i).toNat)
 case atStart=>exact⟨0,[],none,0,by omega,rfl,rfl,hid ⟨rfl,rfl⟩,hid (Vs.nil _ _),hW1⟩
 case round =>
  clear hW1;obtain⟨k,xs,B,cc,hk,rfl,rfl,hxs,hV,hW⟩:=hrel
  by_cases hlt:k<n
  ·obtain⟨g,off,x,rfl,hbl,hq,e0,e1,e2,e3⟩:=(HR.out.posts.below hW.out).post HR.out.len hlt
   have HPx:=hid (HP.out x (List.mem_of_getElem? hq));have HQX:=hid hq;clear hq;obtain⟨ep,og,nu,tx⟩:=x;simp only[MidP]at HPx;obtain⟨⟨p1,p2⟩,⟨p3,p4⟩,⟨p5,p6⟩,p7⟩:=HPx.out;obtain⟨ne,rfl⟩:=Int.eq_ofNat_of_zero_le p1;obtain⟨no,rfl⟩:=Int.eq_ofNat_of_zero_le p3;obtain⟨nn,rfl⟩:=Int.eq_ofNat_of_zero_le p5;simp only at e0 e1 e2 e3;have q1:ne<1048576:=by omega
   have q2:no<1048576:=by omega
   have q3:nn<1048576:=by omega
   have q4:tx.size<=20000:=p7;have q5:tx.size<=60000:=by omega
   clear HPx p1 p2 p3 p4 p5 p6 p7;have g1:=encI_size ne;have g2:=encI_size no;have g3:=encI_size nn;have g4:=encI_size tx.size;obtain⟨E1,hE1⟩:∃E,E=encI ne:=⟨_,rfl⟩;obtain⟨E2,hE2⟩:∃E,E=encI no:=⟨_,rfl⟩;obtain⟨E3,hE3⟩:∃E,E=encI nn:=⟨_,rfl⟩;obtain⟨E4,hE4⟩:∃E,E=encI tx.size:=⟨_,rfl⟩;have HE1:=hid hE1;have HE2:=hid hE2;have HE3:=hid hE3;have HE4:=hid hE4;rw[<- hE1]at g1;rw[<- hE2]at g2;rw[<- hE3]at g3;rw[<- hE4]at g4;have z1:¬9223372036854775807<E1.size:=by omega
   have z2:¬9223372036854775807<E1.size+E2.size:=by omega
   have z3:¬9223372036854775807<E1.size+E2.size+E3.size:=by omega
   have z4:¬9223372036854775807<E1.size+E2.size+E3.size+(E4.size+tx.size):=by omega
   have HSZ:Hid ((⟨#[]⟩:ByteArray)++E1++E2++E3++(E4++tx)=encRp ⟨ne,no,nn,tx⟩):=hid (by rw[hE1,hE2,hE3,hE4];exact(encRp_eq ne no nn tx).symm);clear hE1 hE2 hE3 hE4 g1 g2 g3 g4;obtain⟨Ws,hWs⟩:∃Ws,Ws=(wr.alloc (.cells #[.int .i64 ne,.int .i64 no,.int .i64 nn,.string tx] 57)).alloc (.cells #[.int .i64 ne,.int .i64 no,.int .i64 nn] 3):=⟨_,rfl⟩;have hR:=hid (show Blk Ws (wr.heap.size+1) 3 #[.int .i64 ne,.int .i64 no,.int .i64 nn] by rw[hWs];exact Blk.new2 _ _ _ _);have hQ:=hid (show Blk Ws wr.heap.size 57 #[.int .i64 ne,.int .i64 no,.int .i64 nn,.string tx] by rw[hWs];exact(Blk.new _ _ _).alloc _);have hb:Below wr.heap.size wr Ws:=by rw[hWs];exact((Below.refl _ wr).alloc (Nat.le_refl _) _).alloc (by simp) _
   have hB:=hid (hW.out.trans (hb.mono hW.out.size));have hVs:=hid (hV.out.below hb);have hsz:=hB.out.size
   go_wp2_with fail
   rw[<- hWs];clear hWs hb hV hW e0 e1 e2 e3;obtain⟨r0,r1,r2⟩:=hR.out.three;refine wp_loop_rounds 4 ?_;rw[rounds_succ]
   go_wp2_with fail
   refine(putInt_any Ws ne q1).mono ?_;rw[<- HE1.out];rintro e v1 ⟨rfl,f1⟩;have hR1:=hid (hR.out.below f1 hR.out.lt);have hQ1:=hid (hQ.out.below f1 hQ.out.lt);have hB1:=hid (hB.out.trans (f1.mono hB.out.size));have hV1:=hid (hVs.out.below f1);clear f1 hR hQ hB hVs r0 r1 r2;obtain⟨r0,r1,r2⟩:=hR1.out.three
   go_wp2_with fail
   rw[rounds_succ]
   go_wp2_with fail
   refine(putInt_any v1 no q2).mono ?_;rw[<- HE2.out];rintro e v2 ⟨rfl,f2⟩;have hR2:=hid (hR1.out.below f2 hR1.out.lt);have hQ2:=hid (hQ1.out.below f2 hQ1.out.lt);have hB2:=hid (hB1.out.trans (f2.mono hB1.out.size));have hV2:=hid (hV1.out.below f2);clear f2 hR1 hQ1 hB1 hV1 r0 r1 r2;obtain⟨r0,r1,r2⟩:=hR2.out.three
   go_wp2_with fail
   rw[rounds_succ]
   go_wp2_with fail
   refine(putInt_any v2 nn q3).mono ?_;rw[<- HE3.out];rintro e v3 ⟨rfl,f3⟩;have hQ3:=hid (hQ2.out.below f3 hQ2.out.lt);have hB3:=hid (hB2.out.trans (f3.mono hB2.out.size));have hV3:=hid (hV2.out.below f3);clear f3 hR2 hQ2 hB2 hV2 r0 r1 r2;have t3:v3.cell? ⟨wr.heap.size,3,none⟩=some (.string tx):=hQ3.out.cell 3
   go_wp2_with fail
   rw[rounds_succ]
   go_wp2_with fail
   refine(putStr_any v3 tx q5).mono ?_;rw[<- HE4.out];rintro e v4 ⟨rfl,f4⟩;have hB4:=hid (hB3.out.trans (f4.mono hB3.out.size));have hV4:=hid (hV3.out.below f4);have hz4:=hB4.out.size;clear f4 hQ3 hB3 hV3 t3;obtain⟨Q,hQe⟩:∃Q,Q=(⟨#[]⟩:ByteArray)++E1++E2++E3++(E4++tx):=⟨_,rfl⟩;have HQ:=hid hQe;have hk0:(v4.alloc (.cells #[.string ((⟨#[]⟩:ByteArray)++E1++E2++E3++(E4++tx))] 9)).cell? ⟨v4.heap.size,0,none⟩=some (.string Q):=by rw[hQe];exact(Blk.new v4 9 _).cell 0
   have HVx:=hid (hV4.out.below ((Below.refl _ v4).alloc (Nat.le_refl _) (.cells #[.string ((⟨#[]⟩:ByteArray)++E1++E2++E3++(E4++tx))] 9)));have hBx:=hid (hB4.out.alloc hz4 (.cells #[.string ((⟨#[]⟩:ByteArray)++E1++E2++E3++(E4++tx))] 9));have hzx:=hBx.out.size;have hlx:(strs xs).length+1<=1099511627776:=by simp[strs,hxs.out.1];omega
   have hlx':(strs xs).length=k:=by simp[strs,hxs.out.1]
   clear hQe hV4 hB4
   go_wp2_with (at_builtin;refine wpList_appendV underlying86 info9 rfl (by decide) rfl (.tmp 51) (.tmp 55) rfl w.heap.size (.slice B k cc) (strs xs) rfl HVx.out hzx hlx ⟨v4.heap.size,0,none⟩ (.string Q) rfl 1 rfl hk0 ?_;intro v5 w5 hV5 hg5 ho5;obtain⟨A5,c5,rfl⟩:=hV5.len (n:=k+1) (by simp[hlx']);have HV5:=hid hV5;have HB5:=hid (hBx.out.trans (grown_base HVx.out hg5 hzx));clear hV5 hg5 ho5)
   go_roundw
   case rel=>exact⟨k+1,xs++[Q],A5,c5,by omega,by go_num,rfl,hid ⟨by simp[hxs.out.1],by rw[hxs.out.2,HQ.out,HSZ.out,List.take_add_one,HQX.out,List.map_append];rfl⟩,hid (by simpa[strs]using HV5.out),HB5⟩
   case measure=>simp[intOf];omega
  ·obtain rfl:k=n:=by omega
   go_wp2_with fail
   have hsW:=hW.out.size;refine(rootAll wr w.heap.size k cc B xs tab (HT.out.below hW.out ht0) hV.out hn200 hxs.out.1 (λx hx=>by
    rw[hxs.out.2]at hx;obtain⟨q,hq,rfl⟩:=List.mem_map.1 hx;have:=encRp_size (HP.out q (List.mem_of_mem_take hq));omega)).mono ?_
   rintro e w2 ⟨rfl,h2⟩;have hfin:rootX tab xs=digF tab ⟨me,many,clock,posts,heard⟩:=by
    unfold digF;rw[hxs.out.2,List.take_of_length_le (by have:=HR.out.len;simp only at this;omega)]
   rw[hfin]
   go_wp2_with fail
   go_ret2;exact⟨rfl,hW.out.trans (h2.mono hsW)⟩
end
section
open Go.RowKit Go.Shelf
theorem cat_one (s:ByteArray):cat [s]=s:=by
 apply ByteArray.ext;show(Lib.join [s.data.toList] []).toArray=s.data;simp[Lib.join]
theorem cat_two (a b:ByteArray):cat [a,b]=a++b:=by
 apply ByteArray.ext;show(Lib.join [a.data.toList,b.data.toList] []).toArray=(a++b).data;simp[Lib.join,ByteArray.data_append]
theorem leafF_def (tab:Array Value)(s:ByteArray):leafF tab s=strOfNums (sumF tab (⟨#[0]⟩++s)):=by
 unfold leafF markF;rw[cat_one]
theorem nodeF_def (tab:Array Value)(a b:ByteArray):nodeF tab a b=strOfNums (sumF tab (⟨#[1]⟩++a++b)):=by
 unfold nodeF markF;rw[cat_two,ByteArray.append_assoc]
attribute [local irreducible] sumF markF leafF nodeF
theorem rleaf_any (w:World)(s:ByteArray)(hs:s.size<=90000):Calls prog 82 #[.string s] w λe w'=>e=.returned (.string (leafF tabC s))/\Below w.heap.size w w':=by
 have hz:((⟨#[0]⟩:ByteArray)++s).size<=100000:=by simp only[ByteArray.size_append];show 1+s.size<=_;omega
 have h2:¬9223372036854775807<(⟨#[0]⟩:ByteArray).size+s.size:=by show ¬_<1+s.size;omega
 have HS:=hid (rsum_any w (⟨#[0]⟩++s) hz);have HD:=hid (leafF_def tabC s);clear hz
 go_enter func82,ntmps82
 go_wp2_with fail
 refine HS.out.mono ?_;rintro e w1 ⟨rfl,hb⟩
 go_wp2_with fail
 go_ret;exact⟨by rw[HD.out];rfl,hb⟩
theorem rnode_any (w:World)(a b:ByteArray)(ha:a.size<=40000)(hb:b.size<=40000):Calls prog 84 #[.string a,.string b] w λe w'=>e=.returned (.string (nodeF tabC a b))/\Below w.heap.size w w':=by
 have hz:((⟨#[1]⟩:ByteArray)++a++b).size<=100000:=by simp only[ByteArray.size_append];show 1+a.size+b.size<=_;omega
 have h2:¬9223372036854775807<(⟨#[1]⟩:ByteArray).size+a.size:=by show ¬_<1+a.size;omega
 have h3:¬9223372036854775807<(⟨#[1]⟩:ByteArray).size+a.size+b.size:=by show ¬_<1+a.size+b.size;omega
 have HS:=hid (rsum_any w (⟨#[1]⟩++a++b) hz);have HD:=hid (nodeF_def tabC a b);clear hz
 go_enter func84,ntmps84
 go_wp2_with fail
 refine HS.out.mono ?_;rintro e w1 ⟨rfl,hb⟩
 go_wp2_with fail
 go_ret;exact⟨by rw[HD.out];rfl,hb⟩
theorem left_any (w:World)(n:Nat)(h2:2<=n)(hn:n<=1000):Calls prog 83 #[.int .i64 n] w λe w'=>e=.returned (.int .i64 (Rp.leftN n))/\w=w':=by
 go_enter func83,ntmps83
 go_wp2_with fail
 go_loopw [3] (λk wr=>∃(kk:Nat),k=.int .i64 kk/\0<kk/\kk<n/\Hid (∃e,kk=2 ^ e)/\w=wr) (λk _=>n - (intOf k).toNat)
 case atStart=>exact⟨1,rfl,by omega,by omega,hid ⟨0,rfl⟩,rfl⟩
 case round =>
  obtain⟨k,rfl,hk0,hk,hp,rfl⟩:=hrel
  by_cases hlt:k<n - k
  ·have hlt':(k:Int)<(n:Int) - k:=by omega
   go_wp2_with fail
   go_roundw
   case rel=>exact⟨2*k,by go_num,by omega,by omega,hid (by obtain⟨e,he⟩:=hp.out;exact⟨e+1,by rw[Nat.pow_succ];omega⟩),trivial⟩
   case measure=>simp[intOf];omega
  ·have hge:¬(k:Int)<(n:Int) - k:=by omega
   have hL:Hid (Rp.leftN n=k):=hid (by
    obtain⟨e,he⟩:=hp.out;rw[he];exact Rp.leftN_unique h2 (by omega) (by omega))
   go_wp2_with fail
   go_ret;exact⟨by rw[hL.out];rfl,rfl⟩
theorem rootX_size (tab:Array Value)(xs:List ByteArray):(rootX tab xs).size=32:=by
 unfold rootX
 match xs with
 | []=>rw[Rp.rootR_nil];unfold noneF;rw[strOfNums_size,sumF_len]
 | [x]=>rw[Rp.rootR_one];exact leafF_size _ _
 | x::y::l=>rw[Rp.rootR_two _ _ _ (by simp)];exact nodeF_size _ _ _
attribute [local irreducible] rootX
def StrsAt (w:World)(g off:Nat)(xs:List ByteArray):Prop:=∀j x,xs[j]?=some x->w.cell? ⟨g,off+j,none⟩=some (.string x)
theorem StrsAt.below {w w':World}{g off:Nat}{xs:List ByteArray}(h:StrsAt w g off xs)(hb:Below w.heap.size w w')(hg:g<w.heap.size):StrsAt w' g off xs:=λj x hx=>(hb.cell (p:=⟨g,off+j,none⟩) hg).trans (h j x hx)
theorem StrsAt.take {w:World}{g off:Nat}{xs:List ByteArray}(h:StrsAt w g off xs)(k:Nat):StrsAt w g off (xs.take k):=λj x hx=>h j x (by
 rw[List.getElem?_take]at hx
 split at hx
 ·exact hx
 ·cases hx)
theorem StrsAt.drop {w:World}{g off:Nat}{xs:List ByteArray}(h:StrsAt w g off xs)(k:Nat):StrsAt w g (off+k) (xs.drop k):=λj x hx=>by
 rw[List.getElem?_drop]at hx;rw[Nat.add_assoc];exact h (k+j) x hx
theorem rroot0_any (w:World)(A:Option Addr)(c:Nat):Calls prog 53 #[.slice A 0 c] w λe w'=>e=.returned (.string (rootX tabC []))/\Below w.heap.size w w':=by
 have HS:=hid (rsum_any w ⟨#[]⟩ (by decide));have HE:Hid (rootX tabC []=strOfNums (sumF tabC ⟨#[]⟩)):=hid (by unfold rootX;rw[Rp.rootR_nil];rfl)
 go_enter func53,ntmps53
 go_wp2_with fail
 refine HS.out.mono ?_;rintro e w1 ⟨rfl,h1⟩
 go_wp2_with fail
 go_ret;exact⟨by rw[HE.out];rfl,h1⟩
theorem rroot_any :∀(N n:Nat) (w:World) (g off c:Nat) (xs:List ByteArray),n<=N->0<n->n<=1000->n<=c->xs.length=n->g<w.heap.size->StrsAt w g off xs->(∀x∈xs,x.size<=90000) ->
 Calls prog 53 #[.slice (some ⟨g,off,none⟩) n c] w λe w'=>e=.returned (.string (rootX tabC xs))/\Below w.heap.size w w'
 | 0,n,_,_,_,_,_,h,h0,_,_,_,_,_,_=>absurd h (by omega)
 | N+1,n,w,g,off,c,xs,hN,h0,hn,hc,hl,hg,hX,hs=>by
   have HX:=hid hX;have HS:=hid hs;have HL:=hid hl;have IH:=hid (rroot_any N);clear hX hs hl
   by_cases h1:n=1
   ·obtain⟨x,hx⟩:∃x,xs=[x]:=List.length_eq_one_iff.1 (HL.out.trans h1)
    have c0:=HX.out 0 x (by rw[hx];rfl);rw[Nat.add_zero]at c0;have HLf:=hid (rleaf_any w x (HS.out x (by rw[hx];simp)));have HE:Hid (rootX tabC xs=leafF tabC x):=hid (by rw[hx];unfold rootX;rw[Rp.rootR_one]);clear hx;subst h1
    go_enter func53,ntmps53
    go_wp2_with fail
    refine HLf.out.mono ?_;rintro e w1 ⟨rfl,h1⟩
    go_wp2_with fail
    go_ret;exact⟨by rw[HE.out];rfl,h1⟩
   ·have h2:2<=n:=by omega
    have hL1:=Rp.leftN_lt h2;have hL0:=Rp.leftN_pos n;have HLeft:=hid (left_any w n h2 hn);obtain⟨k,hk⟩:∃k,k=Rp.leftN n:=⟨_,rfl⟩;rw[<- hk]at hL1 hL0 HLeft;have HE:Hid (rootX tabC xs=nodeF tabC (rootX tabC (xs.take k)) (rootX tabC (xs.drop k))):=hid (by
     unfold rootX;rw[Rp.rootR_two _ _ _ (by rw[HL.out];exact h2),HL.out,<- hk])
    clear hk;have HI1:=hid (fun(W:World) (hW:Below w.heap.size w W)=>IH.out k W g off c (xs.take k) (by omega) hL0 (by omega) (by omega) (by rw[List.length_take,HL.out];omega) (by have:=hW.size;omega) ((HX.out.below hW hg).take k) (λx hx=>HS.out x (List.mem_of_mem_take hx)));have HI2:=hid (fun(W:World) (hW:Below w.heap.size w W)=>IH.out (n - k) W g (off+k) (c - k) (xs.drop k) (by omega) (by omega) (by omega) (by omega) (by rw[List.length_drop,HL.out]) (by have:=hW.size;omega) ((HX.out.below hW hg).drop k) (λx hx=>HS.out x (List.mem_of_mem_drop hx)));have z1:=rootX_size tabC (xs.take k);have z2:=rootX_size tabC (xs.drop k);obtain⟨r1,hr1⟩:∃r1,r1=rootX tabC (xs.take k):=⟨_,rfl⟩;obtain⟨r2,hr2⟩:∃r2,r2=rootX tabC (xs.drop k):=⟨_,rfl⟩;rw[<- hr1]at HI1 z1 HE;rw[<- hr2]at HI2 z2 HE;clear hr1 hr2;have HNd:=hid (λW=>rnode_any W r1 r2 (by omega) (by omega))
    go_enter func53,ntmps53
    go_upto_region 6 with (first|(go_at_call 83;refine HLeft.out.mono ?_;rintro e w1 ⟨rfl,rfl⟩))
    refine Loose.wp_region_later [(3,.is (.string r1)),(7,.is (.string r2)),(8,.is (.string (nodeF tabC r1 r2)))] 10 (by kernel_rfl) (by kernel_rfl) ?_
    (simp only[List.take_succ_cons,List.take_zero,List.drop_succ_cons,List.drop_zero])
    (repeat(first|refine Loose.walk_skip rfl ?_|(refine Loose.walk_plain rfl rfl rfl λK h=>?_;go_big_quiet_op;refine h _ ?_;clear h K)))
    refine Loose.walk_loose rfl rfl (λW' hW' hF=>Loose.loose_call (f:=53) (args:=#[.slice (some ⟨g,off,none⟩) k c]) (by kernel_rfl) ((HI1.out W' hW').mono λe w' ⟨he,hb⟩=>⟨_,he,hb,rfl⟩)) ?_;rintro _ _ _ rfl
    (simp only[Act.put,List.setIfInBounds_toArray,List.set_cons_succ,List.set_cons_zero])
    (repeat(first|refine Loose.walk_skip rfl ?_|(refine Loose.walk_plain rfl rfl rfl λK h=>?_;go_big_quiet_op;refine h _ ?_;clear h K)))
    refine Loose.walk_loose rfl rfl (λW' hW' hF=>Loose.loose_call (f:=53) (args:=#[.slice (some ⟨g,off+k,none⟩) (n - k) (c - k)]) (by kernel_rfl) ((HI2.out W' hW').mono λe w' ⟨he,hb⟩=>⟨_,he,hb,rfl⟩)) ?_;rintro _ _ _ rfl
    (simp only[Act.put,List.setIfInBounds_toArray,List.set_cons_succ,List.set_cons_zero])
    (repeat(first|refine Loose.walk_skip rfl ?_|(refine Loose.walk_plain rfl rfl rfl λK h=>?_;go_big_quiet_op;refine h _ ?_;clear h K)))
    refine Loose.walk_loose rfl rfl (λW' hW' hF=>Loose.loose_call (f:=84) (args:=#[.string r1,.string r2]) (by kernel_rfl) ((HNd.out W').mono λe w' ⟨he,hb⟩=>⟨_,he,hb,rfl⟩)) ?_;rintro _ _ _ rfl
    (simp only[Act.put,List.setIfInBounds_toArray,List.set_cons_succ,List.set_cons_zero])
    (repeat(first|refine Loose.walk_skip rfl ?_|(refine Loose.walk_plain rfl rfl rfl λK h=>?_;go_big_quiet_op;refine h _ ?_;clear h K)))
    refine Loose.walk_nil ?_;rintro U hU -
    go_wp2_with fail
    go_ret;exact⟨by rw[HE.out];rfl,hU⟩
end
section
open Go.RowKit Go.Shelf
abbrev sA :ByteArray:=⟨#[97]⟩
abbrev sC :ByteArray:=⟨#[99]⟩
theorem intA (w:World):Calls prog 214 #[.string sA,.int .i64 0] w λe w'=>e=.returned (.tuple #[.int .i64 (-49),.int .i64 1,.int .i64 0])/\w'=w:=by
 have hi:∀w,(Instr.index 9 (.string sA) (.int .i64 0)).run prog w=.ok (.int .u8 97) w:=λ_=>by kernel_rfl
 have b1:bits BinOp.and IntKind.u8 97 127=97:=by kernel_rfl
 have b2:bits BinOp.or IntKind.u64 0 97=97:=by kernel_rfl
 have b3:bits BinOp.and IntKind.u64 97 1=1:=by kernel_rfl
 have b4:bits BinOp.xor IntKind.i64 48 (-1) = -49:=by kernel_rfl
 go_enter func214,ntmps214
 go_wp2;refine wp_loop_rounds 1 ?_;rw[rounds_succ];go_wp2;refine bodyPost_ret (v:=.tuple #[.int .i64 (-49),.int .i64 1,.int .i64 0]) (by simp[results214,results]) rfl ⟨rfl,rfl⟩
theorem intC (w:World):Calls prog 214 #[.string sC,.int .i64 0] w λe w'=>e=.returned (.tuple #[.int .i64 (-50),.int .i64 1,.int .i64 0])/\w'=w:=by
 have hi:∀w,(Instr.index 9 (.string sC) (.int .i64 0)).run prog w=.ok (.int .u8 99) w:=λ_=>by kernel_rfl
 have b1:bits BinOp.and IntKind.u8 99 127=99:=by kernel_rfl
 have b2:bits BinOp.or IntKind.u64 0 99=99:=by kernel_rfl
 have b3:bits BinOp.and IntKind.u64 99 1=1:=by kernel_rfl
 have b4:bits BinOp.xor IntKind.i64 49 (-1) = -50:=by kernel_rfl
 go_enter func214,ntmps214
 go_wp2;refine wp_loop_rounds 1 ?_;rw[rounds_succ];go_wp2;refine bodyPost_ret (v:=.tuple #[.int .i64 (-50),.int .i64 1,.int .i64 0]) (by simp[results214,results]) rfl ⟨rfl,rfl⟩
theorem intEnd (w:World)(s:ByteArray)(hs:s.size=1):Calls prog 214 #[.string s,.int .i64 1] w λe w'=>e=.returned (.tuple #[.int .i64 0,.int .i64 0,.int .i64 10])/\w'=w:=by
 have h1:¬((s.size:Int)<1):=by omega
 have h2:((s.size:Int)<=1):=by omega
 go_enter func214,ntmps214
 go_wp2;refine wp_loop_rounds 1 ?_;rw[rounds_succ];go_wp2;refine bodyPost_ret (v:=.tuple #[.int .i64 0,.int .i64 0,.int .i64 10]) (by simp[results214,results]) rfl ⟨rfl,rfl⟩
theorem strEnd (w:World)(s:ByteArray)(hs:s.size=1):Calls prog 216 #[.string s,.int .i64 1] w λe w'=>e=.returned (.tuple #[.string ⟨#[]⟩,.int .i64 0,.int .i64 10])/\w'=w:=by
 go_enter func216,ntmps216
 go_wp2_with fail
 refine(intEnd w s hs).mono ?_;rintro e W ⟨rfl,rfl⟩
 go_wp2_with fail
 refine bodyPost_ret (v:=.tuple #[.string ⟨#[]⟩,.int .i64 0,.int .i64 10]) (by simp[results216,results]) rfl ⟨rfl,rfl⟩
theorem engRight0 (w:World):Calls prog 178 #[.int .i64 0] w λe w'=>e=.returned (.tuple #[])/\w'=w:=by
 go_enter func178,ntmps178
 go_wp2;go_end0;exact⟨rfl,rfl⟩
theorem engRight10 (w:World):Calls prog 178 #[.int .i64 10] w λe w'=>e=.panicked [{ v:=.iface 32 (.int .i64 300),recovered:=false }]/\w'=w:=by
 go_enter func178,ntmps178
 go_wp2;exact⟨rfl,rfl,rfl,rfl⟩
theorem readInt (w:World)(g:Nat)(s:ByteArray)(n:Int)(hG:Blk w g 249 #[.string s,.int .i64 0])(hi:∀w,Calls prog 214 #[.string s,.int .i64 0] w λe w'=>e=.returned (.tuple #[.int .i64 n,.int .i64 1,.int .i64 0])/\w'=w) :
 Calls prog 213 #[.pointer (some ⟨g,0,none⟩),.func (.func 214) #[] #[]] w λe w'=>e=.returned (.int .i64 n)/\Blk w' g 249 #[.string s,.int .i64 1]/\But g w w':=by
 have HI:=hid hi;have HG:=hid hG;have c0:w.cell? ⟨g,0,none⟩=some (.string s):=hG.cell 0;have c1:w.cell? ⟨g,1,none⟩=some (.int .i64 0):=hG.cell 1;have L0:=Later.of c0;have L1:=Later.of c1;have hl:=hG.lt;clear hi hG
 go_enter func213,ntmps213
 go_wp2_with fail
 refine Loose.wp_region_later [(9,.is (.tuple #[.int .i64 n,.int .i64 1,.int .i64 0]))] 17 (by kernel_rfl) (by kernel_rfl) ?_
 (simp only[List.take_succ_cons,List.take_zero,List.drop_succ_cons,List.drop_zero])
 (repeat(first|refine Loose.walk_skip rfl ?_|(refine Loose.walk_plain rfl rfl rfl λK h=>?_;go_big_quiet_op;refine h _ ?_;clear h K)))
 refine Loose.walk_loose rfl rfl (λW' hW' hF=>Loose.loose_call (f:=214) (args:=#[.string s,.int .i64 0]) (by kernel_rfl) ((HI.out W').mono λe w' ⟨he,hb⟩=>⟨_,he,hb▸Below.refl _ _,rfl⟩)) ?_;rintro _ _ _ rfl
 (simp only[Act.put,List.setIfInBounds_toArray,List.set_cons_succ,List.set_cons_zero])
 (repeat(first|refine Loose.walk_skip rfl ?_|(refine Loose.walk_plain rfl rfl rfl λK h=>?_;go_big_quiet_op;refine h _ ?_;clear h K)))
 refine Loose.walk_nil ?_;rintro U hU -;clear L0 L1 c0 c1
 go_wp2_with fail
 refine(engRight0 U).mono ?_;rintro e W ⟨rfl,rfl⟩;have HU:=hid (HG.out.below hU hl);have c1:=HU.out.cell 1;have fz:=HU.out.frozen 1;have c0:=HU.out.cell 0
 go_wp2_with fail
 go_ret;exact⟨rfl,HU.out.set_ 1 _,(But.of_below hU).setCell 1 _⟩
theorem readText (w:World)(g:Nat)(s:ByteArray)(hG:Blk w g 249 #[.string s,.int .i64 1])(hs:s.size=1) :
 Calls prog 215 #[.pointer (some ⟨g,0,none⟩),.func (.func 216) #[] #[]] w λe w'=>e=.panicked [{ v:=.iface 32 (.int .i64 300),recovered:=false }]/\Below w.heap.size w w':=by
 have HG:=hid hG;have c0:w.cell? ⟨g,0,none⟩=some (.string s):=hG.cell 0;have c1:w.cell? ⟨g,1,none⟩=some (.int .i64 1):=hG.cell 1;have L0:=Later.of c0;have L1:=Later.of c1;clear hG
 go_enter func215,ntmps215
 go_wp2_with fail
 refine Loose.wp_region_later [(9,.is (.tuple #[.string ⟨#[]⟩,.int .i64 0,.int .i64 10]))] 17 (by kernel_rfl) (by kernel_rfl) ?_
 (simp only[List.take_succ_cons,List.take_zero,List.drop_succ_cons,List.drop_zero])
 (repeat(first|refine Loose.walk_skip rfl ?_|(refine Loose.walk_plain rfl rfl rfl λK h=>?_;go_big_quiet_op;refine h _ ?_;clear h K)))
 refine Loose.walk_loose rfl rfl (λW' hW' hF=>Loose.loose_call (f:=216) (args:=#[.string s,.int .i64 1]) (by kernel_rfl) ((strEnd W' s hs).mono λe w' ⟨he,hb⟩=>⟨_,he,hb▸Below.refl _ _,rfl⟩)) ?_;rintro _ _ _ rfl
 (simp only[Act.put,List.setIfInBounds_toArray,List.set_cons_succ,List.set_cons_zero])
 (repeat(first|refine Loose.walk_skip rfl ?_|(refine Loose.walk_plain rfl rfl rfl λK h=>?_;go_big_quiet_op;refine h _ ?_;clear h K)))
 refine Loose.walk_nil ?_;rintro U hU -;clear L0 L1 c0 c1
 go_wp2_with fail
 refine(engRight10 U).mono ?_;rintro e W ⟨rfl,rfl⟩;exact⟨rfl,rfl,hU⟩
theorem inInt (w:World)(g:Nat)(s:ByteArray)(n:Int)(hG:Blk w g 249 #[.string s,.int .i64 0])(hi:∀w,Calls prog 214 #[.string s,.int .i64 0] w λe w'=>e=.returned (.tuple #[.int .i64 n,.int .i64 1,.int .i64 0])/\w'=w) :
 Calls prog 158 #[.pointer (some ⟨g,0,none⟩)] w λe w'=>e=.returned (.int .i64 n)/\Blk w' g 249 #[.string s,.int .i64 1]/\But g w w':=by
 have HI:=hid hi;clear hi
 go_enter func158,ntmps158
 go_wp2_with fail
 refine(readInt w g s n hG HI.out).mono ?_;rintro e w1 ⟨rfl,h1,h2⟩
 go_wp2_with fail
 go_ret;exact⟨rfl,h1,h2⟩
theorem inText (w:World)(g:Nat)(s:ByteArray)(hG:Blk w g 249 #[.string s,.int .i64 1])(hs:s.size=1) :
 Calls prog 159 #[.pointer (some ⟨g,0,none⟩)] w λe w'=>e=.panicked [{ v:=.iface 32 (.int .i64 300),recovered:=false }]/\Below w.heap.size w w':=by
 go_enter func159,ntmps159
 go_wp2_with fail
 refine(readText w g s hG hs).mono ?_;rintro e w1 ⟨rfl,h1⟩;exact⟨rfl,rfl,h1⟩
theorem command1 (w:World)(g:Nat)(s:ByteArray)(n:Int)(hG:Blk w g 249 #[.string s,.int .i64 0])(hs:s.size=1)(hi:∀w,Calls prog 214 #[.string s,.int .i64 0] w λe w'=>e=.returned (.tuple #[.int .i64 n,.int .i64 1,.int .i64 0])/\w'=w) :
 Calls prog 118 #[.pointer (some ⟨g,0,none⟩)] w λe w'=>e=.panicked [{ v:=.iface 32 (.int .i64 300),recovered:=false }]/\But g w w':=by
 have HI:=hid hi;have HG:=hid hG;clear hi hG;have hl:=HG.out.lt;obtain⟨cs,hcs⟩:∃cs:Array Value,cs=#[.int .i64 0,.string ⟨#[]⟩,.int .i64 0,.string ⟨#[]⟩,.slice none 0 0,.slice none 0 0]:=⟨_,rfl⟩;obtain⟨W0,hW0⟩:∃W0,W0=(w.alloc (.cells #[.pointer (some ⟨g,0,none⟩)] 196)).alloc (.cells #[.int .i64 0,.string ⟨#[]⟩,.int .i64 0,.string ⟨#[]⟩,.slice none 0 0,.slice none 0 0] 149):=⟨_,rfl⟩;have hX:=hid (show Blk W0 w.heap.size 196 #[.pointer (some ⟨g,0,none⟩)] by rw[hW0];exact(Blk.new _ _ _).alloc _);have hG0:=hid (show Blk W0 g 249 #[.string s,.int .i64 0] by rw[hW0];exact(HG.out.alloc _).alloc _);have hB0:=hid (show Below w.heap.size w W0 by rw[hW0];exact((Below.refl _ w).alloc (Nat.le_refl _) _).alloc (by simp) _);have x0:W0.cell? ⟨w.heap.size,0,none⟩=some (.pointer (some ⟨g,0,none⟩)):=hX.out.cell 0
 go_enter func118,ntmps118
 go_upto_region 1 with (fail)
 rw[<- hW0];clear hW0 hcs;refine wp_region_any (by kernel_rfl) ?_;change wpAny _ _ _ _ _ _ _ (World.drew _);refine wpAny_ready (rs:=[0,2]) (by kernel_rfl) (by simp) ?_;refine AllReady.cons rfl (λK hK=>?_) ?_
 ·go_simp;(refine hK _ _ ?_;clear hK K)
  refine wpAny_ready (rs:=[1,2]) (by kernel_rfl) (by simp) ?_;refine AllReady.cons rfl (λK hK=>?_) ?_
  ·go_simp
   refine(inInt _ g s n (show Blk W0.drew _ _ _ from hG0.out) HI.out).mono ?_;rintro e w1 ⟨rfl,hg1,hb1⟩;have x1:w1.cell? ⟨w.heap.size,0,none⟩=some (.pointer (some ⟨g,0,none⟩)):=(hb1.blk (show Blk W0.drew _ _ _ from hX.out) (by omega)).cell 0;refine hK _ _ ?_;clear hK K;refine wpAny_take (i:=4) (v:=?_) rfl (by kernel_rfl) (by kernel_rfl) (by kernel_rfl) (λ_ _ _ h=>h) (Or.inl ⟨by rfl,?_⟩) ?_
   rotate_left
   ·intro w
    go_simp
    with_reducible rfl
   refine wpAny_ready (rs:=[2]) (by kernel_rfl) (by simp) ?_;refine AllReady.cons rfl (λK hK=>?_) ?_
   ·go_simp;(refine hK _ _ ?_;clear hK K)
    refine wpAny_ready (rs:=[3]) (by kernel_rfl) (by simp) ?_;refine AllReady.cons rfl (λK hK=>?_) ?_
    ·go_simp
     refine(inText _ g s hg1 hs).mono ?_;rintro e w2 ⟨rfl,hb2⟩;exact⟨rfl,rfl,((But.of_below hB0.out.drew).trans hb1).trans (.of_below hb2)⟩
    exact AllReady.nil
   exact AllReady.nil
  refine AllReady.cons rfl (λK hK=>?_) ?_
  ·go_simp;(refine hK _ _ ?_;clear hK K)
   refine wpAny_ready (rs:=[1]) (by kernel_rfl) (by simp) ?_;refine AllReady.cons rfl (λK hK=>?_) ?_
   ·go_simp
    refine(inInt _ g s n (show Blk W0.drew _ _ _ from hG0.out) HI.out).mono ?_;rintro e w1 ⟨rfl,hg1,hb1⟩;have x1:w1.cell? ⟨w.heap.size,0,none⟩=some (.pointer (some ⟨g,0,none⟩)):=(hb1.blk (show Blk W0.drew _ _ _ from hX.out) (by omega)).cell 0;refine hK _ _ ?_;clear hK K;refine wpAny_take (i:=4) (v:=?_) rfl (by kernel_rfl) (by kernel_rfl) (by kernel_rfl) (λ_ _ _ h=>h) (Or.inl ⟨by rfl,?_⟩) ?_
    rotate_left
    ·intro w
     go_simp
     with_reducible rfl
    refine wpAny_ready (rs:=[3]) (by kernel_rfl) (by simp) ?_;refine AllReady.cons rfl (λK hK=>?_) ?_
    ·go_simp
     refine(inText _ g s hg1 hs).mono ?_;rintro e w2 ⟨rfl,hb2⟩;exact⟨rfl,rfl,((But.of_below hB0.out.drew).trans hb1).trans (.of_below hb2)⟩
    exact AllReady.nil
   exact AllReady.nil
  exact AllReady.nil
 refine AllReady.cons rfl (λK hK=>?_) ?_
 ·go_simp;(refine hK _ _ ?_;clear hK K)
  refine wpAny_ready (rs:=[0]) (by kernel_rfl) (by simp) ?_;refine AllReady.cons rfl (λK hK=>?_) ?_
  ·go_simp;(refine hK _ _ ?_;clear hK K)
   refine wpAny_ready (rs:=[1]) (by kernel_rfl) (by simp) ?_;refine AllReady.cons rfl (λK hK=>?_) ?_
   ·go_simp
    refine(inInt _ g s n (show Blk W0.drew _ _ _ from hG0.out) HI.out).mono ?_;rintro e w1 ⟨rfl,hg1,hb1⟩;have x1:w1.cell? ⟨w.heap.size,0,none⟩=some (.pointer (some ⟨g,0,none⟩)):=(hb1.blk (show Blk W0.drew _ _ _ from hX.out) (by omega)).cell 0;refine hK _ _ ?_;clear hK K;refine wpAny_take (i:=4) (v:=?_) rfl (by kernel_rfl) (by kernel_rfl) (by kernel_rfl) (λ_ _ _ h=>h) (Or.inl ⟨by rfl,?_⟩) ?_
    rotate_left
    ·intro w
     go_simp
     with_reducible rfl
    refine wpAny_ready (rs:=[3]) (by kernel_rfl) (by simp) ?_;refine AllReady.cons rfl (λK hK=>?_) ?_
    ·go_simp
     refine(inText _ g s hg1 hs).mono ?_;rintro e w2 ⟨rfl,hb2⟩;exact⟨rfl,rfl,((But.of_below hB0.out.drew).trans hb1).trans (.of_below hb2)⟩
    exact AllReady.nil
   exact AllReady.nil
  exact AllReady.nil
 exact AllReady.nil
end
section
open Go.RowKit Go.Shelf
abbrev cmdZ :Array Value:=#[.int .i64 0,.string ⟨#[]⟩,.int .i64 0,.string ⟨#[]⟩,.slice none 0 0,.slice none 0 0]
theorem size149 :(prog.info? 149).map (·.size)=some 6:=by kernel_rfl
theorem whole1 (w:World)(f i o g:Nat)(s:ByteArray)(n:Int)(hF:Blk w f 194 #[.func (.func 118) #[] #[]])(hI:Blk w i 196 #[.pointer (some ⟨g,0,none⟩)])(hG:Blk w g 249 #[.string s,.int .i64 0])(hs:s.size=1)(hi:∀w,Calls prog 214 #[.string s,.int .i64 0] w λe w'=>e=.returned (.tuple #[.int .i64 n,.int .i64 1,.int .i64 0])/\w'=w) :
 Calls prog 157 #[.pointer (some ⟨f,0,none⟩),.pointer (some ⟨i,0,none⟩),.pointer (some ⟨o,0,none⟩)] w λe w'=>e=.panicked [{ v:=.iface 32 (.int .i64 300),recovered:=false }]/\But g w w':=by
 have HI:=hid hi;have c1:=hF.cell 0;have c2:=hI.cell 0;clear hi
 go_enter func157,ntmps157
 go_wp2_with fail
 refine(command1 w g s n hG hs HI.out).mono ?_;rintro e w1 ⟨rfl,h1⟩;exact⟨rfl,rfl,h1⟩
theorem whole0 (w:World)(s:ByteArray)(n:Int)(hs:s.size=1)(hi:∀w,Calls prog 214 #[.string s,.int .i64 0] w λe w'=>e=.returned (.tuple #[.int .i64 n,.int .i64 1,.int .i64 0])/\w'=w) :
 Calls prog 117 #[.string s,.func (.func 118) #[] #[]] w λe w'=>e=.returned (.tuple #[.agg cmdZ,.int .i64 300])/\Below w.heap.size w w':=by
 have HI:=hid hi;clear hi;obtain⟨W,hW⟩:∃W,W=(((((w.alloc (.cells #[.func (.func 118) #[] #[]] 194)).alloc (.cells cmdZ 149)).alloc (.cells #[.string s,.int .i64 0] 249)).alloc (.cells #[.pointer (some ⟨w.heap.size+1+1,0,none⟩)] 196)).alloc (.cells cmdZ 149)).alloc (.cells cmdZ 149):=⟨_,rfl⟩;have hF:=hid (show Blk W w.heap.size 194 #[.func (.func 118) #[] #[]] by rw[hW];exact(((((Blk.new _ _ _).alloc _).alloc _).alloc _).alloc _).alloc _);have hR:=hid (show Blk W (w.heap.size+1) 149 cmdZ by rw[hW];exact((((Blk.new' _ 149 cmdZ (by simp)).alloc _).alloc _).alloc _).alloc _);have hG:=hid (show Blk W (w.heap.size+1+1) 249 #[.string s,.int .i64 0] by rw[hW];exact(((Blk.new' _ 249 _ (by simp)).alloc _).alloc _).alloc _);have hI:=hid (show Blk W (w.heap.size+1+1+1) 196 #[.pointer (some ⟨w.heap.size+1+1,0,none⟩)] by rw[hW];exact((Blk.new' _ 196 _ (by simp)).alloc _).alloc _);have hN:=hid (show Blk W (w.heap.size+1+1+1+1+1) 149 cmdZ by rw[hW];exact Blk.new' _ 149 _ (by simp));have hB:=hid (show Below w.heap.size w W by rw[hW];exact((((((Below.refl _ w).alloc (Nat.le_refl _) _).alloc (by simp) _).alloc (by simp;omega) _).alloc (by simp;omega) _).alloc (by simp;omega) _).alloc (by simp;omega) _);have hz:W.heap.size=w.heap.size+6:=by rw[hW];simp
 have HZ:=hid hz;have hz':w.heap.size+6<=W.heap.size:=by omega
 have ht:=etry_err W 157 #[.pointer (some ⟨w.heap.size,0,none⟩),.pointer (some ⟨w.heap.size+1+1+1,0,none⟩),.pointer (some ⟨w.heap.size+1+1+1+1,0,none⟩)] 300 (λV=>But (w.heap.size+1+1) (W.alloc (.cells #[.bool false] 4)) V) (enters_of func157 (by kernel_rfl) rfl)
  (whole1 _ _ _ _ (w.heap.size+1+1) s n (hF.out.alloc _) (hI.out.alloc _) (hG.out.alloc _) hs HI.out) (λV hV=>hV.blk (Blk.new W 4 #[.bool false]) (by omega))
 have HT:=hid ht;clear ht
 go_enter func117,ntmps117
 go_wp2_with fail
 rw[<- hW];clear hW hz;refine HT.out.mono ?_;rintro e w1 ⟨rfl,V,hV,rfl⟩;have hb2:=hid (((But.of_below (p:=w.heap.size+1+1) ((Below.refl W.heap.size W).alloc (Nat.le_refl _) (.cells #[.bool false] 4))).trans hV));have hR2:=hid ((hb2.out.blk hR.out (by omega)).far (p:=⟨W.heap.size,0,none⟩) (by show w.heap.size+1≠W.heap.size;omega) (.bool false));have hN2:=hid ((hb2.out.blk hN.out (by omega)).far (p:=⟨W.heap.size,0,none⟩) (by show w.heap.size+1+1+1+1+1≠W.heap.size;omega) (.bool false));have hB2:=hid ((hb2.out.below hB.out (by omega) (Nat.le_refl _)).setCell (p:=⟨W.heap.size,0,none⟩) (by show w.heap.size<=W.heap.size;omega) (.bool false));generalize V.setCell ⟨W.heap.size,0,none⟩ (.bool false)=U at *;clear HT hV hb2;have z1:(prog.info? 149).map (·.size)=some cmdZ.size:=size149;have z3:cmdZ.all (·.oneCell')=true:=by kernel_rfl
 have HS:=hid (hR2.out.setRow_same cmdZ);have HW:=hid (below_setRow hB2.out (g:=w.heap.size+1) (by omega) cmdZ)
 go_wp2_with (first
  | (with_reducible refine ldB 149 (.tmp 8) (w.heap.size+1+1+1+1+1) cmdZ hN2 underlying149 rfl z1 rfl rfl rfl ?_)
  | (with_reducible refine stB 149 (.tmp 4) (.tmp 24) (w.heap.size+1) cmdZ _ hR2 z1 (Eq.refl _) z3 rfl rfl rfl rfl ?_))
 exact bodyPost_ret (results_cell2 rfl _ _ (w.heap.size+1) 149 _ _ rfl HS.out underlying149 rfl z1) rfl ⟨rfl,HW.out⟩
theorem decode1 (w:World)(s:ByteArray)(n:Int)(hs:s.size=1)(hi:∀w,Calls prog 214 #[.string s,.int .i64 0] w λe w'=>e=.returned (.tuple #[.int .i64 n,.int .i64 1,.int .i64 0])/\w'=w) :
 Calls prog 95 #[.string s] w λe w'=>e=.returned (.tuple #[.agg cmdZ,.int .i64 300])/\Below w.heap.size w w':=by
 have HI:=hid hi;clear hi
 go_enter func95,ntmps95
 go_wp2_with fail
 refine(whole0 _ s n hs HI.out).mono ?_;rintro e w1 ⟨rfl,h1⟩;have hR2:=hid ((Blk.new w 149 cmdZ).below h1 (by simp));have hB2:=hid (((Below.refl w.heap.size w).alloc (Nat.le_refl _) (.cells cmdZ 149)).trans (h1.mono (by simp)));have z1:(prog.info? 149).map (·.size)=some cmdZ.size:=size149;have z3:cmdZ.all (·.oneCell')=true:=by kernel_rfl
 have HS:=hid (hR2.out.setRow_same cmdZ);have HW:=hid (below_setRow hB2.out (g:=w.heap.size) (by omega) cmdZ);clear h1
 go_wp2_with (with_reducible refine stB 149 (.tmp 2) (.tmp 6) w.heap.size cmdZ _ hR2 z1 (Eq.refl _) z3 rfl rfl rfl rfl ?_)
 exact bodyPost_ret (results_cell2 rfl _ _ w.heap.size 149 _ _ rfl HS.out underlying149 rfl z1) rfl ⟨rfl,HW.out⟩
theorem decodeA (w:World):Calls prog 95 #[.string sA] w λe w'=>e=.returned (.tuple #[.agg cmdZ,.int .i64 300])/\Below w.heap.size w w':=decode1 w sA _ rfl intA
theorem decodeC (w:World):Calls prog 95 #[.string sC] w λe w'=>e=.returned (.tuple #[.agg cmdZ,.int .i64 300])/\Below w.heap.size w w':=decode1 w sC _ rfl intC
end
section
open Go.RowKit Go.Shelf
attribute [local irreducible] rootF
def em8 :Array Value:=#[.string ⟨#[]⟩,.string ⟨#[]⟩,.string ⟨#[]⟩,.string ⟨#[]⟩,.string ⟨#[]⟩,.string ⟨#[]⟩,.string ⟨#[]⟩,.string ⟨#[]⟩]
theorem em8_one :em8.all (·.oneCell')=true:=by kernel_rfl
def rr (r:ByteArray):Nat->Array Value
 | 0=>em8
 | k+1=>(rr r k).setIfInBounds (k+1) (.string r)
theorem rr_size (r:ByteArray):∀k,(rr r k).size=8
 | 0=>rfl
 | k+1=>by rw[rr,Array.size_setIfInBounds];exact rr_size r k
theorem rr_one (r:ByteArray):∀k,(rr r k).all (·.oneCell')=true
 | 0=>em8_one
 | k+1=>by rw[rr];exact all_set (rr_one r k) rfl _
theorem size121 :(prog.info? 121).map (·.size)=some 8:=by kernel_rfl
theorem roots0 (w:World)(tab:Array Value)(hT:Tab w tab):Calls prog 144 #[cert0] w λe w'=>e=.returned (.tuple #[.agg (rr (rootF tab []) 7),.int .i64 0])/\Below w.heap.size w w':=by
 have HT:=hid hT;have ht0:=hT.1.lt;clear hT;obtain⟨r,hr⟩:∃r,r=rootF tab []:=⟨_,rfl⟩;have HR:=hid hr;rw[<- hr];clear hr;have hc:Hid (Blk (((w.alloc (.cells nil8 167)).alloc (.cells em8 121)).alloc (.cells em8 121)) w.heap.size 167 nil8):=hid (((Blk.new w 167 nil8).alloc _).alloc _);have hz:(prog.info? 167).map (·.size)=some nil8.size:=by kernel_rfl
 go_enter func144,ntmps144
 go_wp2_with (with_reducible refine ldB 167 (.tmp 1) w.heap.size nil8 hc underlying167 rfl hz rfl rfl rfl ?_)
 refine(certValid0 _).mono ?_;rintro e w1 ⟨rfl,h1⟩;have hA:=hid (hc.out.below h1 (by simp;omega));have hB:Hid (Blk w1 (w.heap.size+1) 121 em8):=hid (((Blk.new' _ 121 em8 (by simp)).alloc _).below h1 (by simp));have hC:Hid (Blk w1 (w.heap.size+2) 121 em8):=hid ((Blk.new' _ 121 em8 (by simp)).below h1 (by simp));have hW:Hid (Below w.heap.size w w1):=hid (((((Below.refl _ w).alloc (Nat.le_refl _) _).alloc (by simp) _).alloc (by simp;omega) _).trans (h1.mono (by simp;omega)));clear h1 hc
 go_wp2_with fail
 go_loopw [5] (λi wr=>∃(k:Nat) (cs:Array Value),k<=7/\i=.int .i64 ((k+1:Nat):Int)/\Hid (cs=rr r k)/\Hid (Blk wr w.heap.size 167 nil8)/\Hid (Blk wr (w.heap.size+1) 121 em8)/\Hid (Blk wr (w.heap.size+2) 121 cs)/\Hid (Below w.heap.size w wr)) (λi _=>8 - (intOf i).toNat)
 case atStart=>exact⟨0,em8,by omega,rfl,hid rfl,hA,hB,hC,hW⟩
 case round =>
  clear hA hB hC hW;obtain⟨k,cs,hk,rfl,hE,hA,hB,hC,hW⟩:=hrel;have hzc:cs.size=8:=by rw[hE.out];exact rr_size r k
  by_cases hlt:k<7
  ·go_wp2_with (with_reducible refine ldB 167 (.tmp 1) w.heap.size nil8 hA underlying167 rfl hz rfl rfl rfl ?_)
   have he:(k:Int)+1=((k+1:Nat):Int):=by omega
   rw[he];clear he;refine(certEntries0 wr (k+1) (by omega) (by omega)).mono ?_;rintro e w2 ⟨rfl,h2⟩;have hs2:=h2.size;have hsW:=hW.out.size
   go_wp2_with fail
   refine(sroot0 w2 tab ((HT.out.below hW.out ht0).below h2 (by omega))).mono ?_;rintro e w3 ⟨rfl,h3⟩;rw[<- HR.out];have h23:=h2.trans (h3.mono hs2);have HA:=hid (hA.out.below h23 hA.out.lt);have HB:=hid (hB.out.below h23 hB.out.lt);have HC:=hid (hC.out.below h23 hC.out.lt);have HW:=hid (hW.out.trans (h23.mono hW.out.size));have ck:∃u,w3.cell? ⟨w.heap.size+2,k+1,none⟩=some u:=⟨cs[k+1],(HC.out.cell (k+1)).trans (Array.getElem?_eq_getElem (by omega))⟩;obtain⟨u,ck⟩:=ck;have fz:=HC.out.frozen (k+1);have S1:=hid (HC.out.set_ (k+1) (.string r));have S2:=hid (HW.out.setCell (p:=⟨w.heap.size+2,k+1,none⟩) (by show w.heap.size<=w.heap.size+2;omega) (.string r));clear h2 h3 h23 hA hB hC hW
   go_wp2_with fail
   go_roundw
   case rel=>exact⟨k+1,_,by omega,by go_num,hid (by rw[hE.out];rfl),hid (HA.out.far (by show w.heap.size≠w.heap.size+1+1;omega) _),hid (HB.out.far (by show w.heap.size+1≠w.heap.size+1+1;omega) _),S1,S2⟩
   case measure=>simp[intOf];omega
  ·have hk7:k=7:=by omega
   subst hk7;have z1:(prog.info? 121).map (·.size)=some cs.size:=by rw[hzc];exact size121
   have z2:em8.size=cs.size:=by rw[hzc];rfl
   have z3:cs.all (·.oneCell')=true:=by rw[hE.out];exact rr_one r 7
   clear hzc;have HS:=hid (hB.out.setRow_same cs);have HW:=hid (below_setRow hW.out (g:=w.heap.size+1) (by omega) cs)
   go_wp2_with (first
    | (with_reducible refine ldB 121 (.tmp 4) (w.heap.size+2) cs hC underlying121 rfl z1 rfl rfl rfl ?_)
    | (with_reducible refine stB 121 (.tmp 2) (.tmp 29) (w.heap.size+1) cs _ hB z1 z2 z3 rfl rfl rfl rfl ?_))
   exact bodyPost_ret (results_cell2 rfl _ _ (w.heap.size+1) 121 _ _ rfl HS.out underlying121 rfl z1) rfl ⟨by rw[hE.out];rfl,HW.out⟩
end
section
open Go.RowKit Go.Shelf
attribute [local go_sem] Oper.semAt_some
theorem kinds_iter (n:Nat)(hn:1<=n)(l:Nat)(Kp:World->World->Prop)(J Jx:List (Fin 7)->World->Prop)
 (hY:∀pre (x:Fin 7) W,J pre W->pre.length<7->YieldAt Fence.wide (n - 1) prog l #[.int .i64 ((x.val+1:Nat):Int)] W λe W' =>
   (e=.returned (.bool true)/\J (pre++[x]) W'/\Kp W W')∨(e=.returned (.bool false)/\Jx (pre++[x]) W'))
 (W:World) (h0:J [] W) :
 CallsIn Fence.wide n prog 203 #[.func (.yield l) #[] #[]] W λe W'=>(∃v,e=.returned v) /\
  ((∃ys,ys=List.finRange 7/\J ys W')∨(∃pre,True/\Jx pre W')):=by
 refine callsIn_of_wp func203 rfl trivial ?_ rfl;simp only[ntmps203,List.size_toArray,List.length_cons,List.length_nil,Nat.reduceAdd,Nat.reduceSub,Array.replicate_succ,Array.replicate_zero,List.push_toArray,List.append_toArray,List.nil_append,List.cons_append]
 gi_wp2
 gi_loopw [2] (λi wr=>∃(k:Nat) (pre:List (Fin 7)),k<=7/\i=.int .i64 ((k+1:Nat):Int)/\pre.length=k/\Hid (pre=(List.finRange 7).take k)/\Hid (J pre wr)) (λi _=>8 - (intOf i).toNat)
 case atStart=>exact⟨0,[],by omega,rfl,rfl,hid rfl,hid h0⟩
 case round =>
  obtain⟨k,pre,hk,rfl,hpl,hpre,hJs⟩:=hrel
  by_cases hlt:k<7
  ·obtain⟨fn,tmps,assign,body,hy,hR⟩:=hY pre ⟨k,hlt⟩ wr hJs.out (by omega)
   rw[show(((⟨k,hlt⟩:Fin 7).val+1:Nat):Int)=(k:Int)+1 from rfl]at hy;clear hY h0
   gi_wp2
   refine hR.mono ?_;rintro e W3 (⟨rfl,hJ3,hk3⟩|⟨rfl,hJx3⟩)
   ·have HJ:=hid hJ3
    have hpre':Hid (pre++[⟨k,hlt⟩]=(List.finRange 7).take (k+1)):=hid (by
     rw[List.take_succ_eq_append_getElem (by simpa using hlt),<- hpre.out];simp)
    clear hJ3 hk3 hy hR
    gi_wp2
    go_roundw
    case rel=>exact⟨k+1,_,by omega,by go_num,by simp[hpl],hpre',HJ⟩
    case measure=>simp[intOf];omega
   ·gi_wp2
    first|go_end0|refine bodyPost_ret (results_none rfl _ _ _) rfl ?_
    exact⟨⟨_,rfl⟩,.inr ⟨_,trivial,hJx3⟩⟩
  ·gi_wp2
   first|go_end0|refine bodyPost_ret (results_none rfl _ _ _) rfl ?_
   exact⟨⟨_,rfl⟩,.inl ⟨pre,by rw[hpre.out,List.take_of_length_le (by simp;omega)],hJs.out⟩⟩
theorem kinds_stops (n:Nat)(hn:1<=n)(Kp:World->World->Prop)(w:World) :
 SeqStopsK Fence.wide n prog 203 #[] (λx:Fin 7=>#[Value.int .i64 ((x.val+1:Nat):Int)]) Kp (λys=>ys=List.finRange 7) (λ_=>True) 7 w :=
 λl J Jx W _ _ _ hY h0=>kinds_iter n hn l Kp J Jx hY W h0
theorem kinds0 (w:World):Calls prog 145 #[] w λe w'=>e=.returned (.func (.func 203) #[] #[])/\w'=w:=by
 go_enter func145,ntmps145
 go_wp2_with fail
 go_ret;exact⟨rfl,rfl⟩
end
end Go.Proofs.YtnehgpeelgjjhaaGreatDoor.Tw
