/- Contracts of functions of the program, and plain laws, towards the laws of replicas. Joined of the texts: F6, G5, G6, D12, D11, V12, R20, R27. -/
import Derived.Test.YtnehgpeelgjjhaaGreatDoorW19
import Derived.Test.YtnehgpeelgjjhaaGreatDoorW15
import Derived.Test.YtnehgpeelgjjhaaGreatDoorW04
import Derived.Test.YtnehgpeelgjjhaaGreatDoorW06
import Derived.Deep.DeepCutAuto
import Derived.Laws.Closers25b
import Derived.Test.YtnehgpeelgjjhaaGreatDoorW18
import Derived.Test.YtnehgpeelgjjhaaGreatDoorW12
import Derived.Test.YtnehgpeelgjjhaaGreatDoorW05
set_option linter.all false
set_option maxRecDepth 100000
set_option maxHeartbeats 12800000
open Go.Lib (hid)
namespace Go.Proofs.YtnehgpeelgjjhaaGreatDoor.Tw
open Go.Proofs.Tryz
section
open Go.RowKit Go.Shelf
attribute [local irreducible] enc1 IsB
def encG :List UInt8:=(((enc1 0).data.toList++(enc1 0).data.toList)++(enc1 0).data.toList)
theorem encode1 (w:World)(b g:Nat)(hB:IsB w b [])(hG:Blk w g 79 #[nilS,nilS,nilS])(hgb:g<b) :
 Calls prog 195 #[.pointer (some ⟨b,0,none⟩),.pointer (some ⟨g,0,none⟩)] w λe w'=>e=.returned (.tuple #[])/\IsB w' b encG/\Below b w w'/\Oth b w w':=by
 have HB:=hid hB;have HG:=hid hG;have hlt:=hB.lt;clear hB hG;obtain⟨g1,g2,g3⟩:=HG.out.three;have HE:Hid ((enc1 0).data.toList.length=1):=hid (by rw[Array.length_toList];exact enc1_size 0)
 go_enter func195,ntmps195
 go_wp2_with fail
 have hk1:=(Blk.new w 3 #[.int .i64 0]).cell 0;refine(put1 _ b w.heap.size 1 0 [] (by omega) (HB.out.alloc _) (by simp) hk1).mono ?_;rintro e w1 ⟨rfl,hb1,h1,ho1⟩;have HB1:=hid hb1;have HW1:=hid (((Below.refl _ _).alloc (Nat.le_of_lt hlt) _).trans h1);have HO1:=hid ((((Lib.OthersKept.refl 5 (some b) _).alloc _).trans ho1));have HG1:=hid (HG.out.below HW1.out hgb);have hz1:=HW1.out.size;clear hb1 h1 ho1 hk1 g1 g2 g3;obtain⟨g1,g2,g3⟩:=HG1.out.three
 go_wp2_with fail
 refine wp_loop_rounds 1 ?_;rw[rounds_succ]
 go_wp2_with fail
 have hk1:=(Blk.new w1 3 #[.int .i64 0]).cell 0;refine(put1 _ b w1.heap.size 1 0 _ (by omega) (HB1.out.alloc _) (by simp[HE.out]) hk1).mono ?_;rintro e w2 ⟨rfl,hb2,h2,ho2⟩;have HB2:=hid hb2;have HW2:=hid (HW1.out.trans (((Below.refl _ _).alloc (by omega) _).trans h2));have HO2:=hid (HO1.out.trans (((Lib.OthersKept.refl 5 (some b) _).alloc _).trans ho2));have HG2:=hid (HG.out.below HW2.out hgb);have hz2:=HW2.out.size;clear hb2 h2 ho2 hk1 g1 g2 g3;obtain⟨g1,g2,g3⟩:=HG2.out.three
 go_wp2_with fail
 refine wp_loop_rounds 1 ?_;rw[rounds_succ]
 go_wp2_with fail
 have hk1:=(Blk.new w2 3 #[.int .i64 0]).cell 0;refine(put1 _ b w2.heap.size 1 0 _ (by omega) (HB2.out.alloc _) (by simp[HE.out]) hk1).mono ?_;rintro e w3 ⟨rfl,hb3,h3,ho3⟩;have HB3:=hid hb3;have HW3:=hid (HW2.out.trans (((Below.refl _ _).alloc (by omega) _).trans h3));have HO3:=hid (HO2.out.trans (((Lib.OthersKept.refl 5 (some b) _).alloc _).trans ho3));have HG3:=hid (HG.out.below HW3.out hgb);have hz3:=HW3.out.size;clear hb3 h3 ho3 hk1 g1 g2 g3;obtain⟨g1,g2,g3⟩:=HG3.out.three
 go_wp2_with fail
 refine(put0 w3 b).mono ?_;rintro e W ⟨rfl,rfl⟩
 go_wp2_with fail
 go_end0;refine⟨rfl,?_,HW3.out,HO3.out⟩;have:=HB3.out;simpa[encG]using this
attribute [local semireducible] IsB in
theorem IsB.setCell {w:World}{b k:Nat}{l:List UInt8}{T:TypeId}{cs:Array Value}(h:IsB w b l)(hk:Blk w k T cs)(hT:T≠5)(hkb:k≠b)(v:Value):IsB (w.setCell ⟨k,0,none⟩ v) b l:=by
 have hgr:w.grownBy (w.setCell ⟨k,0,none⟩ v) (some k):=⟨rfl,rfl,rfl,by simp,λi _ hi=>Below.heap_setCell _ _ _ _ (λe=>hi (by simp[e]))⟩;unfold IsB at h ⊢;rcases h with ⟨h1,u,h2,h3,h4⟩|⟨h1,u,h2,h3,h4⟩
 ·exact .inl ⟨h1,u,(Below.heap_setCell _ _ _ _ (Ne.symm hkb)).trans h2,h3.kept hgr (.inr (Lib.ownBlock_neF h3 hk.heap hT)),h4⟩
 ·exact .inr ⟨h1,u,(Below.heap_setCell _ _ _ _ (Ne.symm hkb)).trans h2,h3.kept hgr (.inr (Lib.ownBlock_neF h3 hk.heap hT)),h4⟩
theorem writes0 (w:World)(b f g:Nat)(hB:IsB w b [])(hG:Blk w g 79 #[nilS,nilS,nilS])(hF:Blk w f 292 #[.func (.func 195) #[] #[.pointer (some ⟨g,0,none⟩)]])(hgb:g<b) :
 Calls prog 250 #[.pointer (some ⟨f,0,none⟩),.pointer (some ⟨b,0,none⟩)] w λe w'=>e=.returned (.tuple #[])/\IsB w' b encG/\Below b w w'/\Oth b w w':=by
 have hc:=hF.cell 0;have HB:=hid hB;clear hB
 go_enter func250,ntmps250
 go_wp2_with fail
 refine(encode1 w b g HB.out hG hgb).mono ?_;rintro e w1 ⟨rfl,h1⟩
 go_wp2_with fail
 go_end0;exact⟨rfl,h1⟩
theorem written0 (w:World)(g:Nat)(hG:Blk w g 79 #[nilS,nilS,nilS]) :
 Calls prog 194 #[.func (.func 195) #[] #[.pointer (some ⟨g,0,none⟩)]] w λe w'=>e=.returned (.tuple #[.string ⟨encG.toArray⟩,.bool true])/\Below w.heap.size w w':=by
 have HG:=hid hG;have hlt:=hG.lt;clear hG
 go_enter func194,ntmps194
 go_wp2_with fail
 have hB0:=IsB.new (w.alloc (.cells #[.func (.func 195) #[] #[.pointer (some ⟨g,0,none⟩)]] 292));have hF0:Blk ((w.alloc (.cells #[.func (.func 195) #[] #[.pointer (some ⟨g,0,none⟩)]] 292)).alloc (.cells #[.pointer none,.slice none 0 0] 315)) w.heap.size 292 #[.func (.func 195) #[] #[.pointer (some ⟨g,0,none⟩)]]:=(Blk.new w 292 _).alloc _;have hW0:Below w.heap.size w ((w.alloc (.cells #[.func (.func 195) #[] #[.pointer (some ⟨g,0,none⟩)]] 292)).alloc (.cells #[.pointer none,.slice none 0 0] 315)):=((Below.refl _ _).alloc (Nat.le_refl _) _).alloc (by simp) _;have hs0:((w.alloc (.cells #[.func (.func 195) #[] #[.pointer (some ⟨g,0,none⟩)]] 292)).alloc (.cells #[.pointer none,.slice none 0 0] 315)).heap.size=w.heap.size+2:=by simp
 simp only[World.size_alloc]at hB0;obtain⟨W,hW⟩:∃W,W=(w.alloc (.cells #[.func (.func 195) #[] #[.pointer (some ⟨g,0,none⟩)]] 292)).alloc (.cells #[.pointer none,.slice none 0 0] 315):=⟨_,rfl⟩;rw[<- hW]at hB0 hF0 hW0 hs0 ⊢;clear hW;have hB1:=hB0.alloc (.cells #[.bool false] 4);have hF1:=hF0.alloc (.cells #[.bool false] 4);have hG1:=(HG.out.below hW0 hlt).alloc (.cells #[.bool false] 4);have hK:=Blk.new W 4 #[.bool false];have ht:=gtry_ok W 250 #[.pointer (some ⟨w.heap.size,0,none⟩),.pointer (some ⟨w.heap.size+1,0,none⟩)] (λV=>IsB V (w.heap.size+1) encG/\Below (w.heap.size+1) (W.alloc (.cells #[.bool false] 4)) V/\Oth (w.heap.size+1) (W.alloc (.cells #[.bool false] 4)) V) (enters_of func250 (by kernel_rfl) rfl)
  (writes0 _ (w.heap.size+1) w.heap.size g hB1 hG1 hF1 (by omega)) (λV hV=>hV.2.2 _ _ hK (by simp;omega) (by simp))
 have HT:=hid ht;clear ht hB0 hB1 hF0 hF1 hG1 hK;refine HT.out.mono ?_;rintro e w1 ⟨rfl,V,⟨hV1,hV2,hV3⟩,rfl⟩;have hK:=Blk.new W 4 #[.bool false];have hKV:Blk V W.heap.size 4 #[.bool false]:=hV3 _ _ hK (by simp;omega) (by simp);have hB2:=hid ((hV1.setCell hKV (by decide) (by omega) (.bool true)).setCell (set_same hKV true) (by decide) (by omega) (.bool true));have hW2:=hid (((hW0.alloc (by omega) (.cells #[.bool false] 4)).trans (hV2.mono (by omega))).setCell (p:=⟨W.heap.size,0,none⟩) (by show w.heap.size<=W.heap.size;omega) (.bool true) |>.setCell (p:=⟨W.heap.size,0,none⟩) (by show w.heap.size<=W.heap.size;omega) (.bool true));obtain⟨U,hU⟩:∃U,U=(V.setCell ⟨W.heap.size,0,none⟩ (.bool true)).setCell ⟨W.heap.size,0,none⟩ (.bool true):=⟨_,rfl⟩;rw[<- hU]at hB2 hW2 ⊢;clear hU hKV hK hV1 hV2 hV3 HT
 go_wp2_with fail
 refine(builder_string U (w.heap.size+1) encG hB2.out).mono ?_;rintro e w3 ⟨rfl,h3⟩
 go_wp2_with fail
 go_ret2;exact⟨rfl,hW2.out.trans (h3.mono (by omega))⟩
theorem encode0 (w:World):Calls prog 139 #[g0] w λe w'=>e=.returned (.tuple #[.string ⟨encG.toArray⟩,.int .i64 0])/\Below w.heap.size w w':=by
 go_enter func139,ntmps139
 go_wp2_with fail
 refine(valid0 _).mono ?_;rintro e w1 ⟨rfl,h1⟩;have hG:=(Blk.new w 79 #[nilS,nilS,nilS]).below h1 (by simp);have hW1:=((Below.refl _ w).alloc (Nat.le_refl _) (.cells #[nilS,nilS,nilS] 79)).trans (h1.mono (by simp));have hs1:=hW1.size;clear h1
 go_wp2_with fail
 refine(written0 w1 w.heap.size hG).mono ?_;rintro e w2 ⟨rfl,h2⟩
 go_wp2_with fail
 go_ret2;exact⟨rfl,hW1.trans (h2.mono hs1)⟩
end
section
open Go.RowKit Go.Shelf
attribute [local go_sem] Oper.semAt_some
attribute [local irreducible] enc1
def hdr :ByteArray:=enc1 0++⟨#[]⟩++enc1 0
theorem entries_iter (n:Nat)(hn:1<=n)(l g n₀ p:Nat)(J Jx:List Unit->World->Prop)
 (hJ:∀s (A B:World),J s A->A.grownBy B none->J s B)
 (hY:∀pre (x:Unit) W,J pre W->pre.length<1->YieldAt Fence.wide (n - 1) prog l #[.agg #[.int .i64 63,.string hdr]] W λe W' =>
   (e=.returned (.bool true)/\J (pre++[x]) W'/\KeepB n₀ p W W')∨(e=.returned (.bool false)/\Jx (pre++[x]) W'))
 (W:World) (hG:Blk W g 79 #[nilS,nilS,nilS]) (h0:J [] W) :
 CallsIn Fence.wide n prog 321 #[.func (.yield l) #[] #[],.pointer (some ⟨g,0,none⟩)] W λe W'=>(∃v,e=.returned v) /\
  ((∃ys,ys=[()]/\J ys W')∨(∃pre,True/\Jx pre W')):=by
 have HG:=hid hG;have hs:Hid (hdr.size=2):=hid (by unfold hdr;simp only[ByteArray.size_append,enc1_size];rfl);obtain⟨g1,g2,g3⟩:=hG.three;have z1:¬9223372036854775807<(enc1 0).size:=by rw[enc1_size];omega
 have z2:¬9223372036854775807<(enc1 0).size+(enc1 0).size:=by rw[enc1_size];omega
 clear hG;have L1:=Later.of g3;refine callsIn_of_wp func321 rfl trivial ?_ rfl;simp only[ntmps321,List.size_toArray,List.length_cons,List.length_nil,Nat.reduceAdd,Nat.reduceSub,Array.replicate_succ,Array.replicate_zero,List.push_toArray,List.append_toArray,List.nil_append,List.cons_append];refine wpIn_wide.2 ?_
 go_wp2_with fail
 refine wp_loop_rounds 1 ?_;rw[rounds_succ]
 go_wp2_with fail
 refine wp_loop_rounds 1 ?_;rw[rounds_succ]
 go_wp2_with fail
 refine(wpIn_wide (n:=n)).1 ?_;refine Loose.wpIn_region_later [(4,.row W.heap.size 3 1 #[.int .i64 0]),(5,.is (.string (enc1 0))),(8,.is (.string ⟨#[]⟩)),(11,.row W.heap.size 3 1 #[.int .i64 0]),(12,.is (.string (enc1 0)))] 15 (by kernel_rfl) (by kernel_rfl) ?_
 (simp only[List.take_succ_cons,List.take_zero,List.drop_succ_cons,List.drop_zero])
 (repeat(first|refine Loose.walk_skip rfl ?_|(refine Loose.walk_plain rfl rfl rfl λK h=>?_;go_big_quiet_op;refine h _ ?_;clear h K)))
 refine Loose.walk_loose rfl rfl (λW' hW' _=>Loose.loose_val (u:=.slice (some ⟨W'.heap.size,0,none⟩) 1 1) (W':=W'.alloc (.cells #[.int .i64 0] 3)) (by kernel_rfl) ((Below.refl _ _).alloc (Nat.le_refl _) _) ⟨_,rfl,hW'.size,Blk.new _ _ _⟩) ?_;rintro _ _ _ ⟨x,rfl,hx,_⟩
 (simp only[Act.put,List.setIfInBounds_toArray,List.set_cons_succ,List.set_cons_zero])
 (repeat(first|refine Loose.walk_skip rfl ?_|(refine Loose.walk_plain rfl rfl rfl λK h=>?_;go_big_quiet_op;refine h _ ?_;clear h K)))
 refine Loose.walk_loose rfl rfl (λW' hW' hF=>Loose.loose_call (f:=323) (args:=#[.slice (some ⟨x,0,none⟩) 1 1]) (by kernel_rfl) ((ints1 W' x 1 0 (by omega) ((Loose.Pred.row_at (hF.get 4 (by decide) rfl rfl rfl (by decide) (by intro h;cases h))).2.cell 0)).mono λe w' ⟨he,hb⟩=>⟨_,he,hb,rfl⟩)) ?_;rintro _ _ _ rfl
 (simp only[Act.put,List.setIfInBounds_toArray,List.set_cons_succ,List.set_cons_zero])
 (repeat(first|refine Loose.walk_skip rfl ?_|(refine Loose.walk_plain rfl rfl rfl λK h=>?_;go_big_quiet_op;refine h _ ?_;clear h K)))
 refine Loose.walk_loose rfl rfl (λW' hW' hF=>Loose.loose_call (f:=323) (args:=#[.slice none 0 0]) (by kernel_rfl) ((ints0 W').mono λe w' ⟨he,hb⟩=>⟨_,he,hb,rfl⟩)) ?_;rintro _ _ _ rfl
 (simp only[Act.put,List.setIfInBounds_toArray,List.set_cons_succ,List.set_cons_zero])
 (repeat(first|refine Loose.walk_skip rfl ?_|(refine Loose.walk_plain rfl rfl rfl λK h=>?_;go_big_quiet_op;refine h _ ?_;clear h K)))
 refine Loose.walk_loose rfl rfl (λW' hW' _=>Loose.loose_val (u:=.slice (some ⟨W'.heap.size,0,none⟩) 1 1) (W':=W'.alloc (.cells #[.int .i64 0] 3)) (by kernel_rfl) ((Below.refl _ _).alloc (Nat.le_refl _) _) ⟨_,rfl,hW'.size,Blk.new _ _ _⟩) ?_;rintro _ _ _ ⟨y,rfl,hy,_⟩
 (simp only[Act.put,List.setIfInBounds_toArray,List.set_cons_succ,List.set_cons_zero])
 (repeat(first|refine Loose.walk_skip rfl ?_|(refine Loose.walk_plain rfl rfl rfl λK h=>?_;go_big_quiet_op;refine h _ ?_;clear h K)))
 refine Loose.walk_loose rfl rfl (λW' hW' hF=>Loose.loose_call (f:=323) (args:=#[.slice (some ⟨y,0,none⟩) 1 1]) (by kernel_rfl) ((ints1 W' y 1 0 (by omega) ((Loose.Pred.row_at (hF.get 11 (by decide) rfl rfl rfl (by decide) (by intro h;cases h))).2.cell 0)).mono λe w' ⟨he,hb⟩=>⟨_,he,hb,rfl⟩)) ?_;rintro _ _ _ rfl
 (simp only[Act.put,List.setIfInBounds_toArray,List.set_cons_succ,List.set_cons_zero])
 (repeat(first|refine Loose.walk_skip rfl ?_|(refine Loose.walk_plain rfl rfl rfl λK h=>?_;go_big_quiet_op;refine h _ ?_;clear h K)))
 refine Loose.walk_nil ?_;rintro U hU -;have hJU:=hJ _ _ _ h0 (grown_below hU none);obtain⟨fn,tmps,assign,body,hy,hR⟩:=hY [] () U hJU (by simp);unfold hdr at hy;clear hY h0 hJU hJ L1 hs
 gi_wp2
 refine hR.mono ?_;rintro e W3 (⟨rfl,hJ3,hk3⟩|⟨rfl,hJx3⟩)
 ·gi_wp2
  first|go_end0|refine bodyPost_ret (results_none rfl _ _ _) rfl ?_
  exact⟨⟨_,rfl⟩,.inl ⟨[()],rfl,hJ3⟩⟩
 ·gi_wp2
  first|go_end0|refine bodyPost_ret (results_none rfl _ _ _) rfl ?_
  exact⟨⟨_,rfl⟩,.inr ⟨_,trivial,hJx3⟩⟩
theorem entries_stops (n:Nat)(hn:1<=n)(g n₀ p:Nat)(w:World)(hG:Blk w g 79 #[nilS,nilS,nilS]) :
 SeqStopsK Fence.wide n prog 321 #[.pointer (some ⟨g,0,none⟩)] (λ_:Unit=>#[.agg #[.int .i64 63,.string hdr]]) (KeepB n₀ p) (λys=>ys=[()]) (λ_=>True) 1 w :=
 λl J Jx W hW hJ _ hY h0=>entries_iter n hn l g n₀ p J Jx (λs A B hs hg=>hJ s A B none hs hg (λr e=>by cases e)) hY W (hG.below hW hG.lt) h0
end
section
open Go.RowKit Go.Shelf
attribute [local go_sem] Oper.semAt_some
theorem hdr_size :hdr.size=2:=by unfold hdr;simp only[ByteArray.size_append,enc1_size];rfl
theorem hdr_some :hdr.toList.isEmpty=false:=by
 cases h:hdr.toList with
 | nil =>
   have e:=(Go.toList_nil_iff_emptyBytes hdr).1 h;have:=hdr_size;rw[e]at this;cases this
 | cons a l=>rfl
attribute [local irreducible] enc1 hdr
theorem entriesOf (w:World):Calls prog 253 #[g0] w λe w'=>∃b,e=.returned (.func (.func 321) #[] #[.pointer (some ⟨b,0,none⟩)])/\Blk w' b 79 #[nilS,nilS,nilS]/\Below w.heap.size w w':=by
 go_enter func253,ntmps253
 go_wp2;go_ret;exact⟨_,rfl,Blk.new w 79 _,(Below.refl _ _).alloc (Nat.le_refl _) _⟩
theorem info376 :(prog.info? 376).map (λi=>(i.size,i.bytes,i.zero))=some (2,24,some (.agg #[.int .i64 0,.string ⟨#[]⟩])):=by kernel_rfl
theorem But.kept' {w w':World}(h:But w.heap.size w w')(B:Nat):KeepsFrom B w w':=⟨h.size,λk o _ hk _=>(h.block k (Array.getElem?_eq_some_iff.1 hk).1 (by have:=(Array.getElem?_eq_some_iff.1 hk).1;omega)).trans hk⟩
theorem But.kept {p:Nat}{w w':World}(h:But p w w'){t:TypeId}{cs:Array Value}(hp:Blk w p t cs)(B:Nat):KeepsFrom B w w':=(KeepsOthers.of_but h hp).from B
theorem But.below {p B:Nat}{a w w':World}(h:But p w w')(ha:Below B a w)(hp:B<=p)(hB:B<=a.heap.size):Below B a w' :=
 ⟨h.os.trans ha.os,h.tape.trans ha.tape,h.output.trans ha.output,Nat.le_trans ha.size h.size,λk hk=>(h.block k (by have:=ha.size;omega) (by omega)).trans (ha.block k hk)⟩
theorem But.alloc {p:Nat}{w w':World}(h:But p w w')(o:Obj):But p w (w'.alloc o):=h.trans (.of_below ((Below.refl _ _).alloc (Nat.le_refl _) o))
theorem blk_own {β:Type}(B g:Nat)(t:TypeId)(cs:Array Value):OwnFrom B (fun(_:β) W=>Blk W g t cs):=λ_ A C row h hg hr =>
 (hg.block g h.lt (λe=>by obtain⟨_,o,ho,hc⟩:=hr g e.symm;rw[h.heap]at ho;cases ho;cases hc)).trans h
theorem cell_own {A C:World}{row:Option Nat}{g i:Nat}{v:Value}(h:A.cell? ⟨g,i,none⟩=some v)(hg:A.grownBy C row)(hr:∀r,row=some r->∃o:Obj,A.heap[r]?=some o/\o.isCells=false):C.cell? ⟨g,i,none⟩=some v:=by
 refine(World.cell?_of_block (hg.block g (lt_of_cell h) λe=>?_)).trans h;obtain⟨o,ho,hc⟩:=hr g e.symm;unfold World.cell? at h;simp only[ho]at h;cases o<;>simp_all[Obj.isCells]
def EI (w w4:World)(p:Nat)(pre:List Unit)(W:World):Prop :=
 (if pre.length=0 then Blk W p 300 #[.slice none 0 0]else ∃g cap,Blk W p 300 #[.slice (some ⟨g,0,none⟩) 1 cap]/\W.cell? ⟨g,0,none⟩=some (.int .i64 63)/\W.cell? ⟨g,1,none⟩=some (.string hdr))/\KeepB w4.heap.size p w4 W/\Below w.heap.size w W
theorem EI.own {w w4:World}{p:Nat}(hw:w.heap.size<=w4.heap.size):OwnFrom w4.heap.size (EI w w4 p):=by
 rintro s A B row ⟨h1,h2,h3⟩ hg hr;refine⟨?_,h2.grown hg (λr e=>(hr r e).1) (Nat.le_refl _),?_⟩
 ·split at h1
  ·rename_i hs
   rw[if_pos hs];exact blk_own w4.heap.size _ _ _ () A B row h1 hg hr
  ·rename_i hs
   rw[if_neg hs];obtain⟨g,cap,h4,h5,h6⟩:=h1;exact⟨g,cap,blk_own w4.heap.size _ _ _ () A B row h4 hg hr,cell_own h5 hg (λr e=>(hr r e).2),cell_own h6 hg (λr e=>(hr r e).2)⟩
 ·refine⟨hg.os.trans h3.os,hg.tape.trans h3.tape,hg.output.trans h3.output,Nat.le_trans h3.size hg.size,λk hk=>?_⟩
  have hnk:some k≠row:=λe=>by have:=(hr k e.symm).1;omega
  exact(hg.block k (Nat.lt_of_lt_of_le hk h3.size) hnk).trans (h3.block k hk)
theorem pageEntries0 (w:World):Calls prog 199 #[g0] w λe w'=>(∃g c,e=.returned (.tuple #[.slice (some ⟨g,0,none⟩) 1 c,.int .i64 0])/\w'.cell? ⟨g,0,none⟩=some (.int .i64 63)/\w'.cell? ⟨g,1,none⟩=some (.string hdr))/\Below w.heap.size w w':=by
 refine calls_of_marks func199 rfl ?_;simp only[ntmps199,List.size_toArray,List.length_cons,List.length_nil,Nat.reduceAdd,Nat.reduceSub,Array.replicate_succ,Array.replicate_zero,List.push_toArray,List.append_toArray,List.nil_append,List.cons_append]
 go_wp2_with fail
 refine(valid0 _).mono ?_;rintro e w1 ⟨rfl,h1⟩;have hG:=(Blk.new w 79 #[nilS,nilS,nilS]).below h1 (by simp);have hW1:=((Below.refl w.heap.size w).alloc (Nat.le_refl _) (.cells #[nilS,nilS,nilS] 79)).trans (h1.mono (by simp));have hs1:=h1.size;simp only[World.size_alloc]at hs1;obtain⟨c1,c2,c3⟩:=(hG.alloc (.cells #[.slice none 0 0] 300)).three;clear h1
 go_wp2_with fail
 refine(entriesOf _).mono ?_;rintro e w4 ⟨b1,rfl,hb1,h4⟩
 go_wp2_with fail
 have hz4:=h4.size;simp only[World.size_alloc]at hz4 h4;have HP:Hid (Blk w4 w1.heap.size 300 #[.slice none 0 0]):=hid ((Blk.new w1 300 #[.slice none 0 0]).below h4 (by simp));have HW4:Hid (Below w.heap.size w w4):=hid ((hW1.alloc (by omega) (.cells #[.slice none 0 0] 300)).trans (h4.mono (by omega)));have HB:=hid hb1;clear hb1 h4 hW1 hG c1 c2 c3;refine with_act ?_;intro b hb;refine wpIn_wide (n:=9).1 ?_;refine wpIn_rangeFunc_ownH (α:=Unit) (F:=Fence.wide) rfl (by omega) (gf:=321) (lb:=#[.pointer (some ⟨b1,0,none⟩)]) (by rw[hb];rfl) trivial (enters_of func321 (by kernel_rfl) rfl)
  (entries_stops 8 (by omega) b1 w4.heap.size w1.heap.size w4 HB.out) (λh k=>h.trans k) (λW l o o' hl _ _ _=>KeepB.putObj hl o') (Below.refl _ _) (λ_=>rfl)
  (EI w w4 w1.heap.size)
  (λ_ _ _=>False)
  (EI.own HW4.out.size)
  (λ_ _ _ _ _ hs _ _=>hs) ⟨by simpa using HP.out,KeepB.refl _ _ _,HW4.out⟩
  (λ_ a' W=>∃g5,a'={ tmps:=(b.tmps.setIfInBounds 11 (.agg #[.int .i64 63,.string hdr])).setIfInBounds 5 (.pointer (some ⟨g5,0,none⟩)),defers:=[] }/\w4.heap.size<=g5/\Blk W g5 376 #[.int .i64 63,.string hdr]) ?ownA ?assign ?body ?done ?stop
 case ownA =>
  rintro x a' _ A B row ⟨g5,h1,h2,h3⟩ hg hr;exact⟨g5,h1,h2,blk_own w4.heap.size g5 376 _ () A B row h3 hg hr⟩
 case assign =>
  subst hb;rintro l pre x W K hI hK;simp only[List.setIfInBounds_toArray,List.set_cons_succ,List.set_cons_zero]at hK
  gi_wp2
  have hbw:Below W.heap.size W (W.alloc (.cells #[.int .i64 63,.string hdr] 376)):=(Below.refl _ _).alloc (Nat.le_refl _) _;exact hK _ _ ((But.of_below (p:=W.heap.size) hbw).kept' _) (KeepB.of_below hbw hI.2.1.1) ((EI.own HW4.out.size).alloc _ hI) ⟨W.heap.size,rfl,hI.2.1.1,Blk.new _ _ _⟩
 case body =>
  subst hb;rintro l pre x a' W _ _ ⟨hI1,hI2,hI3⟩ ⟨g5,rfl,hg5,hA⟩ hlen;have hp0:pre.length=0:=by omega
  simp only[hp0,if_true]at hI1;simp only[List.setIfInBounds_toArray,List.set_cons_succ,List.set_cons_zero];have cv:=hI1.cell 0;have ca:=hA.cell 0;have ca1:=hA.cell 1;have hk0:=(Blk.new W 376 #[.int .i64 63,.string hdr]);have hzb:w1.heap.size+1<=(W.alloc (.cells #[.int .i64 63,.string hdr] 376)).heap.size:=by have:=hI2.1;simp;omega
  have HI1:=hid (hI1.alloc (.cells #[.int .i64 63,.string hdr] 376));obtain⟨i0,hi,hz0,hz1,hz2⟩:∃i,prog.info? 376=some i/\i.zero=some (.agg #[.int .i64 0,.string ⟨#[]⟩])/\i.size=2/\i.bytes=24:=by
   have h:=info376;cases hi:prog.info? 376 with
   | none=>rw[hi]at h;cases h
   | some i =>
     rw[hi]at h;simp only[Option.map_some,Option.some.injEq,Prod.mk.injEq]at h;exact⟨i,rfl,h.2.2,h.1,h.2.1⟩
  gi_wp2_with (first
   | (gi_at_builtin;refine wpListIn_append_own _ rfl _ _ 300 rfl (w1.heap.size+1) 376 i0 (.agg #[.int .i64 0,.string ⟨#[]⟩]) 2 24 underlying300 hi hz0 hz1 hz2 rfl (by decide) _ _ _ rfl (World.ownsRow_nil _ _ _ _) ⟨W.heap.size,0,none⟩ 1 1 [.int .i64 63,.string hdr] rfl rfl ?c1 ?c2 (by decide) (by decide) hzb ?_)
   | gi_in)
  case c1 =>
   intro j u hj
   match j,hj with
   | 0,hj=>simp at hj;subst hj;exact hk0.cell 0
   | 1,hj=>simp at hj;subst hj;exact hk0.cell 1
  case c2 =>
   intro u hu;simp only[List.mem_cons,List.not_mem_nil,or_false]at hu;rcases hu with rfl|rfl<;>rfl
  intro v2 w2 hown hg2 hne;have hown':=hown;obtain⟨_,h|⟨g2,cap,cur,rfl,hb2,hh,hcap,_⟩⟩:=hown
  ·exact absurd h.2 (by decide)
  have d0:=hown'.cellAt 0 (by decide);have d1:=hown'.cellAt 1 (by decide);have HI2:=hid (HI1.out.grown hg2 (λr e=>by cases e));have cv2:=HI2.out.cell 0;have fz2:=HI2.out.frozen 0;have hz2:=hg2.size;simp only[World.size_alloc]at hz2;have hBut:But w1.heap.size W w2:=⟨hg2.os,hg2.tape,hg2.output,by omega,λk hk _=>(hg2.block k (by simp;omega) (λe=>by cases e)).trans (heap_alloc_old W _ hk)⟩;have hBB:=hid (hBut.setCell 0 (.slice (some ⟨g2,0,none⟩) 1 cap));have HS:=hid (HI2.out.set_ 0 (.slice (some ⟨g2,0,none⟩) 1 cap));have D0:=hid ((World.cell?_setCell_other w2 ⟨w1.heap.size,0,none⟩ ⟨g2,0,none⟩ (.slice (some ⟨g2,0,none⟩) 1 cap) (by simp;try omega)).trans d0);have D1:=hid ((World.cell?_setCell_other w2 ⟨w1.heap.size,0,none⟩ ⟨g2,1,none⟩ (.slice (some ⟨g2,0,none⟩) 1 cap) (by simp;try omega)).trans d1);clear hown' hh d0 d1 hg2 hne hBut cv
  gi_wp2
  have hne:¬(pre++[x]).length=0:=by simp
  refine⟨hBB.out.kept hI1 _,KeepB.of_but hBB.out hI2.1,?_,hI2.trans (KeepB.of_but hBB.out hI2.1),hBB.out.below hI3 (by omega) (Nat.le_refl _)⟩;rw[if_neg hne];exact⟨g2,cap,HS.out,D0.out,D1.out⟩
 case done =>
  subst hb;rintro D xs W hD rfl ⟨hI1,hI2,hI3⟩ hK;simp only[List.length_cons,List.length_nil,Nat.zero_add,Nat.one_ne_zero,if_false]at hI1;obtain⟨g,cap,hv1,cx,cy⟩:=hI1;have cv:=hv1.cell 0
  go_wp2_with fail
  refine leaves_mark hK (results_tmp2 rfl _ _ _) ⟨⟨g,cap,rfl,?_,?_⟩,below_putObj hI3 (by have:=hI2.1;have:=HW4.out.size;omega) _⟩
  ·exact cell_own cx (grownBy_putObj' W D _) (λr e=>by cases e;exact⟨_,hK,rfl⟩)
  ·exact cell_own cy (grownBy_putObj' W D _) (λr e=>by cases e;exact⟨_,hK,rfl⟩)
 case stop=>intro D c' pre W _ _ h;exact h.elim
theorem pageRoot0 (w:World)(tab:Array Value)(hT:Tab w tab):Calls prog 143 #[g0] w λe w'=>e=.returned (.tuple #[.string (rootF tab [(63,hdr)]),.int .i64 0])/\Below w.heap.size w w':=by
 have HT:=hid hT;have ht0:=hT.1.lt;clear hT
 go_enter func143,ntmps143
 go_wp2_with fail
 refine(pageEntries0 _).mono ?_;rintro e w1 ⟨⟨g,c,rfl,c1,c2⟩,h1⟩;have hW1:=((Below.refl w.heap.size w).alloc (Nat.le_refl _) (.cells #[nilS,nilS,nilS] 79)).trans (h1.mono (by simp));have H1:=hid c1;have H2:=hid c2;have hs1:=hW1.size;clear h1 c1 c2
 go_wp2_with fail
 refine(sroot1 w1 tab (HT.out.below hW1 ht0) g c 63 hdr (by omega) (by rw[hdr_size];omega) (by rw[hdr_size];omega) hdr_some H1.out H2.out).mono ?_;rintro e w2 ⟨rfl,h2⟩
 go_wp2_with fail
 go_ret2;exact⟨rfl,hW1.trans (h2.mono hs1)⟩
end
section
open Go.RowKit Go.Shelf
attribute [local go_sem] Oper.semAt_some
theorem backward_any (w:World)(A:Option Addr)(n c:Nat):Calls prog 78 #[.slice A n c] w λe w'=>∃b1,e=.returned (.func (.func 111) #[] #[.pointer (some ⟨b1,0,none⟩)])/\Blk w' b1 86 #[.slice A n c]/\w.heap.size<=b1/\Below w.heap.size w w':=by
 go_enter func78,ntmps78
 go_wp2;go_ret;exact⟨_,rfl,Blk.new w 86 _,by omega,(Below.refl _ _).alloc (Nat.le_refl _) _⟩
theorem back_iter (n:Nat)(hn:1<=n)(l b1 g m c n₀ p:Nat)(S:Nat->ByteArray)(J Jx:List (Fin m)->World->Prop)
 (hY:∀pre (x:Fin m) W,J pre W->pre.length<m->YieldAt Fence.wide (n - 1) prog l #[.int .i64 ((m - 1 - x.val:Nat):Int),.string (S (m - 1 - x.val))] W λe W' =>
   (e=.returned (.bool true)/\J (pre++[x]) W'/\KeepB n₀ p W W')∨(e=.returned (.bool false)/\Jx (pre++[x]) W'))
 (W:World) (h1:Blk W b1 86 #[.slice (some ⟨g,0,none⟩) m c]) (hS:∀i,i<m->W.cell? ⟨g,i,none⟩=some (.string (S i))) (hb1:b1<n₀) (hg1:g<n₀) (hp1:b1≠p) (hp2:g≠p) (hm:m<=1000000) (h0:J [] W) :
 CallsIn Fence.wide n prog 111 #[.func (.yield l) #[] #[],.pointer (some ⟨b1,0,none⟩)] W λe W'=>(∃v,e=.returned v) /\
  ((∃ys,ys=List.finRange m/\J ys W')∨(∃pre,True/\Jx pre W')):=by
 have H1:=hid h1;have HS:=hid hS;have c1:=h1.cell 0;clear h1 hS;refine callsIn_of_wp func111 rfl trivial ?_ rfl;simp only[ntmps111,List.size_toArray,List.length_cons,List.length_nil,Nat.reduceAdd,Nat.reduceSub,Array.replicate_succ,Array.replicate_zero,List.push_toArray,List.append_toArray,List.nil_append,List.cons_append]
 gi_wp2
 clear c1
 gi_loopw [3] (λi wr=>∃(k:Nat) (pre:List (Fin m)),k<=m/\i=.int .i64 ((m:Int) - 1 - k)/\pre.length=k/\Hid (pre=(List.finRange m).take k)/\Hid (J pre wr)/\Hid (KeepB n₀ p W wr)) (λi _=>(intOf i+1).toNat)
 case atStart=>exact⟨0,[],by omega,by simp,rfl,hid rfl,hid h0,hid (KeepB.refl _ _ _)⟩
 case round =>
  obtain⟨k,pre,hk,rfl,hpl,hpre,hJs,hK⟩:=hrel;have hbk:Blk wr b1 86 #[.slice (some ⟨g,0,none⟩) m c]:=(hK.out.2 b1 hb1 hp1).trans H1.out;have c1:=hbk.cell 0;clear hbk
  by_cases hlt:k<m
  ·have e:(m:Int) - 1 - k=((m - 1 - k:Nat):Int):=by omega
   have cs:=(hK.out.cell (i:=m - 1 - k) hg1 hp2).trans (HS.out (m - 1 - k) (by omega));obtain⟨fn,tmps,assign,body,hy,hR⟩:=hY pre ⟨k,hlt⟩ wr hJs.out (by omega);simp only at hy;clear hY h0;rw[e];have hq:m - 1 - k<m:=by omega
   obtain⟨q,hqe⟩:∃q,q=m - 1 - k:=⟨_,rfl⟩;have HQ:=hid hqe;rw[<- hqe]at hy cs hq ⊢;clear e hqe
   gi_wp2
   refine hR.mono ?_;rintro e W3 (⟨rfl,hJ3,hk3⟩|⟨rfl,hJx3⟩)
   ·have HJ:=hid hJ3
    have HK:=hid (hK.out.trans hk3);have hpre':Hid (pre++[⟨k,hlt⟩]=(List.finRange m).take (k+1)):=hid (by
     rw[List.take_succ_eq_append_getElem (by simpa using hlt),<- hpre.out];simp)
    clear hJ3 hk3 hy hR c1 cs
    gi_wp2
    go_roundw
    case rel=>exact⟨k+1,_,by omega,by congr 1;have:=HQ.out;omega,by simp[hpl],hpre',HJ,HK⟩
    case measure=>simp[intOf];try omega
   ·gi_wp2
    first|go_end0|refine bodyPost_ret (results_none rfl _ _ _) rfl ?_
    exact⟨⟨_,rfl⟩,.inr ⟨_,trivial,hJx3⟩⟩
  ·gi_wp2
   first|go_end0|refine bodyPost_ret (results_none rfl _ _ _) rfl ?_
   exact⟨⟨_,rfl⟩,.inl ⟨pre,by rw[hpre.out,List.take_of_length_le (by simp;omega)],hJs.out⟩⟩
theorem back_stops (n:Nat)(hn:1<=n)(b1 g m c n₀ p:Nat)(S:Nat->ByteArray)(w:World)(h1:Blk w b1 86 #[.slice (some ⟨g,0,none⟩) m c])(hS:∀i,i<m->w.cell? ⟨g,i,none⟩=some (.string (S i)))(hgl:g<w.heap.size)(hb1:b1<n₀)(hg1:g<n₀)(hp1:b1≠p)(hp2:g≠p)(hm:m<=1000000) :
 SeqStopsK Fence.wide n prog 111 #[.pointer (some ⟨b1,0,none⟩)] (λx:Fin m=>#[.int .i64 ((m - 1 - x.val:Nat):Int),.string (S (m - 1 - x.val))]) (KeepB n₀ p) (λys=>ys=List.finRange m) (λ_=>True) m w :=
 λl J Jx W hW _ _ hY h0=>back_iter n hn l b1 g m c n₀ p S J Jx hY W (h1.below hW h1.lt) (λi hi=>(hW.cell hgl).trans (hS i hi)) hb1 hg1 hp1 hp2 hm h0
end
section
open Go.RowKit Go.Shelf
attribute [local irreducible] sumF markF leafF nodeF
attribute [local go_sem] Oper.semAt_some
structure BI (w w4:World) (p:Nat) (W:World):Prop where
 out:∃d:ByteArray,d.size=32/\Blk W p 9 #[.string d]
 keep:KeepB w4.heap.size p w4 W
 low:Below w.heap.size w W
theorem BI.own {w w4:World}{p:Nat}{β:Type}(hw:w.heap.size<=w4.heap.size):OwnFrom w4.heap.size (fun(_:β) W=>BI w w4 p W):=by
 rintro s A C row ⟨⟨d,h1,h2⟩,h6,h7⟩ hg hr;refine⟨⟨d,h1,blk_own w4.heap.size _ _ _ () A C row h2 hg hr⟩,h6.grown hg (λr e=>(hr r e).1) (Nat.le_refl _),?_⟩;refine⟨hg.os.trans h7.os,hg.tape.trans h7.tape,hg.output.trans h7.output,Nat.le_trans h7.size hg.size,λk hk=>?_⟩;have hnk:(Option.some k:Option Nat)≠row:=λe=>by have:=(hr k e.symm).1;omega
 exact(hg.block k (Nat.lt_of_lt_of_le hk h7.size) hnk).trans (h7.block k hk)
theorem Vs.cap {w:World}{B:Nat}{g n c:Nat}{xs:List Value}(h:Vs w B (.slice (.some ⟨g,0,none⟩) n c) xs):xs.length<=c:=by
 rcases h with ⟨h,_⟩|⟨g',cap,hv,h1,h2,h3,_⟩
 ·cases h
 ·injection hv with _ _ e
  subst e;exact h3
theorem root_any (w:World)(bk c n:Nat)(xs:List ByteArray)(tab:Array Value)(hT:Tab w tab)(hX:∀(j:Nat) x,xs[j]?=some x->w.cell? ⟨bk,j,none⟩=some (.string x))(hbk:bk<w.heap.size)(hn0:0<n)(hn:n<=1000)(hn':xs.length=n)(hc:n<=c)(hs:∀x∈xs,x.size<=900000000) :
 Calls prog 51 #[.slice (some ⟨bk,0,none⟩) n c] w λe w'=>∃d:ByteArray,e=.returned (.string d)/\d.size=32/\Below w.heap.size w w':=by
 have HT:=hid hT;have HX:=hid hX;have HS:=hid hs;have HN:=hid hn';have h0:0<w.heap.size:=HT.out.1.lt;clear hT hX hs hn';refine calls_of_marks func51 rfl ?_;simp only[ntmps51,List.size_toArray,List.length_cons,List.length_nil,Nat.reduceAdd,Nat.reduceSub,Array.replicate_succ,Array.replicate_zero,List.push_toArray,List.append_toArray,List.nil_append,List.cons_append]
 go_wp2_with fail
 go_loopw [3,4,13] (λv u i wr=>∃(k:Nat) (l:List ByteArray) (ns:List Int) (A A':Option Addr) (m c1 c2:Nat),k<=n/\i=.int .i64 k/\v=.slice A m c1/\u=.slice A' m c2/\m<=k/\(0<k->0<m)/\Hid (l.length=m/\ns.length=m/\∀d∈l,d.size=32)/\Hid (Stk wr w.heap.size (.slice A m c1) (.slice A' m c2) l ns)/\Hid (Below w.heap.size w wr)) (λ_ _ i _=>n - (intOf i).toNat)
 case atStart=>exact⟨0,[],[],none,none,0,0,0,by omega,rfl,rfl,rfl,by omega,by omega,hid ⟨rfl,rfl,by simp⟩,hid ⟨Vs.nil _ _,Vs.nil _ _,.inl rfl⟩,hid (Below.refl _ _)⟩
 case round =>
  obtain⟨k,l,ns,A,A',m,c1,c2,hk,rfl,rfl,rfl,hmk,hm0,hL,hS,hW⟩:=hrel
  by_cases hlt:k<n
  ·obtain⟨x,hx⟩:∃x,xs[k]?=some x:=by
    have hlt':k<xs.length:=by rw[HN.out];exact hlt
    exact⟨xs[k],List.getElem?_eq_getElem hlt'⟩
   have hcx:=(hW.out.cell (p:=⟨bk,k,none⟩) hbk).trans (HX.out k x hx);have hxs:=HS.out x (List.mem_of_getElem? hx);have HXX:=hid hx;clear hx
   go_wp2_with fail
   refine(leaf_any wr x tab ⟨HT.out.1.below hW.out h0,HT.out.2⟩ hxs).mono ?_;rintro e w1 ⟨rfl,h1⟩;obtain⟨d,hd⟩:∃d,d=leafF tab x:=⟨_,rfl⟩;have hd32:Hid (d.size=32):=hid (by rw[hd];exact leafF_size _ _);rw[<- hd];clear hd;have hzw:=hW.out.size;have hz1:=h1.size;have HS1:=hid ((hS.out.below h1).below ((Below.refl _ w1).alloc (Nat.le_refl _) (.cells #[.string d] 9)));have HW1:=hid ((hW.out.trans (h1.mono hzw)).alloc (by omega) (.cells #[.string d] 9));have hk1:(w1.alloc (.cells #[.string d] 9)).cell? ⟨w1.heap.size,0,none⟩=some (.string d):=(Blk.new w1 9 #[.string d]).cell 0;have hzb1:w.heap.size<=(w1.alloc (.cells #[.string d] 9)).heap.size:=by simp;omega
   have hl1:(strs l).length+1<=1099511627776:=by simp[strs,hL.out.1];omega
   have hl2:(ints ns).length+1<=1099511627776:=by simp[ints,hL.out.2.1];omega
   go_wp2_with (first
    | (at_builtin;refine wpList_appendV underlying86 info9 rfl (by decide) rfl (.tmp 17) (.tmp 20) rfl w.heap.size (.slice A m c1) (strs l) rfl HS1.out.whole hzb1 hl1 ⟨w1.heap.size,0,none⟩ (.string d) rfl 1 rfl hk1 ?_;intro v2 w2 hV2 hg2 ho2;obtain⟨A2,c3,rfl⟩:=hV2.len (n:=m+1) (by simp[strs,hL.out.1]);have HS2:=hid ((HS1.out.pushW hV2 hg2 ho2).below ((Below.refl _ w2).alloc (Nat.le_refl _) (.cells #[.int .i64 1] 3)));have HW2:=hid ((HW1.out.trans (grown_base HS1.out.whole hg2 hzb1)).alloc (by have:=hg2.size;omega) (.cells #[.int .i64 1] 3));have hk2:(w2.alloc (.cells #[.int .i64 1] 3)).cell? ⟨w2.heap.size,0,none⟩=some (.int .i64 1):=(Blk.new w2 3 #[.int .i64 1]).cell 0;have hzb2:w.heap.size<=(w2.alloc (.cells #[.int .i64 1] 3)).heap.size:=HW2.out.size;clear hV2 hg2 ho2)
    | (at_builtin;refine wpList_appendV underlying24 infoI3 rfl (by decide) rfl (.tmp 22) (.tmp 23) rfl w.heap.size (.slice A' m c2) (ints ns) rfl HS2.out.sizes hzb2 hl2 ⟨w2.heap.size,0,none⟩ (.int .i64 1) rfl 1 rfl hk2 ?_;intro v3 w3 hV3 hg3 ho3;obtain⟨A3,c4,rfl⟩:=hV3.len (n:=m+1) (by simp[ints,hL.out.2.1]);have HS3:=hid (HS2.out.pushS hV3 hg3 ho3);have HW3:=hid (HW2.out.trans (grown_base HS2.out.sizes hg3 hzb2));clear hV3 hg3 ho3))
   obtain⟨g,rfl⟩:=HS3.out.whole.sm (by omega);obtain⟨g',rfl⟩:=HS3.out.sizes.sm (by omega);have HB3:Hid (Both w3 w.heap.size g g' (m+1) c3 c4):=hid ⟨_,_,by simp[hL.out.1],by simp[hL.out.2.1],(λy hy=>by
    rcases List.mem_append.1 hy with h|h
    ·exact hL.out.2.2 y h
    ·simp at h;subst h;exact hd32.out),HS3.out⟩
   have hb1:=HW1.out.size;clear HS1 HS2 HS3 HW1 HW2 hk1 hk2 hzb1 hzb2 hl1 hl2 h1 hcx hS hW
   go_loopw [3,4,7] (λv u i wr=>∃(p:Nat) (g g' c c':Nat),1<=p/\p<=m+1/\i=.int .i64 p/\v=.slice (some ⟨g,0,none⟩) p c/\u=.slice (some ⟨g',0,none⟩) p c'/\Hid (Both wr w.heap.size g g' p c c')/\Hid (Below w.heap.size w wr)) (λ_ _ i _=>(intOf i).toNat)
   case atStart=>exact⟨m+1,g,g',c3,c4,by omega,by omega,by go_num,rfl,rfl,HB3,HW3⟩
   case round =>
    clear HB3 HW3;obtain⟨p,g,g',c3,c4,hp1,hp2,rfl,rfl,rfl,hB,hW⟩:=hrel;obtain⟨l,ns,hll,hnl,hgood,hS⟩:=hB.out
    by_cases h1p:1<p
    ·obtain⟨y1,hy1⟩:=hS.n (p - 2) (by omega)
     obtain⟨y2,hy2⟩:=hS.n (p - 1) (by omega);have L1:=Later.of hy1;have L2:=Later.of hy2;have hgd:decide ((1:Int)<(p:Int))=true:=by simp;omega
     have HG:=hid hgd;clear hgd
     go_wp2_with fail
     refine Loose.wp_region_later [] 15 (by kernel_rfl) (by kernel_rfl) ?_
     (simp only[List.take_succ_cons,List.take_zero,List.drop_succ_cons,List.drop_zero])
     iterate 3 (refine Loose.walk_plain rfl rfl rfl λK h=>?_;go_big_quiet_op;refine h _ ?_;clear h K)
     rw[HG.out]
     iterate 12 (refine Loose.walk_plain rfl rfl rfl λK h=>?_;go_big_quiet_op;refine h _ ?_;clear h K)
     refine Loose.walk_nil ?_;rintro U hU -;have HWU:=hid (hW.out.trans (hU.mono hW.out.size));have HSU:=hid (hS.below hU);clear L1 L2 hy1 hy2
     by_cases hyy:y1=y2
     ·subst hyy
      have hcp:=HSU.out.whole.cap;have hcp':=HSU.out.sizes.cap;simp only[strs,ints,List.length_map,hll,hnl]at hcp hcp';obtain⟨d1,hd1,hc1⟩:=HSU.out.d (p - 2) (by omega);obtain⟨d2,hd2,hc2⟩:=HSU.out.d (p - 1) (by omega);obtain⟨y2,hy2⟩:=HSU.out.n (p - 1) (by omega);have hs1:=hgood d1 (List.mem_of_getElem? hd1);have hs2:=hgood d2 (List.mem_of_getElem? hd2);have HG1:=hid (And.intro hs1 hs2);clear hs1 hs2 hd1 hd2;have L1:=Later.of hc1;have L2:=Later.of hc2
      go_wp2_with fail
      refine Loose.wp_region_later [(14,.is (.string (nodeF tab d1 d2))),(15,.row U.heap.size 9 1 #[.string (nodeF tab d1 d2)])] 16 (by kernel_rfl) (by kernel_rfl) ?_
      (simp only[List.take_succ_cons,List.take_zero,List.drop_succ_cons,List.drop_zero])
      (repeat(first|refine Loose.walk_skip rfl ?_|(refine Loose.walk_plain rfl rfl rfl λK h=>?_;go_big_quiet_op;refine h _ ?_;clear h K)))
      refine Loose.walk_loose rfl rfl (λW' hW' hF=>Loose.loose_call (f:=76) (args:=#[.string d1,.string d2]) (by kernel_rfl) ((node_any W' d1 d2 tab ⟨(HT.out.1.below HWU.out h0).below hW' (by have:=HWU.out.size;omega),HT.out.2⟩ (by have:=HG1.out.1;omega) (by have:=HG1.out.2;omega)).mono λe w' ⟨he,hb⟩=>⟨_,he,hb,rfl⟩)) ?_;rintro _ _ _ rfl
      (simp only[Act.put,List.setIfInBounds_toArray,List.set_cons_succ,List.set_cons_zero])
      (repeat(first|refine Loose.walk_skip rfl ?_|(refine Loose.walk_plain rfl rfl rfl λK h=>?_;go_big_quiet_op;refine h _ ?_;clear h K)))
      refine Loose.walk_loose rfl rfl (λW' hW' _=>Loose.loose_val (u:=.slice (.some ⟨W'.heap.size,0,none⟩) 1 1) (W':=W'.alloc (.cells #[.string (nodeF tab d1 d2)] 9)) (by kernel_rfl) ((Below.refl _ _).alloc (Nat.le_refl _) _) ⟨_,rfl,hW'.size,Blk.new _ _ _⟩) ?_;rintro _ _ _ ⟨q,rfl,hq,_⟩
      (simp only[Act.put,List.setIfInBounds_toArray,List.set_cons_succ,List.set_cons_zero])
      (repeat(first|refine Loose.walk_skip rfl ?_|(refine Loose.walk_plain rfl rfl rfl λK h=>?_;go_big_quiet_op;refine h _ ?_;clear h K)))
      refine Loose.walk_nil ?_;rintro V hVb hVF;have hqb:=(Loose.Pred.row_at (B:=U.heap.size) (t:=9) (n:=1) (cs:=#[.string (nodeF tab d1 d2)]) (x:=q) (W:=V) hVF.2).2;have hkq:=hqb.cell 0;have HSV:=HSU.out.below hVb;have hWV:=hid (HWU.out.trans (hVb.mono HWU.out.size));have hgg:(Option.some g:Option Nat)≠Option.some g':=by
       rcases HSV.apart with h|h
       ·cases h
       ·simpa[Value.ownBlock]using h
      have hT1:=hid (HSV.whole.take (p - 2) (by simp[strs,hll]));have hS1:=hid HSV.sizes;have hzV:w.heap.size<=V.heap.size:=hWV.out.size;have hl1:(List.take (p - 2) (strs l)).length+1<=1099511627776:=by simp[strs,hll];omega
      have hl3:(List.take (p - 2) (strs l)).length=p - 2:=by simp[strs,hll]
      have hn32:=nodeF_size tab d1 d2;obtain⟨nd,hnd⟩:∃nd,nd=nodeF tab d1 d2:=⟨_,rfl⟩;rw[<- hnd]at hkq hn32 ⊢;clear L1 L2 hc1 hc2 hcp hVF hqb hVb HSU HWU hnd hy2 HSV
      go_wp2_with (at_builtin;refine wpList_appendV underlying86 info9 rfl (by decide) rfl (.tmp 47) (.tmp 59) rfl w.heap.size (.slice (.some ⟨g,0,none⟩) (p - 2) c3) (List.take (p - 2) (strs l)) rfl hT1.out hzV hl1 ⟨q,0,none⟩ (.string nd) rfl 1 rfl hkq ?_;intro v5 w5 hV5 hg5 ho5;obtain⟨A5,c5,rfl⟩:=hV5.len (n:=p - 1) (by simp[hl3];omega);have HV5:=hid hV5;have HG5:=hid hg5;have HO5:=hid ho5;clear hV5 hg5 ho5)
      have hS5:=hS1.out.kept HG5.out (.inr (by simpa[Value.ownBlock]using Ne.symm hgg));obtain⟨y3,hy3⟩:∃y,w5.cell? ⟨g',p - 1,none⟩=.some (.int .i64 y):=by
       refine⟨ns[p - 1]'(by omega),?_⟩;have:=hS5.at_ (p - 1) (by simp[ints,hnl];omega);simpa[ints]using this
      have hW5:=hid (hWV.out.trans (grown_base hT1.out HG5.out hzV));have L3:=Later.of hy3;have HS5:=hid hS5;clear hkq hS5 hl1 hzV;refine Loose.wp_region_later [(10,.row w5.heap.size 3 1 #[.int .i64 (wrap64 (2*y3))])] 11 (by kernel_rfl) (by kernel_rfl) ?_
      (simp only[List.take_succ_cons,List.take_zero,List.drop_succ_cons,List.drop_zero])
      (repeat(first|refine Loose.walk_skip rfl ?_|(refine Loose.walk_plain rfl rfl rfl λK h=>?_;go_big_quiet_op;refine h _ ?_;clear h K)))
      refine Loose.walk_loose rfl rfl (λW' hW' _=>Loose.loose_val (u:=.slice (.some ⟨W'.heap.size,0,none⟩) 1 1) (W':=W'.alloc (.cells #[.int .i64 (wrap64 (2*y3))] 3)) (by kernel_rfl) ((Below.refl _ _).alloc (Nat.le_refl _) _) ⟨_,rfl,hW'.size,Blk.new _ _ _⟩) ?_;rintro _ _ _ ⟨q6,rfl,hq6,_⟩
      (simp only[Act.put,List.setIfInBounds_toArray,List.set_cons_succ,List.set_cons_zero])
      (repeat(first|refine Loose.walk_skip rfl ?_|(refine Loose.walk_plain rfl rfl rfl λK h=>?_;go_big_quiet_op;refine h _ ?_;clear h K)))
      refine Loose.walk_nil ?_;rintro V6 hVb6 hVF6;have hqb6:=(Loose.Pred.row_at (B:=w5.heap.size) (t:=3) (n:=1) (cs:=#[.int .i64 (wrap64 (2*y3))]) (x:=q6) (W:=V6) hVF6.2).2;have hkq6:=hqb6.cell 0;have hT6:=hid ((HS5.out.below hVb6).take (p - 2) (by simp[ints,hnl]));have hA6:=hid (HV5.out.below hVb6);have hW6:=hid (hW5.out.trans (hVb6.mono hW5.out.size));have hz6:w.heap.size<=V6.heap.size:=hW6.out.size;have hl6:(List.take (p - 2) (ints ns)).length+1<=1099511627776:=by simp[ints,hnl];omega
      have hl7:(List.take (p - 2) (ints ns)).length=p - 2:=by simp[ints,hnl]
      generalize wrap64 (2*y3)=yy at *;clear L3 hy3 hVF6 hqb6 hVb6
      go_wp2_with (at_builtin;refine wpList_appendV underlying24 infoI3 rfl (by decide) rfl (.tmp 64) (.tmp 71) rfl w.heap.size (.slice (.some ⟨g',0,none⟩) (p - 2) c4) (List.take (p - 2) (ints ns)) rfl hT6.out hz6 hl6 ⟨q6,0,none⟩ (.int .i64 yy) rfl 1 rfl hkq6 ?_;intro v7 w7 hV7 hg7 ho7;obtain⟨A7,c7,rfl⟩:=hV7.len (n:=p - 1) (by simp[hl7];omega);have HV7:=hid hV7;have HG7:=hid hg7;have HO7:=hid ho7;clear hV7 hg7 ho7)
      have hlg':g'<V.heap.size:=(hS1.out.own g' rfl).2;have hz5:=HG5.out.size;have hzv6:=HG7.out.size;have hA5own:=hA6.out.own;have hne5:(Value.slice A5 (p - 1) c5).ownBlock≠Option.some g':=by
       rcases HO5.out with e|⟨k',e,hk'⟩
       ·rw[e];exact hgg
       ·rw[e]
        intro e';injection e' with e'
        omega
      have hX7:=hA6.out.kept HG7.out (.inr hne5);have hap:(Value.slice A5 (p - 1) c5).ownBlock≠(Value.slice A7 (p - 1) c7).ownBlock:=by
       rcases HO7.out with e|⟨k',e,hk'⟩
       ·rw[e];exact hne5
       ·rw[e]
        intro e';have:=(hA5own k' e').2;omega
      obtain⟨g5,rfl⟩:=hX7.sm (by omega);obtain⟨g7,rfl⟩:=HV7.out.sm (by omega);have hB7:Hid (Both w7 w.heap.size g5 g7 (p - 1) c5 c7):=hid ⟨l.take (p - 2)++[nd],ns.take (p - 2)++[yy],by simp[hll];omega,by simp[hnl];omega,(λy hy=>by
       rcases List.mem_append.1 hy with h|h
       ·exact hgood y (List.mem_of_mem_take h)
       ·simp at h;subst h;exact hn32),⟨by simpa[strs,List.map_take]using hX7,by simpa[ints,List.map_take]using HV7.out,.inr hap⟩⟩
      have hW7:=hid (hW6.out.trans (grown_base hT6.out HG7.out hz6));exact⟨⟨p - 1,g5,g7,c5,c7,by omega,by omega,by congr 1;omega,rfl,rfl,hB7,hW7⟩,by simp[intOf];omega⟩
     ·go_wp2_with fail
      go_roundw
      case rel=>exact⟨k+1,l,ns,some ⟨g,0,none⟩,some ⟨g',0,none⟩,p,c3,c4,by omega,by go_num,rfl,rfl,by omega,by omega,hid ⟨hll,hnl,hgood⟩,hid (hS.below hU),HWU⟩
      case measure=>simp[intOf];omega
    ·obtain rfl:p=1:=by omega
     go_wp2_with fail
     refine wp_region_later (by kernel_rfl) (by kernel_rfl) ?_
     repeat(go_big_quiet_step (fail))
     refine wpQuiet_nil ?_;rintro U ⟨⟨_,hU⟩,rfl⟩;have HWU:=hid (hW.out.trans (hU.mono hW.out.size))
     go_wp2_with fail
     go_roundw
     case rel=>exact⟨k+1,l,ns,some ⟨g,0,none⟩,some ⟨g',0,none⟩,1,c3,c4,by omega,by go_num,rfl,rfl,by omega,by omega,hid ⟨hll,hnl,hgood⟩,hid (hS.below hU),HWU⟩
     case measure=>simp[intOf];omega
  ·have hkn:k=n:=by omega
   have hmp:=hm0 (by omega);obtain⟨g,rfl⟩:=hS.out.whole.sm hmp;have hll:=hL.out.1;have hgood:=hL.out.2.2;obtain⟨d0,hd0,hc0⟩:=hS.out.d (m - 1) (by omega);have hs0:=hgood d0 (List.mem_of_getElem? hd0);have hcap:=hS.out.whole.cap;simp only[strs,List.length_map,hll]at hcap;have hgl:g<wr.heap.size:=(hS.out.whole.own g rfl).2;have HWh:=hid hS.out.whole;have HG:=hid hgood;have HLL:=hid hll;clear hL hS hd0 hgood hll
   go_wp2_with fail
   refine(backward_any _ _ _ _).mono ?_;rintro e w4 ⟨b1,rfl,hb1,hlb,h4⟩;have hz4:=h4.size;simp only[World.size_alloc]at hz4 hlb;have HP:Hid (Blk w4 wr.heap.size 9 #[.string d0]):=hid ((Blk.new wr 9 #[.string d0]).below h4 (by simp));have hWw:=hW.out.size;have HW4:Hid (Below w.heap.size w w4):=hid ((hW.out.alloc hW.out.size (.cells #[.string d0] 9)).trans (h4.mono (by simp;omega)));have HCE:Hid (∀i,i<m->w4.cell? ⟨g,i,none⟩=.some (.string (l[i]?.getD ⟨#[]⟩))):=hid (λi hi=>by
    rw[h4.cell (p:=⟨g,i,none⟩) (by simp;omega),World.cell?_alloc_some wr ⟨g,i,none⟩ _ (by rw[HWh.out.at_ i (by simp[strs,HLL.out];omega)];rfl),HWh.out.at_ i (by simp[strs,HLL.out];omega)];have hil:i<l.length:=by rw[HLL.out];exact hi
    simp[strs,List.getElem?_eq_getElem hil])
   have H32:Hid (∀i,i<m->(l[i]?.getD ⟨#[]⟩:ByteArray).size=32):=hid (λi hi=>by
    have hil:i<l.length:=by rw[HLL.out];exact hi
    rw[List.getElem?_eq_getElem hil];exact HG.out _ (List.getElem_mem hil))
   have HB1:=hid hb1;have HS0:=hid hs0;clear h4 hb1 hs0 hc0 hW HWh
   go_wp2_with fail
   refine with_act ?_;intro b hb;refine wpIn_wide (n:=9).1 ?_;obtain⟨S,hS⟩:∃S:Nat->ByteArray,S=λi=>l[i]?.getD ⟨#[]⟩:=⟨_,rfl⟩
   have HC2:Hid (∀i,i<m - 1->w4.cell? ⟨g,i,none⟩=.some (.string (S i))):=hid (by rw[hS];exact λi hi=>HCE.out i (by omega));have H33:Hid (∀i,i<m->(S i).size=32):=hid (by rw[hS];exact H32.out);clear HCE H32 hS;refine wpIn_rangeFunc_ownF (α:=Fin (m - 1)) (F:=Fence.wide) rfl (by omega) (gf:=111) (lb:=#[.pointer (.some ⟨b1,0,none⟩)]) (by rw[hb];rfl) trivial (enters_of func111 (by kernel_rfl) rfl)
    (back_stops 8 (by omega) b1 g (m - 1) c1 w4.heap.size wr.heap.size S w4 HB1.out HC2.out (by omega) HB1.out.lt (by omega) (by omega) (by omega) (by omega)) (λh k=>h.trans k) (λW l o o' hl _ _ _=>KeepB.putObj hl o') (Below.refl _ _) (λ_=>rfl)
    (λ_ W=>BI w w4 wr.heap.size W) (λ_ _ _=>False) (BI.own HW4.out.size) (λ_ _ _ _ _ hs _ _=>hs) ⟨⟨d0,HS0.out,HP.out⟩,KeepB.refl _ _ _,HW4.out⟩
    (λx=>{ tmps:=((b.tmps.setIfInBounds 90 (.int .i64 ((m - 1 - 1 - x.val:Nat):Int))).setIfInBounds 91 (.string (S (m - 1 - 1 - x.val)))).setIfInBounds 10 (.string (S (m - 1 - 1 - x.val))),defers:=[] }) ?assign ?body ?done ?stop
   case assign =>
    subst hb;intro l x W K hK;simp only[List.setIfInBounds_toArray,List.set_cons_succ,List.set_cons_zero]at hK
    gi_wp2
    exact hK
   case body =>
    subst hb;rintro l pre x W ⟨⟨d,hd,hP⟩,hI2,hI3⟩ hlen;have cp:=hP.cell 0;have hx:=x.isLt;have hSx:=H33.out (m - 1 - 1 - x.val) (by omega);obtain⟨r,hr⟩:∃r,r=S (m - 1 - 1 - x.val):=⟨_,rfl⟩;rw[<- hr]at hSx ⊢;obtain⟨ix,hix⟩:∃ix:Int,ix=((m - 1 - 1 - x.val:Nat):Int):=⟨_,rfl⟩;rw[<- hix];clear hr hix;simp only[List.setIfInBounds_toArray,List.set_cons_succ,List.set_cons_zero]
    gi_wp2
    refine⟨trivial,?_⟩;refine(CallsIn.inRound _ (callsIn_wide.2 (node_any W r d tab ⟨HT.out.1.below hI3 h0,HT.out.2⟩ (by omega) (by omega)))).mono ?_;rintro e W' ⟨rfl,hb'⟩;have hP':=hP.below hb' hP.lt;have cp':=hP'.cell 0;have fp':=hP'.frozen 0;have hn32:=nodeF_size tab r d;obtain⟨nd,hnd⟩:∃nd,nd=nodeF tab r d:=⟨_,rfl⟩;rw[<- hnd]at hn32 ⊢;have hBut:=hid ((But.of_below (p:=wr.heap.size) hb').setCell 0 (.string nd));have HPn:=hid (hP'.set_ 0 (.string nd));clear hnd hb' hP'
    gi_wp2
    exact⟨KeepsOthers.of_but hBut.out hP,KeepB.of_but hBut.out hI2.1,⟨⟨nd,hn32,HPn.out⟩,hI2.trans (KeepB.of_but hBut.out hI2.1),hBut.out.below hI3 (by omega) (Nat.le_refl _)⟩⟩
   case done =>
    subst hb;rintro D xs W hD rfl ⟨⟨d,hd,hP⟩,hI2,hI3⟩ hK;have cp:=hP.cell 0
    go_wp2_with fail
    exact leaves_mark hK (results_tmp rfl _ _ _) ⟨d,rfl,hd,below_putObj hI3 (by have:=HW4.out.size;omega) _⟩
   case stop=>intro D c' pre W _ _ h;exact h.elim
end
section
open Go.RowKit Go.Shelf
attribute [local irreducible] enc1
theorem putStr (w:World)(s:ByteArray)(hs:s.size<64):Calls prog 50 #[.string s] w λe w'=>e=.returned (.tuple #[.string (enc1 s.size++s),.int .i64 0])/\Below w.heap.size w w':=by
 have h1:¬(65536:Int)<s.size:=by omega
 have h2:¬9223372036854775807<(enc1 s.size).size+s.size:=by rw[enc1_size];omega
 go_enter func50,ntmps50
 go_wp2_with fail
 refine(putInt' w s.size hs).mono ?_;rintro e w1 ⟨rfl,hb⟩
 go_wp2_with fail
 go_ret2;exact⟨rfl,hb⟩
def SmallP (p:Rp.Post):Prop:=(0<=p.epoch/\p.epoch<64)/\(0<=p.origin/\p.origin<64)/\(0<=p.number/\p.number<64)/\p.text.size<64
theorem digest0 (w:World)(tab:Array Value)(hT:Tab w tab)(r:Rp.Rep)(A:Option Addr)(n c:Nat)(A':Option Addr)(n' c':Nat)(h:RepR w w.heap.size r A n A' n')(hv:Rp.valid r=true)(hn0:0<n)(hn:n<=1000)(hp:∀x∈r.posts,SmallP x) :
 Calls prog 18 #[repV r A n c A' n' c'] w λe w'=>∃d:ByteArray,e=.returned (.tuple #[.string d,.int .i64 0])/\d.size=32/\Below w.heap.size w w':=by
 have HT:=hid hT;have ht0:=hT.1.lt;have HR:=hid h;have HV:=hid hv;have HP:=hid hp;clear hT h hv hp;obtain⟨me,many,clock,posts,heard⟩:=r;unfold repV;simp only;have hX:=hid (Blk.new w 26 #[.int .i64 me,.int .i64 many,.int .i64 clock,.slice A n c,.slice A' n' c']);have hW:=hid ((Below.refl w.heap.size w).alloc (Nat.le_refl _) (.cells #[.int .i64 me,.int .i64 many,.int .i64 clock,.slice A n c,.slice A' n' c'] 26));obtain⟨d0,d1,d2,d3,d4⟩:=hX.out.cells5
 go_enter func18,ntmps18
 go_wp2_with fail
 refine(valid_any _ ⟨me,many,clock,posts,heard⟩ A n c A' n' c' ((HR.out.below hW.out).more hW.out.size)).mono ?_;rw[HV.out];rintro e w1 ⟨rfl,h1⟩;have hX1:=hid (hX.out.below h1 hX.out.lt);have hW1:=hid (hW.out.trans (h1.mono hW.out.size));clear d0 d1 d2 d3 d4 h1 hX hW;obtain⟨d0,d1,d2,d3,d4⟩:=hX1.out.cells5
 go_wp2_with fail
 go_loopw [4,20] (λv i wr=>∃(k:Nat) (xs:List ByteArray) (B:Option Addr) (cc:Nat),k<=n/\i=.int .i64 k/\v=.slice B k cc/\Hid (xs.length=k/\∀x∈xs,x.size<=100)/\Hid (Vs wr w.heap.size (.slice B k cc) (strs xs))/\Hid (Below w.heap.size w wr)) (λ_ i _=>n - (intOf i).toNat)
 case atStart=>exact⟨0,[],none,0,by omega,rfl,rfl,hid ⟨rfl,by simp⟩,hid (Vs.nil _ _),hW1⟩
 case round =>
  clear hW1;obtain⟨k,xs,B,cc,hk,rfl,rfl,hxs,hV,hW⟩:=hrel
  by_cases hlt:k<n
  ·obtain⟨g,off,x,rfl,hbl,hq,e0,e1,e2,e3⟩:=(HR.out.posts.below hW.out).post HR.out.len hlt
   have HPx:=hid (HP.out x (List.mem_of_getElem? hq));clear hq;obtain⟨ep,og,nu,tx⟩:=x;simp only[SmallP]at HPx;obtain⟨⟨p1,p2⟩,⟨p3,p4⟩,⟨p5,p6⟩,p7⟩:=HPx.out;obtain⟨ne,rfl⟩:=Int.eq_ofNat_of_zero_le p1;obtain⟨no,rfl⟩:=Int.eq_ofNat_of_zero_le p3;obtain⟨nn,rfl⟩:=Int.eq_ofNat_of_zero_le p5;simp only at e0 e1 e2 e3;have q1:ne<64:=by omega
   have q2:no<64:=by omega
   have q3:nn<64:=by omega
   have q4:tx.size<64:=p7;clear HPx p1 p2 p3 p4 p5 p6 p7;have g1:=enc1_size ne;have g2:=enc1_size no;have g3:=enc1_size nn;have g4:=enc1_size tx.size;obtain⟨E1,hE1⟩:∃E,E=enc1 ne:=⟨_,rfl⟩;obtain⟨E2,hE2⟩:∃E,E=enc1 no:=⟨_,rfl⟩;obtain⟨E3,hE3⟩:∃E,E=enc1 nn:=⟨_,rfl⟩;obtain⟨E4,hE4⟩:∃E,E=enc1 tx.size:=⟨_,rfl⟩;have HE1:=hid hE1;have HE2:=hid hE2;have HE3:=hid hE3;have HE4:=hid hE4;rw[<- hE1]at g1;rw[<- hE2]at g2;rw[<- hE3]at g3;rw[<- hE4]at g4;have z1:¬9223372036854775807<E1.size:=by omega
   have z2:¬9223372036854775807<E1.size+E2.size:=by omega
   have z3:¬9223372036854775807<E1.size+E2.size+E3.size:=by omega
   have z4:¬9223372036854775807<E1.size+E2.size+E3.size+(E4.size+tx.size):=by omega
   have HSZ:Hid (((⟨#[]⟩:ByteArray)++E1++E2++E3++(E4++tx)).size<=100):=hid (by simp only[ByteArray.size_append];show 0+E1.size+E2.size+E3.size+(E4.size+tx.size)<=100;omega);clear hE1 hE2 hE3 hE4 g1 g2 g3 g4;obtain⟨Ws,hWs⟩:∃Ws,Ws=(wr.alloc (.cells #[.int .i64 ne,.int .i64 no,.int .i64 nn,.string tx] 57)).alloc (.cells #[.int .i64 ne,.int .i64 no,.int .i64 nn] 3):=⟨_,rfl⟩;have hR:=hid (show Blk Ws (wr.heap.size+1) 3 #[.int .i64 ne,.int .i64 no,.int .i64 nn] by rw[hWs];exact Blk.new2 _ _ _ _);have hQ:=hid (show Blk Ws wr.heap.size 57 #[.int .i64 ne,.int .i64 no,.int .i64 nn,.string tx] by rw[hWs];exact(Blk.new _ _ _).alloc _);have hb:Below wr.heap.size wr Ws:=by rw[hWs];exact((Below.refl _ wr).alloc (Nat.le_refl _) _).alloc (by simp) _
   have hB:=hid (hW.out.trans (hb.mono hW.out.size));have hVs:=hid (hV.out.below hb);have hsz:=hB.out.size
   go_wp2_with fail
   rw[<- hWs];clear hWs hb hV hW e0 e1 e2 e3;obtain⟨r0,r1,r2⟩:=hR.out.three;refine wp_loop_rounds 4 ?_;rw[rounds_succ]
   go_wp2_with fail
   refine(putInt' Ws ne q1).mono ?_;rw[<- HE1.out];rintro e v1 ⟨rfl,f1⟩;have hR1:=hid (hR.out.below f1 hR.out.lt);have hQ1:=hid (hQ.out.below f1 hQ.out.lt);have hB1:=hid (hB.out.trans (f1.mono hB.out.size));have hV1:=hid (hVs.out.below f1);clear f1 hR hQ hB hVs r0 r1 r2;obtain⟨r0,r1,r2⟩:=hR1.out.three
   go_wp2_with fail
   rw[rounds_succ]
   go_wp2_with fail
   refine(putInt' v1 no q2).mono ?_;rw[<- HE2.out];rintro e v2 ⟨rfl,f2⟩;have hR2:=hid (hR1.out.below f2 hR1.out.lt);have hQ2:=hid (hQ1.out.below f2 hQ1.out.lt);have hB2:=hid (hB1.out.trans (f2.mono hB1.out.size));have hV2:=hid (hV1.out.below f2);clear f2 hR1 hQ1 hB1 hV1 r0 r1 r2;obtain⟨r0,r1,r2⟩:=hR2.out.three
   go_wp2_with fail
   rw[rounds_succ]
   go_wp2_with fail
   refine(putInt' v2 nn q3).mono ?_;rw[<- HE3.out];rintro e v3 ⟨rfl,f3⟩;have hQ3:=hid (hQ2.out.below f3 hQ2.out.lt);have hB3:=hid (hB2.out.trans (f3.mono hB2.out.size));have hV3:=hid (hV2.out.below f3);clear f3 hR2 hQ2 hB2 hV2 r0 r1 r2;have t3:v3.cell? ⟨wr.heap.size,3,none⟩=some (.string tx):=hQ3.out.cell 3
   go_wp2_with fail
   rw[rounds_succ]
   go_wp2_with fail
   refine(putStr v3 tx q4).mono ?_;rw[<- HE4.out];rintro e v4 ⟨rfl,f4⟩;have hB4:=hid (hB3.out.trans (f4.mono hB3.out.size));have hV4:=hid (hV3.out.below f4);have hz4:=hB4.out.size;clear f4 hQ3 hB3 hV3 t3;obtain⟨Q,hQe⟩:∃Q,Q=(⟨#[]⟩:ByteArray)++E1++E2++E3++(E4++tx):=⟨_,rfl⟩;have HQ:=hid hQe;have hk0:(v4.alloc (.cells #[.string ((⟨#[]⟩:ByteArray)++E1++E2++E3++(E4++tx))] 9)).cell? ⟨v4.heap.size,0,none⟩=some (.string Q):=by rw[hQe];exact(Blk.new v4 9 _).cell 0
   have HVx:=hid (hV4.out.below ((Below.refl _ v4).alloc (Nat.le_refl _) (.cells #[.string ((⟨#[]⟩:ByteArray)++E1++E2++E3++(E4++tx))] 9)));have hBx:=hid (hB4.out.alloc hz4 (.cells #[.string ((⟨#[]⟩:ByteArray)++E1++E2++E3++(E4++tx))] 9));have hzx:=hBx.out.size;have hlx:(strs xs).length+1<=1099511627776:=by simp[strs,hxs.out.1];omega
   have hlx':(strs xs).length=k:=by simp[strs,hxs.out.1]
   clear hQe hV4 hB4
   go_wp2_with (at_builtin;refine wpList_appendV underlying86 info9 rfl (by decide) rfl (.tmp 51) (.tmp 55) rfl w.heap.size (.slice B k cc) (strs xs) rfl HVx.out hzx hlx ⟨v4.heap.size,0,none⟩ (.string Q) rfl 1 rfl hk0 ?_;intro v5 w5 hV5 hg5 ho5;obtain⟨A5,c5,rfl⟩:=hV5.len (n:=k+1) (by simp[hlx']);have HV5:=hid hV5;have HB5:=hid (hBx.out.trans (grown_base HVx.out hg5 hzx));clear hV5 hg5 ho5)
   go_roundw
   case rel=>exact⟨k+1,xs++[Q],A5,c5,by omega,by go_num,rfl,hid ⟨by simp[hxs.out.1],λy hy=>by
    rcases List.mem_append.1 hy with h|h
    ·exact hxs.out.2 y h
    ·simp at h;subst h;rw[HQ.out];exact HSZ.out⟩,hid (by simpa[strs]using HV5.out),HB5⟩
   case measure=>simp[intOf];omega
  ·obtain rfl:k=n:=by omega
   obtain⟨g,rfl⟩:=hV.out.sm hn0
   go_wp2_with fail
   have hsW:=hW.out.size;refine(root_any wr g cc k xs tab (HT.out.below hW.out ht0) (λj x hx=>by
    have hj:j<xs.length:=(List.getElem?_eq_some_iff.1 hx).1;have:=hV.out.at_ j (by simpa[strs]using hj);rw[this];have e:=(List.getElem?_eq_some_iff.1 hx).2;simp[strs,e]) (hV.out.own g rfl).2 hn0 hn hxs.out.1 (by have:=hV.out.cap;simpa[strs,hxs.out.1]using this) (λx hx=>Nat.le_trans (hxs.out.2 x hx) (by omega))).mono ?_
   rintro e w2 ⟨d,rfl,hd,h2⟩
   go_wp2_with fail
   go_ret2;exact⟨d,rfl,hd,hW.out.trans (h2.mono hsW)⟩
end
section
open Go.RowKit Go.Shelf
theorem encI_size (n:Nat):(encI n).size<=3:=by
 unfold encI;rw[strOfNums_size];exact lebN_len _ _
attribute [local irreducible] encI
theorem putStr_any (w:World)(s:ByteArray)(hs:s.size<=60000):Calls prog 50 #[.string s] w λe w'=>e=.returned (.tuple #[.string (encI s.size++s),.int .i64 0])/\Below w.heap.size w w':=by
 have h0:=encI_size s.size;have h1:¬(65536:Int)<s.size:=by omega
 have h2:¬9223372036854775807<(encI s.size).size+s.size:=by omega
 go_enter func50,ntmps50
 go_wp2_with fail
 refine(putInt_any w s.size (by omega)).mono ?_;rintro e w1 ⟨rfl,hb⟩
 go_wp2_with fail
 go_ret2;exact⟨rfl,hb⟩
theorem rputStr_any (w:World)(s:ByteArray)(hs:s.size<=60000):Calls prog 80 #[.string s] w λe w'=>e=.returned (.tuple #[.string (encI s.size++s),.int .i64 0])/\Below w.heap.size w w':=by
 have h0:=encI_size s.size;have h1:¬(65536:Int)<s.size:=by omega
 have h2:¬9223372036854775807<(encI s.size).size+s.size:=by omega
 go_enter func80,ntmps80
 go_wp2_with fail
 refine(rputInt w s.size (by omega)).mono ?_;rintro e w1 ⟨rfl,hb⟩
 go_wp2_with fail
 go_ret2;exact⟨rfl,hb⟩
def encPost (ne no nn:Nat)(tx:ByteArray):ByteArray:=(⟨#[]⟩:ByteArray)++encI ne++encI no++encI nn++(encI tx.size++tx)
theorem encPost_size (ne no nn:Nat)(tx:ByteArray):(encPost ne no nn tx).size<=12+tx.size:=by
 have:=encI_size ne;have:=encI_size no;have:=encI_size nn;have:=encI_size tx.size;unfold encPost;simp only[ByteArray.size_append];show 0+_+_+_+_<=_;omega
theorem text_any (w:World)(ne no nn:Nat)(tx:ByteArray)(q1:ne<1048576)(q2:no<1048576)(q3:nn<1048576)(q4:tx.size<=60000) :
 Calls prog 52 #[.agg #[.int .i64 ne,.int .i64 no,.int .i64 nn,.string tx]] w λe w'=>e=.returned (.string (encPost ne no nn tx))/\Below w.heap.size w w':=by
 have g1:=encI_size ne;have g2:=encI_size no;have g3:=encI_size nn;have g4:=encI_size tx.size;unfold encPost;obtain⟨E1,hE1⟩:∃E,E=encI ne:=⟨_,rfl⟩;obtain⟨E2,hE2⟩:∃E,E=encI no:=⟨_,rfl⟩;obtain⟨E3,hE3⟩:∃E,E=encI nn:=⟨_,rfl⟩;obtain⟨E4,hE4⟩:∃E,E=encI tx.size:=⟨_,rfl⟩;rw[<- hE1,<- hE2,<- hE3,<- hE4];have HE1:=hid hE1;have HE2:=hid hE2;have HE3:=hid hE3;have HE4:=hid hE4;rw[<- hE1]at g1;rw[<- hE2]at g2;rw[<- hE3]at g3;rw[<- hE4]at g4;have z1:¬9223372036854775807<E1.size:=by omega
 have z2:¬9223372036854775807<E1.size+E2.size:=by omega
 have z3:¬9223372036854775807<E1.size+E2.size+E3.size:=by omega
 have z4:¬9223372036854775807<E1.size+E2.size+E3.size+(E4.size+tx.size):=by omega
 clear hE1 hE2 hE3 hE4 g1 g2 g3 g4;obtain⟨Ws,hWs⟩:∃Ws,Ws=(w.alloc (.cells #[.int .i64 ne,.int .i64 no,.int .i64 nn,.string tx] 57)).alloc (.cells #[.int .i64 ne,.int .i64 no,.int .i64 nn] 3):=⟨_,rfl⟩;have hR:=hid (show Blk Ws (w.heap.size+1) 3 #[.int .i64 ne,.int .i64 no,.int .i64 nn] by rw[hWs];exact Blk.new2 _ _ _ _);have hQ:=hid (show Blk Ws w.heap.size 57 #[.int .i64 ne,.int .i64 no,.int .i64 nn,.string tx] by rw[hWs];exact(Blk.new _ _ _).alloc _);have hB:Hid (Below w.heap.size w Ws):=hid (by rw[hWs];exact((Below.refl _ w).alloc (Nat.le_refl _) _).alloc (by simp) _)
 go_enter func52,ntmps52
 go_wp2_with fail
 rw[<- hWs];clear hWs;obtain⟨r0,r1,r2⟩:=hR.out.three;refine wp_loop_rounds 4 ?_;rw[rounds_succ]
 go_wp2_with fail
 refine(rputInt Ws ne q1).mono ?_;rw[<- HE1.out];rintro e v1 ⟨rfl,f1⟩;have hR1:=hid (hR.out.below f1 hR.out.lt);have hQ1:=hid (hQ.out.below f1 hQ.out.lt);have hB1:=hid (hB.out.trans (f1.mono hB.out.size));clear f1 hR hQ hB r0 r1 r2;obtain⟨r0,r1,r2⟩:=hR1.out.three
 go_wp2_with fail
 rw[rounds_succ]
 go_wp2_with fail
 refine(rputInt v1 no q2).mono ?_;rw[<- HE2.out];rintro e v2 ⟨rfl,f2⟩;have hR2:=hid (hR1.out.below f2 hR1.out.lt);have hQ2:=hid (hQ1.out.below f2 hQ1.out.lt);have hB2:=hid (hB1.out.trans (f2.mono hB1.out.size));clear f2 hR1 hQ1 hB1 r0 r1 r2;obtain⟨r0,r1,r2⟩:=hR2.out.three
 go_wp2_with fail
 rw[rounds_succ]
 go_wp2_with fail
 refine(rputInt v2 nn q3).mono ?_;rw[<- HE3.out];rintro e v3 ⟨rfl,f3⟩;have hQ3:=hid (hQ2.out.below f3 hQ2.out.lt);have hB3:=hid (hB2.out.trans (f3.mono hB2.out.size));clear f3 hR2 hQ2 hB2 r0 r1 r2;have t3:v3.cell? ⟨w.heap.size,3,none⟩=some (.string tx):=hQ3.out.cell 3
 go_wp2_with fail
 rw[rounds_succ]
 go_wp2_with fail
 refine(rputStr_any v3 tx q4).mono ?_;rw[<- HE4.out];rintro e v4 ⟨rfl,f4⟩;have hB4:=hid (hB3.out.trans (f4.mono hB3.out.size));clear f4 hQ3 hB3 t3
 go_wp2_with fail
 go_ret;exact⟨rfl,hB4.out⟩
end
section
open Go.RowKit Go.Shelf
attribute [local irreducible] addF rounds8 sched2 wq rotl word
def hk (zs:List Int):Nat->Array Value
 | 0=>iv.cells
 | k+1=>addF tabC (λi=>zs.getD (64*k+i) 0) (hk zs k)
theorem hk_nums (zs:List Int):∀k,Nums 8 (hk zs k)
 | 0=>iv.nums
 | k+1=>nums_addF tabC _ (hk_nums zs k)
theorem hk_zero (zs:List Int):hk zs 0=iv.cells:=rfl
theorem hk_succ (zs:List Int)(k:Nat):hk zs (k+1)=addF tabC (λi=>zs.getD (64*k+i) 0) (hk zs k):=rfl
theorem fold_hk (zs:List Int):∀m,(List.finRange m).foldl (λhs x=>addF tabC (λi=>zs.getD (64*x.val+i) 0) hs) iv.cells=hk zs m
 | 0=>rfl
 | m+1=>by
   rw[List.finRange_succ_last,List.foldl_append,List.foldl_map];have:=fold_hk zs m;simp only[Fin.val_castSucc]at this ⊢;rw[this];rfl
attribute [local irreducible] hk
theorem iv_cells8 {w:World}{g:Nat}(h:Blk w g 179 iv.cells):∀i,i<8->w.cell? ⟨g,i,none⟩=some (.int .u32 (num iv.cells i)):=λi hi=>(h.cell i).trans (iv.nums.at_ hi)
theorem vs_nums {w:World}{B g n c:Nat}{cs:Array Value}(h:Vs w B (.slice (some ⟨g,0,none⟩) n c) cs.toList)(hn:Nums 8 cs):∀i,i<8->w.cell? ⟨g,i,none⟩=some (.int .u32 (num cs i)):=by
 intro i hi;have hl:i<cs.toList.length:=by rw[Array.length_toList,hn.1];exact hi
 rw[h.at_ i hl];have:=hn.at_ hi;rw[<- Array.getElem?_toList,List.getElem?_eq_getElem hl]at this;exact this
theorem rsum_any (w:World)(s:ByteArray)(hs:s.size<=100000) :
 Calls prog 81 #[.string s] w λe w'=>e=.returned (.string (strOfNums (sumF tabC s)))/\Below w.heap.size w w':=by
 have hpl:(padB s).length%64=0:=by
  unfold padB;simp only[List.length_append,List.length_replicate,lenB,List.length_map,List.length_range,List.length_cons,List.length_nil];omega
 have hpl2:(padB s).length<=100200:=by
  unfold padB;have:=bytesI_len s;simp only[List.length_append,List.length_replicate,lenB,List.length_map,List.length_range,List.length_cons,List.length_nil];omega
 obtain⟨zs,hzs⟩:∃zs,zs=padB s:=⟨_,rfl⟩;obtain⟨m,hm⟩:∃m,zs.length=64*m:=⟨zs.length / 64,by rw[hzs];omega⟩;have hm0:0<m:=by
  have h9:0<(padB s).length:=by
   unfold padB;simp only[List.length_append,List.length_cons,List.length_nil];omega
  rw[<- hzs]at h9;omega
 have hm':m<=1600:=by rw[<- hzs]at hpl2;omega
 have HZ:=hid hzs;have HM:=hid hm;have HExt:=hid (λW=>ext_any W s hs);have HSum:Hid (strOfNums (outB (hk zs m) 8)=strOfNums (sumF tabC s)):=hid (by rw[<- fold_hk,sumF_eq tabC s zs m hzs hm]);clear hpl hpl2 hzs hm
 go_enter func81,ntmps81
 go_upto_region 2 with (fail)
 obtain⟨W0,hW0⟩:∃W0,W0=w.alloc (.cells iv.cells 179):=⟨_,rfl⟩;have hH0:Blk W0 w.heap.size 179 iv.cells:=by rw[hW0];exact Blk.new _ _ _
 have hb0:Below w.heap.size w W0:=by rw[hW0];exact(Below.refl _ _).alloc (Nat.le_refl _) _
 have e0:(W0=w.alloc (.cells #[.int .u32 1779033703,.int .u32 3144134277,.int .u32 1013904242,.int .u32 2773480762,.int .u32 1359893119,.int .u32 2600822924,.int .u32 528734635,.int .u32 1541459225] 179)):=hW0;rw[<- e0];clear hW0 e0
 go_upto_region 3 with (first|(go_at_call 113;refine(HExt.out W0).mono ?_;rintro e w1 ⟨A,n,c,rfl,hn,hV,hb1⟩;obtain rfl:n=64*m:=hn.trans (by rw[<- HZ.out,HM.out]);clear hn))
 obtain⟨gb,rfl⟩:=hV.sm (by omega);have hcap:64*m<=c:=by
  have h1:=hV.cap;have h2:=HM.out;have h3:=HZ.out;simp only[u8s,List.length_map,<- h3]at h1;omega
 have hgb:=(hV.own gb rfl).2;have HBy:=hid (fun(j:Nat) (hj:j<64*m)=>show w1.cell? ⟨gb,j,none⟩=some (.int .u8 (zs.getD j 0)) by
  have hjl:j<(u8s (padB s)).length:=by simp only[u8s,List.length_map,<- HZ.out];have:=HM.out;omega
  rw[hV.at_ j hjl,HZ.out];simp only[u8s,List.length_map]at hjl;simp[u8s,List.getElem?_eq_getElem hjl])
 have HW1:=hid (hb0.trans (hb1.mono hb0.size));have hH1:=hH0.below hb1 hH0.lt;have HC1:=hid (iv_cells8 hH1);have hl1:=hH1.lt;have hz1:=HW1.out.size;clear hV hH0 hb0 hb1 hH1 HExt
 rename World=>Wa
 go_wp2_with fail
 go_loopw [3,5] (λv i wr=>∃(k g' c':Nat),k<=m/\i=.int .i64 ((64*k:Nat):Int)/\v=.slice (some ⟨g',0,none⟩) 8 c'/\8<=c'/\g'<wr.heap.size/\Hid (∀i,i<8->wr.cell? ⟨g',i,none⟩=some (.int .u32 (num (hk zs k) i)))/\Hid (Below Wa.heap.size Wa wr)) (λ_ i _=>64*m - (intOf i).toNat)
 case atStart=>exact⟨0,w.heap.size,8,by omega,rfl,rfl,by omega,hl1,hid (by rw[hk_zero];exact HC1.out),hid (Below.refl _ _)⟩
 case round =>
  obtain⟨k,g',c',hkm,rfl,rfl,hc8,hg',hC,hW⟩:=hrel
  by_cases hlt:k<m
  ·have HBl:=hid (block_any wr g' c' gb (64*k) (c - 64*k) (λi=>zs.getD (64*k+i) 0) (hk zs k) (hk_nums zs k) hC.out hg' hc8 (λi hi=>(hW.out.cell (p:=⟨gb,64*k+i,none⟩) hgb).trans (HBy.out (64*k+i) (by omega))) (by have:=hW.out.size;omega) (by omega))
   go_upto_region 6 with (fail)
   go_upto_region 5 with (first|(go_at_call 114;refine HBl.out.mono ?_;rintro e w4 ⟨A4,c4,rfl,hV4,hb4⟩))
   rw[<- hk_succ]at hV4;obtain⟨g4,rfl⟩:=hV4.sm (by omega);have HC4:=hid (vs_nums hV4 (hk_nums zs (k+1)));have hc4:8<=c4:=by have:=hV4.cap;rw[Array.length_toList,(hk_nums zs (k+1)).1]at this;exact this
   have hg4:=(hV4.own g4 rfl).2;have HW4:=hid (hW.out.trans (hb4.mono hW.out.size));clear hV4 hb4 hC hW
   go_wp2_with fail
   go_roundw
   case rel=>exact⟨k+1,g4,c4,by omega,by go_num,rfl,hc4,hg4,HC4,HW4⟩
   case measure=>simp[intOf];omega
  ·have hkm':=hid (show k=m by omega)
   obtain⟨hs8,hhs8⟩:∃hs8,hs8=hk zs m:=⟨_,rfl⟩;have HS8:=hid hhs8;have HC8:=hid (show ∀i,i<8->wr.cell? ⟨g',i,none⟩=some (.int .u32 (num hs8 i)) by rw[hhs8,<- hkm'.out];exact hC.out);have HWr:=hid (HW1.out.trans (hW.out.mono HW1.out.size));have hzr:=HWr.out.size;obtain⟨ui,hui,hu1,hu2,hu0⟩:=info5;clear hhs8 hC hW
   rename World=>Wy
   go_wp2_with fail
   generalize ((64*k:Nat):Int)=kk
   go_loopw [6,7] (λv i wr=>∃(j:Nat) (A:Option Addr) (c:Nat),j<=8/\i=.int .i64 j/\v=.slice A (4*j) c/\Hid (wr.ownsRow Wy.heap.size 5 1 (.slice A (4*j) c) (4*j) (u8s (outB hs8 j)))/\Hid (Below Wy.heap.size Wy wr)) (λ_ i _=>8 - (intOf i).toNat)
   case atStart=>exact⟨0,none,0,by omega,rfl,rfl,hid (World.ownsRow_nil _ _ _ _),hid (Below.refl _ _)⟩
   case round =>
    obtain⟨j,A,c,hj,rfl,rfl,hV,hWy⟩:=hrel
    by_cases hlt:j<8
    ·have cx:=(hWy.out.cell (p:=⟨g',j,none⟩) hg').trans (HC8.out j hlt)
     have Lx:=Later.of cx
     go_wp2_with fail
     refine Loose.wp_region_later [(24,.row wr.heap.size 5 4 #[.int .u8 (num hs8 j / 16777216%256),.int .u8 (num hs8 j / 65536%256),.int .u8 (num hs8 j / 256%256),.int .u8 (num hs8 j%256)])] 25 (by kernel_rfl) (by kernel_rfl) ?_
     (simp only[List.take_succ_cons,List.take_zero,List.drop_succ_cons,List.drop_zero])
     (repeat(first|refine Loose.walk_skip rfl ?_|(refine Loose.walk_plain rfl rfl rfl λK h=>?_;go_big_quiet_op;refine h _ ?_;clear h K)))
     refine Loose.walk_loose rfl rfl (λW' hW' _=>Loose.loose_val (u:=.slice (.some ⟨W'.heap.size,0,none⟩) 4 4) (W':=W'.alloc (.cells #[.int .u8 (num hs8 j / 16777216%256),.int .u8 (num hs8 j / 65536%256),.int .u8 (num hs8 j / 256%256),.int .u8 (num hs8 j%256)] 5)) (by kernel_rfl) ((Below.refl _ _).alloc (Nat.le_refl _) _) ⟨_,rfl,hW'.size,Blk.new _ _ _⟩) ?_;rintro _ _ _ ⟨q,rfl,hq,_⟩
     (simp only[Act.put,List.setIfInBounds_toArray,List.set_cons_succ,List.set_cons_zero])
     (repeat(first|refine Loose.walk_skip rfl ?_|(refine Loose.walk_plain rfl rfl rfl λK h=>?_;go_big_quiet_op;refine h _ ?_;clear h K)))
     refine Loose.walk_nil ?_;rintro V hVb hVF;have hqb:=(Loose.Pred.row_at (B:=wr.heap.size) (t:=5) (n:=4) (cs:=#[.int .u8 (num hs8 j / 16777216%256),.int .u8 (num hs8 j / 65536%256),.int .u8 (num hs8 j / 256%256),.int .u8 (num hs8 j%256)]) (x:=q) (W:=V) hVF.2).2;have HRd:=hid (show Reads V V.heap.size 1 (some ⟨q,0,none⟩) 4 [.int .u8 (num hs8 j / 16777216%256),.int .u8 (num hs8 j / 65536%256),.int .u8 (num hs8 j / 256%256),.int .u8 (num hs8 j%256)]from⟨rfl,λ_=>⟨q,0,rfl,hqb.lt,λi u hi=>by rw[Nat.zero_add];exact(hqb.cell i).trans (by simpa using hi)⟩⟩);have HV1:=hid (own_below hV.out hVb);have HWV:=hid (hWy.out.trans (hVb.mono hWy.out.size));have hzV:=HWV.out.size;have HE:=hid (show u8s (outB hs8 j)++[.int .u8 (num hs8 j / 16777216%256),.int .u8 (num hs8 j / 65536%256),.int .u8 (num hs8 j / 256%256),.int .u8 (num hs8 j%256)]=u8s (outB hs8 (j+1)) by simp[u8s,outB,out4]);clear hVF hqb hVb Lx cx hV hWy
     go_wp2_with (at_builtin;refine wpList_append_any _ rfl (.tmp 28) (.tmp 52) 129 rfl Wy.heap.size 5 ui _ 1 1 underlying129 hui hu0 hu1 hu2 rfl (by omega) (.slice A (4*j) c) (4*j) (u8s (outB hs8 j)) rfl HV1.out V.heap.size (some ⟨q,0,none⟩) 4 4 _ rfl HRd.out (by intro u hu;simp at hu;rcases hu with rfl|rfl|rfl|rfl<;>rfl) (by simp only[maxLen];omega) (by omega) hzV ?_;intro v2 w2 hV2 hg2 ho2;rw[HE.out]at hV2;obtain⟨A2,c2,rfl,hc2⟩:=own_slice hV2;have HV2:=hid hV2;have HWn:=hid (HWV.out.grown hg2 hzV (λk e=>(HV1.out.lt k e).1));clear hV2 hg2 ho2)
     go_roundw
     case rel=>exact⟨j+1,A2,c2,by omega,by go_num,rfl,HV2,HWn⟩
     case measure=>simp[intOf];omega
    ·obtain rfl:j=8:=by omega
     obtain⟨g9,c9,hv9,hg9,hg9l⟩:=hV.out.form (by omega);injection hv9 with e1 e2 e3
     subst e1 e3;have hcv:=run_convert_bytes_arg (P:=prog) wr 129 5 underlying129 underlying5 g9 0 32 c (outB hs8 8) (outB_len hs8 8) (λi hi=>by
      have hl:=outB_len hs8 8;rw[Nat.zero_add,hV.out.cellAt i (by simp[u8s,hl];omega)];have hil:i<(outB hs8 8).length:=by omega
      simp[u8s,List.getElem?_eq_getElem hil]) 9 underlying9
     have HFin:Hid (strOfNums (outB hs8 8)=strOfNums (sumF tabC s)):=hid (by rw[HS8.out];exact HSum.out);have HLast:=hid (HWr.out.trans (hWy.out.mono hzr));clear e2
     go_wp2_with fail
     go_ret;exact⟨by rw[<- HFin.out];rfl,HLast.out⟩
end
end Go.Proofs.YtnehgpeelgjjhaaGreatDoor.Tw
