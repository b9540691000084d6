/- Contracts of functions of the program, and plain laws, towards the laws of replicas. Joined of the texts: F1, F2, R18, R25, R19, G1, G2, G3, G4, F3, F4, F5. -/
import Derived.Test.YtnehgpeelgjjhaaGreatDoorW18
import Derived.Handy
import Derived.Test.YtnehgpeelgjjhaaGreatDoorW05
import Derived.Test.YtnehgpeelgjjhaaGreatDoorW16
import Derived.Test.YtnehgpeelgjjhaaGreatDoorW15
import Derived.Shelf.Strings.BuilderK
import Derived.Defers
import Derived.Recover
set_option linter.all false
set_option maxRecDepth 100000
set_option maxHeartbeats 12800000
open Go.Lib (hid)
namespace Go.Proofs.YtnehgpeelgjjhaaGreatDoor.Tw
open Go.Proofs.Tryz
section
open Go.RowKit Go.Shelf
attribute [local go_sem] Oper.semAt_some
def low7 (z:Nat):Int:=bits BinOp.and IntKind.u64 z 127%256
theorem groups_iter (n:Nat)(hn:1<=n)(l b1 z n₀ p:Nat)(hz:z<128)(J Jx:List Unit->World->Prop)
 (hY:∀pre (x:Unit) W,J pre W->pre.length<1->YieldAt Fence.wide (n - 1) prog l #[.int .u8 (low7 z),.bool true] W λe W' =>
   (e=.returned (.bool true)/\J (pre++[x]) W'/\KeepB n₀ p W W')∨(e=.returned (.bool false)/\Jx (pre++[x]) W'))
 (W:World) (h1:W.cell? ⟨b1,0,none⟩=some (.int .u64 z)) (h0:J [] W) :
 CallsIn Fence.wide n prog 106 #[.func (.yield l) #[] #[],.pointer (some ⟨b1,0,none⟩)] W λe W'=>(∃v,e=.returned v) /\
  ((∃ys,ys=[()]/\J ys W')∨(∃pre,True/\Jx pre W')):=by
 refine callsIn_of_wp func106 rfl trivial ?_ rfl;simp only[ntmps106,List.size_toArray,List.length_cons,List.length_nil,Nat.reduceAdd,Nat.reduceSub,Array.replicate_succ,Array.replicate_zero,List.push_toArray,List.append_toArray,List.nil_append,List.cons_append];have hz':(z:Int)<128:=by omega
 obtain⟨fn,tmps,assign,body,hy,hR⟩:=hY [] () W h0 (by simp);unfold low7 at hy;clear hY h0
 gi_wp2
 gi_loopw [3] (λv wr=>v=undef/\wr=W) (λ_ _=>0)
 case atStart=>exact⟨rfl,rfl⟩
 case round =>
  obtain⟨rfl,rfl⟩:=hrel
  gi_wp2
  refine hR.mono ?_;rintro e W3 (⟨rfl,hJ3,hk3⟩|⟨rfl,hJx3⟩)
  ·gi_wp2
   first|go_end0|refine bodyPost_ret (results_none rfl _ _ _) rfl ?_
   exact⟨⟨_,rfl⟩,.inl ⟨[()],rfl,hJ3⟩⟩
  ·gi_wp2
   first|go_end0|refine bodyPost_ret (results_none rfl _ _ _) rfl ?_
   exact⟨⟨_,rfl⟩,.inr ⟨_,trivial,hJx3⟩⟩
theorem groups_stops (n:Nat)(hn:1<=n)(b1 z n₀ p:Nat)(hz:z<128)(w:World)(h1:w.cell? ⟨b1,0,none⟩=some (.int .u64 z)) :
 SeqStopsK Fence.wide n prog 106 #[.pointer (some ⟨b1,0,none⟩)] (λ_:Unit=>#[.int .u8 (low7 z),.bool true]) (KeepB n₀ p) (λys=>ys=[()]) (λ_=>True) 1 w :=
 λl J Jx W hW hJ _ hY h0=>groups_iter n hn l b1 z n₀ p hz J Jx hY W ((hW.cell (lt_of_cell h1)).trans h1) h0
theorem Vs.ownF {w w':World}{base:Nat}{v:Value}{xs:List Value}{row:Option Nat}(h:Vs w base v xs)(hx:xs≠[])(hg:w.grownBy w' row)(hr:∀r,row=some r->∃o:Obj,w.heap[r]?=some o/\o.isCells=false):Vs w' base v xs:=by
 rcases row with _|r
 ·exact h.kept hg (by cases v.ownBlock<;>simp)
 ·refine h.kept hg (.inr λe=>?_)
  obtain⟨o,ho,hc⟩:=hr r rfl;rcases h with ⟨rfl,h2⟩|⟨g,cap,rfl,h1,h2,h3,h4,h5⟩
  ·exact hx h2
  ·have e':g=r:=by simpa[Value.ownBlock]using e
   subst e';have hl:0<xs.length:=List.length_pos_iff.2 hx;obtain⟨⟨u,hu⟩,_⟩:=h4 0 (by omega);unfold World.cell? at hu;simp only[ho]at hu;cases o<;>simp_all[Obj.isCells]
end
section
open Go.RowKit Go.Shelf
attribute [local go_sem] Oper.semAt_some
theorem groups_any (w:World)(z:Nat):Calls prog 74 #[.int .u64 z] w λe w'=>∃b1,e=.returned (.func (.func 106) #[] #[.pointer (some ⟨b1,0,none⟩)])/\w'.cell? ⟨b1,0,none⟩=some (.int .u64 z)/\Below w.heap.size w w':=by
 go_enter func74,ntmps74
 go_wp2;go_ret;exact⟨_,rfl,(Blk.new w 133 #[.int .u64 z]).cell 0,(Below.refl _ _).alloc (Nat.le_refl _) _⟩
theorem zig (n:Nat)(hn:n<64):bits BinOp.xor IntKind.u64 ((n:Int)*2) ((n:Int) / 9223372036854775808)=((2*n:Nat):Int):=by
 have h:∀n:Fin 64,bits BinOp.xor IntKind.u64 ((n.val:Int)*2) ((n.val:Int) / 9223372036854775808)=((2*n.val:Nat):Int):=by decide +kernel
 exact h ⟨n,hn⟩
theorem wpListIn_appendV {F:Fence}{m:Nat}{P:Program}{t e:TypeId}{z:Value}{by_:Nat}(hu:P.underlying t=some (.slice e))(hinfo:(P.info? e).map (λi=>(i.size,i.bytes,i.zero))=some (1,by_,some z))(hzc:z.cells.size=1)(hby:by_<=16)
 {ops:Array Oper} {rest:List Oper} {o:Oper} {a:Act} {w:World} {Q:Exit->Act->World->Prop} (hgd:o.guard=none) (s x:Operand)
 (ho:o.op=.call { callee:=.builtin .append,args:=#[s,x],argTypes:=#[t,t] }) (base:Nat) (v:Value) (xs:List Value) (hs:a.eval s=v) (hV:Vs w base v xs) (hbase:base<=w.heap.size) (hl:xs.length+1<=1099511627776)
 (ad:Addr) (c:Value) (h1c:c.oneCell'=true) (cc:Nat) (hx:a.eval x=.slice (some ad) 1 cc) (hc:w.cell? ad=some c)
 (h:∀v' w',Vs w' base v' (xs++[c])->w.grownBy w' v.ownBlock->(v'.ownBlock=v.ownBlock∨∃k,v'.ownBlock=some k/\w.heap.size<=k)->wpListIn F m P ops Q rest (a.put o.dst v') w'):wpListIn F m P ops Q (o::rest) a w:=by
 refine wpListIn_plain hgd λK hK=>?_
 obtain⟨v',w',hr,h2,h3,h4⟩:=hV.append1 hu hinfo hzc hby hbase hl ad c h1c cc hc o.type;unfold Oper.wpIn;refine⟨by simp[Oper.about,ho,resolve,Target.leads,Sem.run_pure],?_⟩;rw[Oper.semAt_plain F _ _ (by rw[ho];intro c hc';cases hc')];simp[execOp,ho,resolve,invoke,builtin,hs,hx,hr,Result.andThen];exact hK _ _ (h v' w' h2 h3 h4)
theorem Blk.grown {w w':World}{g:Nat}{t:TypeId}{cs:Array Value}{row:Option Nat}(h:Blk w g t cs)(hg:w.grownBy w' row)(hr:∀r,row=some r->g<r):Blk w' g t cs :=
 (hg.block g h.lt (λe=>by have:=hr g e.symm;omega)).trans h
theorem putInt (w:World)(n:Nat)(hn:n<64) :
 Calls prog 49 #[.int .i64 n] w λe w'=>e=.returned (.tuple #[.string (strOfNums [low7 (2*n)]),.int .i64 0])/\Below w.heap.size w w':=by
 refine calls_of_marks func49 rfl ?_;simp only[ntmps49,List.size_toArray,List.length_cons,List.length_nil,Nat.reduceAdd,Nat.reduceSub,Array.replicate_succ,Array.replicate_zero,List.push_toArray,List.append_toArray,List.nil_append,List.cons_append];have hn1:¬(n:Int) < -4611686018427387903:=by omega
 have hn2:¬(4611686018427387903:Int)<n:=by omega
 go_wp2_with fail
 rw[zig n hn];refine(groups_any _ _).mono ?_;rintro e w4 ⟨b1,rfl,hc1,h4⟩
 go_wp2_with fail
 have hz4:=h4.size;simp only[World.size_alloc]at hz4 h4;have HP:Hid (Blk w4 w.heap.size 129 #[.slice none 0 0]):=hid ((Blk.new w 129 #[.slice none 0 0]).below h4 (by simp));have HW4:Hid (Below w.heap.size w w4):=hid (((Below.refl w.heap.size w).alloc (Nat.le_refl _) (.cells #[.slice none 0 0] 129)).trans (h4.mono (by simp)));refine with_act ?_;intro b hb;refine wpIn_wide (n:=9).1 ?_;refine wpIn_rangeFunc_ownF (α:=Unit) (F:=Fence.wide) rfl (by omega) (gf:=106) (lb:=#[.pointer (some ⟨b1,0,none⟩)]) (by rw[hb];rfl) trivial (enters_of func106 (by kernel_rfl) rfl)
  (groups_stops 8 (by omega) b1 (2*n) w4.heap.size w.heap.size (by omega) w4 hc1) (λh k=>h.trans k) (λW l o o' hl _ _ _=>KeepB.putObj hl o') (Below.refl _ _) (λ_=>rfl)
  (λpre W=>(if pre.length=0 then Blk W w.heap.size 129 #[.slice none 0 0]else ∃g cap,Blk W w.heap.size 129 #[.slice (some ⟨g,0,none⟩) 1 cap]/\W.cell? ⟨g,0,none⟩=some (.int .u8 (low7 (2*n))))/\KeepB w4.heap.size w.heap.size w4 W/\Below w.heap.size w W)
  (λ_ _ _=>False)
  ?own
  (λ_ _ _ _ _ hs _ _=>hs) ⟨by simpa using HP.out,KeepB.refl _ _ _,HW4.out⟩ (λx=>{ tmps:=(((b.tmps.setIfInBounds 21 (.int .u8 (low7 (2*n)))).setIfInBounds 22 (.bool true)).setIfInBounds 5 (.int .u8 (low7 (2*n)))).setIfInBounds 6 (.bool true),defers:=[] }) ?assign ?body ?done ?stop
 case own =>
  rintro s A B row ⟨h1,h2,h3⟩ hg hr;have hne:some w.heap.size≠row:=λe=>by have:=(hr _ e.symm).1;omega
  refine⟨?_,h2.grown hg (λr e=>(hr r e).1) (Nat.le_refl _),?_⟩
  ·split at h1
   ·rename_i hs
    rw[if_pos hs];exact(hg.block _ h1.lt hne).trans h1
   ·rename_i hs
    rw[if_neg hs];obtain⟨g,cap,h4,h5⟩:=h1;refine⟨g,cap,(hg.block _ h4.lt hne).trans h4,(World.cell?_of_block (hg.block g (lt_of_cell h5) λe=>?_)).trans h5⟩;obtain⟨_,o,ho,hc⟩:=hr g e.symm;unfold World.cell? at h5;simp only[ho]at h5;cases o<;>simp_all[Obj.isCells]
  ·refine⟨hg.os.trans h3.os,hg.tape.trans h3.tape,hg.output.trans h3.output,Nat.le_trans h3.size hg.size,λk hk=>?_⟩
   have hnk:some k≠row:=λe=>by have:=(hr k e.symm).1;omega
   exact(hg.block k (Nat.lt_of_lt_of_le hk h3.size) hnk).trans (h3.block k hk)
 case assign =>
  subst hb;intro l x W K hK;simp only[List.setIfInBounds_toArray,List.set_cons_succ,List.set_cons_zero]at hK
  gi_wp2
  exact hK
 case body =>
  subst hb;rintro l pre x W ⟨hI1,hI2,hI3⟩ hlen;have hp0:pre.length=0:=by omega
  simp only[hp0,if_true]at hI1;simp only[List.setIfInBounds_toArray,List.set_cons_succ,List.set_cons_zero];have cv:=hI1.cell 0;have fz:=hI1.frozen 0;have hs:=hI3.size;have hp4:=hI2.1;have hk0:(W.alloc (.cells #[.int .u8 (low7 (2*n))] 5)).cell? ⟨W.heap.size,0,none⟩=some (.int .u8 (low7 (2*n))):=(Blk.new W 5 #[.int .u8 (low7 (2*n))]).cell 0;have HV:=hid (Vs.nil (W.alloc (.cells #[.int .u8 (low7 (2*n))] 5)) w.heap.size);have hzb:w.heap.size<=(W.alloc (.cells #[.int .u8 (low7 (2*n))] 5)).heap.size:=by have:=hI3.size;simp;omega
  have HI1:=hid (hI1.alloc (.cells #[.int .u8 (low7 (2*n))] 5))
  gi_wp2_with (first|(gi_at_builtin;refine wpListIn_appendV underlying129 info5' rfl (by decide) rfl (.tmp 27) (.tmp 29) rfl w.heap.size (.slice none 0 0) [] rfl HV.out hzb (by simp) ⟨W.heap.size,0,none⟩ (.int .u8 (low7 (2*n))) rfl 1 rfl hk0 ?_;intro v2 w2 hV2 hg2 ho2;obtain⟨A2,c2,rfl⟩:=hV2.len (n:=1) rfl;obtain⟨g2,rfl⟩:=hV2.sm (by omega);have HI2:=hid (HI1.out.grown hg2 (λr e=>by cases e));have cv2:=HI2.out.cell 0;have fz2:=HI2.out.frozen 0)|gi_in)
  have hb2:=hg2.size;have h2a:=hV2.at_ 0 (by simp);have h2b:W.heap.size+1<=g2:=by
   rcases ho2 with e|⟨k,e,hk⟩
   ·cases e
   ·injection e with e
    subst e;simpa using hk
  simp only[World.size_alloc]at hb2;have hg2':∀k,k<W.heap.size->w2.heap[k]?=W.heap[k]?:=λk hk=>(hg2.block k (by simp;omega) (λe=>by cases e)).trans (heap_alloc_old W _ hk)
  refine⟨⟨by simp;omega,λk o hk ho=>?_⟩,⟨by simp;omega,λk hk hkp=>?_⟩,?_,⟨by simp;omega,λk hk hkp=>?_⟩,?_⟩
  ·have hkW:k<W.heap.size:=(Array.getElem?_eq_some_iff.1 hk).1
   refine(Below.heap_setCell _ ⟨w.heap.size,0,none⟩ _ k ?_).trans ((hg2' k hkW).trans hk);rintro rfl;rw[hI1.heap]at hk;cases hk;cases ho
  ·exact(Below.heap_setCell _ ⟨w.heap.size,0,none⟩ _ k (by simpa using hkp)).trans (hg2' k (by omega))
  ·have hne:¬(pre++[x]).length=0:=by simp
   rw[if_neg hne];refine⟨g2,c2,HI2.out.set_ 0 _,(World.cell?_setCell_other w2 _ _ _ (by simp;try omega)).trans h2a⟩
  ·exact(Below.heap_setCell _ ⟨w.heap.size,0,none⟩ _ k (by simpa using hkp)).trans ((hg2' k (by omega)).trans (hI2.2 k hk hkp))
  ·refine Below.setCell ⟨hg2.os.trans hI3.os,hg2.tape.trans hI3.tape,hg2.output.trans hI3.output,by omega,λk hk=>(hg2' k (by omega)).trans (hI3.block k hk)⟩ (by simp) _
 case done =>
  subst hb;rintro D xs W hD rfl ⟨hI1,hI2,hI3⟩ hK;simp only[List.length_cons,List.length_nil,Nat.zero_add,Nat.one_ne_zero,if_false]at hI1;obtain⟨g,cap,hv1,cx⟩:=hI1;have cv:=hv1.cell 0;have hcv:=run_convert_bytes_arg (P:=prog) W 129 5 underlying129 underlying5 g 0 1 cap [low7 (2*n)] rfl (λi hi=>by
   obtain rfl:i=0:=by omega
   exact cx) 9 underlying9
  go_wp2_with fail
  exact leaves_mark hK (results_tmp2 rfl _ _ _) ⟨rfl,below_putObj hI3 (by have:=hI2.1;omega) _⟩
 case stop=>intro D c' pre W _ _ h;exact h.elim
end
section
open Go.RowKit Go.Shelf
attribute [local go_sem] Oper.semAt_some
def lebN :Nat->Nat->List Int
 | 0,z=>[((z%128:Nat):Int)]
 | f+1,z=>if z<128 then [(z:Int)]else ((z%128+128:Nat):Int)::lebN f (z / 128)
def leb (n:Nat):List Int:=lebN 2 (2*n)
def encI (n:Nat):ByteArray:=strOfNums (leb n)
theorem lebN_pos :∀f z,0<(lebN f z).length
 | 0,_=>by simp[lebN]
 | f+1,z=>by unfold lebN;split<;>simp
theorem lebN_len :∀f z,(lebN f z).length<=f+1
 | 0,_=>by simp[lebN]
 | f+1,z=>by
   unfold lebN
   split
   ·simp
   ·have:=lebN_len f (z / 128)
    simp;omega
theorem leb_at :∀(f z:Nat),z<128 ^ (f+1)->∀i,i<(lebN f z).length->(lebN f z)[i]?=some (if z / 128 ^ i<128 then ((z / 128 ^ i:Nat):Int)else ((z / 128 ^ i%128+128:Nat):Int))/\(z / 128 ^ i<128↔i+1=(lebN f z).length)
 | 0,z,hz,i,hi=>by
   simp only[lebN,List.length_cons,List.length_nil]at hi;have h0:i=0:=by omega
   subst h0;simp only[Nat.zero_add,Nat.pow_one]at hz;simp[lebN,hz,Nat.mod_eq_of_lt hz]
 | f+1,z,hz,i,hi=>by
   by_cases h:z<128
   ·simp only[lebN,if_pos h,List.length_cons,List.length_nil]at hi ⊢
    have h0:i=0:=by omega
    subst h0;simp[h]
   ·simp only[lebN,if_neg h,List.length_cons]at hi ⊢
    cases i with
    | zero =>
      have:=lebN_pos f (z / 128);refine⟨by simp[h],?_⟩;simp only[Nat.pow_zero,Nat.div_one];constructor<;>intro _<;>omega
    | succ i =>
      have hq:z / 128<128 ^ (f+1):=by
       have hz':z<128*128 ^ (f+1):=by rw[<- Nat.pow_succ'];exact hz
       exact Nat.div_lt_of_lt_mul hz'
      have e:z / 128 ^ (i+1)=z / 128 / 128 ^ i:=by rw[Nat.pow_succ',Nat.div_div_eq_div_mul]
      have:=leb_at f (z / 128) hq i (by omega);rw[List.getElem?_cons_succ,e];refine⟨this.1,this.2.trans ?_⟩;omega
theorem low7_eq (z:Nat)(hz:z<18446744073709551616):low7 z=((z%128:Nat):Int):=by
 unfold low7;have h:bits BinOp.and IntKind.u64 (z:Int) 127=((z%128:Nat):Int):=by
  show IntKind.u64.wrap (((BitVec.ofInt 64 (z:Int) &&& BitVec.ofInt 64 127).toNat:Nat):Int)=_;have h1:(BitVec.ofInt 64 (z:Int)).toNat=z:=by
   rw[BitVec.ofInt_natCast,BitVec.toNat_ofNat];exact Nat.mod_eq_of_lt (by omega)
  have h2:(BitVec.ofInt 64 (127:Int)).toNat=127:=by decide
  have h3:z &&& 127=z%128:=Nat.and_two_pow_sub_one_eq_mod z 7;rw[BitVec.toNat_and,h1,h2,h3,IntKind.wrap_u64];omega
 rw[h];omega
theorem or128 (x:Nat)(hx:x<128):bits BinOp.or IntKind.u8 (x:Int) 128=((x+128:Nat):Int):=by
 have h:∀x:Fin 128,bits BinOp.or IntKind.u8 ((x.val:Nat):Int) 128=((x.val+128:Nat):Int):=by decide +kernel
 exact h ⟨x,hx⟩
theorem zigN (n:Nat)(hn:n<1048576):bits BinOp.xor IntKind.u64 ((n:Int)*2) ((n:Int) / 9223372036854775808)=((2*n:Nat):Int):=by
 have h0:(n:Int) / 9223372036854775808=((0:Nat):Int):=by omega
 have h1:(n:Int)*2=((2*n:Nat):Int):=by omega
 rw[h0,h1,bits_xor_u64_nat _ _ (by omega) (by omega),Nat.xor_zero]
theorem zigzag_any (w:World)(n:Nat)(hn:n<1048576):Calls prog 112 #[.int .i64 n] w λe w'=>e=.returned (.int .u64 ((2*n:Nat):Int))/\w=w':=by
 have h0:¬(n:Int)<0:=by omega
 go_enter func112,ntmps112
 go_wp2;go_ret;exact⟨by simp[Int.mul_comm],rfl⟩
theorem cells_bytes {w:World}{B g c k:Nat}{gs:List Int}(h:Vs w B (.slice (some ⟨g,0,none⟩) k c) ((gs.take k).map (Value.int .u8)))(hk:k=gs.length) :
 ∀i,i<k->w.cell? ⟨g,0+i,none⟩=some (.int .u8 (gs.getD i 0)):=by
 intro i hi;subst hk;have:=h.at_ i (by simp;omega);rw[Nat.zero_add,this,List.getD_eq_getElem?_getD,List.getElem?_eq_getElem hi];simp
theorem rputInt (w:World)(n:Nat)(hn:n<1048576) :
 Calls prog 79 #[.int .i64 n] w λe w'=>e=.returned (.tuple #[.string (encI n),.int .i64 0])/\Below w.heap.size w w':=by
 have hn1:¬(n:Int) < -4611686018427387903:=by omega
 have hn2:¬(4611686018427387903:Int)<n:=by omega
 have HZ:=hid (zigzag_any w n hn)
 go_enter func79,ntmps79
 go_wp2_with fail
 refine HZ.out.mono ?_;rintro e w1 ⟨rfl,rfl⟩;clear hn1 hn2 HZ;obtain⟨z,hz⟩:∃z,z=2*n:=⟨_,rfl⟩;obtain⟨gs,hgs⟩:∃gs,gs=leb n:=⟨_,rfl⟩;have HG:=hid hgs;have hz':z<128 ^ (2+1):=by omega
 have HA:Hid (∀i,i<gs.length->gs[i]?=some (if z / 128 ^ i<128 then ((z / 128 ^ i:Nat):Int)else ((z / 128 ^ i%128+128:Nat):Int))/\(z / 128 ^ i<128↔i+1=gs.length)):=hid (by
  rw[hgs,leb,<- hz];exact leb_at 2 z hz')
 have hl3:gs.length<=3:=by rw[hgs];exact lebN_len _ _
 have hl0:0<gs.length:=by rw[hgs];exact lebN_pos _ _
 rw[<- hz];clear hz hgs
 go_wp2_with fail
 go_loopw [4,5] (λzq v wr=>∃(i zi:Nat) (A:Option Addr) (c:Nat),i<gs.length/\zi<2097152/\zq=.int .u64 zi/\v=.slice A i c/\Hid (zi=z / 128 ^ i)/\Hid (Vs wr w.heap.size (.slice A i c) ((gs.take i).map (Value.int .u8)))/\Hid (Below w.heap.size w wr)) (λzq _ _=>(intOf zq).toNat)
 case atStart=>exact⟨0,z,none,0,hl0,by omega,rfl,rfl,hid (by simp),hid (Vs.nil _ _),hid (Below.refl _ _)⟩
 case round =>
  obtain⟨i,zi,A,c,hi,hz2,rfl,rfl,hzi,hV,hW⟩:=hrel;have hx:=(HA.out i hi).1;have hy:=(HA.out i hi).2;rw[<- hzi.out]at hx hy;have hlk:((gs.take i).map (Value.int .u8)).length+1<=1099511627776:=by simp;omega
  have hln:(((gs.take i).map (Value.int .u8))++[Value.int .u8 (gs[i]'hi)]).length=i+1:=by simp;omega
  have he:((gs.take i).map (Value.int .u8))++[Value.int .u8 (gs[i]'hi)]=(gs.take (i+1)).map (Value.int .u8):=by
   rw[List.take_succ_eq_append_getElem hi,List.map_append];rfl
  have hgi:gs[i]'hi=if zi<128 then ((zi:Nat):Int)else ((zi%128+128:Nat):Int):=by
   rw[List.getElem?_eq_getElem hi]at hx;exact Option.some.inj hx
  have HE:=hid he;have HLn:=hid hln;have hzr:=hW.out.size
  by_cases hlt:zi<128
  ·rw[if_pos hlt]at hgi
   have hb:=hy.1 hlt;rw[hgi]at he hln;have HE:=hid he;have HLn:=hid hln;have hge:¬(128:Int)<=(zi:Int):=by omega
   have hmod:(zi:Int)%256=zi:=by omega
   have HLast:=hid hb;clear hx hy hgi he hln hb;have hz4:w.heap.size<=(wr.alloc (.cells #[.int .u8 zi] 5)).heap.size:=by simp;omega
   have HV1:=hid (hV.out.below ((Below.refl _ wr).alloc (Nat.le_refl _) (.cells #[.int .u8 zi] 5)));have hk1:(wr.alloc (.cells #[.int .u8 zi] 5)).cell? ⟨wr.heap.size,0,none⟩=some (.int .u8 zi):=(Blk.new wr 5 #[.int .u8 zi]).cell 0
   go_wp2_with (at_builtin;refine wpList_appendV underlying129 info5' rfl (by decide) rfl (.tmp 25) (.tmp 28) rfl w.heap.size (.slice A i c) ((gs.take i).map (Value.int .u8)) rfl HV1.out hz4 hlk ⟨wr.heap.size,0,none⟩ (.int .u8 zi) rfl 1 rfl hk1 ?_;intro v2 w2 hV2 hg2 ho2;rw[HE.out]at hV2;obtain⟨A2,c2,rfl⟩:=hV2.len (n:=i+1) (by simp;omega);obtain⟨g2,rfl⟩:=hV2.sm (by omega);have hcv:=run_convert_bytes_arg (P:=prog) w2 129 5 underlying129 underlying5 g2 0 (i+1) c2 gs HLast.out.symm (cells_bytes hV2 HLast.out) 9 underlying9)
   refine bodyPost_ret (v:=.tuple #[.string (strOfNums gs),.int .i64 0]) (by simp[results,results79,go_sem]) rfl ⟨by rw[HG.out];rfl,?_⟩;exact(hW.out.alloc hzr _).trans (grown_base HV1.out hg2 hz4)
  ·rw[if_neg hlt]at hgi
   have hb:¬i+1=gs.length:=λe=>hlt (hy.2 e)
   rw[hgi]at he hln;have HE:=hid he;have HLn:=hid hln;have hge:(128:Int)<=(zi:Int):=by omega
   have HLast:=hid hb;have hzn:Hid (zi / 128=z / 128 ^ (i+1)):=hid (by rw[hzi.out,Nat.pow_succ,Nat.div_div_eq_div_mul]);have hi':i+1<gs.length:=by omega
   have ec:Hid (((zi%128+128:Nat):Int)=(zi:Int)%128+128):=hid (by omega);clear hx hy hgi he hln hb;have hz4:w.heap.size<=(wr.alloc (.cells #[.int .u8 ((zi:Int)%128+128)] 5)).heap.size:=by simp;omega
   have HV1:=hid (hV.out.below ((Below.refl _ wr).alloc (Nat.le_refl _) (.cells #[.int .u8 ((zi:Int)%128+128)] 5)));have hk1:(wr.alloc (.cells #[.int .u8 ((zi:Int)%128+128)] 5)).cell? ⟨wr.heap.size,0,none⟩=some (.int .u8 ((zi:Int)%128+128)):=(Blk.new wr 5 #[.int .u8 ((zi:Int)%128+128)]).cell 0
   go_wp2_with (at_builtin;refine wpList_appendV underlying129 info5' rfl (by decide) rfl (.tmp 16) (.tmp 21) rfl w.heap.size (.slice A i c) ((gs.take i).map (Value.int .u8)) rfl HV1.out hz4 hlk ⟨wr.heap.size,0,none⟩ (.int .u8 ((zi:Int)%128+128)) rfl 1 rfl hk1 ?_;intro v2 w2 hV2 hg2 ho2;rw[<- ec.out,HE.out]at hV2;have HV2:=hid hV2;obtain⟨A2,c2,rfl⟩:=hV2.len (n:=i+1) (by simp;omega);have HG2:=hid hg2;clear hV2 hg2 ho2)
   go_roundw
   case rel=>exact⟨i+1,zi / 128,A2,c2,hi',by omega,by go_num,rfl,hzn,HV2,hid ((hW.out.alloc hzr _).trans (grown_base HV1.out HG2.out hz4))⟩
   case measure=>simp[intOf];omega
end
section
open Go.RowKit Go.Shelf
def u8s (l:List Int):List Value:=l.map (Value.int .u8)
theorem ext_any (w:World)(s:ByteArray)(hs:s.size<=100000) :
 Calls prog 113 #[.string s] w λe w'=>∃A n c,e=.returned (.slice A n c)/\n=(padB s).length/\Vs w' w.heap.size (.slice A n c) (u8s (padB s))/\Below w.heap.size w w':=by
 have hbl:Hid ((bytesI s).length=s.size):=hid (bytesI_len s)
 go_enter func113,ntmps113
 go_wp2_with fail
 go_loopw [3,4] (λv i wr=>∃(k:Nat) (A:Option Addr) (c:Nat),k<=s.size/\i=.int .i64 k/\v=.slice A k c/\Hid (Vs wr w.heap.size (.slice A k c) (u8s ((bytesI s).take k)))/\Hid (Below w.heap.size w wr)) (λ_ i _=>s.size - (intOf i).toNat)
 case atStart=>exact⟨0,none,0,by omega,rfl,rfl,hid (Vs.nil _ _),hid (Below.refl _ _)⟩
 case round =>
  obtain⟨k,A,c,hk,rfl,rfl,hV,hW⟩:=hrel
  by_cases hlt:k<s.size
  ·have hks:k<s.size:=by omega
   have hkb:k<(bytesI s).length:=by rw[bytesI_len];omega
   have HE:=hid (show u8s ((bytesI s).take k)++[.int .u8 (s[k].toNat)]=u8s ((bytesI s).take (k+1)) by rw[List.take_succ_eq_append_getElem hkb,u8s,u8s,List.map_append];simp[bytesI];rfl);have hlk:(u8s ((bytesI s).take k)).length+1<=1099511627776:=by simp[u8s];omega
   have hzr:=hW.out.size;have hzr':w.heap.size<=(wr.alloc (.cells #[.int .u8 (s[k].toNat)] 5)).heap.size:=by simp;omega
   have HV1:=hid (hV.out.below ((Below.refl _ wr).alloc (Nat.le_refl _) (.cells #[.int .u8 (s[k].toNat)] 5)));have hk1:(wr.alloc (.cells #[.int .u8 (s[k].toNat)] 5)).cell? ⟨wr.heap.size,0,none⟩=some (.int .u8 (s[k].toNat)):=(Blk.new wr 5 #[.int .u8 (s[k].toNat)]).cell 0;have HLn:Hid ((u8s ((bytesI s).take (k+1))).length=k+1):=hid (by simp[u8s];omega);clear hkb
   go_wp2_with (at_builtin;refine wpList_appendV underlying129 info5' rfl (by decide) rfl (.tmp 12) (.tmp 16) rfl w.heap.size (.slice A k c) (u8s ((bytesI s).take k)) rfl HV1.out hzr' hlk ⟨wr.heap.size,0,none⟩ (.int .u8 (s[k].toNat)) rfl 1 rfl hk1 ?_;intro v2 w2 hV2 hg2 ho2;rw[HE.out]at hV2;have HV2:=hid hV2;obtain⟨A2,c2,rfl⟩:=hV2.len (n:=k+1) (HLn.out);have HG2:=hid hg2;clear hV2 hg2 ho2)
   go_roundw
   case rel=>exact⟨k+1,A2,c2,by omega,by go_num,rfl,HV2,hid ((hW.out.alloc hzr _).trans (grown_base HV1.out HG2.out hzr'))⟩
   case measure=>simp[intOf];omega
  ·have hkN:k=s.size:=by omega
   subst hkN
   rename World=>W0
   have HB0:=hid (show Vs W0 w.heap.size (.slice A s.size c) (u8s (bytesI s))from(by have:=hV.out;rwa [List.take_of_length_le (by rw[hbl.out];omega)]at this));clear hV;have hV:=HB0;obtain⟨xs0,hxs0⟩:∃xs0,xs0=bytesI s++[128]:=⟨_,rfl⟩;have HX0:=hid hxs0;have HE:=hid (show u8s (bytesI s)++[.int .u8 128]=u8s xs0 by rw[hxs0,u8s,u8s,List.map_append];rfl);have hlk:(u8s (bytesI s)).length+1<=1099511627776:=by simp[u8s,hbl.out];omega
   have hzr:=hW.out.size;have hzr':w.heap.size<=(W0.alloc (.cells #[.int .u8 (128)] 5)).heap.size:=by simp;omega
   have HV1:=hid (hV.out.below ((Below.refl _ W0).alloc (Nat.le_refl _) (.cells #[.int .u8 (128)] 5)));have hk1:(W0.alloc (.cells #[.int .u8 (128)] 5)).cell? ⟨W0.heap.size,0,none⟩=some (.int .u8 (128)):=(Blk.new W0 5 #[.int .u8 (128)]).cell 0;have HLn:Hid ((u8s xs0).length=s.size+1):=hid (by rw[hxs0];simp[u8s,hbl.out]);clear hxs0
   go_upto_region 7 with (at_builtin;refine wpList_appendV underlying129 info5' rfl (by decide) rfl (.tmp 18) (.tmp 19) rfl w.heap.size (.slice A s.size c) (u8s (bytesI s)) rfl HV1.out hzr' hlk ⟨W0.heap.size,0,none⟩ (.int .u8 128) rfl 1 rfl hk1 ?_;intro v2 w2 hV2 hg2 ho2;rw[HE.out]at hV2;have HV2:=hid hV2;obtain⟨A2,c2,rfl⟩:=hV2.len (n:=s.size+1) (HLn.out);have HG2:=hid hg2;clear hV2 hg2 ho2)
   have HW2:=hid ((hW.out.alloc hzr _).trans (grown_base HV1.out HG2.out hzr'));obtain⟨L,hL⟩:∃L,L=s.size+1:=⟨_,rfl⟩;have hL':L<=100001:=by omega
   have HLk:=hid (show(padB s)=xs0++List.replicate ((120 - L%64)%64) 0++lenB s.size 8 by rw[HX0.out,hL];unfold padB;rw[hbl.out]);have hx0l:Hid (xs0.length=L):=hid (by have:=HLn.out;simp[u8s]at this;omega);rw[<- hL]at HV2 ⊢;clear hV hW HB0 hL hlk hk1 hzr' hzr HV1 HG2 HE HLn
   go_loopw [3] (λv wr=>∃(q:Nat) (A:Option Addr) (c:Nat),q<=(120 - L%64)%64/\v=.slice A (L+q) c/\Hid (Vs wr w.heap.size (.slice A (L+q) c) (u8s (xs0++List.replicate q 0)))/\Hid (Below w.heap.size w wr)) (λv _=>L+64 - lenV v)
   case atStart=>exact⟨0,A2,c2,by omega,rfl,hid (by simpa using HV2.out),HW2⟩
   case round =>
    clear HV2 HW2;obtain⟨q,A,c,hq,rfl,hV,hW⟩:=hrel
    by_cases h56:(L+q)%64=56
    ·have hqq:Hid (q=(120 - L%64)%64):=hid (by omega)
     go_wp2_with fail
     obtain⟨ys,hys⟩:∃ys,ys=xs0++List.replicate q 0:=⟨_,rfl⟩;have HYS:=hid hys;obtain⟨M,hM⟩:∃M,M=L+q:=⟨_,rfl⟩;have hMl:M<=100100:=by omega
     have hy:Hid (ys.length=M):=hid (by rw[hys,hM];simp[hx0l.out]);have HPad:=hid (show padB s=ys++lenB s.size 8 by rw[HLk.out,hys,<- hqq.out]);rw[<- hys,<- hM]at hV;rw[<- hM];clear hM hys h56;generalize (((L:Int)+(q:Int))%64 != 56)=bb
     go_loopw [3,5] (λv i wr=>∃(j:Nat) (A:Option Addr) (c:Nat),j<=8/\i=.int .i64 (7 - (j:Int))/\v=.slice A (M+j) c/\Hid (Vs wr w.heap.size (.slice A (M+j) c) (u8s (ys++lenB s.size j)))/\Hid (Below w.heap.size w wr)) (λ_ i _=>(intOf i+1).toNat)
     case atStart=>exact⟨0,A,c,by omega,rfl,rfl,hid (by simpa[lenB]using hV.out),hW⟩
     case round =>
      clear hV hW;obtain⟨j,A,c,hj,rfl,rfl,hV,hW⟩:=hrel
      by_cases hlt:j<8
      ·have HE:=hid (show u8s (ys++lenB s.size j)++[.int .u8 (lenB1 s.size j)]=u8s (ys++lenB s.size (j+1)) by rw[<- lenB_succ,<- List.append_assoc,u8s,u8s,List.map_append (l₁:=ys++lenB s.size j)];rfl)
       have hlk:(u8s (ys++lenB s.size j)).length+1<=1099511627776:=by simp[u8s,hy.out,lenB];omega
       have HLn:Hid ((u8s (ys++lenB s.size (j+1))).length=M+(j+1)):=hid (by simp[u8s,hy.out,lenB]);have hzr:=hW.out.size;have hzr':w.heap.size<=(wr.alloc (.cells #[.int .u8 (8*(s.size:Int) / 2 ^ (8*(7 - j))%256)] 5)).heap.size:=by simp;omega
       have HV1:=hid (hV.out.below ((Below.refl _ wr).alloc (Nat.le_refl _) (.cells #[.int .u8 (8*(s.size:Int) / 2 ^ (8*(7 - j))%256)] 5)));have hk1:(wr.alloc (.cells #[.int .u8 (8*(s.size:Int) / 2 ^ (8*(7 - j))%256)] 5)).cell? ⟨wr.heap.size,0,none⟩=some (.int .u8 (8*(s.size:Int) / 2 ^ (8*(7 - j))%256)):=(Blk.new wr 5 #[.int .u8 (8*(s.size:Int) / 2 ^ (8*(7 - j))%256)]).cell 0
       go_wp2_with (at_builtin;refine wpList_appendV underlying129 info5' rfl (by decide) rfl (.tmp 32) (.tmp 40) rfl w.heap.size (.slice A (M+j) c) (u8s (ys++lenB s.size j)) rfl HV1.out hzr' hlk ⟨wr.heap.size,0,none⟩ (.int .u8 (lenB1 s.size j)) rfl 1 rfl hk1 ?_;intro v2 w2 hV2 hg2 ho2;rw[HE.out]at hV2;have HV2:=hid hV2;obtain⟨A2,c2,rfl⟩:=hV2.len (n:=M+(j+1)) (HLn.out);have HG2:=hid hg2;clear hV2 hg2 ho2)
       go_roundw
       case rel=>exact⟨j+1,A2,c2,by omega,by go_num,rfl,HV2,hid ((hW.out.alloc hzr _).trans (grown_base HV1.out HG2.out hzr'))⟩
       case measure=>simp[intOf];omega
      ·have hj8:j=8:=by omega
       subst hj8
       go_wp2_with fail
       go_ret;exact⟨A,_,c,rfl,by rw[HPad.out];simp[hy.out,lenB],by rw[HPad.out];exact hV.out,hW.out⟩
    ·have HE:=hid (show u8s (xs0++List.replicate q 0)++[.int .u8 0]=u8s (xs0++List.replicate (q+1) 0) by simp[u8s,List.replicate_succ'])
     have hlk:(u8s (xs0++List.replicate q 0)).length+1<=1099511627776:=by simp[u8s,hx0l.out];omega
     have HLn:Hid ((u8s (xs0++List.replicate (q+1) 0)).length=L+(q+1)):=hid (by simp[u8s,hx0l.out]);have hzr:=hW.out.size;have hzr':w.heap.size<=(wr.alloc (.cells #[.int .u8 (0)] 5)).heap.size:=by simp;omega
     have HV1:=hid (hV.out.below ((Below.refl _ wr).alloc (Nat.le_refl _) (.cells #[.int .u8 (0)] 5)));have hk1:(wr.alloc (.cells #[.int .u8 (0)] 5)).cell? ⟨wr.heap.size,0,none⟩=some (.int .u8 (0)):=(Blk.new wr 5 #[.int .u8 (0)]).cell 0
     go_wp2_with (at_builtin;refine wpList_appendV underlying129 info5' rfl (by decide) rfl (.tmp 25) (.tmp 26) rfl w.heap.size (.slice A (L+q) c) (u8s (xs0++List.replicate q 0)) rfl HV1.out hzr' hlk ⟨wr.heap.size,0,none⟩ (.int .u8 (0)) rfl 1 rfl hk1 ?_;intro v2 w2 hV2 hg2 ho2;rw[HE.out]at hV2;have HV2:=hid hV2;obtain⟨A2,c2,rfl⟩:=hV2.len (n:=L+(q+1)) (HLn.out);have HG2:=hid hg2;clear hV2 hg2 ho2)
     go_roundw
     case rel=>exact⟨q+1,A2,c2,by omega,rfl,HV2,hid ((hW.out.alloc hzr _).trans (grown_base HV1.out HG2.out hzr'))⟩
     case measure=>simp[lenV];omega
end
section
open Go.RowKit Go.Shelf
attribute [local go_sem] Oper.semAt_some
def grp (z i:Nat):Array Value:=#[.int .u8 (low7 (z / 128 ^ i)),.bool (decide (((z / 128 ^ i:Nat):Int)<128))]
theorem groups_iterB (n:Nat)(hn:1<=n)(b1 z m:Nat)(w:World)(h1:Blk w b1 133 #[.int .u64 z])(hz:z<2097152)(hm:∀i,i<m->(z / 128 ^ i<128↔i+1=m))(hm0:0<m)(hm3:m<=3) :
 IterB Fence.wide n prog 106 #[.pointer (some ⟨b1,0,none⟩)] (grp z) b1 m w:=by
 intro l J W hW hJ hY h0;have HM:=hid hm;have HJc:=hid hJ;have HY:=hid hY;have H0:=hid h0;have hB:=hid (h1.below hW h1.lt);clear hm hJ hY h0;refine callsIn_of_wp func106 rfl trivial ?_ rfl;simp only[ntmps106,List.size_toArray,List.length_cons,List.length_nil,Nat.reduceAdd,Nat.reduceSub,Array.replicate_succ,Array.replicate_zero,List.push_toArray,List.append_toArray,List.nil_append,List.cons_append]
 gi_wp2
 gi_loopw [3] (λv wr=>∃(k zk:Nat),k<m/\zk<2097152/\Hid (zk=z / 128 ^ k)/\Hid (Blk wr b1 133 #[.int .u64 zk])/\Hid (J k wr)) (λv wr=>(intOf ((wr.cell? ⟨b1,0,none⟩).getD undef)).toNat)
 case atStart=>exact⟨0,z,hm0,hz,hid (by simp),hB,H0⟩
 case round =>
  obtain⟨k,zk,hk,hz2,hzk,hBk,hJk⟩:=hrel;have c1:=hBk.out.cell 0;simp only[List.getElem?_toArray,List.getElem?_cons_zero]at c1;obtain⟨fn,tmps,assign,body,hy,hR⟩:=HY.out k wr hk hJk.out;have hlast:=HM.out k hk;unfold grp low7 at hy;rw[<- hzk.out]at hy hlast;have hmeas:(intOf ((wr.cell? ⟨b1,0,none⟩).getD undef)).toNat=zk:=by rw[c1];simp[intOf]
  have HMe:=hid hmeas;clear hmeas hB
  by_cases hlt:zk<128
  ·have hlt':(zk:Int)<128:=by omega
   have HL:=hid (hlast.1 hlt);simp only[hlt',decide_true]at hy;clear hlast hlt
   gi_wp2
   refine hR.mono ?_;rintro e W3 ⟨rfl,hJ3,hk3,hs3⟩
   gi_wp2
   first|go_end0|refine bodyPost_ret (results_none rfl _ _ _) rfl ?_
   exact⟨⟨_,rfl⟩,by rw[<- HL.out];exact hJ3⟩
  ·have hge:¬(zk:Int)<128:=by omega
   have HL:=hid (λe=>hlt (hlast.2 e));simp only[hge,decide_false]at hy
   gi_wp2
   refine hR.mono ?_;rintro e W3 ⟨rfl,hJ3,hk3,hs3⟩;have hB3:Blk W3 b1 133 #[.int .u64 zk]:=hk3.trans hBk.out;have c3:=hB3.cell 0;have f3:=hB3.frozen 0;simp only[List.getElem?_toArray,List.getElem?_cons_zero]at c3;have hzn:Hid (zk / 128=z / 128 ^ (k+1)):=hid (by rw[hzk.out,Nat.pow_succ,Nat.div_div_eq_div_mul]);have HB3:=hid (hB3.set_ 0 (.int .u64 ((zk / 128:Nat):Int)));have HJ3:=hid (HJc.out (k+1) W3 _ (some b1) hJ3 (grownBy_setCell' W3 b1 (.int .u64 ((zk / 128:Nat):Int))) (λr e=>by cases e;rfl));have hi':k+1<m:=by
    have h1:=HL.out;omega
   clear hB3 hJ3 hk3 hlt hlast hy hR c1
   gi_wp2
   go_roundw
   case rel=>exact⟨k+1,zk / 128,hi',by omega,hzn,HB3,HJ3⟩
   case measure =>
    have h3:=HB3.out.cell 0;rw[HMe.out,show((zk:Int) / 128)=((zk / 128:Nat):Int) by omega,h3];simp[intOf];omega
theorem groups_blk (w:World)(z:Nat):Calls prog 74 #[.int .u64 z] w λe w'=>e=.returned (.func (.func 106) #[] #[.pointer (some ⟨w.heap.size,0,none⟩)])/\Blk w' w.heap.size 133 #[.int .u64 z]/\Below w.heap.size w w':=by
 go_enter func74,ntmps74
 go_wp2;go_ret;exact⟨rfl,Blk.new w 133 #[.int .u64 z],(Below.refl _ _).alloc (Nat.le_refl _) _⟩
def PI (w:World)(n4 p:Nat)(gs:List Int)(i:Nat)(W:World):Prop :=
 (∃v,Blk W p 129 #[v]/\Vs W n4 v ((gs.take i).map (Value.int .u8))/\(i=0->v=.slice none 0 0))/\Below w.heap.size w W/\n4<=W.heap.size
theorem PI.own {w:World}{n4 p b1:Nat}{gs:List Int}(hp:p<n4)(hb1:b1<n4)(hpb:p≠b1)(hwb:w.heap.size<=b1)(hw4:w.heap.size<=n4)(hgs:∀i,0<i->gs.take i≠[]) :
 ∀i A B row,PI w n4 p gs i A->A.grownBy B row->(∀r,row=some r->r=b1∨(n4<=r/\∃o:Obj,A.heap[r]?=some o/\o.isCells=false))->PI w n4 p gs i B:=by
 rintro i A B row ⟨⟨v,h1,h2,h3⟩,h4,h5⟩ hg hr;refine⟨⟨v,(hg.block _ h1.lt λe=>?_).trans h1,?_,h3⟩,h4.grown hg h4.size (λr e=>?_),Nat.le_trans h5 hg.size⟩
 ·rcases hr p e.symm with h|⟨h,_⟩<;>omega
 ·by_cases h0:i=0
  ·subst h0
   rw[h3 rfl]at h2 ⊢;exact h2.kept hg (.inl rfl)
  ·cases row with
   | none=>exact h2.kept hg (by cases v.ownBlock<;>simp)
   | some r =>
     rcases hr r rfl with h|⟨_,ho⟩
     ·refine h2.kept hg (.inr λe=>?_)
      have:=(h2.own r e).1;omega
     ·exact h2.ownF (by simp only[ne_eq,List.map_eq_nil_iff];exact hgs i (by omega)) hg (λr' e=>by cases e;exact ho)
 ·rcases hr r e with h|⟨h,_⟩<;>omega
theorem vs_isCells {w:World}{B:Nat}{v:Value}{xs:List Value}(h:Vs w B v xs)(hx:xs≠[]):∀k,v.ownBlock=some k->∃o:Obj,w.heap[k]?=some o/\o.isCells=true:=by
 intro k hk;rcases h with ⟨rfl,h2⟩|⟨g,cap,rfl,h1,h2,h3,h4,h5⟩
 ·exact absurd h2 hx
 ·have e':g=k:=by simpa[Value.ownBlock]using hk
  subst e';have hl:0<xs.length:=List.length_pos_iff.2 hx;obtain⟨⟨u,hu⟩,_⟩:=h4 0 (by omega);refine⟨w.heap[g],Array.getElem?_eq_getElem h2,?_⟩;unfold World.cell? at hu;rw[Array.getElem?_eq_getElem h2]at hu;simp only at hu
  revert hu
  cases w.heap[g]<;>simp[Obj.isCells]
theorem PI.next {w W w2:World}{n4 p b1 i:Nat}{gs:List Int}{v v':Value}{o:Obj}(hp:p<n4)(hb1:b1<n4)(hpb:p<b1)(hwp:w.heap.size=p)(hv1:Blk W p 129 #[v])(hI2:Below w.heap.size w W)(hI3:n4<=W.heap.size)
 (hV:Vs W n4 v ((gs.take i).map (Value.int .u8))) (h0:i=0->v=.slice none 0 0) (hgs:∀i,0<i->gs.take i≠[]) (hV2:Vs w2 n4 v' ((gs.take (i+1)).map (Value.int .u8))) (hg2:(W.alloc o).grownBy w2 v.ownBlock) :
 KeepsOthers W (w2.setCell ⟨p,0,none⟩ v')/\(w2.setCell ⟨p,0,none⟩ v').heap[b1]?=W.heap[b1]?/\PI w n4 p gs (i+1) (w2.setCell ⟨p,0,none⟩ v'):=by
 have hsz:=hg2.size;simp only[World.size_alloc]at hsz;have hcl:∀k,v.ownBlock=some k->∃o:Obj,W.heap[k]?=some o/\o.isCells=true:=by
  by_cases hi:i=0
  ·rw[h0 hi]
   intro k e;cases e
  ·exact vs_isCells hV (by simp only[ne_eq,List.map_eq_nil_iff];exact hgs i (by omega))
 have old:∀k,k<W.heap.size->k≠p->v.ownBlock≠some k->(w2.setCell ⟨p,0,none⟩ v').heap[k]?=W.heap[k]?:=λk hk hkp hne =>
  (Below.heap_setCell _ ⟨p,0,none⟩ _ k hkp).trans ((hg2.block k (by simp;omega) (λe=>hne e.symm)).trans (heap_alloc_old W _ hk))
 have hown:∀k,v.ownBlock=some k->n4<=k:=λk e=>(hV.own k e).1
 have hp2:Blk w2 p 129 #[v]:=(hg2.block p (by have:=hv1.lt;simp;omega) (λe=>by have:=hown p e.symm;omega)).trans (hv1.alloc _);refine⟨⟨by simp;omega,λk o' hk ho=>?_⟩,?_,⟨v',hp2.set_ 0 _,?_,λh=>by omega⟩,?_,by simp;omega⟩
 ·have hkW:k<W.heap.size:=(Array.getElem?_eq_some_iff.1 hk).1
  refine(old k hkW ?_ ?_).trans hk
  ·rintro rfl
   rw[hv1.heap]at hk;cases hk;cases ho
  ·intro e
   obtain⟨o2,h1,h2⟩:=hcl k e;rw[hk]at h1;cases h1;rw[ho]at h2;cases h2
 ·exact old b1 (by omega) (by omega) (λe=>by have:=hown b1 e;omega)
 ·exact hV2.kept (grownBy_setCell' w2 p v') (by
   cases e:v'.ownBlock with
   | none=>exact .inl rfl
   | some k=>exact .inr (λe'=>by injection e' with e';have:=(hV2.own k e).1;omega))
 ·refine Below.setCell ?_ (by simp;omega) _
  refine(hI2.alloc hI2.size o).grown hg2 (by simp;have:=hI2.size;omega) (λk e=>?_);have:=hown k e;omega
theorem putInt_any (w:World)(n:Nat)(hn:n<1048576) :
 Calls prog 49 #[.int .i64 n] w λe w'=>e=.returned (.tuple #[.string (encI n),.int .i64 0])/\Below w.heap.size w w':=by
 refine calls_of_marks func49 rfl ?_;simp only[ntmps49,List.size_toArray,List.length_cons,List.length_nil,Nat.reduceAdd,Nat.reduceSub,Array.replicate_succ,Array.replicate_zero,List.push_toArray,List.append_toArray,List.nil_append,List.cons_append];have hn1:¬(n:Int) < -4611686018427387903:=by omega
 have hn2:¬(4611686018427387903:Int)<n:=by omega
 go_wp2_with fail
 rw[zigN n hn];obtain⟨z,hz⟩:∃z,z=2*n:=⟨_,rfl⟩;obtain⟨gs,hgs⟩:∃gs,gs=leb n:=⟨_,rfl⟩;have HG:=hid hgs;have hz':z<128 ^ (2+1):=by omega
 have hz'':z<2097152:=by omega
 have HA:Hid (∀i,i<gs.length->gs[i]?=some (if z / 128 ^ i<128 then ((z / 128 ^ i:Nat):Int)else ((z / 128 ^ i%128+128:Nat):Int))/\(z / 128 ^ i<128↔i+1=gs.length)):=hid (by
  rw[hgs,leb,<- hz];exact leb_at 2 z hz')
 have hl3:gs.length<=3:=by rw[hgs];exact lebN_len _ _
 have hl0:0<gs.length:=by rw[hgs];exact lebN_pos _ _
 rw[<- hz];clear hz hgs hn1 hn2 hz';obtain⟨m,hm⟩:∃m,m=gs.length:=⟨_,rfl⟩;have HM:=hid hm;rw[<- hm]at hl3 hl0;clear hm;refine(groups_blk _ _).mono ?_;rintro e w4 ⟨rfl,hc1,h4⟩;simp only[World.size_alloc]at hc1 h4 ⊢;obtain⟨p,hp⟩:∃p,p=w.heap.size:=⟨_,rfl⟩;obtain⟨b1,hb1⟩:∃b1,b1=p+1:=⟨_,rfl⟩;have hz4:=h4.size;simp only[World.size_alloc]at hz4;have HP:Hid (Blk w4 w.heap.size 129 #[.slice none 0 0]):=hid ((Blk.new w 129 #[.slice none 0 0]).below h4 (by simp));have HW4:Hid (Below w.heap.size w w4):=hid (((Below.refl w.heap.size w).alloc (Nat.le_refl _) (.cells #[.slice none 0 0] 129)).trans (h4.mono (by simp)));have hb14:b1<w4.heap.size:=by have:=hc1.lt;omega
 have hp4:p<w4.heap.size:=by omega
 rw[<- hp,<- hb1]at hc1;rw[<- hp]at HP;have e1:w.heap.size+1=b1:=by omega
 have e2:w.heap.size=p:=hp.symm;rw[e1,e2];have HPp:=hid hp;have HB1:=hid hb1;have hpb:p<b1:=by omega
 clear e1 e2 hp hb1 hz4 h4;have HGs:=hid (fun(i:Nat) (hi:0<i)=>show gs.take i≠[] by
  have:=HM.out;intro e;have h1:=congrArg List.length e;rw[List.length_take,List.length_nil]at h1;omega)
 go_wp2_with fail
 refine with_act ?_;intro b hb;refine wpIn_wide (n:=9).1 ?_;refine wpIn_rangeFunc_box (F:=Fence.wide) rfl (by omega) (gf:=106) (lb:=#[.pointer (some ⟨b1,0,none⟩)]) (by rw[hb];rfl) trivial (enters_of func106 (by kernel_rfl) rfl)
  (groups_iterB 8 (by omega) b1 z m w4 hc1 hz'' (by rw[HM.out];exact λi hi=>(HA.out i hi).2) hl0 hl3) (Below.refl _ _) hb14 (λ_=>rfl)
  (PI w w4.heap.size p gs) (PI.own hp4 hb14 (by omega) (by have:=HPp.out;omega) HW4.out.size HGs.out) ⟨⟨_,HP.out,by simpa using Vs.nil _ _,λ_=>rfl⟩,HW4.out,Nat.le_refl _⟩
  (λi=>{ tmps:=(((b.tmps.setIfInBounds 21 (.int .u8 (low7 (z / 128 ^ i)))).setIfInBounds 22 (.bool (decide (((z / 128 ^ i:Nat):Int)<128)))).setIfInBounds 5 (.int .u8 (low7 (z / 128 ^ i)))).setIfInBounds 6 (.bool (decide (((z / 128 ^ i:Nat):Int)<128))),defers:=[] }) ?assign ?body ?done
 case assign =>
  subst hb;intro l i W K hK;simp only[List.setIfInBounds_toArray,List.set_cons_succ,List.set_cons_zero]at hK;unfold grp
  gi_wp2
  exact hK
 case body =>
  subst hb;rintro l i W hi ⟨⟨v,hv1,hv2,hv3⟩,hI2,hI3⟩;simp only[List.setIfInBounds_toArray,List.set_cons_succ,List.set_cons_zero];obtain⟨zi,hzi⟩:∃zi,zi=z / 128 ^ i:=⟨_,rfl⟩;have hil:i<gs.length:=by rw[<- HM.out];exact hi
  have hx:=(HA.out i hil).1;rw[<- hzi]at hx ⊢;have hz3:zi<2097152:=by rw[hzi];exact Nat.lt_of_le_of_lt (Nat.div_le_self _ _) hz''
  have hlow:=low7_eq zi (by omega);have cv:=hv1.cell 0;simp only[List.getElem?_toArray,List.getElem?_cons_zero]at cv;have hs:=hI2.size;have hgi:gs[i]'hil=if zi<128 then ((zi:Nat):Int)else ((zi%128+128:Nat):Int):=by
   rw[List.getElem?_eq_getElem hil]at hx;exact Option.some.inj hx
  have he:((gs.take i).map (Value.int .u8))++[Value.int .u8 (gs[i]'hil)]=(gs.take (i+1)).map (Value.int .u8):=by
   rw[List.take_succ_eq_append_getElem hil,List.map_append];rfl
  have hlk:((gs.take i).map (Value.int .u8)).length+1<=1099511627776:=by simp;omega
  obtain⟨A,c,rfl⟩:=hv2.len (n:=i) (by simp;omega);have HNext:=hid (fun(w2:World) (v':Value) (o:Obj) (h1:Vs w2 w4.heap.size v' ((gs.take (i+1)).map (Value.int .u8))) (h2:(W.alloc o).grownBy w2 (Value.slice A i c).ownBlock)=>PI.next hp4 hb14 hpb HPp.out.symm hv1 hI2 hI3 hv2 hv3 HGs.out h1 h2);clear hv3;obtain⟨x0,hx0⟩:∃x0,x0=low7 zi:=⟨_,rfl⟩;rw[<- hx0]at hlow ⊢;obtain⟨y0,hy0⟩:∃y0:Int,y0=gs[i]'hil:=⟨_,rfl⟩;rw[<- hy0]at he hgi;have HI:=hid hI2;have HE:=hid he;have HV1:=hid hv1;have hzb:w4.heap.size<=(W.alloc (.cells #[.int .u8 y0] 5)).heap.size:=by simp;omega
  have HV2:=hid (hv2.below ((Below.refl _ W).alloc (Nat.le_refl _) (.cells #[.int .u8 y0] 5)));have hk0:(W.alloc (.cells #[.int .u8 y0] 5)).cell? ⟨W.heap.size,0,none⟩=some (.int .u8 y0):=(Blk.new W 5 #[.int .u8 y0]).cell 0;have HVp:=hid (hv1.alloc (.cells #[.int .u8 y0] 5));have HLen:=hid (show(gs.take (i+1)).length=i+1 by rw[List.length_take];omega);have HOwn:=hid (λk e=>(hv2.own k e).1)
  by_cases hlt:zi<128
  ·have hd:decide ((zi:Int)<128)=true:=by simp;omega
   rw[hd];rw[if_pos hlt]at hgi;obtain rfl:x0=y0:=by omega
   clear hx hzi hlow hgi hx0 hy0 he hd hlt hv1 hv2
   gi_wp2_with (first|(gi_at_builtin;refine wpListIn_appendV underlying129 info5' rfl (by decide) rfl (.tmp 27) (.tmp 29) rfl w4.heap.size (.slice A i c) ((gs.take i).map (Value.int .u8)) rfl HV2.out hzb hlk ⟨W.heap.size,0,none⟩ (.int .u8 x0) rfl 1 rfl hk0 ?_;intro v2 w2 hV2 hg2 ho2;rw[HE.out]at hV2;have HN2:=hid (HNext.out w2 v2 _ hV2 hg2);obtain⟨A2,c2,rfl⟩:=hV2.len (n:=i+1) (by simp;omega);obtain⟨g2,rfl⟩:=hV2.sm (by omega);have HI2:=hid (show Blk w2 p 129 #[.slice A i c]from(hg2.block p HVp.out.lt (λe=>by have:=HOwn.out p e.symm;omega)).trans HVp.out);have cv2:=HI2.out.cell 0;have fz2:=HI2.out.frozen 0;clear hV2 hg2 ho2)|gi_in)
   exact HN2.out
  ·have hd:decide ((zi:Int)<128)=false:=by simp;omega
   rw[hd];rw[if_neg hlt]at hgi;have hor:bits BinOp.or IntKind.u8 x0 128=y0:=by rw[hlow,hgi];exact or128 _ (by omega)
   clear hx hzi hlow hgi hx0 hy0 he hd hlt hv1 hv2
   gi_wp2_with (first|(gi_at_builtin;refine wpListIn_appendV underlying129 info5' rfl (by decide) rfl (.tmp 27) (.tmp 29) rfl w4.heap.size (.slice A i c) ((gs.take i).map (Value.int .u8)) rfl HV2.out hzb hlk ⟨W.heap.size,0,none⟩ (.int .u8 y0) rfl 1 rfl hk0 ?_;intro v2 w2 hV2 hg2 ho2;rw[HE.out]at hV2;have HN2:=hid (HNext.out w2 v2 _ hV2 hg2);obtain⟨A2,c2,rfl⟩:=hV2.len (n:=i+1) (by simp;omega);obtain⟨g2,rfl⟩:=hV2.sm (by omega);have HI2:=hid (show Blk w2 p 129 #[.slice A i c]from(hg2.block p HVp.out.lt (λe=>by have:=HOwn.out p e.symm;omega)).trans HVp.out);have cv2:=HI2.out.cell 0;have fz2:=HI2.out.frozen 0;clear hV2 hg2 ho2)|gi_in)
   exact HN2.out
 case done =>
  subst hb;rintro D W hD ⟨⟨v,hv1,hv2,hv3⟩,hI2,hI3⟩ hK;obtain⟨A,c,rfl⟩:=hv2.len (n:=m) (by rw[HM.out];simp);obtain⟨g,rfl⟩:=hv2.sm hl0;have cv:=hv1.cell 0;have hcv:=run_convert_bytes_arg (P:=prog) W 129 5 underlying129 underlying5 g 0 m c gs HM.out.symm (cells_bytes hv2 HM.out) 9 underlying9
  go_wp2_with fail
  exact leaves_mark hK (results_tmp2 rfl _ _ _) ⟨by rw[HG.out];rfl,below_putObj hI2 (by have:=HW4.out.size;omega) _⟩
end
section
open Go.RowKit Go.Shelf
attribute [local irreducible] sumF
def bz32 :Array Value:=#[.int .u8 0,.int .u8 0,.int .u8 0,.int .u8 0,.int .u8 0,.int .u8 0,.int .u8 0,.int .u8 0,.int .u8 0,.int .u8 0,.int .u8 0,.int .u8 0,.int .u8 0,.int .u8 0,.int .u8 0,.int .u8 0,.int .u8 0,.int .u8 0,.int .u8 0,.int .u8 0,.int .u8 0,.int .u8 0,.int .u8 0,.int .u8 0,.int .u8 0,.int .u8 0,.int .u8 0,.int .u8 0,.int .u8 0,.int .u8 0,.int .u8 0,.int .u8 0]
theorem bz32_eq :bz32=Array.replicate 32 (.int .u8 0):=rfl
def zero32 :ByteArray:=strOfNums (List.replicate 32 0)
theorem zero32_size :zero32.size=32:=by unfold zero32;rw[strOfNums_size];rfl
theorem mk32 :∀w:World,(Instr.makeSlice 129 (.int .i64 32) (.int .i64 32)).run prog w=.ok (.slice (some ⟨w.heap.size,0,none⟩) 32 32) (w.alloc (.cells bz32 5)):=λ_=>by kernel_rfl
theorem zero_any (w:World):Calls prog 329 #[] w λe w'=>e=.returned (.string zero32)/\Below w.heap.size w w':=by
 have hm:=mk32;have hcv:=run_convert_bytes_arg (P:=prog) (w.alloc (.cells bz32 5)) 129 5 underlying129 underlying5 w.heap.size 0 32 32 (List.replicate 32 0) rfl (λi hi=>by
  rw[(Blk.new w 5 bz32).cell (0+i),bz32_eq,Array.getElem?_replicate,if_pos (by omega),List.getD_eq_getElem?_getD,List.getElem?_replicate,if_pos hi];rfl) 9 underlying9
 go_enter func329,ntmps329
 go_wp2_with fail
 go_ret;exact⟨rfl,(Below.refl _ _).alloc (Nat.le_refl _) _⟩
attribute [local irreducible] zero32
def joinF (tab:Array Value)(a b:ByteArray):ByteArray:=if (a.toList==zero32.toList)=true/\(b.toList==zero32.toList)=true then zero32 else strOfNums (sumF tab (⟨#[9]⟩++a++b))
theorem joinF_size (tab:Array Value)(a b:ByteArray):(joinF tab a b).size=32:=by
 unfold joinF
 split
 ·exact zero32_size
 ·rw[strOfNums_size,sumF_len]
def leafK (tab:Array Value)(n:Nat)(v:ByteArray):ByteArray:=strOfNums (sumF tab (⟨#[8]⟩++strOfNums [low7 (2*n)]++v))
theorem leafK_size (tab:Array Value)(n:Nat)(v:ByteArray):(leafK tab n v).size=32:=by
 unfold leafK;rw[strOfNums_size,sumF_len]
theorem Tab.below {w w':World}{tab:Array Value}(h:Tab w tab){B:Nat}(hb:Below B w w')(h0:0<B):Tab w' tab:=⟨h.1.below hb h0,h.2⟩
theorem leafK_any (w:World)(n:Nat)(v:ByteArray)(tab:Array Value)(hT:Tab w tab)(hn:n<64)(hv:v.size<=100000)(h0:v.toList.isEmpty=false) :
 Calls prog 330 #[.int .i64 n,.string v] w λe w'=>e=.returned (.string (leafK tab n v))/\Below w.heap.size w w':=by
 have HT:=hid hT;have ht0:0<w.heap.size:=hT.1.lt;clear hT;have he:(strOfNums [low7 (2*n)]).size=1:=by rw[strOfNums_size];rfl
 obtain⟨E,hE⟩:∃E,E=strOfNums [low7 (2*n)]:=⟨_,rfl⟩;have HE:=hid hE;rw[<- hE]at he;have hz:((⟨#[8]⟩:ByteArray)++E++v).size<=1000000000:=by simp only[ByteArray.size_append,he];show 1+1+v.size<=_;omega
 have HZ:=hid hz;have hz2:¬9223372036854775807<1+E.size:=by omega
 have hz3:¬9223372036854775807<1+E.size+v.size:=by omega
 clear he hz hE
 go_enter func330,ntmps330
 go_wp2_with fail
 refine(putInt w n hn).mono ?_;rintro e w1 ⟨rfl,h1⟩;rw[<- HE.out];have hs1:=h1.size
 go_wp2_with fail
 refine(sum_any w1 _ tab (Tab.below HT.out h1 ht0) HZ.out).mono ?_;rintro e w2 ⟨rfl,h2⟩
 go_wp2_with fail
 go_ret;refine⟨?_,h1.trans (h2.mono hs1)⟩;rw[HE.out];rfl
theorem join_any (w:World)(a b:ByteArray)(tab:Array Value)(hT:Tab w tab)(ha:a.size<=100000)(hb:b.size<=100000) :
 Calls prog 331 #[.string a,.string b] w λe w'=>e=.returned (.string (joinF tab a b))/\Below w.heap.size w w':=by
 have HT:=hid hT;have ht0:0<w.heap.size:=hT.1.lt;clear hT;have hz:((⟨#[9]⟩:ByteArray)++a++b).size<=1000000000:=by simp only[ByteArray.size_append];show 1+a.size+b.size<=_;omega
 have HZ:=hid hz;have hz2:¬9223372036854775807<1+a.size:=by omega
 have hz3:¬9223372036854775807<1+a.size+b.size:=by omega
 clear hz ha hb
 go_enter func331,ntmps331
 go_wp2_with fail
 refine(zero_any w).mono ?_;rintro e w1 ⟨rfl,h1⟩;have hs1:=h1.size
 by_cases hA:(a.toList==zero32.toList)=true
 ·go_wp2_with fail
  refine(zero_any w1).mono ?_;rintro e w2 ⟨rfl,h2⟩;have hs2:=h2.size
  by_cases hB:(b.toList==zero32.toList)=true
  ·go_wp2_with fail
   refine(zero_any w2).mono ?_;rintro e w3 ⟨rfl,h3⟩
   go_wp2_with fail
   go_ret;exact⟨by unfold joinF;rw[if_pos ⟨hA,hB⟩];rfl,(h1.trans (h2.mono hs1)).trans (h3.mono (by omega))⟩
  ·go_wp2_with fail
   refine(sum_any w2 _ tab ((HT.out.below h1 ht0).below h2 (by omega)) HZ.out).mono ?_;rintro e w3 ⟨rfl,h3⟩
   go_wp2_with fail
   go_ret;exact⟨by unfold joinF;rw[if_neg (λh=>hB h.2)];rfl,(h1.trans (h2.mono hs1)).trans (h3.mono (by omega))⟩
 ·go_wp2_with fail
  refine(sum_any w1 _ tab (HT.out.below h1 ht0) HZ.out).mono ?_;rintro e w3 ⟨rfl,h3⟩
  go_wp2_with fail
  go_ret;exact⟨by unfold joinF;rw[if_neg (λh=>hA h.1)];rfl,h1.trans (h3.mono (by omega))⟩
end
section
open Go.RowKit Go.Shelf
theorem svalid0 (w:World):Calls prog 254 #[nilS] w λe w'=>e=.returned (.bool true)/\Below w.heap.size w w':=by
 go_enter func254,ntmps254
 go_wp2
 repeat(go_rounds 1)
 go_ret;exact⟨rfl,by go_grown⟩
theorem keyOf1 (w:World)(n:Nat)(v:ByteArray):Calls prog 327 #[.agg #[.int .i64 n,.string v]] w λe w'=>e=.returned (.int .i64 n)/\Below w.heap.size w w':=by
 go_enter func327,ntmps327
 go_wp2;go_ret;exact⟨rfl,by go_grown⟩
theorem convert1 (w:World)(g c n:Nat)(v:ByteArray)(h1:w.cell? ⟨g,0,none⟩=some (.int .i64 n))(h2:w.cell? ⟨g,1,none⟩=some (.string v)) :
 Calls prog 326 #[.slice (some ⟨g,0,none⟩) 1 c,.func (.func 327) #[] #[]] w λe w'=>(∃g' c',e=.returned (.slice (some ⟨g',0,none⟩) 1 c')/\w'.cell? ⟨g',0,none⟩=some (.int .i64 n))/\Below w.heap.size w w':=by
 go_enter func326,ntmps326
 go_wp2_with fail
 refine wp_loop_rounds 2 ?_;rw[rounds_succ]
 go_wp2_with fail
 refine(keyOf1 _ n v).mono ?_;rintro e w1 ⟨rfl,hb1⟩;have hW1:=((Below.refl w.heap.size w).alloc (Nat.le_refl _) (.cells #[.int .i64 n,.string v] 376)).trans (hb1.mono (by simp));have hk0:(w1.alloc (.cells #[.int .i64 n] 3)).cell? ⟨w1.heap.size,0,none⟩=some (.int .i64 n):=(Blk.new w1 3 #[.int .i64 n]).cell 0;have HV:=hid (Vs.nil (w1.alloc (.cells #[.int .i64 n] 3)) w.heap.size);have hzb:w.heap.size<=(w1.alloc (.cells #[.int .i64 n] 3)).heap.size:=by have:=hW1.size;simp;omega
 have HW:=hid (hW1.alloc hW1.size (.cells #[.int .i64 n] 3));clear hb1 hW1
 go_wp2_with (at_builtin;refine wpList_appendV underlying24 infoI3 rfl (by decide) rfl (.tmp 14) (.tmp 18) rfl w.heap.size (.slice none 0 0) [] rfl HV.out hzb (by simp) ⟨w1.heap.size,0,none⟩ (.int .i64 n) rfl 1 rfl hk0 ?_;intro v2 w2 hV2 hg2 ho2;obtain⟨A2,c2,rfl⟩:=hV2.len (n:=1) rfl;obtain⟨g2,rfl⟩:=hV2.sm (by omega);have HV2:=hid hV2;have HG2:=hid (HW.out.trans (grown_base HV.out hg2 hzb));clear hV2 hg2 ho2)
 rw[rounds_succ]
 go_wp2_with fail
 go_ret;exact⟨⟨_,_,rfl,HV2.out.at_ 0 (by simp)⟩,HG2.out⟩
theorem keys1 (w:World)(g c n:Nat)(hn:n<64)(h1:w.cell? ⟨g,0,none⟩=some (.int .i64 n)):Calls prog 325 #[.slice (some ⟨g,0,none⟩) 1 c] w λe w'=>e=.returned (.bool true)/\Below w.heap.size w w':=by
 have n1:¬(n:Int)<0:=by omega
 have n2:¬(64:Int)<=n:=by omega
 go_enter func325,ntmps325
 go_wp2_with fail
 go_rounds 2
 go_ret;exact⟨rfl,by go_grown⟩
theorem contains1 (w:World)(g c n:Nat)(v:ByteArray)(h1:w.cell? ⟨g,0,none⟩=some (.int .i64 n))(h2:w.cell? ⟨g,1,none⟩=some (.string v))(hv:v.size<=60000)(hv1:v.size≠0) :
 Calls prog 328 #[.slice (some ⟨g,0,none⟩) 1 c,.func (.func 324) #[] #[]] w λe w'=>e=.returned (.bool false)/\Below w.heap.size w w':=by
 have b1:((v.size:Int)==0)=false:=by
  simp only[beq_eq_false_iff_ne];omega
 have b2:¬(65536:Int)<v.size:=by omega
 clear hv hv1
 go_enter func328,ntmps328
 go_wp2
 go_rounds 2
 go_ret;exact⟨rfl,by go_grown⟩
theorem svalid1 (w:World)(g c n:Nat)(v:ByteArray)(hn:n<64)(h1:w.cell? ⟨g,0,none⟩=some (.int .i64 n))(h2:w.cell? ⟨g,1,none⟩=some (.string v))(hv:v.size<=60000)(hv1:v.size≠0)(hg:g<w.heap.size) :
 Calls prog 254 #[.slice (some ⟨g,0,none⟩) 1 c] w λe w'=>e=.returned (.bool true)/\Below w.heap.size w w':=by
 have H1:=hid h1;have H2:=hid h2;clear h1 h2
 go_enter func254,ntmps254
 go_wp2_with fail
 refine(convert1 w g c n v H1.out H2.out).mono ?_;rintro e w1 ⟨⟨g',c',rfl,k1⟩,hb1⟩;have hs1:=hb1.size
 go_wp2_with fail
 refine(keys1 w1 g' c' n hn k1).mono ?_;rintro e w2 ⟨rfl,hb2⟩;have hs2:=hb2.size
 go_wp2_with fail
 have hb12:=hb1.trans (hb2.mono hs1);refine(contains1 w2 g c n v ((hb12.cell hg).trans H1.out) ((hb12.cell hg).trans H2.out) hv hv1).mono ?_;rintro e w3 ⟨rfl,hb3⟩
 go_wp2_with fail
 go_ret;exact⟨rfl,hb12.trans (hb3.mono (by omega))⟩
end
section
open Go.RowKit Go.Shelf
attribute [local irreducible] sumF zero32 joinF
def em128 :Array Value:=Array.replicate 128 (.string ⟨#[]⟩)
theorem em_build :∀w,(Instr.build 448 #[]).run prog w=.ok (.agg em128) w:=λ_=>by kernel_rfl
def strAt (cs:Array Value)(i:Nat):ByteArray:=match cs.getD i undef with
 | .string s=>s
 | _=>⟨#[]⟩
def Strs (cs:Array Value):Prop:=cs.size=128/\∀i,i<128->cs[i]?=some (.string (strAt cs i))/\(strAt cs i).size<=32
theorem Strs.at_ {cs:Array Value}(h:Strs cs){i:Nat}(hi:i<128):cs[i]?=some (.string (strAt cs i)):=(h.2 i hi).1
theorem Strs.set {cs:Array Value}(h:Strs cs)(i:Nat)(s:ByteArray)(hs:s.size<=32):Strs (cs.setIfInBounds i (.string s)):=by
 refine⟨by rw[Array.size_setIfInBounds];exact h.1,λj hj=>?_⟩
 by_cases hij:i=j
 ·subst hij
  have hlt:i<cs.size:=by rw[h.1];exact hj
  simp only[strAt,Array.getD_eq_getD_getElem?,Array.getElem?_setIfInBounds_self_of_lt hlt];exact⟨rfl,hs⟩
 ·have:=h.2 j hj
  have hn:strAt (cs.setIfInBounds i (.string s)) j=strAt cs j:=by simp only[strAt,Array.getD_eq_getD_getElem?,Array.getElem?_setIfInBounds_ne hij]
  rw[Array.getElem?_setIfInBounds_ne hij,hn];exact this
theorem strs_em :Strs em128:=by
 refine⟨by unfold em128;rw[Array.size_replicate],λi hi=>?_⟩;have h1:em128[i]?=some (.string ⟨#[]⟩):=by unfold em128;rw[Array.getElem?_replicate,if_pos hi]
 have h2:strAt em128 i=⟨#[]⟩:=by simp only[strAt,Array.getD_eq_getD_getElem?,h1];rfl
 rw[h1,h2];exact⟨rfl,by decide⟩
def full1 :Nat->Array Value
 | 0=>em128
 | k+1=>(full1 k).setIfInBounds (64+k) (.string zero32)
theorem strs_full1 :∀k,Strs (full1 k)
 | 0=>strs_em
 | k+1=>(strs_full1 k).set _ _ (by rw[zero32_size];omega)
def full2 (tab:Array Value):List (Nat×ByteArray)->Array Value
 | []=>full1 64
 | (n,v)::_=>(full1 64).setIfInBounds (64+n) (.string (leafK tab n v))
theorem strs_full2 (tab:Array Value):∀l,Strs (full2 tab l)
 | []=>strs_full1 64
 | (_,_)::_=>(strs_full1 64).set _ _ (by rw[leafK_size];omega)
def full3 (tab cs:Array Value):Nat->Array Value
 | 0=>cs
 | k+1=>(full3 tab cs k).setIfInBounds (63 - k) (.string (joinF tab (strAt (full3 tab cs k) (2*(63 - k))) (strAt (full3 tab cs k) (2*(63 - k)+1))))
theorem strs_full3 (tab:Array Value){cs:Array Value}(h:Strs cs):∀k,Strs (full3 tab cs k)
 | 0=>h
 | k+1=>(strs_full3 tab h k).set _ _ (by rw[joinF_size];omega)
theorem full3_step (tab cs:Array Value)(i:Nat)(h0:0<i)(h:i<=63):full3 tab cs (63 - (i - 1))=(full3 tab cs (63 - i)).setIfInBounds i (.string (joinF tab (strAt (full3 tab cs (63 - i)) (2*i)) (strAt (full3 tab cs (63 - i)) (2*i+1)))):=by
 obtain⟨k,hk⟩:∃k,63 - i=k:=⟨_,rfl⟩;have e1:63 - (i - 1)=k+1:=by omega
 have e2:i=63 - k:=by omega
 rw[e1,hk,e2];rfl
def rootF (tab:Array Value)(l:List (Nat×ByteArray)):ByteArray:=strAt (full3 tab (full2 tab l) 63) 1
theorem full_any (w:World)(tab:Array Value)(hT:Tab w tab)(A:Option Addr)(m c:Nat)(l:List (Nat×ByteArray))(hl:(l=[]/\m=0)∨∃g n v,l=[(n,v)]/\m=1/\A=some ⟨g,0,none⟩/\n<64/\v.size<=60000/\v.toList.isEmpty=false/\w.cell? ⟨g,0,none⟩=some (.int .i64 n)/\w.cell? ⟨g,1,none⟩=some (.string v)/\g<w.heap.size) :
 Calls prog 255 #[.slice A m c] w λe w'=>(∃b,e=.returned (.pointer (some ⟨b,0,none⟩))/\Hid (∃cs,cs=full3 tab (full2 tab l) 63/\Blk w' b 448 cs))/\Below w.heap.size w w':=by
 have HT:=hid hT;have HL:=hid hl;have ht0:=hT.1.lt;clear hT hl;have hb:=em_build
 go_enter func255,ntmps255
 go_wp2_with fail
 have HB:Hid (Blk (w.alloc (.cells em128 448)) w.heap.size 448 em128):=hid (Blk.new w 448 em128);have HW:Hid (Below w.heap.size w (w.alloc (.cells em128 448))):=hid ((Below.refl _ w).alloc (Nat.le_refl _) _);clear hb
 go_loopw [4,10] (λ_ i wr=>∃(k:Nat) (cs:Array Value),k<=64/\i=.int .i64 k/\Hid (cs=full1 k)/\Hid (Blk wr w.heap.size 448 cs)/\Hid (Below w.heap.size w wr)) (λ_ i _=>64 - (intOf i).toNat)
 case atStart=>exact⟨0,em128,by omega,rfl,hid rfl,HB,HW⟩
 case round =>
  clear HB HW;obtain⟨k,cs,hk,rfl,hE,hB,hW⟩:=hrel;have hN:Hid (Strs cs):=hid (hE.out▸strs_full1 k)
  by_cases hlt:k<64
  ·have d:=(hB.out.cell (64+k)).trans (hN.out.at_ (by omega))
   have L0:=Later.of d
   go_wp2_with fail
   refine Loose.wp_region_later [(3,.is (.string zero32))] 6 (by kernel_rfl) (by kernel_rfl) ?_
   (simp only[List.take_succ_cons,List.take_zero,List.drop_succ_cons,List.drop_zero])
   (repeat(first|refine Loose.walk_skip rfl ?_|(refine Loose.walk_plain rfl rfl rfl λK h=>?_;go_big_quiet_op;refine h _ ?_;clear h K)))
   refine Loose.walk_loose rfl rfl (λW' hW' hF=>Loose.loose_call (f:=329) (args:=#[]) (by kernel_rfl) ((zero_any W').mono λe w' ⟨he,hb⟩=>⟨_,he,hb,rfl⟩)) ?_;rintro _ _ _ rfl
   (simp only[Act.put,List.setIfInBounds_toArray,List.set_cons_succ,List.set_cons_zero])
   (repeat(first|refine Loose.walk_skip rfl ?_|(refine Loose.walk_plain rfl rfl rfl λK h=>?_;go_big_quiet_op;refine h _ ?_;clear h K)))
   refine Loose.walk_nil ?_;rintro U hU -;have HU:=hB.out.below hU hB.out.lt;have d:=(HU.cell (64+k)).trans (hN.out.at_ (by omega));have hf:=HU.frozen (64+k);have S1:=hid (HU.set_ (64+k) (.string zero32));have S2:=hid ((hW.out.trans (hU.mono hW.out.size)).setCell (p:=⟨w.heap.size,64+k,none⟩) (by simp) (.string zero32));clear L0 hU HU
   go_wp2_with fail
   go_roundw
   case rel=>exact⟨k+1,_,by omega,by go_num,hid (by rw[hE.out];rfl),S1,S2⟩
   case measure=>simp[intOf];omega
  ·have hk64:k=64:=by omega
   subst hk64;rw[show((64:Nat):Int)=64 from rfl]
   go_wp2_with fail
   have hE2:Hid (cs=if 0=0 then full1 64 else full2 tab l):=hid (by rw[if_pos rfl];exact hE.out);have hm1:m<=1:=by
    rcases HL.out with ⟨_,h⟩|⟨_,_,_,_,h,_⟩<;>omega
   clear hN hE hk hlt
   go_loopw [6,22] (λ_ i wr=>∃(j:Nat) (cs:Array Value),j<=m/\i=.int .i64 j/\Hid (cs=if j=0 then full1 64 else full2 tab l)/\Hid (Blk wr w.heap.size 448 cs)/\Hid (Below w.heap.size w wr)) (λ_ i _=>m - (intOf i).toNat)
   case atStart=>exact⟨0,cs,by omega,rfl,hE2,hB,hW⟩
   case round =>
    clear hB hW hE2;obtain⟨j,cs,hj,rfl,hE,hB,hW⟩:=hrel
    by_cases hlt:j<m
    ·have hj0:j=0:=by omega
     subst hj0;rcases HL.out with ⟨_,hm0⟩|⟨g,n,v,rfl,hm,rfl,hn,hv,hv0,g1,g2,hg⟩
     ·exact absurd hlt (by omega)
     have HM:=hid hm;clear hm;have hN:Hid (Strs cs):=hid (by rw[hE.out];exact strs_full1 64);have d:=(hB.out.cell (64+n)).trans (hN.out.at_ (by omega));have d1:=(World.cell?_alloc_some wr _ (.cells #[.int .i64 n,.string v] 376) (by rw[d];rfl)).trans d;have L0:=Later.of d1;have hK:=Blk.new wr 376 #[.int .i64 n,.string v];have k1:=hK.cell 0;have k2:=hK.cell 1;have L1:=Later.of k1;have L2:=Later.of k2;have c1:=(hW.out.cell (p:=⟨g,0,none⟩) hg).trans g1;have c2:=(hW.out.cell (p:=⟨g,1,none⟩) hg).trans g2;have hB':=hid (hB.out.alloc (.cells #[.int .i64 n,.string v] 376));have hW':=hid (hW.out.alloc hW.out.size (.cells #[.int .i64 n,.string v] 376));have HV0:=hid hv0;clear d d1 hK g1 g2 hv0 hB hW
     go_wp2_with fail
     refine Loose.wp_region_later [(8,.is (.string (leafK tab n v)))] 11 (by kernel_rfl) (by kernel_rfl) ?_
     (simp only[List.take_succ_cons,List.take_zero,List.drop_succ_cons,List.drop_zero])
     (repeat(first|refine Loose.walk_skip rfl ?_|(refine Loose.walk_plain rfl rfl rfl λK h=>?_;go_big_quiet_op;refine h _ ?_;clear h K)))
     refine Loose.walk_loose rfl rfl (λW' hW'' hF=>Loose.loose_call (f:=330) (args:=#[.int .i64 n,.string v]) (by kernel_rfl) ((leafK_any W' n v tab ((HT.out.below hW'.out ht0).below hW'' (by have:=hW'.out.size;omega)) hn (by omega) HV0.out).mono λe w' ⟨he,hb⟩=>⟨_,he,hb,rfl⟩)) ?_;rintro _ _ _ rfl
     (simp only[Act.put,List.setIfInBounds_toArray,List.set_cons_succ,List.set_cons_zero])
     (repeat(first|refine Loose.walk_skip rfl ?_|(refine Loose.walk_plain rfl rfl rfl λK h=>?_;go_big_quiet_op;refine h _ ?_;clear h K)))
     refine Loose.walk_nil ?_;rintro U hU -;have HU:=hB'.out.below hU hB'.out.lt;have d:=(HU.cell (64+n)).trans (hN.out.at_ (by omega));have hf:=HU.frozen (64+n);have S1:=hid (HU.set_ (64+n) (.string (leafK tab n v)));have S2:=hid ((hW'.out.trans (hU.mono hW'.out.size)).setCell (p:=⟨w.heap.size,64+n,none⟩) (by simp) (.string (leafK tab n v)));clear L0 L1 L2 hU HU k1 k2 c1 c2
     go_wp2_with fail
     go_roundw
     case rel=>exact⟨1,_,by have:=HM.out;omega,by go_num,hid (by rw[hE.out];rfl),S1,S2⟩
     case measure=>simp[intOf];omega
    ·have hjm:j=m:=by omega
     subst hjm;have hE3:Hid (cs=full3 tab (full2 tab l) 0):=hid (by
      rw[hE.out];rcases HL.out with ⟨rfl,rfl⟩|⟨g,n,v,rfl,rfl,_⟩<;>rfl)
     go_wp2_with fail
     clear hE
     go_loopw [7] (λi wr=>∃(k:Nat) (cs:Array Value),k<=63/\i=.int .i64 k/\Hid (cs=full3 tab (full2 tab l) (63 - k))/\Hid (Blk wr w.heap.size 448 cs)/\Hid (Below w.heap.size w wr)) (λi _=>(intOf i).toNat)
     case atStart=>exact⟨63,cs,by omega,rfl,hE3,hB,hW⟩
     case round =>
      clear hB hW hE3;obtain⟨k,cs,hk,rfl,hE,hB,hW⟩:=hrel;have hN:Hid (Strs cs):=hid (hE.out▸strs_full3 tab (strs_full2 tab l) _)
      by_cases hlt:0<k
      ·have d0:=(hB.out.cell (2*k)).trans (hN.out.at_ (by omega))
       have d1:=(hB.out.cell (2*k+1)).trans (hN.out.at_ (by omega));have d2:=(hB.out.cell k).trans (hN.out.at_ (by omega));have L0:=Later.of d0;have L1:=Later.of d1;have L2:=Later.of d2;have s0:=(hN.out.2 (2*k) (by omega)).2;have s1:=(hN.out.2 (2*k+1) (by omega)).2;have HS:=hid (And.intro s0 s1);obtain⟨a,ha⟩:∃a,a=strAt cs (2*k):=⟨_,rfl⟩;obtain⟨b,hb⟩:∃b,b=strAt cs (2*k+1):=⟨_,rfl⟩;have HA:=hid ha;have HBB:=hid hb;rw[<- ha]at d0 HS;rw[<- hb]at d1 HS;clear s0 s1 ha hb L0 L1;have L0:=Later.of d0;have L1:=Later.of d1
       go_wp2_with fail
       refine Loose.wp_region_later [(15,.is (.string (joinF tab a b)))] 18 (by kernel_rfl) (by kernel_rfl) ?_
       (simp only[List.take_succ_cons,List.take_zero,List.drop_succ_cons,List.drop_zero])
       (repeat(first|refine Loose.walk_skip rfl ?_|(refine Loose.walk_plain rfl rfl rfl λK h=>?_;go_big_quiet_op;refine h _ ?_;clear h K)))
       refine Loose.walk_loose rfl rfl (λW' hW'' hF=>Loose.loose_call (f:=331) (args:=#[.string a,.string b]) (by kernel_rfl) ((join_any W' a b tab ((HT.out.below hW.out ht0).below hW'' (by have:=hW.out.size;omega)) (by have:=HS.out.1;omega) (by have:=HS.out.2;omega)).mono λe w' ⟨he,hb⟩=>⟨_,he,hb,rfl⟩)) ?_;rintro _ _ _ rfl
       (simp only[Act.put,List.setIfInBounds_toArray,List.set_cons_succ,List.set_cons_zero])
       (repeat(first|refine Loose.walk_skip rfl ?_|(refine Loose.walk_plain rfl rfl rfl λK h=>?_;go_big_quiet_op;refine h _ ?_;clear h K)))
       refine Loose.walk_nil ?_;rintro U hU -;have HU:=hB.out.below hU hB.out.lt;have d:=(HU.cell k).trans (hN.out.at_ (by omega));have hf:=HU.frozen k;have S1:=hid (HU.set_ k (.string (joinF tab a b)));have S2:=hid ((hW.out.trans (hU.mono hW.out.size)).setCell (p:=⟨w.heap.size,k,none⟩) (by simp) (.string (joinF tab a b)));clear L0 L1 L2 hU HU d0 d1 d2
       go_wp2_with fail
       go_roundw
       case rel=>exact⟨k - 1,_,by omega,by congr 1;omega,hid (by rw[full3_step tab _ k hlt hk,<- hE.out,<- HA.out,<- HBB.out]),S1,S2⟩
       case measure=>simp[intOf];omega
      ·have hk0:k=0:=by omega
       subst hk0
       go_wp2_with fail
       go_ret;exact⟨⟨_,rfl,hid ⟨_,hE.out,hB.out⟩⟩,hW.out⟩
end
section
open Go.RowKit Go.Shelf
attribute [local irreducible] sumF zero32 joinF full2 full3
theorem rootF_def (tab:Array Value)(l:List (Nat×ByteArray)):strAt (full3 tab (full2 tab l) 63) 1=rootF tab l:=rfl
theorem sroot0 (w:World)(tab:Array Value)(hT:Tab w tab):Calls prog 200 #[nilS] w λe w'=>e=.returned (.tuple #[.string (rootF tab []),.int .i64 0])/\Below w.heap.size w w':=by
 have HT:=hid hT;have ht0:=hT.1.lt;clear hT
 go_enter func200,ntmps200
 go_wp2_with fail
 refine(svalid0 w).mono ?_;rintro e w1 ⟨rfl,h1⟩;have hs1:=h1.size
 go_wp2_with fail
 refine(full_any w1 tab (HT.out.below h1 ht0) none 0 0 [] (.inl ⟨rfl,rfl⟩)).mono ?_;rintro e w2 ⟨⟨b,rfl,hB⟩,h2⟩;obtain⟨cs,hcs,hB⟩:=hB.out;have c1:=(hB.cell 1).trans ((hcs▸strs_full3 tab (strs_full2 tab []) 63:Strs cs).at_ (i:=1) (by omega));rw[hcs,rootF_def]at c1;clear hB hcs
 go_wp2_with fail
 go_ret2;exact⟨rfl,h1.trans (h2.mono hs1)⟩
theorem sroot1 (w:World)(tab:Array Value)(hT:Tab w tab)(g c n:Nat)(v:ByteArray)(hn:n<64)(hv:v.size<=60000)(hv1:v.size≠0)(hv0:v.toList.isEmpty=false)(h1:w.cell? ⟨g,0,none⟩=some (.int .i64 n))(h2:w.cell? ⟨g,1,none⟩=some (.string v)) :
 Calls prog 200 #[.slice (some ⟨g,0,none⟩) 1 c] w λe w'=>e=.returned (.tuple #[.string (rootF tab [(n,v)]),.int .i64 0])/\Below w.heap.size w w':=by
 have HT:=hid hT;have ht0:=hT.1.lt;have hg:=lt_of_cell h1;have H1:=hid h1;have H2:=hid h2;have HV:=hid hv0;clear hT h1 h2 hv0
 go_enter func200,ntmps200
 go_wp2_with fail
 refine(svalid1 w g c n v hn H1.out H2.out hv hv1 hg).mono ?_;rintro e w1 ⟨rfl,h1⟩;have hs1:=h1.size
 go_wp2_with fail
 refine(full_any w1 tab (HT.out.below h1 ht0) (some ⟨g,0,none⟩) 1 c [(n,v)] (.inr ⟨g,n,v,rfl,rfl,rfl,hn,hv,HV.out,(h1.cell hg).trans H1.out,(h1.cell hg).trans H2.out,by omega⟩)).mono ?_;rintro e w2 ⟨⟨b,rfl,hB⟩,h2⟩;obtain⟨cs,hcs,hB⟩:=hB.out;have c1:=(hB.cell 1).trans ((hcs▸strs_full3 tab (strs_full2 tab [(n,v)]) 63:Strs cs).at_ (i:=1) (by omega));rw[hcs,rootF_def]at c1;clear hB hcs
 go_wp2_with fail
 go_ret2;exact⟨rfl,h1.trans (h2.mono hs1)⟩
end
end Go.Proofs.YtnehgpeelgjjhaaGreatDoor.Tw
namespace Go.Proofs
open Go.Shelf Go.RowKit
theorem Tryz.lays166 :Lays.n166 prog Tryz.lays156_ren:={ Tryz.lays156 with }
theorem Tryz.lays169 :Lays.n169 prog Tryz.lays156_ren:={ Tryz.lays156 with }
end Go.Proofs
namespace Go.Proofs.YtnehgpeelgjjhaaGreatDoor.Tw
open Go.Proofs.Tryz
open Go.Shelf Go.RowKit
def IsB (w:World)(b:Nat)(l:List UInt8):Prop:=Lib.IsBuilderF 315 5 b b (Lib.byteCells l) w
theorem IsB.lt {w:World}{b:Nat}{l:List UInt8}(h:IsB w b l):b<w.heap.size:=by
 rcases h with h|h<;>exact h.lt
theorem IsB.new (w:World):IsB (w.alloc (.cells #[.pointer none,.slice none 0 0] 315)) w.heap.size [] :=
 .inl ⟨Nat.le_refl _,.slice none 0 0,heap_alloc_new w _,by exact World.ownsRowF_of (World.ownsRow_nil _ _ _ _),by simp[Value.ownBlock]⟩
theorem IsB.alloc {w:World}{b:Nat}{l:List UInt8}(h:IsB w b l)(o:Obj):IsB (w.alloc o) b l:=Lib.IsBuilderF.alloc h o
theorem IsB.below {w w':World}{b B:Nat}{l:List UInt8}(h:IsB w b l)(hb:Below B w w')(hB:w.heap.size<=B):IsB w' b l:=by
 have hg:∀k,k<w.heap.size->w'.heap[k]?=w.heap[k]?:=λk hk=>hb.block k (by omega)
 have hgr:w.grownBy w' none:=⟨hb.os,hb.tape,hb.output,hb.size,λk hk _=>hg k hk⟩;rcases h with ⟨h1,v,h2,h3,h4⟩|⟨h1,v,h2,h3,h4⟩
 ·exact .inl ⟨h1,v,(hg b (Array.getElem?_eq_some_iff.1 h2).1).trans h2,h3.kept hgr (by cases v.ownBlock<;>simp),h4⟩
 ·exact .inr ⟨h1,v,(hg b (Array.getElem?_eq_some_iff.1 h2).1).trans h2,h3.kept hgr (by cases v.ownBlock<;>simp),h4⟩
abbrev Oth (b:Nat)(w w':World):Prop:=Lib.OthersKept 5 (some b) w w'
theorem Oth.below {b B:Nat}{w w':World}(h:Below B w w')(hB:w.heap.size<=B):Oth b w w':=λk o ho _ _=>(h.block k (Nat.lt_of_lt_of_le (Array.getElem?_eq_some_iff.1 ho).1 hB)).trans ho
theorem write_str (w:World)(b:Nat)(l:List UInt8)(s:ByteArray)(h:IsB w b l)(hl:l.length<=1000)(hs:s.size<=1000) :
 Calls prog 210 #[.pointer (some ⟨b,0,none⟩),.string s] w λe w'=>e=.returned (.tuple #[.int .i64 s.size,.nilIface])/\IsB w' b (l++s.data.toList)/\Below b w w'/\Oth b w w' :=
 (Any.Builder_WriteString_k Tryz.lays166 Tryz.Builder_Extra_156 b b (Lib.byteCells l) s w h (by simp[Lib.byteCells];omega) (Nat.le_of_lt h.lt)).mono
  λe w' ⟨h1,h2,h3,h4⟩=>⟨h1,.inr (by
   have e:Lib.byteCells (l++s.data.toList)=Lib.byteCells l++Lib.strCells s:=by simp[Lib.byteCells,Lib.strCells]
   rw[e];exact h2),h3,h4⟩
theorem builder_string (w:World)(b:Nat)(l:List UInt8)(h:IsB w b l) :
 Calls prog 211 #[.pointer (some ⟨b,0,none⟩)] w λe w'=>e=.returned (.string ⟨l.toArray⟩)/\Below b w w' :=
 (Any.Builder_String_any_k Tryz.lays169 Tryz.Builder_Extra_156 b b l w h (Nat.le_of_lt h.lt)).mono λe w' ⟨h1,_,h3,_⟩=>⟨h1,h3⟩
end Go.Proofs.YtnehgpeelgjjhaaGreatDoor.Tw
namespace Go.Proofs.YtnehgpeelgjjhaaGreatDoor.Tw
open Go.Proofs.Tryz
section
open Go.RowKit Go.Shelf
def enc1 (n:Nat):ByteArray:=strOfNums [low7 (2*n)]
theorem enc1_size (n:Nat):(enc1 n).size=1:=by unfold enc1;rw[strOfNums_size];rfl
theorem putInt' (w:World)(n:Nat)(hn:n<64) :
 Calls prog 49 #[.int .i64 n] w λe w'=>e=.returned (.tuple #[.string (enc1 n),.int .i64 0])/\Below w.heap.size w w':=putInt w n hn
attribute [local irreducible] enc1 IsB
theorem want_true (w:World):Calls prog 251 #[.bool true] w λe w'=>e=.returned (.tuple #[])/\w'=w:=by
 go_enter func251,ntmps251
 go_wp2_with fail
 go_end0;exact⟨rfl,rfl⟩
theorem put1 (w:World)(b g c n:Nat)(l:List UInt8)(hn:n<64)(hB:IsB w b l)(hl:l.length<=900)(hg:w.cell? ⟨g,0,none⟩=some (.int .i64 n)) :
 Calls prog 196 #[.pointer (some ⟨b,0,none⟩),.slice (some ⟨g,0,none⟩) 1 c] w λe w'=>e=.returned (.tuple #[])/\IsB w' b (l++(enc1 n).data.toList)/\Below b w w'/\Oth b w w':=by
 have HB:=hid hB;have hlt:=hB.lt;have he:=enc1_size n;have HE:Hid ((enc1 n).size<=1000):=hid (by omega);clear hB he
 go_enter func196,ntmps196
 go_wp2_with fail
 refine wp_loop_rounds 2 ?_
 iterate 1 (rw[rounds_succ];go_wp2_with fail)
 refine(putInt' w n hn).mono ?_;rintro e w1 ⟨rfl,h1⟩;have HB1:=hid (HB.out.below h1 (Nat.le_refl _))
 go_wp2_with fail
 refine(want_true w1).mono ?_;rintro e W1 ⟨rfl,rfl⟩
 go_wp2_with fail
 refine(write_str W1 b l (enc1 n) HB1.out (by omega) HE.out).mono ?_;rintro e w2 ⟨rfl,hb2,h2,h2o⟩;have HB2:=hid hb2;clear hb2
 go_wp2_with fail
 rw[rounds_succ]
 go_wp2_with fail
 go_end0;exact⟨rfl,HB2.out,(h1.mono (Nat.le_of_lt hlt)).trans h2,(Oth.below h1 (Nat.le_refl _)).trans h2o⟩
theorem put0 (w:World)(b:Nat) :
 Calls prog 196 #[.pointer (some ⟨b,0,none⟩),.slice none 0 0] w λe w'=>e=.returned (.tuple #[])/\w'=w:=by
 go_enter func196,ntmps196
 go_wp2_with fail
 refine wp_loop_rounds 1 ?_
 iterate 1 (rw[rounds_succ];go_wp2_with fail)
 go_end0;exact⟨rfl,rfl⟩
theorem ints1 (w:World)(g c n:Nat)(hn:n<64)(hg:w.cell? ⟨g,0,none⟩=some (.int .i64 n)) :
 Calls prog 323 #[.slice (some ⟨g,0,none⟩) 1 c] w λe w'=>e=.returned (.string (enc1 n))/\Below w.heap.size w w':=by
 have he:=enc1_size n;have HE:Hid ((enc1 n).size<=1000):=hid (by omega);clear he
 go_enter func323,ntmps323
 go_wp2_with fail
 have hg1:=World.cell?_alloc_some w ⟨g,0,none⟩ (.cells #[.pointer none,.slice none 0 0] 315) (by rw[hg];rfl);have hg2:=hg1.trans hg;have HB:=hid (IsB.new w);have hb0:Below w.heap.size w (w.alloc (.cells #[.pointer none,.slice none 0 0] 315)):=(Below.refl _ _).alloc (Nat.le_refl _) _;obtain⟨W,hW⟩:∃W,W=w.alloc (.cells #[.pointer none,.slice none 0 0] 315):=⟨_,rfl⟩;rw[<- hW]at HB hg2 hb0 ⊢;clear hg1 hW;refine wp_loop_rounds 2 ?_
 iterate 1 (rw[rounds_succ];go_wp2_with fail)
 refine(putInt' W n hn).mono ?_;rintro e w1 ⟨rfl,h1⟩;have HB1:=hid (HB.out.below h1 (Nat.le_refl _))
 go_wp2_with fail
 refine(write_str w1 w.heap.size [] (enc1 n) HB1.out (by simp) HE.out).mono ?_;rintro e w2 ⟨rfl,hb2,h2,h2o⟩;have HB2:=hid hb2;clear hb2
 go_wp2_with fail
 rw[rounds_succ]
 go_wp2_with fail
 refine(builder_string w2 w.heap.size _ HB2.out).mono ?_;rintro e w3 ⟨rfl,h3⟩
 go_wp2_with fail
 go_ret;exact⟨rfl,((hb0.trans (h1.mono hb0.size)).trans h2).trans h3⟩
theorem ints0 (w:World):Calls prog 323 #[.slice none 0 0] w λe w'=>e=.returned (.string ⟨#[]⟩)/\Below w.heap.size w w':=by
 go_enter func323,ntmps323
 go_wp2_with fail
 have HB:=hid (IsB.new w);have hb0:Below w.heap.size w (w.alloc (.cells #[.pointer none,.slice none 0 0] 315)):=(Below.refl _ _).alloc (Nat.le_refl _) _;obtain⟨W,hW⟩:∃W,W=w.alloc (.cells #[.pointer none,.slice none 0 0] 315):=⟨_,rfl⟩;rw[<- hW]at HB hb0 ⊢;clear hW;refine wp_loop_rounds 1 ?_;rw[rounds_succ]
 go_wp2_with fail
 refine(builder_string W w.heap.size _ HB.out).mono ?_;rintro e w3 ⟨rfl,h3⟩
 go_wp2_with fail
 go_ret;exact⟨rfl,hb0.trans h3⟩
end
section
open Go.RowKit Go.Shelf
theorem ta_nil :∀w,(Instr.typeAssert .nilIface 20 32 true).run prog w=.ok (.tuple #[.int .i64 0,.bool false]) w:=λ_=>by kernel_rfl
theorem ta_err (x:Int):∀w,(Instr.typeAssert (.iface 32 (.int .i64 x)) 20 32 true).run prog w=.ok (.tuple #[.int .i64 x,.bool true]) w:=λ_=>by kernel_rfl
theorem nn_neq :∀w,(binOp BinOp.neq 20 .nilIface .nilIface).run prog w=.ok (.bool false) w:=λ_=>by kernel_rfl
theorem nn_eql :∀w,(binOp BinOp.eql 20 .nilIface .nilIface).run prog w=.ok (.bool true) w:=λ_=>by kernel_rfl
theorem ne_neq (x:Int):∀w,(binOp BinOp.neq 20 (.iface 32 (.int .i64 x)) .nilIface).run prog w=.ok (.bool true) w:=λ_=>by kernel_rfl
theorem ne_eql (x:Int):∀w,(binOp BinOp.eql 20 (.iface 32 (.int .i64 x)) .nilIface).run prog w=.ok (.bool false) w:=λ_=>by kernel_rfl
theorem gcatch_idle (g:Nat)(w:World)(hg:Blk w g 4 #[.bool true]) :
 CallsD prog 267 #[.pointer (some ⟨g,0,none⟩)] .returning w λe u' w'=>e=.returned (.tuple #[])/\u'=.returning/\w'=w.setCell ⟨g,0,none⟩ (.bool true):=by
 have h1:=ta_nil;have h2:=nn_neq;have h3:=nn_eql;have hz:=hg.frozen 0;have hc:=hg.cell 0;refine callsD_of_wpS func267 rfl λc₀ cs hu=>?_
 apply wpS_seq;apply wpS_region;simp[wpOpsS,go_sem,recoverD,hu,ntmps267,Exit.thenS];refine wpS_of_wp ?_;simp only[Array.replicate_succ,Array.replicate_zero,List.push_toArray,List.nil_append,List.cons_append]
 go_wp2_with fail
 clear h1 h2 h3 hz hc hg;cases c₀
 simp_all[bodyPostS,results,results267]
theorem set_same {w:World}{g:Nat}{b:Bool}(h:Blk w g 4 #[.bool b])(v:Bool):Blk (w.setCell ⟨g,0,none⟩ (.bool v)) g 4 #[.bool v]:=h.set_ 0 _
theorem gtry_ok (w:World)(k:Nat)(lb:Array Value)(R:World->Prop)(eg:∀args w,(callFunc k args).run prog w=.ok (.enter k args) w)
 (hf:Calls prog k lb (w.alloc (.cells #[.bool false] 4)) λe w'=>e=.returned (.tuple #[])/\R w') (hR:∀W,R W->Blk W w.heap.size 4 #[.bool false]) :
 Calls prog 217 #[.func (.func k) #[] lb] w λe w'=>e=.returned (.bool true)/\∃W,R W/\w'=(W.setCell ⟨w.heap.size,0,none⟩ (.bool true)).setCell ⟨w.heap.size,0,none⟩ (.bool true):=by
 have hmf:∀(fn:Fn) (first cap:Array Value) (w:World),(Instr.makeFunc fn first cap).run prog w=.ok (.func fn first cap) w:=λ_ _ _ _=>rfl
 go_enter_defers func217,ntmps217
 go_wp2_with fail
 refine hf.mono ?_;rintro e w1 ⟨rfl,hr⟩;have hb:=hR _ hr;have hz:=hb.frozen 0;have hc:=hb.cell 0;have hb2:=set_same hb true;have hc3:=(set_same hb2 true).cell 0
 go_wp2_with fail
 refine leaves_cons (f:=267) (args:=#[.pointer (some ⟨w.heap.size,0,none⟩)]) (by simp) (by simp[go_sem]) ?_;refine(gcatch_idle _ _ hb2).mono ?_;rintro e u' w'' ⟨rfl,rfl,rfl⟩;simp[Leaves,settle,results,results217,go_sem];rw[hc3];exact⟨_,rfl,rfl,w1,hr,rfl⟩
theorem ecatch_err (g:Nat)(b:Bool)(x:Int)(w:World)(hg:Blk w g 4 #[.bool b]) :
 CallsD prog 186 #[.pointer (some ⟨g,0,none⟩)] (.panicking ({ v:=.iface 32 (.int .i64 x),recovered:=false }::[])) w λe u' w'=>e=.returned (.tuple #[])/\u'=.panicking ({ v:=.iface 32 (.int .i64 x),recovered:=true }::[])/\w'=w.setCell ⟨g,0,none⟩ (.bool false):=by
 have h1:=ta_err x;have h2:=ne_neq x;have h3:=ne_eql x;have hz:=hg.frozen 0;have hc:=hg.cell 0;refine callsD_of_wpS func186 rfl λc₀ cs hu=>?_
 apply wpS_seq;apply wpS_region;simp[wpOpsS,go_sem,recoverD,hu,ntmps186,Exit.thenS];refine wpS_of_wp ?_;simp only[Array.replicate_succ,Array.replicate_zero,List.push_toArray,List.nil_append,List.cons_append]
 go_wp2_with fail
 clear h1 h2 h3 hz hc hg;cases c₀
 simp_all[bodyPostS,results,results186]
theorem etry_err (w:World)(k:Nat)(lb:Array Value)(x:Int)(R:World->Prop)(eg:∀args w,(callFunc k args).run prog w=.ok (.enter k args) w)
 (hf:Calls prog k lb (w.alloc (.cells #[.bool false] 4)) λe w'=>e=.panicked [{ v:=.iface 32 (.int .i64 x),recovered:=false }]/\R w') (hR:∀W,R W->Blk W w.heap.size 4 #[.bool false]) :
 Calls prog 125 #[.func (.func k) #[] lb] w λe w'=>e=.returned (.bool false)/\∃W,R W/\w'=W.setCell ⟨w.heap.size,0,none⟩ (.bool false):=by
 have hmf:∀(fn:Fn) (first cap:Array Value) (w:World),(Instr.makeFunc fn first cap).run prog w=.ok (.func fn first cap) w:=λ_ _ _ _=>rfl
 go_enter_defers func125,ntmps125
 go_wp2_with fail
 refine hf.mono ?_;rintro e w1 ⟨rfl,hr⟩;have hb:=hR _ hr;have hz:=hb.frozen 0;have hc:=hb.cell 0;have hc3:=(set_same hb false).cell 0
 go_wp2_with fail
 refine leaves_cons (f:=186) (args:=#[.pointer (some ⟨w.heap.size,0,none⟩)]) (by simp) (by simp[go_sem]) ?_;refine(ecatch_err _ false x _ hb).mono ?_;rintro e u' w'' ⟨rfl,rfl,rfl⟩;simp[Leaves,settle,results,results125,go_sem];rw[hc3];exact⟨_,rfl,rfl,w1,hr,rfl⟩
end
end Go.Proofs.YtnehgpeelgjjhaaGreatDoor.Tw
