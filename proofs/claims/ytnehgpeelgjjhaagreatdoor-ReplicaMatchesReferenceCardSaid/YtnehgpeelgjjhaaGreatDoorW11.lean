/- Contracts of functions of the program, and plain laws, towards the laws of replicas. Joined of the texts: RunL. -/
import Derived.Deep.RegionLaw
import Derived.Test.YtnehgpeelgjjhaaGreatDoorW10
set_option linter.all false
set_option maxRecDepth 100000
set_option maxHeartbeats 12800000
open Go.Lib (hid)
namespace Go.Proofs.YtnehgpeelgjjhaaGreatDoor.Tw
open Go.Proofs.Tryz
section
open Go.RowKit
def moK :Rp.Motion->Int
 | .write _ _=>1
 | .send _=>2
 | .deliver _ _=>3
def moW :Rp.Motion->Nat
 | .write w _=>w
 | .send w=>w
 | .deliver w _=>w
def moA :Rp.Motion->Nat
 | .deliver _ a=>a
 | _=>0
def moT :Rp.Motion->ByteArray
 | .write _ t=>t
 | _=>⟨#[]⟩
def moE (m:Rp.Motion):List Value:=[.int .i64 (moK m),.int .i64 (moW m),.int .i64 (moA m),.string (moT m)]
def encMo (l:List Rp.Motion):List Value:=l.flatMap moE
theorem encMo_get :∀(l:List Rp.Motion) (j:Nat) (p:Rp.Motion) (i:Nat),l[j]?=some p->i<4->(encMo l)[j*4+i]?=(moE p)[i]?
 | [],j,p,i,h,_=>by simp at h
 | q::l,0,p,i,h,hi=>by
   simp at h;subst h;show(moE q++encMo l)[0*4+i]?=_;rw[List.getElem?_append_left (by simp[moE];omega)];simp
 | q::l,j+1,p,i,h,hi=>by
   show(moE q++encMo l)[(j+1)*4+i]?=_;rw[List.getElem?_append_right (by simp[moE];omega)];have:(j+1)*4+i - (moE q).length=j*4+i:=by simp[moE];omega
   rw[this];exact encMo_get l j p i (by simpa using h) hi
theorem Reads.mo {w:World}{B n:Nat}{A:Option Addr}{l:List Rp.Motion}(h:Reads w B 4 A n (encMo l))(hl:l.length=n){j:Nat}(hj:j<n) :
 ∃b off p,A=some ⟨b,off,none⟩/\b<B/\l[j]?=some p/\w.cell? ⟨b,off+j*4,none⟩=some (.int .i64 (moK p))/\w.cell? ⟨b,off+j*4+1,none⟩=some (.int .i64 (moW p)) /\
  w.cell? ⟨b,off+j*4+2,none⟩=some (.int .i64 (moA p))/\w.cell? ⟨b,off+j*4+3,none⟩=some (.string (moT p)):=by
 obtain⟨b,off,e,hb,hc⟩:=h.2 (by omega);have hp:l[j]?=some l[j]:=List.getElem?_eq_getElem (by omega);refine⟨b,off,l[j],e,hb,hp,?_,?_,?_,?_⟩
 ·have:=hc (j*4+0) _ (encMo_get l j _ 0 hp (by omega));simpa using this
 ·have:=hc (j*4+1) _ (encMo_get l j _ 1 hp (by omega));simpa[Nat.add_assoc]using this
 ·have:=hc (j*4+2) _ (encMo_get l j _ 2 hp (by omega));simpa[Nat.add_assoc]using this
 ·have:=hc (j*4+3) _ (encMo_get l j _ 3 hp (by omega));simpa[Nat.add_assoc]using this
theorem okAll_at {k:Nat}{l:List Rp.Motion}(h:Rp.okAll k 0 l){j:Nat}{m:Rp.Motion}(hj:l[j]?=some m):m.ok k (Rp.sendsOf (l.take j))/\Rp.sendsOf (l.take (j+1))=Rp.sendsOf (l.take j)+m.sends:=by
 obtain⟨hlt,rfl⟩:=List.getElem?_eq_some_iff.1 hj;have h1:l=l.take j++l[j]::l.drop (j+1):=by rw[<- List.drop_eq_getElem_cons hlt,List.take_append_drop]
 have h2:l.take (j+1)=l.take j++[l[j]]:=by rw[List.take_add_one,List.getElem?_eq_getElem hlt];rfl
 have h3:Rp.okAll k 0 (l.take j++l[j]::l.drop (j+1)):=by rw[<- h1];exact h
 rw[Rp.okAll_append]at h3;refine⟨by have:=h3.2.1;simpa using this,?_⟩;rw[h2,Rp.sendsOf_append];show _+(l[j].sends+0)=_;omega
theorem sendsOf_take_le (l:List Rp.Motion):∀j,Rp.sendsOf (l.take j)<=j:=by
 have key:∀(l:List Rp.Motion),Rp.sendsOf l<=l.length:=by
  intro l
  induction l with
  | nil=>exact Nat.le_refl _
  | cons m l ih =>
    rw[Rp.sendsOf_cons];have:m.sends<=1:=by cases m<;>simp[Rp.Motion.sends]
    simp only[List.length_cons];omega
 intro j;have h1:=key (l.take j);have h2:(l.take j).length<=j:=by rw[List.length_take];omega
 omega
theorem start_reps {k:Nat}(hk:1<=k)(hk5:k<=5):(Rp.start k).reps=(List.range k).map (fun(o:Nat)=>(⟨o,k,0,[],List.replicate k 0⟩:Rp.Rep)):=by
 show(List.range k).map (fun(i:Nat)=>(Rp.newRep (i:Int) (k:Int)).getD default)=_;refine List.map_congr_left λa ha=>?_
 rw[Rp.newRep_some hk hk5 (List.mem_range.1 ha)];rfl
theorem runs_succ {k:Nat}{l:List Rp.Motion}{j:Nat}{m:Rp.Motion}(h:l[j]?=some m):Rp.runs k (l.take (j+1))=Rp.act (Rp.runs k (l.take j)) m:=by
 have h2:l.take (j+1)=l.take j++[m]:=by rw[List.take_add_one,h];rfl
 rw[h2];unfold Rp.runs;rw[List.foldl_append];rfl
theorem runs_ok {k:Nat}{l:List Rp.Motion}(hk:1<=k)(hk5:k<=5)(hok:Rp.okAll k 0 l)(hB:Rp.writesOf l+1<=200)(j:Nat) :
 (Rp.runs k (l.take j)).reps.length=k/\(∀i,i<k->Rp.valid ((Rp.runs k (l.take j)).rep i)=true)/\(Rp.runs k (l.take j)).msgs.length=Rp.sendsOf (l.take j):=by
 have h1:=Rp.start_inv hk hk5;have h2:=Rp.writesOf_take l j;have r:=Rp.ran (l.take j) h1.1 h1.2 (Rp.okAll_take j hok) (by omega);refine⟨r.inv.len,λi hi=>(r.inv.rep i hi).1,?_⟩;have:=r.sent;rw[show(Rp.start k).msgs.length=0 from rfl,Nat.zero_add]at this;exact this
theorem info26 :(prog.info? 26).map (λi=>(i.zero,i.size,i.bytes))=some (some (.agg #[.int .i64 0,.int .i64 0,.int .i64 0,.slice none 0 0,.slice none 0 0]),5,72):=by kernel_rfl
theorem fn_eql (f:FuncId)(w:World):(binOp .eql 113 (.func (.func f) #[] #[]) .nilFunc).run prog w=.ok (.bool false) w:=by kernel_rfl
theorem Blk.cells4 {w:World}{g:Nat}{t:TypeId}{a b c d:Value}(h:Blk w g t #[a,b,c,d]) :
 w.cell? ⟨g,0,none⟩=some a/\w.cell? ⟨g,1,none⟩=some b/\w.cell? ⟨g,2,none⟩=some c/\w.cell? ⟨g,3,none⟩=some d:=⟨h.cell 0,h.cell 1,h.cell 2,h.cell 3⟩
theorem run_any (w:World)(A:Option Addr)(L c k:Nat)(l:List Rp.Motion)(hx:Reads w w.heap.size 4 A L (encMo l))(hl:l.length=L)(hk1:1<=k)(hk5:k<=5)(hL:L<=300)(hok:Rp.okAll k 0 l)(hB:Rp.writesOf l+1<=200) :
 Calls prog 29 #[.int .i64 k,.slice A L c] w λe w'=>∃va rl vb ml,e=.returned (.tuple #[va,.int .i64 0])/\RunR w.heap.size w' w.heap.size va rl vb ml/\(Rp.runs k l).reps=rl.map (·.r)/\Below w.heap.size w w':=by
 obtain⟨i0,hi0,hz0,hz1,hz2⟩:=info_parts info26;have HX:=hid hx;have HL:=hid hl;have HO:=hid hok;have HWr:=hid hB;clear hx hl hok hB;have hin0:Rp.inr (k:Int) 1 5=true:=Rp.inr_iff.2 (by omega);have hk':(1:Int)<=(k:Int):=by omega
 go_enter func29,ntmps29
 go_wp2_with (go_at_call 54;refine(inr_any _ _ _ _).mono ?_;rintro e _ ⟨rfl,rfl⟩;rw[hin0])
 go_loopw [29,7] (λq sv wr=>∃j:Nat,j<=L/\q=.int .i64 j/\sv=.int .i64 (Rp.sendsOf (l.take j))/\Below w.heap.size w wr/\Blk wr w.heap.size 112 #[.slice none 0 0,.slice none 0 0]) (λq _ _=>L - (intOf q).toNat)
 case atStart=>exact⟨0,by omega,rfl,rfl,(Below.refl _ _).alloc (Nat.le_refl _) _,Blk.new _ _ _⟩
 case round =>
  obtain⟨j,hj,rfl,rfl,hb,hB⟩:=hrel
  by_cases hlt:j<L
  ·obtain⟨b,off,m,rfl,hbl,hq,h0,h1,h2,h3⟩:=HX.out.mo HL.out hlt
   rw[<- hb.cell (p:=⟨b,_,none⟩) hbl]at h0 h1 h2 h3;obtain⟨hmo,hms⟩:=okAll_at HO.out hq;have hle:=sendsOf_take_le l j;obtain⟨sj,hsj⟩:∃sj,sj=Rp.sendsOf (l.take j):=⟨_,rfl⟩;rw[<- hsj]at hmo hms hle;have HSJ:=hid hsj;have HMS:=hid hms;rw[<- hsj];clear hms hq hsj;obtain⟨W1,hW1⟩:∃W1,W1=wr.alloc (.cells #[.int .i64 (moK m),.int .i64 (moW m),.int .i64 (moA m),.string (moT m)] 64):=⟨_,rfl⟩;have hb1:Below wr.heap.size wr W1:=by rw[hW1];exact(Below.refl _ _).alloc (Nat.le_refl _) _
   have hG1:Blk W1 wr.heap.size 64 #[.int .i64 (moK m),.int .i64 (moW m),.int .i64 (moA m),.string (moT m)]:=by rw[hW1];exact Blk.new _ _ _
   have HW1:=hid hW1;clear hW1;cases m with
   | write who t =>
     simp only[moK,moW,moA,moT]at hG1 h0 h1 h2 h3;have hG1:Blk W1 wr.heap.size 64 #[.int .i64 1,.int .i64 who,.int .i64 0,.string t]:=hG1;have hwk:who<k:=hmo.1;have hin1:Rp.inr (who:Int) 0 ((k:Int) - 1)=true:=Rp.inr_iff.2 (by omega);have htx:(t.size:Int)<=20000:=by have:=hmo.2;omega
     have hin2:True:=trivial;obtain⟨d0,d1,d2,d3⟩:=hG1.cells4;have kd0:=Later.of d0;go_wp2;have HWx:W1=wr.alloc (.cells #[.int .i64 1,.int .i64 who,.int .i64 0,.string t] 64):=HW1.out;rw[<- HWx];clear HWx;refine wp_region_later (by kernel_rfl) (by kernel_rfl) ?_
     repeat(go_big_quiet_step (fail))
     refine wpQuiet_nil ?_;rintro W2 ⟨⟨_,hW2⟩,rfl⟩;have hG2:=hG1.below hW2 hG1.lt;clear d0 d1 d2 d3 kd0;obtain⟨d0,d1,d2,d3⟩:=hG2.cells4;have hb02:=hb1.trans (hW2.mono hb1.size);have hBx:=hB.below hb02 hB.lt;go_wp2;have hfe:=fn_eql 91
     go_region_held3 (λw'=>w'.cell? ⟨wr.heap.size,0,none⟩=some (.int .i64 1))
      (go_keep)
      (first
        | (go_at_call 68
           refine(motions_any _).mono ?_;rintro e w4 ⟨rfl,hT,hb4⟩;have hb24:Below W2.heap.size W2 w4:=(Below.refl _ _).drew.trans hb4;have k0:=(hb24.cell (p:=⟨wr.heap.size,0,none⟩) hG2.lt).trans d0;have hlook:(Instr.lookup 114 (.map (some W2.heap.size)) (.int .i64 1) false).run prog w4=.ok (.func (.func 91) #[] #[]) w4:=(table_look hT).1))
     have hG4:=hG2.below hb24 hG2.lt;have hB4:=hBx.below hb24 hBx.lt;have hb04:=hb02.trans (hb24.mono hb02.size);clear d0 d1 d2 d3 hlook hT;obtain⟨d0,d1,d2,d3⟩:=hG4.cells4
     go_wp2_with (go_at_call 54;refine(inr_any _ _ _ _).mono ?_;rintro e _ ⟨rfl,rfl⟩;first|rw[hin1]|rw[hin2])
     go_roundw
     case rel=>exact⟨j+1,by omega,by go_num,by rw[HMS.out];simp[Rp.Motion.sends],hb.trans (hb04.mono hb.size),hB4⟩
     case measure=>simp[intOf];omega
   | send who =>
     simp only[moK,moW,moA,moT]at hG1 h0 h1 h2 h3;have hG1:Blk W1 wr.heap.size 64 #[.int .i64 2,.int .i64 who,.int .i64 0,.string ⟨#[]⟩]:=hG1;have hwk:who<k:=hmo;have hin1:Rp.inr (who:Int) 0 ((k:Int) - 1)=true:=Rp.inr_iff.2 (by omega);have hin2:True:=trivial;obtain⟨d0,d1,d2,d3⟩:=hG1.cells4;have kd0:=Later.of d0;go_wp2;have HWx:W1=wr.alloc (.cells #[.int .i64 2,.int .i64 who,.int .i64 0,.string ⟨#[]⟩] 64):=HW1.out;rw[<- HWx];clear HWx;refine wp_region_later (by kernel_rfl) (by kernel_rfl) ?_
     repeat(go_big_quiet_step (fail))
     refine wpQuiet_nil ?_;rintro W2 ⟨⟨_,hW2⟩,rfl⟩;have hG2:=hG1.below hW2 hG1.lt;clear d0 d1 d2 d3 kd0;obtain⟨d0,d1,d2,d3⟩:=hG2.cells4;have hb02:=hb1.trans (hW2.mono hb1.size);have hBx:=hB.below hb02 hB.lt;go_wp2;have hfe:=fn_eql 92
     go_region_held3 (λw'=>w'.cell? ⟨wr.heap.size,0,none⟩=some (.int .i64 2))
      (go_keep)
      (first
        | (go_at_call 68
           refine(motions_any _).mono ?_;rintro e w4 ⟨rfl,hT,hb4⟩;have hb24:Below W2.heap.size W2 w4:=(Below.refl _ _).drew.trans hb4;have k0:=(hb24.cell (p:=⟨wr.heap.size,0,none⟩) hG2.lt).trans d0;have hlook:(Instr.lookup 114 (.map (some W2.heap.size)) (.int .i64 2) false).run prog w4=.ok (.func (.func 92) #[] #[]) w4:=(table_look hT).2.1))
     have hG4:=hG2.below hb24 hG2.lt;have hB4:=hBx.below hb24 hBx.lt;have hb04:=hb02.trans (hb24.mono hb02.size);clear d0 d1 d2 d3 hlook hT;obtain⟨d0,d1,d2,d3⟩:=hG4.cells4
     go_wp2_with (go_at_call 54;refine(inr_any _ _ _ _).mono ?_;rintro e _ ⟨rfl,rfl⟩;first|rw[hin1]|rw[hin2])
     go_roundw
     case rel=>exact⟨j+1,by omega,by go_num,by rw[HMS.out];simp[Rp.Motion.sends],hb.trans (hb04.mono hb.size),hB4⟩
     case measure=>simp[intOf];omega
   | deliver who a =>
     simp only[moK,moW,moA,moT]at hG1 h0 h1 h2 h3;have hG1:Blk W1 wr.heap.size 64 #[.int .i64 3,.int .i64 who,.int .i64 a,.string ⟨#[]⟩]:=hG1;have hwk:who<k:=hmo.1;have hin1:Rp.inr (who:Int) 0 ((k:Int) - 1)=true:=Rp.inr_iff.2 (by omega);have hin2:Rp.inr (a:Int) 0 ((sj:Int) - 1)=true:=Rp.inr_iff.2 (by have:=hmo.2;omega);obtain⟨d0,d1,d2,d3⟩:=hG1.cells4;have kd0:=Later.of d0;go_wp2;have HWx:W1=wr.alloc (.cells #[.int .i64 3,.int .i64 who,.int .i64 a,.string ⟨#[]⟩] 64):=HW1.out;rw[<- HWx];clear HWx;refine wp_region_later (by kernel_rfl) (by kernel_rfl) ?_
     repeat(go_big_quiet_step (fail))
     refine wpQuiet_nil ?_;rintro W2 ⟨⟨_,hW2⟩,rfl⟩;have hG2:=hG1.below hW2 hG1.lt;clear d0 d1 d2 d3 kd0;obtain⟨d0,d1,d2,d3⟩:=hG2.cells4;have hb02:=hb1.trans (hW2.mono hb1.size);have hBx:=hB.below hb02 hB.lt;go_wp2;have hfe:=fn_eql 93
     go_region_held3 (λw'=>w'.cell? ⟨wr.heap.size,0,none⟩=some (.int .i64 3))
      (go_keep)
      (first
        | (go_at_call 68
           refine(motions_any _).mono ?_;rintro e w4 ⟨rfl,hT,hb4⟩;have hb24:Below W2.heap.size W2 w4:=(Below.refl _ _).drew.trans hb4;have k0:=(hb24.cell (p:=⟨wr.heap.size,0,none⟩) hG2.lt).trans d0;have hlook:(Instr.lookup 114 (.map (some W2.heap.size)) (.int .i64 3) false).run prog w4=.ok (.func (.func 93) #[] #[]) w4:=(table_look hT).2.2))
     have hG4:=hG2.below hb24 hG2.lt;have hB4:=hBx.below hb24 hBx.lt;have hb04:=hb02.trans (hb24.mono hb02.size);clear d0 d1 d2 d3 hlook hT;obtain⟨d0,d1,d2,d3⟩:=hG4.cells4
     go_wp2_with (go_at_call 54;refine(inr_any _ _ _ _).mono ?_;rintro e _ ⟨rfl,rfl⟩;first|rw[hin1]|rw[hin2])
     go_roundw
     case rel=>exact⟨j+1,by omega,by go_num,by rw[HMS.out];simp[Rp.Motion.sends],hb.trans (hb04.mono hb.size),hB4⟩
     case measure=>simp[intOf];omega
  ·have hjn:j=L:=by omega
   subst hjn;have HR0:=hid (show RunR w.heap.size wr w.heap.size (.slice none 0 0) [] (.slice none 0 0) []from
    ⟨hB,World.ownsRow_nil _ _ _ _,World.ownsRow_nil _ _ _ _,(λv h=>by cases h),(λv h=>by cases h),Nat.le_refl _,(λv h=>by cases h)⟩)
   have HB0:=hid hb;clear hB hb;go_wp2
   go_loopw [86] (λq wr=>∃(i:Nat) (va:Value) (rl:List RV),i<=k/\q=.int .i64 i/\RunR w.heap.size wr w.heap.size va rl (.slice none 0 0) []/\rl.map (·.r)=(List.range i).map (fun(o:Nat)=>(⟨o,k,0,[],List.replicate k 0⟩:Rp.Rep))/\Below w.heap.size w wr) (λq _=>k - (intOf q).toNat)
   case atStart=>exact⟨0,_,[],by omega,rfl,HR0.out,rfl,HB0.out⟩
   case round =>
    obtain⟨i,va,rl,hi,rfl,hR,hrl,hb⟩:=hrel
    by_cases hlt2:i<k
    ·have hnew:=new_any wr i k
     rw[Rp.newRep_some hk1 hk5 hlt2]at hnew;unfold GotRep repV at hnew;simp only at hnew;have HNew:=hid hnew;have HR:=hid hR;have HRL:=hid hrl;have HB:=hid hb;have hxl:=hR.blk.lt;have hll:rl.length=i:=by have:=congrArg List.length hrl;simpa using this
     have hrl5:rl.length<=5:=by omega
     clear hll;clear hnew hR hrl hb
     go_wp2_with (go_at_call 27;refine HNew.out.mono ?_;rintro e w4 ⟨hb4,A5,n5,c5,A6,n6,c6,rfl,hR4,hF5,hF6,hcv⟩)
     obtain⟨W5,hW5⟩:∃W5,W5=w4.alloc (.cells #[.int .i64 i,.int .i64 k,.int .i64 0,.slice A5 n5 c5,.slice A6 n6 c6] 26):=⟨_,rfl⟩;rw[<- hW5];have hs4:=hb4.size;have hB5:Blk W5 w4.heap.size 26 #[.int .i64 i,.int .i64 k,.int .i64 0,.slice A5 n5 c5,.slice A6 n6 c6]:=by rw[hW5];exact Blk.new _ _ _
     have hb5:Below wr.heap.size wr W5:=by rw[hW5];exact hb4.alloc hs4 _
     have hR5:RepR W5 W5.heap.size ⟨i,k,0,[],List.replicate k 0⟩ A5 n5 A6 n6:=by
      rw[hW5];exact(hR4.below ((Below.refl _ _).alloc (Nat.le_refl _) _)).more (by simp)
     have HA5:=hid (Fresh.apart (n:=n5) HR.out hF5);have HA6:=hid (Fresh.apart (n:=n6) HR.out hF6);have HS6:=hid (HR.out.keep hb5);have HQ6:=hid hR5;have HB6:=hid (HB.out.trans (hb5.mono HB.out.size));clear hW5 hR5 hb5 hR4 hF5 hF6 hb4;obtain⟨g0,g1,g2,g3,g4⟩:=hB5.cells5;have x6:=HS6.out.blk.cell 0;simp only[List.getElem?_toArray,List.getElem?_cons_zero]at x6;have xf:=HS6.out.blk.frozen 0;obtain⟨Ab,cb,rfl,hcb⟩:=own_slice HS6.out.reps;have x6a:∀o,(W5.alloc o).cell? ⟨w.heap.size,0,none⟩=some (.slice Ab rl.length cb):=λo=>(World.cell?_alloc_some W5 _ o (by rw[x6];rfl)).trans x6
     have hxG:w.heap.size≠w4.heap.size:=by omega
     have hxG':=hxG.symm;have hx6:w.heap.size<W5.heap.size:=HS6.out.blk.lt;have hG26:w4.heap.size<W5.heap.size:=hB5.lt;have hB6s:w.heap.size<=W5.heap.size:=HB6.out.size;have N1:Hid (some w.heap.size≠(Value.slice Ab rl.length cb).ownBlock):=hid (λe=>own_ne_blk HS6.out.reps HS6.out.blk (by decide) e.symm);have N2:Hid (some w4.heap.size≠(Value.slice Ab rl.length cb).ownBlock):=hid (λe=>by have:=(HR.out.reps.lt _ e.symm).2;omega);go_wp2
     go_region_law (first
      | (refine step_append_lies _ (by rfl) _ _ _ (by rfl) w.heap.size 26 i0 _ 5 72 underlying31 hi0 hz0 hz1 hz2 rfl (by omega) (.slice Ab rl.length cb) rl.length (encRs rl) (by rfl) ((HS6.out.reps.alloc _).drew)
          ⟨W5.heap.size,0,none⟩ 1 1 [.int .i64 i,.int .i64 k,.int .i64 0,.slice A5 n5 c5,.slice A6 n6 c6] (by rfl) (by rfl)
          (World.news_of_block (cs:=#[.int .i64 i,.int .i64 k,.int .i64 0,.slice A5 n5 c5,.slice A6 n6 c6]) (t:=26) (fr:=(0,0)) (heap_alloc_new W5 _)) (by simp[Value.oneCell'])
          (by omega) (by simp only[maxLen];omega) (by omega) (by simp;omega) (W5.heap.size+1) (by simp) ?_
         intro g' cap' w7 hown7 hgrow hat hlt7;have hb7:=(Below.refl W5.heap.size W5).alloc (Nat.le_refl _) (.cells #[.int .i64 i,.int .i64 k,.int .i64 0,.slice A5 n5 c5,.slice A6 n6 c6] 26);have j0:=(hgrow.cell_far ⟨w4.heap.size,0,none⟩ (by simp;omega) N2.out).trans ((hb7.cell (p:=⟨w4.heap.size,0,none⟩) hG26).trans g0);have j1:=(hgrow.cell_far ⟨w4.heap.size,1,none⟩ (by simp;omega) N2.out).trans ((hb7.cell (p:=⟨w4.heap.size,1,none⟩) hG26).trans g1);have j2:=(hgrow.cell_far ⟨w4.heap.size,2,none⟩ (by simp;omega) N2.out).trans ((hb7.cell (p:=⟨w4.heap.size,2,none⟩) hG26).trans g2);have j3:=(hgrow.cell_far ⟨w4.heap.size,3,none⟩ (by simp;omega) N2.out).trans ((hb7.cell (p:=⟨w4.heap.size,3,none⟩) hG26).trans g3);have j4:=(hgrow.cell_far ⟨w4.heap.size,4,none⟩ (by simp;omega) N2.out).trans ((hb7.cell (p:=⟨w4.heap.size,4,none⟩) hG26).trans g4);have jx:=(hgrow.cell_far ⟨w.heap.size,0,none⟩ (by simp;omega) N1.out).trans ((hb7.cell (p:=⟨w.heap.size,0,none⟩) hx6).trans x6);have jf:=(hgrow.frozen_far ⟨w.heap.size,0,none⟩ (by simp;omega) N1.out).trans ((hb7.frozen (p:=⟨w.heap.size,0,none⟩) hx6).trans xf)))
     all_goals
      have HPush:=hid (HS6.out.pushRep ⟨⟨i,k,0,[],List.replicate k 0⟩,A5,n5,c5,A6,n6,c6⟩ HQ6.out HA5.out HA6.out hcv (((Below.refl W5.heap.size W5).alloc (Nat.le_refl _) (.cells #[.int .i64 i,.int .i64 k,.int .i64 0,.slice A5 n5 c5,.slice A6 n6 c6] 26)).drew) hgrow hown7 (hat.imp id (λh=>by simp at h ⊢;omega)));have hfin:Below w.heap.size w (w7.setCell ⟨w.heap.size,0,none⟩ (.slice (some ⟨g',0,none⟩) (rl.length+1) cap')) :=
       ((((HB6.out).alloc hB6s (.cells #[.int .i64 i,.int .i64 k,.int .i64 0,.slice A5 n5 c5,.slice A6 n6 c6] 26)).drew).grown hgrow (by simp;omega) (λj hj=>(HS6.out.reps.lt j hj).1)).setCell (p:=⟨w.heap.size,0,none⟩) (Nat.le_refl _) _
      have HFin:=hid hfin;clear hfin hown7 hgrow hat;go_wp2;go_roundw
      case rel=>exact⟨i+1,_,_,by omega,by go_num,HPush.out,by rw[List.map_append,HRL.out,List.range_succ,List.map_append];rfl,HFin.out⟩
      case measure=>simp[intOf];omega
    ·have hik:i=k:=by omega
     subst hik;have HS0:=hid (show RunR w.heap.size wr w.heap.size va rl (.slice none 0 0) []/\(Rp.runs i (l.take 0)).reps=rl.map (·.r)/\(Rp.runs i (l.take 0)).msgs=([]:List MV).map (·.m)/\Below w.heap.size w wr from
      ⟨hR,(start_reps hk1 hk5).trans hrl.symm,rfl,hb⟩)
     clear hR hrl hb;go_wp2
     go_loopw [108] (λq wr=>∃(j':Nat) (va:Value) (rl:List RV) (vb:Value) (ml:List MV),j'<=j/\q=.int .i64 j'/\RunR w.heap.size wr w.heap.size va rl vb ml/\(Rp.runs i (l.take j')).reps=rl.map (·.r)/\(Rp.runs i (l.take j')).msgs=ml.map (·.m)/\Below w.heap.size w wr) (λq _=>j - (intOf q).toNat)
     case atStart=>exact⟨0,va,rl,_,[],by omega,rfl,HS0.out⟩
     case round =>
      obtain⟨t,va,rl,vb,ml,ht,rfl,hR,hs,hm,hb⟩:=hrel
      by_cases hlt3:t<j
      ·obtain⟨b,off,m,rfl,hbl,hq,h0,h1,h2,h3⟩:=HX.out.mo HL.out hlt3
       rw[<- hb.cell (p:=⟨b,_,none⟩) hbl]at h0 h1 h2 h3;obtain⟨hmo,hms⟩:=okAll_at HO.out hq;obtain⟨r1,r2,r3⟩:=runs_ok hk1 hk5 HO.out HWr.out t;have hlen:rl.length=i:=by have:=congrArg List.length hs;simp only[List.length_map]at this;omega
       have hmlen:ml.length=Rp.sendsOf (l.take t):=by have:=congrArg List.length hm;simp only[List.length_map]at this;omega
       have hle:=sendsOf_take_le l t;have HSu:=hid (runs_succ (k:=i) hq);obtain⟨W1,hW1⟩:∃W1,W1=wr.alloc (.cells #[.int .i64 (moK m),.int .i64 (moW m),.int .i64 (moA m),.string (moT m)] 64):=⟨_,rfl⟩;have hb1:Below wr.heap.size wr W1:=by rw[hW1];exact(Below.refl _ _).alloc (Nat.le_refl _) _
       have hG1:Blk W1 wr.heap.size 64 #[.int .i64 (moK m),.int .i64 (moW m),.int .i64 (moA m),.string (moT m)]:=by rw[hW1];exact Blk.new _ _ _
       have hacts:∀W',Below W1.heap.size W1 W'->Calls prog (moF m) #[.pointer (some ⟨w.heap.size,0,none⟩),.agg (moC m).toArray] W' λe W''=>(∃u,e=.returned u)/\Below w.heap.size W' W'' /\
        ∃rl' vb' ml',RunR w.heap.size W'' w.heap.size va rl' vb' ml'/\(Rp.act (Rp.runs i (l.take t)) m).reps=rl'.map (·.r)/\(Rp.act (Rp.runs i (l.take t)) m).msgs=ml'.map (·.m):=λW' hq' =>
        act_any w.heap.size w.heap.size W' va rl vb ml (Rp.runs i (l.take t)) i m (hR.keep (hb1.trans (hq'.mono hb1.size))) hs hm hlen hk5 (by rw[hmlen];exact hmo) (by omega) r2
       have HAct:=hid hacts;have HW1:=hid hW1;have HBw:=hid (hb.trans (hb1.mono hb.size));clear hacts hW1 hmo hms hs hm r1 r2 r3 hlen hmlen hle hR;cases m with
       | write who t' =>
         have hG1:Blk W1 wr.heap.size 64 #[.int .i64 1,.int .i64 who,.int .i64 0,.string t']:=hG1;simp only[moK,moW,moA,moT]at h0 h1 h2 h3;have hact:∀W',Below W1.heap.size W1 W'->Calls prog 91 #[.pointer (some ⟨w.heap.size,0,none⟩),.agg #[.int .i64 1,.int .i64 who,.int .i64 0,.string t']] W' _:=λW' hq=>HAct.out W' hq
         have HAc:=hid hact;clear hact;obtain⟨d0,d1,d2,d3⟩:=hG1.cells4;go_wp2;have HWx:W1=wr.alloc (.cells #[.int .i64 1,.int .i64 who,.int .i64 0,.string t'] 64):=HW1.out;rw[<- HWx];clear HWx
         go_region_with (first
          | (go_at_call 68
             refine(motions_any _).mono ?_;rintro e w4 ⟨rfl,hT,hb4⟩;have hb24:Below W1.heap.size W1 w4:=(Below.refl _ _).drew.trans hb4;have k0:=(hb24.cell (p:=⟨wr.heap.size,0,none⟩) hG1.lt).trans d0;have k1:=(hb24.cell (p:=⟨wr.heap.size,1,none⟩) hG1.lt).trans d1;have k2:=(hb24.cell (p:=⟨wr.heap.size,2,none⟩) hG1.lt).trans d2;have k3:=(hb24.cell (p:=⟨wr.heap.size,3,none⟩) hG1.lt).trans d3;have hlook:(Instr.lookup 114 (.map (some W1.heap.size)) (.int .i64 1) false).run prog w4=.ok (.func (.func 91) #[] #[]) w4:=(table_look hT).1)
          | (go_at_call 91
             refine(HAc.out _ hb24).mono ?_;rintro e w6 ⟨⟨u,rfl⟩,hb6,rl',vb',ml',hR',hs',hm'⟩))
         all_goals
          have hfin:=(HBw.out.trans (hb24.mono HBw.out.size)).trans hb6;have HRS:=hid (And.intro hR' (And.intro (HSu.out▸hs') (And.intro (HSu.out▸hm') hfin)):RunR w.heap.size w6 w.heap.size va rl' vb' ml'/\(Rp.runs i (l.take (t+1))).reps=rl'.map (·.r)/\(Rp.runs i (l.take (t+1))).msgs=ml'.map (·.m)/\Below w.heap.size w w6);clear hR' hs' hm' hfin hlook hT;go_wp2;go_roundw
          case rel=>exact⟨t+1,va,rl',vb',ml',by omega,by go_num,HRS.out⟩
          case measure=>simp[intOf];omega
       | send who =>
         have hG1:Blk W1 wr.heap.size 64 #[.int .i64 2,.int .i64 who,.int .i64 0,.string ⟨#[]⟩]:=hG1;simp only[moK,moW,moA,moT]at h0 h1 h2 h3;have hact:∀W',Below W1.heap.size W1 W'->Calls prog 92 #[.pointer (some ⟨w.heap.size,0,none⟩),.agg #[.int .i64 2,.int .i64 who,.int .i64 0,.string ⟨#[]⟩]] W' _:=λW' hq=>HAct.out W' hq
         have HAc:=hid hact;clear hact;obtain⟨d0,d1,d2,d3⟩:=hG1.cells4;go_wp2;have HWx:W1=wr.alloc (.cells #[.int .i64 2,.int .i64 who,.int .i64 0,.string ⟨#[]⟩] 64):=HW1.out;rw[<- HWx];clear HWx
         go_region_with (first
          | (go_at_call 68
             refine(motions_any _).mono ?_;rintro e w4 ⟨rfl,hT,hb4⟩;have hb24:Below W1.heap.size W1 w4:=(Below.refl _ _).drew.trans hb4;have k0:=(hb24.cell (p:=⟨wr.heap.size,0,none⟩) hG1.lt).trans d0;have k1:=(hb24.cell (p:=⟨wr.heap.size,1,none⟩) hG1.lt).trans d1;have k2:=(hb24.cell (p:=⟨wr.heap.size,2,none⟩) hG1.lt).trans d2;have k3:=(hb24.cell (p:=⟨wr.heap.size,3,none⟩) hG1.lt).trans d3;have hlook:(Instr.lookup 114 (.map (some W1.heap.size)) (.int .i64 2) false).run prog w4=.ok (.func (.func 92) #[] #[]) w4:=(table_look hT).2.1)
          | (go_at_call 92
             refine(HAc.out _ hb24).mono ?_;rintro e w6 ⟨⟨u,rfl⟩,hb6,rl',vb',ml',hR',hs',hm'⟩))
         all_goals
          have hfin:=(HBw.out.trans (hb24.mono HBw.out.size)).trans hb6;have HRS:=hid (And.intro hR' (And.intro (HSu.out▸hs') (And.intro (HSu.out▸hm') hfin)):RunR w.heap.size w6 w.heap.size va rl' vb' ml'/\(Rp.runs i (l.take (t+1))).reps=rl'.map (·.r)/\(Rp.runs i (l.take (t+1))).msgs=ml'.map (·.m)/\Below w.heap.size w w6);clear hR' hs' hm' hfin hlook hT;go_wp2;go_roundw
          case rel=>exact⟨t+1,va,rl',vb',ml',by omega,by go_num,HRS.out⟩
          case measure=>simp[intOf];omega
       | deliver who a =>
         have hG1:Blk W1 wr.heap.size 64 #[.int .i64 3,.int .i64 who,.int .i64 a,.string ⟨#[]⟩]:=hG1;simp only[moK,moW,moA,moT]at h0 h1 h2 h3;have hact:∀W',Below W1.heap.size W1 W'->Calls prog 93 #[.pointer (some ⟨w.heap.size,0,none⟩),.agg #[.int .i64 3,.int .i64 who,.int .i64 a,.string ⟨#[]⟩]] W' _:=λW' hq=>HAct.out W' hq
         have HAc:=hid hact;clear hact;obtain⟨d0,d1,d2,d3⟩:=hG1.cells4;go_wp2;have HWx:W1=wr.alloc (.cells #[.int .i64 3,.int .i64 who,.int .i64 a,.string ⟨#[]⟩] 64):=HW1.out;rw[<- HWx];clear HWx
         go_region_with (first
          | (go_at_call 68
             refine(motions_any _).mono ?_;rintro e w4 ⟨rfl,hT,hb4⟩;have hb24:Below W1.heap.size W1 w4:=(Below.refl _ _).drew.trans hb4;have k0:=(hb24.cell (p:=⟨wr.heap.size,0,none⟩) hG1.lt).trans d0;have k1:=(hb24.cell (p:=⟨wr.heap.size,1,none⟩) hG1.lt).trans d1;have k2:=(hb24.cell (p:=⟨wr.heap.size,2,none⟩) hG1.lt).trans d2;have k3:=(hb24.cell (p:=⟨wr.heap.size,3,none⟩) hG1.lt).trans d3;have hlook:(Instr.lookup 114 (.map (some W1.heap.size)) (.int .i64 3) false).run prog w4=.ok (.func (.func 93) #[] #[]) w4:=(table_look hT).2.2)
          | (go_at_call 93
             refine(HAc.out _ hb24).mono ?_;rintro e w6 ⟨⟨u,rfl⟩,hb6,rl',vb',ml',hR',hs',hm'⟩))
         all_goals
          have hfin:=(HBw.out.trans (hb24.mono HBw.out.size)).trans hb6;have HRS:=hid (And.intro hR' (And.intro (HSu.out▸hs') (And.intro (HSu.out▸hm') hfin)):RunR w.heap.size w6 w.heap.size va rl' vb' ml'/\(Rp.runs i (l.take (t+1))).reps=rl'.map (·.r)/\(Rp.runs i (l.take (t+1))).msgs=ml'.map (·.m)/\Below w.heap.size w w6);clear hR' hs' hm' hfin hlook hT;go_wp2;go_roundw
          case rel=>exact⟨t+1,va,rl',vb',ml',by omega,by go_num,HRS.out⟩
          case measure=>simp[intOf];omega
      ·have hjt:t=j:=by omega
       subst hjt;have HFin:=hid (show RunR w.heap.size wr w.heap.size va rl vb ml/\(Rp.runs i l).reps=rl.map (·.r)/\Below w.heap.size w wr from⟨hR,by rw[List.take_of_length_le (Nat.le_of_eq HL.out)]at hs;exact hs,hb⟩);have x7:=hR.blk.cell 0;simp only[List.getElem?_toArray,List.getElem?_cons_zero]at x7;clear hR hs hm hb;go_wp2;refine bodyPost_ret (v:=.tuple #[va,.int .i64 0]) (by simp[results,results29,go_sem]) rfl ?_;exact⟨va,rl,vb,ml,rfl,HFin.out⟩
end
end Go.Proofs.YtnehgpeelgjjhaaGreatDoor.Tw
