/- Contracts of functions of the program, and plain laws, towards the laws of replicas. Joined of the texts: LooseIn, New, Counts, Stable, Write, Tell, Peq, Equal, Same. -/
import Derived.Test.YtnehgpeelgjjhaaGreatDoorW04
import Derived.OrdersIn
import Derived.TacticsIn
import Derived.Test.YtnehgpeelgjjhaaGreatDoorW05
import Derived.Deep.Cut
set_option linter.all false
set_option maxRecDepth 100000
set_option maxHeartbeats 12800000
open Go.Lib (hid)
namespace Go.Loose
open Go Go.RowKit Go.Proofs.YtnehgpeelgjjhaaGreatDoor.Tw
section
variable {P:Program} {ops:Array Oper} {md:Region.Mode} {C:World->Prop} {V:Nat->Option (Value->World->Prop)} {Q:Act->(World->Prop)->Prop} {L L':Nat->Bool} {n:Nat}
theorem wpIn_of_val {o:Oper}{a:Act}{w:World}{u:Value}{K:Act->World->Prop}{Q':Exit->Act->World->Prop}(h:valAt P o a w u)(hK:K (a.put o.dst u) w):o.wpIn Fence.wide n P a w K Q':=by
 unfold valAt at h;refine⟨λ_ _=>trivial,?_⟩;show o.uponIn Fence.wide n P a K Q' ((execOp a.eval o).run P w);generalize (execOp a.eval o).run P w=r at h ⊢
 match r,h with
 | .ok (.value _) _,⟨rfl,rfl⟩=>exact hK
theorem wpIn_of_loose {o:Oper}{a:Act}{w:World}{Vk:Value->World->Prop}{K:Act->World->Prop}{Q':Exit->Act->World->Prop}(h:looseAt P o a Vk w)(hK:∀u w',Below w.heap.size w w'->Vk u w'->K (a.put o.dst u) w'):o.wpIn Fence.wide n P a w K Q':=by
 unfold looseAt at h;refine⟨λ_ _=>trivial,?_⟩;show o.uponIn Fence.wide n P a K Q' ((execOp a.eval o).run P w);generalize (execOp a.eval o).run P w=r at h ⊢
 match r,h with
 | .ok (.value u) w',h=>exact hK u w' h.1 h.2
 | .ok .skip w',h=>exact hK undef w' h.1 h.2
 | .ok (.enter f args) w',h =>
   obtain⟨rfl,hc⟩:=h;exact⟨λh=>(by cases h),callsIn_wide.2 (hc.mono λe w2 ⟨u,e1,hb,hv⟩=>by subst e1;exact hK u w2 hb hv)⟩
theorem tail_anyIn {m:Nat}(hF:Fits md ops V m){Q':Exit->Act->World->Prop}:∀(fuel k:Nat) (listed:Array Bool) (a:Act) (w:World),m<=k->k<=ops.size->listed.size=ops.size->left listed ops.size<=fuel ->
 (∀i,i<k->listed.getD i true=true)->(∀i,k<=i->i<ops.size->listed.getD i true=false)->wpListIn Fence.wide n P ops Q' (ops.toList.drop k) a w->wpAnyIn Fence.wide n P md ops Q' fuel listed a w:=by
 intro fuel
 induction fuel with
 | zero =>
   intro k listed a w hmk hk hsz hle hdo hun h;have hk':k=ops.size:=by
    rcases Nat.lt_or_ge k ops.size with h1|h1
    ·have:=left_zero (listed:=listed) ops.size (by omega) k h1
     rw[hun k (Nat.le_refl _) h1]at this;cases this
    ·omega
   subst hk';refine⟨?_,?_⟩
   ·refine List.eq_nil_iff_forall_not_mem.2 λj hj=>?_
    obtain⟨h1,oj,hoj,_⟩:=mem_ready.1 hj;rw[hdo j (Array.getElem?_eq_some_iff.1 hoj).1]at h1;cases h1
   ·rw[List.drop_eq_nil_of_le (by simp)]at h
    exact h
 | succ fuel ih =>
   intro k listed a w hmk hk hsz hle hdo hun h;have only:∀j∈Region.ready md ops listed,j=k/\k<ops.size:=λj hj=>by
    obtain⟨h1,oj,hoj,hall⟩:=mem_ready.1 hj;have hjs:=(Array.getElem?_eq_some_iff.1 hoj).1;have hkj:k<=j:=by
     rcases Nat.lt_or_ge j k with h2|h2
     ·rw[hdo j h2]at h1;cases h1
     ·exact h2
    refine⟨?_,by omega⟩;rcases Nat.lt_or_ge k j with h2|h2
    ·have hp:=hF.last j oj (by omega) hoj (λi=>i<k) (λi o e hi ho he hb=>Nat.lt_trans (hF.early i o e ho he hb) hi) (λe he hb=>by
      rcases Nat.lt_or_ge e.on k with h3|h3
      ·exact h3
      ·have h4:=hall e he hb
       have h5:e.on<ops.size:=by have:=hF.early j oj e hoj he hb;omega
       have h6:=hun e.on h3 h5;rw[getD_true (by omega)]at h6;rw[h6]at h4;cases h4) k h2
     omega
    ·omega
   rcases Nat.lt_or_ge k ops.size with hlt|hge
   ·have hok:ops[k]?=some ops[k]:=Array.getElem?_eq_getElem hlt
    have hkr:k∈Region.ready md ops listed:=mem_ready.2 ⟨hun k (Nat.le_refl _) hlt,ops[k],hok,λe he hb=>by
     have h1:=hF.early k _ e hok he hb;have:=hdo e.on h1
     rwa [getD_true (by omega)]at this⟩
    refine⟨λh0=>(by rw[h0]at hkr;cases hkr),λj hj=>?_⟩;obtain⟨rfl,_⟩:=only j hj;have hd:ops.toList.drop j=ops[j]::ops.toList.drop (j+1):=by
     rw[List.drop_eq_getElem_cons (by simpa using hlt)];simp
    rw[hd]at h;have hun':=hun j (Nat.le_refl _) hlt;have hc:=left_set hun' ops.size hlt;have nxt:∀a w,wpListIn Fence.wide n P ops Q' (ops.toList.drop (j+1)) a w->wpAnyIn Fence.wide n P md ops Q' fuel (listed.setIfInBounds j true) a w:=λa w hw =>
     ih (j+1) (listed.setIfInBounds j true) a w (by omega) (by omega) (by simpa using hsz) (by omega)
      (λi hi=>by
        by_cases e:i=j
        ·subst e;simp[hsz,hlt]
        ·have:=hdo i (by omega)
         simpa[Array.getElem?_setIfInBounds_ne (show j≠i by omega)]using this)
      (λi h1 h2=>by
        have:=hun i (by omega) h2;simpa[Array.getElem?_setIfInBounds_ne (show j≠i by omega)]using this) hw
    refine wpOpIn_mono nxt ?_;unfold wpOpIn;simp only[hok];exact h
   ·refine⟨λ_=>?_,λj hj=>by have:=(only j hj).2;omega⟩
    rw[List.drop_eq_nil_of_le (by simpa using hge)]at h;exact h
theorem mainIn {m:Nat}(hF:Fits md ops V m)(hS:Stable V)(hC:Closed C)(hQ:Anti Q){Q':Exit->Act->World->Prop}(hend:∀a F w,Q a F->C w->F w->wpListIn Fence.wide n P ops Q' (ops.toList.drop m) a w) :
 ∀(fuel:Nat) (listed:Array Bool) (a:Act) (F:World->Prop) (w:World),listed.size=ops.size->left listed ops.size<=fuel ->
  (∀i o e,listed.getD i false=true->ops[i]?=some o->e∈o.after->Region.binds md e=true->listed.getD e.on false=true) ->
  (∀i,m<=i->i<ops.size->listed.getD i true=false)->C w->F w->(∀W W',F W->Below W.heap.size W W'->F W')->Inv ops V (λi=>i<m/\listed.getD i true=true) a w ->
  walk P ops C V Q (λi=>listed.getD i true) 0 (ops.toList.take m) a F->wpAnyIn Fence.wide n P md ops Q' fuel listed a w:=by
 intro fuel
 induction fuel with
 | zero =>
   intro listed a F w hsz hle hdown htail hw hFw hFs hI hwalk;have hm:m=ops.size:=by
    have hf:=hF.few;rcases Nat.lt_or_ge m ops.size with h1|h1
    ·have:=left_zero (listed:=listed) ops.size (by omega) m h1
     rw[htail m (Nat.le_refl _) h1]at this;cases this
    ·omega
   have hq:=walk_all (m:=m) _ _ _ _ (λi _ hi=>left_zero (listed:=listed) ops.size (by omega) i (by simp at hi;omega)) hwalk;exact tail_anyIn (n:=n) hF 0 m listed a w (Nat.le_refl _) hF.few hsz hle (λi hi=>left_zero (listed:=listed) ops.size (by omega) i (by omega)) htail (hend a F w hq hw hFw)
 | succ fuel ih =>
   intro listed a F w hsz hle hdown htail hw hFw hFs hI hwalk;have hf:=hF.few
   by_cases hall:∀i,i<m->listed.getD i true=true
   ·have hq:=walk_all (m:=m) _ _ _ _ (λi _ hi=>hall i (by simp at hi;omega)) hwalk
    exact tail_anyIn (n:=n) hF (fuel+1) m listed a w (Nat.le_refl _) hf hsz hle hall htail (hend a F w hq hw hFw)
   ·have hmin:∃i,i<m/\listed.getD i true=false/\∀j,j<i->listed.getD j true=true:=by
     have key:∀n,(∀j,j<n->listed.getD j true=true)∨∃i,i<n/\listed.getD i true=false/\∀j,j<i->listed.getD j true=true:=by
      intro n
      induction n with
      | zero=>exact .inl λj hj=>by omega
      | succ n ihn =>
        rcases ihn with h1|⟨i,h1,h2,h3⟩
        ·by_cases hn:listed.getD n true=true
         ·exact .inl λj hj=>by
           rcases Nat.lt_succ_iff_lt_or_eq.1 hj with h|h
           ·exact h1 j h
           ·rw[h];exact hn
         ·exact .inr ⟨n,by omega,by simpa using hn,h1⟩
        ·exact .inr ⟨i,by omega,h2,h3⟩
     rcases key m with h|h
     ·exact absurd h hall
     ·exact h
    obtain⟨i0,hi0,hi0u,hi0d⟩:=hmin;have h0r:i0∈Region.ready md ops listed:=mem_ready.2 ⟨hi0u,ops[i0]'(by omega),Array.getElem?_eq_getElem _,λe he hb=>by
     have h1:=hF.early i0 _ e (Array.getElem?_eq_getElem (by omega)) he hb;have:=hi0d e.on h1
     rwa [getD_true (by omega)]at this⟩
    refine⟨λh0=>(by rw[h0]at h0r;cases h0r),λj hj=>?_⟩;obtain⟨hju,oj,hoj,hjall⟩:=mem_ready.1 hj;have hjs:=(Array.getElem?_eq_some_iff.1 hoj).1;have hjm:j<m:=by
     rcases Nat.lt_or_ge j m with h1|h1
     ·exact h1
     ·have:=hF.last j oj h1 hoj (λi=>listed.getD i false=true) hdown hjall i0 (by omega)
      rw[getD_true (by omega)]at hi0u;rw[hi0u]at this;cases this
    have hap:∀i oi,0<=i->i<j->(λi=>listed.getD i true) i=false->ops[i]?=some oi->oi.apart ops oj=true:=λi oi _ hij hun hoi=>by
     rcases hF.apart i j oi oj hij hjm hoi hoj with ⟨e,he,hb,rfl⟩|h
     ·have:=hjall e he hb
      simp only at hun;rw[getD_true (by omega)]at hun;rw[hun]at this;cases this
     ·exact h
    have hl:∀t o,(ops.toList.take m)[t]?=some o->ops[0+t]?=some o:=λt o ht=>by
     rw[List.getElem?_take]at ht
     split at ht
     ·simpa using ht
     ·cases ht
    have hlen:(ops.toList.take m).length=m:=by simp;omega
    have hI':Inv ops V (λi=>i<0∨(λi=>listed.getD i true) i=true/\i<m) a w:=hI.mono λi hi=>hi.elim (λh=>by omega) (λh=>⟨h.2,h.1⟩)
    have hsays:says P ops C V j oj a:=reach hF.sel hF.distinct hS hC hjm hoj hju _ 0 a F w hl (Nat.zero_le _) (by omega) hap hw
     (λi oi Vi d hd hoi hVi hdst=>by
       rcases hd with h|h
       ·omega
       ·rcases Nat.lt_or_ge i m with h1|h1
        ·exact hI i oi Vi d ⟨h1,h⟩ hoi hVi hdst
        ·have:=htail i h1 (Array.getElem?_eq_some_iff.1 hoi).1
         have h':listed.getD i true=true:=h;rw[this]at h';cases h') hwalk
    have nxt:∀(u:Value) (X:World->Prop) (w':World),came P ops C V j oj a u X->Below w.heap.size w w'->X w'->(∀W W',X W->Below W.heap.size W W'->X W')->(∀Vj,V j=some Vj->u=undef∨Vj u w')->F w' ->
     wpAnyIn Fence.wide n P md ops Q' fuel (listed.setIfInBounds j true) (a.put oj.dst u) w':=λu X w' hcame hb hX hXs hv hFw'=>by
     have hw':=hC _ _ hw hb;have hwk:=take hF.sel hQ hw hoj hju (X:=X) _ 0 a F hl (Nat.zero_le _) (by omega) hap hcame hwalk;have hc:=left_set hju ops.size hjs;have hset:∀i,i≠j->∀b,(listed.setIfInBounds j true).getD i b=listed.getD i b:=λi hi b=>by simp[Array.getElem?_setIfInBounds_ne (Ne.symm hi)]
     have hsetj:∀b,(listed.setIfInBounds j true).getD j b=true:=λb=>by simp[hsz,hjs]
     refine ih _ _ (λW=>F W/\X W) w' (by simpa using hsz) (by omega) ?_ ?_ hw' ⟨hFw',hX⟩ (λW W' h hb=>⟨hFs _ _ h.1 hb,hXs _ _ h.2 hb⟩) ?_ ?_
     ·intro i o e hi ho he hbd
      have hon:listed.getD e.on false=true:=by
       by_cases hij:i=j
       ·subst hij
        rw[hoj]at ho;obtain rfl:=Option.some.inj ho;exact hjall e he hbd
       ·rw[hset i hij]at hi
        exact hdown i o e hi ho he hbd
      by_cases hej:e.on=j
      ·rw[hej];exact hsetj _
      ·rw[hset _ hej];exact hon
     ·intro i h1 h2
      rw[hset i (by omega)];exact htail i h1 h2
     ·refine(Inv.step hF.distinct hS hjm hI hoj hb hv).mono λi hi=>?_
      by_cases hij:i=j
      ·exact .inr hij
      ·rw[hset i hij]at hi;exact .inl hi
     ·refine walk_congr _ 0 _ _ (λi _ _=>?_) hwk
      by_cases hij:i=j
      ·subst hij;simp[hsz,hjs]
      ·simp[hij,Array.getElem?_setIfInBounds_ne (Ne.symm hij)]
    unfold wpOpIn;simp only[hoj]
    by_cases hwn:Region.wanted oj (yielded ops a.tmps)=true
    ·rw[if_pos hwn]
     have hs:=hsays hwn;cases hV:V j with
     | none =>
       rw[hV]at hs;obtain⟨u,hu⟩:=hs;exact wpIn_of_val (hu w hw) (nxt u (λ_=>True) w (.inr (.inl ⟨hwn,hV,hu⟩)) (Below.refl _ _) trivial (λ_ _ _ _=>trivial) (λVj e=>by rw[hV]at e;cases e) hFw)
     | some Vj =>
       rw[hV]at hs;have hfacts:Facts ops V j oj a w:=λi oi Vi d hij hoi hVi hdst hlk=>by
        by_cases hun:listed.getD i true=true
        ·exact hI i oi Vi d ⟨by omega,hun⟩ hoi hVi hdst
        ·obtain⟨h1,_,_⟩:=Oper.apart_spec (hap i oi (Nat.zero_le _) hij (by simpa using hun) hoi)
         exact absurd hlk (h1 d hdst)
       exact wpIn_of_loose (hs w hw hfacts) λu w' hb hu =>
        nxt u (λW=>Vj u W) w' (.inr (.inr ⟨hwn,Vj,hV,⟨w',hC _ _ hw hb,hu⟩,λ_ h=>h⟩)) hb hu (λW W' h hb=>hS j Vj hV _ _ _ h hb) (λVj' e=>by rw[hV]at e;cases e;exact .inr hu) (hFs _ _ hFw hb)
    ·rw[if_neg hwn]
     exact⟨λ_ _=>trivial,nxt undef (λ_=>True) w (.inl ⟨by simpa using hwn,rfl⟩) (Below.refl _ _) trivial (λ_ _ _ _=>trivial) (λ_ _=>.inl rfl) hFw⟩
end
section
variable {P:Program} {n:Nat}
theorem wpIn_region_later {id:Nat}{l:List Oper}{Q':Exit->Act->World->Prop}{a:Act}{w:World}(Vs:List (Nat×Pred))(m:Nat)(hm:P.follows .mixedOrders=true)(hB:fits .any l.toArray m (Vs.map (·.1))=true)
 (h:walk P l.toArray (From w) (at_ Vs) (λa' F=>∀W,Below w.heap.size w W->F W->wpListIn Fence.wide n P l.toArray Q' (l.drop m) a' W) (λ_=>false) 0 (l.take m) a (λ_=>True)) :
 (Code.region id l.toArray true).wpIn Fence.wide n P Q' a w:=by
 refine wpIn_region_any hm ?_;refine mainIn (n:=n) (C:=From w) (V:=at_ Vs) (Q:=λa' F=>∀W,Below w.heap.size w W->F W->wpListIn Fence.wide n P l.toArray Q' (l.drop m) a' W) (Fits.of hB λi Vi hi=>at_mem Vs i Vi hi) (at_stable Vs)
  (λW W' ⟨x,hx⟩ hb=>⟨⟨W',x.is.trans ((hx▸hb).mono x.is.size)⟩,rfl⟩) (λa' F F' hF hq W hW hF'=>hq W hW (hF W hF')) (λa' F W hq ⟨x,hx⟩ hF=>by simpa using hq W (hx▸x.is) hF)
  l.toArray.size (Array.replicate l.toArray.size false) a (λ_=>True) { w with drawn:=w.drawn+1 } (by simp) ?_ ?_ ?_ ⟨⟨_,(Below.refl _ _).drew⟩,rfl⟩ trivial (λ_ _ _ _=>trivial) ?_ ?_
 ·have:∀n,left (Array.replicate l.toArray.size false) n<=n:=λn=>by
   induction n with
   | zero=>exact Nat.le_refl _
   | succ n ih=>unfold left;split<;>omega
  exact this _
 ·intro i o e hi
  have:(Array.replicate l.toArray.size false).getD i false=false:=by simp[Array.getElem?_replicate];split<;>rfl
  rw[this]at hi;cases hi
 ·intro i _ h2
  have h3:i<l.length:=by simpa using h2
  simp[Array.getElem?_replicate,h3]
 ·intro i oi Vi d hd hoi
  have h3:i<l.length:=by simpa using (Array.getElem?_eq_some_iff.1 hoi).1
  simp[Array.getElem?_replicate,h3]at hd
 ·refine walk_congr _ 0 _ _ (λi _ hi=>?_) (by simpa using h)
  have h3:i<l.length:=by simp at hi;omega
  simp[Array.getElem?_replicate,h3]
end
end Go.Loose
namespace Go.Proofs.YtnehgpeelgjjhaaGreatDoor.Tw
open Go.Proofs.Tryz
section
open Go.RowKit
def Fresh (B:Nat)(A:Option Addr):Prop:=∀a,A=some a->B<=a.block
theorem Fresh.of_own {w:World}{B B':Nat}{e:TypeId}{s n n' c:Nat}{A:Option Addr}{xs:List Value}(h:w.ownsRow B e s (.slice A n c) n' xs)(hB:B'<=B):Fresh B' A:=by
 intro a ha;rcases h.2 with ⟨h1,_⟩|⟨g,cap,cur,h1,hb,_⟩
 ·injection h1 with h1;rw[h1]at ha;cases ha
 ·injection h1 with h1;rw[h1]at ha;injection ha with ha;subst ha;exact Nat.le_trans hB hb
theorem own_cap {w:World}{B:Nat}{e:TypeId}{s n c:Nat}{A:Option Addr}{xs:List Value}(h:w.ownsRow B e s (.slice A n c) n xs):n<=c:=by
 rcases h.2 with ⟨_,h0⟩|⟨g,cap,cur,h1,_,_,hc,_⟩
 ·omega
 ·injection h1 with _ _ h1;omega
def GotRep (w w':World)(e:Ending)(o:Option Rp.Rep):Prop :=
 Below w.heap.size w w'/\match o with
  | none=>e=.returned (.tuple #[zeroRep,.int .i64 310])
  | some r=>∃A n c A' n' c',e=.returned (.tuple #[repV r A n c A' n' c',.int .i64 0])/\RepR w' w'.heap.size r A n A' n'/\Fresh w.heap.size A/\Fresh w.heap.size A'/\n<=c
theorem makeInts0 :∀w:World,(Instr.makeSlice 24 (.int .i64 0) (.int .i64 0)).run prog w=.ok (.slice (some ⟨w.heap.size,0,none⟩) 0 0) (w.alloc (.cells #[] 3)):=λ_=>by kernel_rfl
theorem makeInts1 :∀w:World,(Instr.makeSlice 24 (.int .i64 1) (.int .i64 1)).run prog w=.ok (.slice (some ⟨w.heap.size,0,none⟩) 1 1) (w.alloc (.cells #[.int .i64 0] 3)):=λ_=>by kernel_rfl
theorem makeInts2 :∀w:World,(Instr.makeSlice 24 (.int .i64 2) (.int .i64 2)).run prog w=.ok (.slice (some ⟨w.heap.size,0,none⟩) 2 2) (w.alloc (.cells #[.int .i64 0,.int .i64 0] 3)):=λ_=>by kernel_rfl
theorem makeInts3 :∀w:World,(Instr.makeSlice 24 (.int .i64 3) (.int .i64 3)).run prog w=.ok (.slice (some ⟨w.heap.size,0,none⟩) 3 3) (w.alloc (.cells #[.int .i64 0,.int .i64 0,.int .i64 0] 3)):=λ_=>by kernel_rfl
theorem makeInts4 :∀w:World,(Instr.makeSlice 24 (.int .i64 4) (.int .i64 4)).run prog w=.ok (.slice (some ⟨w.heap.size,0,none⟩) 4 4) (w.alloc (.cells #[.int .i64 0,.int .i64 0,.int .i64 0,.int .i64 0] 3)):=λ_=>by kernel_rfl
theorem makeInts5 :∀w:World,(Instr.makeSlice 24 (.int .i64 5) (.int .i64 5)).run prog w=.ok (.slice (some ⟨w.heap.size,0,none⟩) 5 5) (w.alloc (.cells #[.int .i64 0,.int .i64 0,.int .i64 0,.int .i64 0,.int .i64 0] 3)):=λ_=>by kernel_rfl
theorem makeInts6 :∀w:World,(Instr.makeSlice 24 (.int .i64 6) (.int .i64 6)).run prog w=.ok (.slice (some ⟨w.heap.size,0,none⟩) 6 6) (w.alloc (.cells #[.int .i64 0,.int .i64 0,.int .i64 0,.int .i64 0,.int .i64 0,.int .i64 0] 3)):=λ_=>by kernel_rfl
theorem reads_zeros (w:World)(k:Nat)(cs:Array Value)(h:cs=Array.replicate k (.int .i64 0))(w':World)(hb:Below (w.heap.size+1) (w.alloc (.cells cs 3)) w'):Reads w' w'.heap.size 1 (some ⟨w.heap.size,0,none⟩) k ((List.replicate k (0:Int)).map (Value.int .i64)):=by
 subst h;refine⟨by simp,λ_=>⟨w.heap.size,0,rfl,by have:=hb.size;simp at this;omega,λj u hu=>?_⟩⟩;have h1:=(Blk.new w 3 (Array.replicate k (.int .i64 0))).cell (0+j);rw[hb.cell (p:=⟨w.heap.size,0+j,none⟩) (by simp),h1];simp only[List.getElem?_map,Nat.zero_add]at hu ⊢;rw[<- Array.getElem?_toList];simpa[List.getElem?_replicate]using hu
theorem Reads.far {w:World}{B size n:Nat}{A:Option Addr}{xs:List Value}(h:Reads w B size A n xs){p:Addr}(hp:∀a,A=some a->a.block≠p.block)(u:Value):Reads (w.setCell p u) B size A n xs :=
 ⟨h.1,λhn=>by
   obtain⟨b,off,e,hb,hc⟩:=h.2 hn;exact⟨b,off,e,hb,λj v hv=>(World.cell?_setCell_other w p _ u (λe'=>hp _ e (by subst e';rfl))).trans (hc j v hv)⟩⟩
theorem RepR.far {w:World}{B:Nat}{r:Rp.Rep}{A A':Option Addr}{n n':Nat}(h:RepR w B r A n A' n'){p:Addr}(hp:∀a,A=some a->a.block≠p.block)(hp':∀a,A'=some a->a.block≠p.block)(u:Value) :
 RepR (w.setCell p u) B r A n A' n' :=
 ⟨h.posts.far hp u,h.len,h.heard.far hp' u,h.len',h.few,h.few'⟩
theorem size_setCell (w:World)(p:Addr)(u:Value):(w.setCell p u).heap.size=w.heap.size:=by simp[World.setCell]
def newOf (me many:Int):Rp.Rep:=⟨me,many,0,[],List.replicate (min (max many 0) 6).toNat 0⟩
theorem newRep_eq (me many:Int):Rp.newRep me many=if Rp.valid (newOf me many)then some (newOf me many)else none:=rfl
theorem new_neg (w:World)(me many:Int)(h1:many<0):Calls prog 27 #[.int .i64 me,.int .i64 many] w λe w'=>GotRep w w' e (Rp.newRep me many):=by
 have HN:=hid (newRep_eq me many);have HR:=hid (show newOf me many=⟨me,many,0,[],List.replicate 0 0⟩from by unfold newOf;rw[show(min (max many 0) 6).toNat=0 by omega]);have hmk:=makeInts0
 go_enter func27,ntmps27
 go_wp2_with fail
 obtain⟨W0,hW0⟩:∃W0,W0=(w.alloc (.cells #[.int .i64 0,.int .i64 0,.int .i64 0,.slice none 0 0,.slice none 0 0] 26)).alloc (.cells #[] 3):=⟨_,rfl⟩;rw[<- hW0];have hs0:W0.heap.size=w.heap.size+2:=by rw[hW0];simp
 have hbW:Below w.heap.size w W0:=by rw[hW0];exact((Below.refl _ _).alloc (Nat.le_refl _) _).alloc (by simp) _
 have hRW:Blk W0 w.heap.size 26 #[.int .i64 0,.int .i64 0,.int .i64 0,.slice none 0 0,.slice none 0 0]:=by rw[hW0];exact(Blk.new _ _ _).alloc _
 have hrd:∀w',Below W0.heap.size W0 w'->Reads w' w'.heap.size 1 (some ⟨w.heap.size+1,0,none⟩) 0 ((List.replicate 0 (0:Int)).map (Value.int .i64)):=by
  intro w' hb;have:=reads_zeros (w.alloc (.cells #[.int .i64 0,.int .i64 0,.int .i64 0,.slice none 0 0,.slice none 0 0] 26)) 0 #[] rfl w' (by rw[hW0]at hb;simp only[World.size_alloc]at hb ⊢;exact hb);simp only[World.size_alloc]at this;exact this
 have hrep:∀w',Below W0.heap.size W0 w'->RepR w' w'.heap.size ⟨me,many,0,[],List.replicate 0 0⟩ none 0 (some ⟨w.heap.size+1,0,none⟩) 0 :=
  λw' hb=>⟨⟨rfl,λh=>absurd h (by omega)⟩,rfl,hrd w' hb,by simp,by omega,by omega⟩
 clear hmk hrd hW0;refine(right_any W0 ⟨me,many,0,[],List.replicate 0 0⟩ none 0 0 (some ⟨w.heap.size+1,0,none⟩) 0 0 (hrep W0 (Below.refl _ _))).mono ?_;rintro e w1 ⟨rfl,hb1⟩;have hb2:=hbW.trans (hb1.mono hbW.size);have hR1:=hRW.below hb1 (by omega);obtain⟨r0,r1,r2,r3,r4⟩:=hR1.cells5;obtain⟨s0,s1,s2,s3,s4⟩:=hR1.soft5;cases hv:Rp.valid ⟨me,many,0,[],List.replicate 0 0⟩
 ·unfold orErr zeroRep
  go_wp2;refine bodyPost_ret (v:=.tuple #[zeroRep,.int .i64 310]) (by simp[zeroRep,results,results27,go_sem,r0,r1,r2,r3,r4]) rfl ⟨?_,?_⟩
  ·repeat(refine Below.setCell ?_ (by simp) _)
   exact hb2
  ·rw[HN.out,HR.out,hv];rfl
 ·unfold orErr repV
  go_wp2;refine bodyPost_ret (v:=.tuple #[repV ⟨me,many,0,[],List.replicate 0 0⟩ none 0 0 (some ⟨w.heap.size+1,0,none⟩) 0 0,.int .i64 0]) (by simp[repV,results,results27,go_sem,r0,r1,r2,r3,r4]) rfl ⟨?_,?_⟩
  ·repeat(refine Below.setCell ?_ (by simp) _)
   exact hb2
  ·rw[HN.out,HR.out,hv]
   refine⟨none,0,0,_,_,_,rfl,?_,(λa h=>by cases h),(λa h=>by cases h;simp),Nat.le_refl _⟩;simp only[size_setCell]
   repeat(refine RepR.far ?_ (λa h=>by cases h) (λa h=>by cases h;simp) _)
   exact hrep _ hb1
theorem new_case0 (w:World)(me:Int):Calls prog 27 #[.int .i64 me,.int .i64 0] w λe w'=>GotRep w w' e (Rp.newRep me 0):=by
 have HN:=hid (newRep_eq me 0);have HR:=hid (show newOf me 0=⟨me,0,0,[],List.replicate 0 0⟩from rfl);have hmk:=makeInts0
 go_enter func27,ntmps27
 go_wp2_with fail
 obtain⟨W0,hW0⟩:∃W0,W0=(w.alloc (.cells #[.int .i64 0,.int .i64 0,.int .i64 0,.slice none 0 0,.slice none 0 0] 26)).alloc (.cells #[] 3):=⟨_,rfl⟩;rw[<- hW0];have hs0:W0.heap.size=w.heap.size+2:=by rw[hW0];simp
 have hbW:Below w.heap.size w W0:=by rw[hW0];exact((Below.refl _ _).alloc (Nat.le_refl _) _).alloc (by simp) _
 have hRW:Blk W0 w.heap.size 26 #[.int .i64 0,.int .i64 0,.int .i64 0,.slice none 0 0,.slice none 0 0]:=by rw[hW0];exact(Blk.new _ _ _).alloc _
 have hrd:∀w',Below W0.heap.size W0 w'->Reads w' w'.heap.size 1 (some ⟨w.heap.size+1,0,none⟩) 0 ((List.replicate 0 (0:Int)).map (Value.int .i64)):=by
  intro w' hb;have:=reads_zeros (w.alloc (.cells #[.int .i64 0,.int .i64 0,.int .i64 0,.slice none 0 0,.slice none 0 0] 26)) 0 #[] rfl w' (by rw[hW0]at hb;simp only[World.size_alloc]at hb ⊢;exact hb);simp only[World.size_alloc]at this;exact this
 have hrep:∀w',Below W0.heap.size W0 w'->RepR w' w'.heap.size ⟨me,0,0,[],List.replicate 0 0⟩ none 0 (some ⟨w.heap.size+1,0,none⟩) 0 :=
  λw' hb=>⟨⟨rfl,λh=>absurd h (by omega)⟩,rfl,hrd w' hb,by simp,by omega,by omega⟩
 clear hmk hrd hW0;refine(right_any W0 ⟨me,0,0,[],List.replicate 0 0⟩ none 0 0 (some ⟨w.heap.size+1,0,none⟩) 0 0 (hrep W0 (Below.refl _ _))).mono ?_;rintro e w1 ⟨rfl,hb1⟩;have hb2:=hbW.trans (hb1.mono hbW.size);have hR1:=hRW.below hb1 (by omega);obtain⟨r0,r1,r2,r3,r4⟩:=hR1.cells5;obtain⟨s0,s1,s2,s3,s4⟩:=hR1.soft5;cases hv:Rp.valid ⟨me,0,0,[],List.replicate 0 0⟩
 ·unfold orErr zeroRep
  go_wp2;refine bodyPost_ret (v:=.tuple #[zeroRep,.int .i64 310]) (by simp[zeroRep,results,results27,go_sem,r0,r1,r2,r3,r4]) rfl ⟨?_,?_⟩
  ·repeat(refine Below.setCell ?_ (by simp) _)
   exact hb2
  ·rw[HN.out,HR.out,hv];rfl
 ·unfold orErr repV
  go_wp2;refine bodyPost_ret (v:=.tuple #[repV ⟨me,0,0,[],List.replicate 0 0⟩ none 0 0 (some ⟨w.heap.size+1,0,none⟩) 0 0,.int .i64 0]) (by simp[repV,results,results27,go_sem,r0,r1,r2,r3,r4]) rfl ⟨?_,?_⟩
  ·repeat(refine Below.setCell ?_ (by simp) _)
   exact hb2
  ·rw[HN.out,HR.out,hv]
   refine⟨none,0,0,_,_,_,rfl,?_,(λa h=>by cases h),(λa h=>by cases h;simp),Nat.le_refl _⟩;simp only[size_setCell]
   repeat(refine RepR.far ?_ (λa h=>by cases h) (λa h=>by cases h;simp) _)
   exact hrep _ hb1
theorem new_case1 (w:World)(me:Int):Calls prog 27 #[.int .i64 me,.int .i64 1] w λe w'=>GotRep w w' e (Rp.newRep me 1):=by
 have HN:=hid (newRep_eq me 1);have HR:=hid (show newOf me 1=⟨me,1,0,[],List.replicate 1 0⟩from rfl);have hmk:=makeInts1
 go_enter func27,ntmps27
 go_wp2_with fail
 obtain⟨W0,hW0⟩:∃W0,W0=(w.alloc (.cells #[.int .i64 0,.int .i64 0,.int .i64 0,.slice none 0 0,.slice none 0 0] 26)).alloc (.cells #[.int .i64 0] 3):=⟨_,rfl⟩;rw[<- hW0];have hs0:W0.heap.size=w.heap.size+2:=by rw[hW0];simp
 have hbW:Below w.heap.size w W0:=by rw[hW0];exact((Below.refl _ _).alloc (Nat.le_refl _) _).alloc (by simp) _
 have hRW:Blk W0 w.heap.size 26 #[.int .i64 0,.int .i64 0,.int .i64 0,.slice none 0 0,.slice none 0 0]:=by rw[hW0];exact(Blk.new _ _ _).alloc _
 have hrd:∀w',Below W0.heap.size W0 w'->Reads w' w'.heap.size 1 (some ⟨w.heap.size+1,0,none⟩) 1 ((List.replicate 1 (0:Int)).map (Value.int .i64)):=by
  intro w' hb;have:=reads_zeros (w.alloc (.cells #[.int .i64 0,.int .i64 0,.int .i64 0,.slice none 0 0,.slice none 0 0] 26)) 1 #[.int .i64 0] rfl w' (by rw[hW0]at hb;simp only[World.size_alloc]at hb ⊢;exact hb);simp only[World.size_alloc]at this;exact this
 have hrep:∀w',Below W0.heap.size W0 w'->RepR w' w'.heap.size ⟨me,1,0,[],List.replicate 1 0⟩ none 0 (some ⟨w.heap.size+1,0,none⟩) 1 :=
  λw' hb=>⟨⟨rfl,λh=>absurd h (by omega)⟩,rfl,hrd w' hb,by simp,by omega,by omega⟩
 clear hmk hrd hW0;refine(right_any W0 ⟨me,1,0,[],List.replicate 1 0⟩ none 0 0 (some ⟨w.heap.size+1,0,none⟩) 1 1 (hrep W0 (Below.refl _ _))).mono ?_;rintro e w1 ⟨rfl,hb1⟩;have hb2:=hbW.trans (hb1.mono hbW.size);have hR1:=hRW.below hb1 (by omega);obtain⟨r0,r1,r2,r3,r4⟩:=hR1.cells5;obtain⟨s0,s1,s2,s3,s4⟩:=hR1.soft5;cases hv:Rp.valid ⟨me,1,0,[],List.replicate 1 0⟩
 ·unfold orErr zeroRep
  go_wp2;refine bodyPost_ret (v:=.tuple #[zeroRep,.int .i64 310]) (by simp[zeroRep,results,results27,go_sem,r0,r1,r2,r3,r4]) rfl ⟨?_,?_⟩
  ·repeat(refine Below.setCell ?_ (by simp) _)
   exact hb2
  ·rw[HN.out,HR.out,hv];rfl
 ·unfold orErr repV
  go_wp2;refine bodyPost_ret (v:=.tuple #[repV ⟨me,1,0,[],List.replicate 1 0⟩ none 0 0 (some ⟨w.heap.size+1,0,none⟩) 1 1,.int .i64 0]) (by simp[repV,results,results27,go_sem,r0,r1,r2,r3,r4]) rfl ⟨?_,?_⟩
  ·repeat(refine Below.setCell ?_ (by simp) _)
   exact hb2
  ·rw[HN.out,HR.out,hv]
   refine⟨none,0,0,_,_,_,rfl,?_,(λa h=>by cases h),(λa h=>by cases h;simp),Nat.le_refl _⟩;simp only[size_setCell]
   repeat(refine RepR.far ?_ (λa h=>by cases h) (λa h=>by cases h;simp) _)
   exact hrep _ hb1
theorem new_case2 (w:World)(me:Int):Calls prog 27 #[.int .i64 me,.int .i64 2] w λe w'=>GotRep w w' e (Rp.newRep me 2):=by
 have HN:=hid (newRep_eq me 2);have HR:=hid (show newOf me 2=⟨me,2,0,[],List.replicate 2 0⟩from rfl);have hmk:=makeInts2
 go_enter func27,ntmps27
 go_wp2_with fail
 obtain⟨W0,hW0⟩:∃W0,W0=(w.alloc (.cells #[.int .i64 0,.int .i64 0,.int .i64 0,.slice none 0 0,.slice none 0 0] 26)).alloc (.cells #[.int .i64 0,.int .i64 0] 3):=⟨_,rfl⟩;rw[<- hW0];have hs0:W0.heap.size=w.heap.size+2:=by rw[hW0];simp
 have hbW:Below w.heap.size w W0:=by rw[hW0];exact((Below.refl _ _).alloc (Nat.le_refl _) _).alloc (by simp) _
 have hRW:Blk W0 w.heap.size 26 #[.int .i64 0,.int .i64 0,.int .i64 0,.slice none 0 0,.slice none 0 0]:=by rw[hW0];exact(Blk.new _ _ _).alloc _
 have hrd:∀w',Below W0.heap.size W0 w'->Reads w' w'.heap.size 1 (some ⟨w.heap.size+1,0,none⟩) 2 ((List.replicate 2 (0:Int)).map (Value.int .i64)):=by
  intro w' hb;have:=reads_zeros (w.alloc (.cells #[.int .i64 0,.int .i64 0,.int .i64 0,.slice none 0 0,.slice none 0 0] 26)) 2 #[.int .i64 0,.int .i64 0] rfl w' (by rw[hW0]at hb;simp only[World.size_alloc]at hb ⊢;exact hb);simp only[World.size_alloc]at this;exact this
 have hrep:∀w',Below W0.heap.size W0 w'->RepR w' w'.heap.size ⟨me,2,0,[],List.replicate 2 0⟩ none 0 (some ⟨w.heap.size+1,0,none⟩) 2 :=
  λw' hb=>⟨⟨rfl,λh=>absurd h (by omega)⟩,rfl,hrd w' hb,by simp,by omega,by omega⟩
 clear hmk hrd hW0;refine(right_any W0 ⟨me,2,0,[],List.replicate 2 0⟩ none 0 0 (some ⟨w.heap.size+1,0,none⟩) 2 2 (hrep W0 (Below.refl _ _))).mono ?_;rintro e w1 ⟨rfl,hb1⟩;have hb2:=hbW.trans (hb1.mono hbW.size);have hR1:=hRW.below hb1 (by omega);obtain⟨r0,r1,r2,r3,r4⟩:=hR1.cells5;obtain⟨s0,s1,s2,s3,s4⟩:=hR1.soft5;cases hv:Rp.valid ⟨me,2,0,[],List.replicate 2 0⟩
 ·unfold orErr zeroRep
  go_wp2;refine bodyPost_ret (v:=.tuple #[zeroRep,.int .i64 310]) (by simp[zeroRep,results,results27,go_sem,r0,r1,r2,r3,r4]) rfl ⟨?_,?_⟩
  ·repeat(refine Below.setCell ?_ (by simp) _)
   exact hb2
  ·rw[HN.out,HR.out,hv];rfl
 ·unfold orErr repV
  go_wp2;refine bodyPost_ret (v:=.tuple #[repV ⟨me,2,0,[],List.replicate 2 0⟩ none 0 0 (some ⟨w.heap.size+1,0,none⟩) 2 2,.int .i64 0]) (by simp[repV,results,results27,go_sem,r0,r1,r2,r3,r4]) rfl ⟨?_,?_⟩
  ·repeat(refine Below.setCell ?_ (by simp) _)
   exact hb2
  ·rw[HN.out,HR.out,hv]
   refine⟨none,0,0,_,_,_,rfl,?_,(λa h=>by cases h),(λa h=>by cases h;simp),Nat.le_refl _⟩;simp only[size_setCell]
   repeat(refine RepR.far ?_ (λa h=>by cases h) (λa h=>by cases h;simp) _)
   exact hrep _ hb1
theorem new_case3 (w:World)(me:Int):Calls prog 27 #[.int .i64 me,.int .i64 3] w λe w'=>GotRep w w' e (Rp.newRep me 3):=by
 have HN:=hid (newRep_eq me 3);have HR:=hid (show newOf me 3=⟨me,3,0,[],List.replicate 3 0⟩from rfl);have hmk:=makeInts3
 go_enter func27,ntmps27
 go_wp2_with fail
 obtain⟨W0,hW0⟩:∃W0,W0=(w.alloc (.cells #[.int .i64 0,.int .i64 0,.int .i64 0,.slice none 0 0,.slice none 0 0] 26)).alloc (.cells #[.int .i64 0,.int .i64 0,.int .i64 0] 3):=⟨_,rfl⟩;rw[<- hW0];have hs0:W0.heap.size=w.heap.size+2:=by rw[hW0];simp
 have hbW:Below w.heap.size w W0:=by rw[hW0];exact((Below.refl _ _).alloc (Nat.le_refl _) _).alloc (by simp) _
 have hRW:Blk W0 w.heap.size 26 #[.int .i64 0,.int .i64 0,.int .i64 0,.slice none 0 0,.slice none 0 0]:=by rw[hW0];exact(Blk.new _ _ _).alloc _
 have hrd:∀w',Below W0.heap.size W0 w'->Reads w' w'.heap.size 1 (some ⟨w.heap.size+1,0,none⟩) 3 ((List.replicate 3 (0:Int)).map (Value.int .i64)):=by
  intro w' hb;have:=reads_zeros (w.alloc (.cells #[.int .i64 0,.int .i64 0,.int .i64 0,.slice none 0 0,.slice none 0 0] 26)) 3 #[.int .i64 0,.int .i64 0,.int .i64 0] rfl w' (by rw[hW0]at hb;simp only[World.size_alloc]at hb ⊢;exact hb);simp only[World.size_alloc]at this;exact this
 have hrep:∀w',Below W0.heap.size W0 w'->RepR w' w'.heap.size ⟨me,3,0,[],List.replicate 3 0⟩ none 0 (some ⟨w.heap.size+1,0,none⟩) 3 :=
  λw' hb=>⟨⟨rfl,λh=>absurd h (by omega)⟩,rfl,hrd w' hb,by simp,by omega,by omega⟩
 clear hmk hrd hW0;refine(right_any W0 ⟨me,3,0,[],List.replicate 3 0⟩ none 0 0 (some ⟨w.heap.size+1,0,none⟩) 3 3 (hrep W0 (Below.refl _ _))).mono ?_;rintro e w1 ⟨rfl,hb1⟩;have hb2:=hbW.trans (hb1.mono hbW.size);have hR1:=hRW.below hb1 (by omega);obtain⟨r0,r1,r2,r3,r4⟩:=hR1.cells5;obtain⟨s0,s1,s2,s3,s4⟩:=hR1.soft5;cases hv:Rp.valid ⟨me,3,0,[],List.replicate 3 0⟩
 ·unfold orErr zeroRep
  go_wp2;refine bodyPost_ret (v:=.tuple #[zeroRep,.int .i64 310]) (by simp[zeroRep,results,results27,go_sem,r0,r1,r2,r3,r4]) rfl ⟨?_,?_⟩
  ·repeat(refine Below.setCell ?_ (by simp) _)
   exact hb2
  ·rw[HN.out,HR.out,hv];rfl
 ·unfold orErr repV
  go_wp2;refine bodyPost_ret (v:=.tuple #[repV ⟨me,3,0,[],List.replicate 3 0⟩ none 0 0 (some ⟨w.heap.size+1,0,none⟩) 3 3,.int .i64 0]) (by simp[repV,results,results27,go_sem,r0,r1,r2,r3,r4]) rfl ⟨?_,?_⟩
  ·repeat(refine Below.setCell ?_ (by simp) _)
   exact hb2
  ·rw[HN.out,HR.out,hv]
   refine⟨none,0,0,_,_,_,rfl,?_,(λa h=>by cases h),(λa h=>by cases h;simp),Nat.le_refl _⟩;simp only[size_setCell]
   repeat(refine RepR.far ?_ (λa h=>by cases h) (λa h=>by cases h;simp) _)
   exact hrep _ hb1
theorem new_case4 (w:World)(me:Int):Calls prog 27 #[.int .i64 me,.int .i64 4] w λe w'=>GotRep w w' e (Rp.newRep me 4):=by
 have HN:=hid (newRep_eq me 4);have HR:=hid (show newOf me 4=⟨me,4,0,[],List.replicate 4 0⟩from rfl);have hmk:=makeInts4
 go_enter func27,ntmps27
 go_wp2_with fail
 obtain⟨W0,hW0⟩:∃W0,W0=(w.alloc (.cells #[.int .i64 0,.int .i64 0,.int .i64 0,.slice none 0 0,.slice none 0 0] 26)).alloc (.cells #[.int .i64 0,.int .i64 0,.int .i64 0,.int .i64 0] 3):=⟨_,rfl⟩;rw[<- hW0];have hs0:W0.heap.size=w.heap.size+2:=by rw[hW0];simp
 have hbW:Below w.heap.size w W0:=by rw[hW0];exact((Below.refl _ _).alloc (Nat.le_refl _) _).alloc (by simp) _
 have hRW:Blk W0 w.heap.size 26 #[.int .i64 0,.int .i64 0,.int .i64 0,.slice none 0 0,.slice none 0 0]:=by rw[hW0];exact(Blk.new _ _ _).alloc _
 have hrd:∀w',Below W0.heap.size W0 w'->Reads w' w'.heap.size 1 (some ⟨w.heap.size+1,0,none⟩) 4 ((List.replicate 4 (0:Int)).map (Value.int .i64)):=by
  intro w' hb;have:=reads_zeros (w.alloc (.cells #[.int .i64 0,.int .i64 0,.int .i64 0,.slice none 0 0,.slice none 0 0] 26)) 4 #[.int .i64 0,.int .i64 0,.int .i64 0,.int .i64 0] rfl w' (by rw[hW0]at hb;simp only[World.size_alloc]at hb ⊢;exact hb);simp only[World.size_alloc]at this;exact this
 have hrep:∀w',Below W0.heap.size W0 w'->RepR w' w'.heap.size ⟨me,4,0,[],List.replicate 4 0⟩ none 0 (some ⟨w.heap.size+1,0,none⟩) 4 :=
  λw' hb=>⟨⟨rfl,λh=>absurd h (by omega)⟩,rfl,hrd w' hb,by simp,by omega,by omega⟩
 clear hmk hrd hW0;refine(right_any W0 ⟨me,4,0,[],List.replicate 4 0⟩ none 0 0 (some ⟨w.heap.size+1,0,none⟩) 4 4 (hrep W0 (Below.refl _ _))).mono ?_;rintro e w1 ⟨rfl,hb1⟩;have hb2:=hbW.trans (hb1.mono hbW.size);have hR1:=hRW.below hb1 (by omega);obtain⟨r0,r1,r2,r3,r4⟩:=hR1.cells5;obtain⟨s0,s1,s2,s3,s4⟩:=hR1.soft5;cases hv:Rp.valid ⟨me,4,0,[],List.replicate 4 0⟩
 ·unfold orErr zeroRep
  go_wp2;refine bodyPost_ret (v:=.tuple #[zeroRep,.int .i64 310]) (by simp[zeroRep,results,results27,go_sem,r0,r1,r2,r3,r4]) rfl ⟨?_,?_⟩
  ·repeat(refine Below.setCell ?_ (by simp) _)
   exact hb2
  ·rw[HN.out,HR.out,hv];rfl
 ·unfold orErr repV
  go_wp2;refine bodyPost_ret (v:=.tuple #[repV ⟨me,4,0,[],List.replicate 4 0⟩ none 0 0 (some ⟨w.heap.size+1,0,none⟩) 4 4,.int .i64 0]) (by simp[repV,results,results27,go_sem,r0,r1,r2,r3,r4]) rfl ⟨?_,?_⟩
  ·repeat(refine Below.setCell ?_ (by simp) _)
   exact hb2
  ·rw[HN.out,HR.out,hv]
   refine⟨none,0,0,_,_,_,rfl,?_,(λa h=>by cases h),(λa h=>by cases h;simp),Nat.le_refl _⟩;simp only[size_setCell]
   repeat(refine RepR.far ?_ (λa h=>by cases h) (λa h=>by cases h;simp) _)
   exact hrep _ hb1
theorem new_case5 (w:World)(me:Int):Calls prog 27 #[.int .i64 me,.int .i64 5] w λe w'=>GotRep w w' e (Rp.newRep me 5):=by
 have HN:=hid (newRep_eq me 5);have HR:=hid (show newOf me 5=⟨me,5,0,[],List.replicate 5 0⟩from rfl);have hmk:=makeInts5
 go_enter func27,ntmps27
 go_wp2_with fail
 obtain⟨W0,hW0⟩:∃W0,W0=(w.alloc (.cells #[.int .i64 0,.int .i64 0,.int .i64 0,.slice none 0 0,.slice none 0 0] 26)).alloc (.cells #[.int .i64 0,.int .i64 0,.int .i64 0,.int .i64 0,.int .i64 0] 3):=⟨_,rfl⟩;rw[<- hW0];have hs0:W0.heap.size=w.heap.size+2:=by rw[hW0];simp
 have hbW:Below w.heap.size w W0:=by rw[hW0];exact((Below.refl _ _).alloc (Nat.le_refl _) _).alloc (by simp) _
 have hRW:Blk W0 w.heap.size 26 #[.int .i64 0,.int .i64 0,.int .i64 0,.slice none 0 0,.slice none 0 0]:=by rw[hW0];exact(Blk.new _ _ _).alloc _
 have hrd:∀w',Below W0.heap.size W0 w'->Reads w' w'.heap.size 1 (some ⟨w.heap.size+1,0,none⟩) 5 ((List.replicate 5 (0:Int)).map (Value.int .i64)):=by
  intro w' hb;have:=reads_zeros (w.alloc (.cells #[.int .i64 0,.int .i64 0,.int .i64 0,.slice none 0 0,.slice none 0 0] 26)) 5 #[.int .i64 0,.int .i64 0,.int .i64 0,.int .i64 0,.int .i64 0] rfl w' (by rw[hW0]at hb;simp only[World.size_alloc]at hb ⊢;exact hb);simp only[World.size_alloc]at this;exact this
 have hrep:∀w',Below W0.heap.size W0 w'->RepR w' w'.heap.size ⟨me,5,0,[],List.replicate 5 0⟩ none 0 (some ⟨w.heap.size+1,0,none⟩) 5 :=
  λw' hb=>⟨⟨rfl,λh=>absurd h (by omega)⟩,rfl,hrd w' hb,by simp,by omega,by omega⟩
 clear hmk hrd hW0;refine(right_any W0 ⟨me,5,0,[],List.replicate 5 0⟩ none 0 0 (some ⟨w.heap.size+1,0,none⟩) 5 5 (hrep W0 (Below.refl _ _))).mono ?_;rintro e w1 ⟨rfl,hb1⟩;have hb2:=hbW.trans (hb1.mono hbW.size);have hR1:=hRW.below hb1 (by omega);obtain⟨r0,r1,r2,r3,r4⟩:=hR1.cells5;obtain⟨s0,s1,s2,s3,s4⟩:=hR1.soft5;cases hv:Rp.valid ⟨me,5,0,[],List.replicate 5 0⟩
 ·unfold orErr zeroRep
  go_wp2;refine bodyPost_ret (v:=.tuple #[zeroRep,.int .i64 310]) (by simp[zeroRep,results,results27,go_sem,r0,r1,r2,r3,r4]) rfl ⟨?_,?_⟩
  ·repeat(refine Below.setCell ?_ (by simp) _)
   exact hb2
  ·rw[HN.out,HR.out,hv];rfl
 ·unfold orErr repV
  go_wp2;refine bodyPost_ret (v:=.tuple #[repV ⟨me,5,0,[],List.replicate 5 0⟩ none 0 0 (some ⟨w.heap.size+1,0,none⟩) 5 5,.int .i64 0]) (by simp[repV,results,results27,go_sem,r0,r1,r2,r3,r4]) rfl ⟨?_,?_⟩
  ·repeat(refine Below.setCell ?_ (by simp) _)
   exact hb2
  ·rw[HN.out,HR.out,hv]
   refine⟨none,0,0,_,_,_,rfl,?_,(λa h=>by cases h),(λa h=>by cases h;simp),Nat.le_refl _⟩;simp only[size_setCell]
   repeat(refine RepR.far ?_ (λa h=>by cases h) (λa h=>by cases h;simp) _)
   exact hrep _ hb1
theorem new_case6 (w:World)(me:Int):Calls prog 27 #[.int .i64 me,.int .i64 6] w λe w'=>GotRep w w' e (Rp.newRep me 6):=by
 have HN:=hid (newRep_eq me 6);have HR:=hid (show newOf me 6=⟨me,6,0,[],List.replicate 6 0⟩from rfl);have hmk:=makeInts6
 go_enter func27,ntmps27
 go_wp2_with fail
 obtain⟨W0,hW0⟩:∃W0,W0=(w.alloc (.cells #[.int .i64 0,.int .i64 0,.int .i64 0,.slice none 0 0,.slice none 0 0] 26)).alloc (.cells #[.int .i64 0,.int .i64 0,.int .i64 0,.int .i64 0,.int .i64 0,.int .i64 0] 3):=⟨_,rfl⟩;rw[<- hW0];have hs0:W0.heap.size=w.heap.size+2:=by rw[hW0];simp
 have hbW:Below w.heap.size w W0:=by rw[hW0];exact((Below.refl _ _).alloc (Nat.le_refl _) _).alloc (by simp) _
 have hRW:Blk W0 w.heap.size 26 #[.int .i64 0,.int .i64 0,.int .i64 0,.slice none 0 0,.slice none 0 0]:=by rw[hW0];exact(Blk.new _ _ _).alloc _
 have hrd:∀w',Below W0.heap.size W0 w'->Reads w' w'.heap.size 1 (some ⟨w.heap.size+1,0,none⟩) 6 ((List.replicate 6 (0:Int)).map (Value.int .i64)):=by
  intro w' hb;have:=reads_zeros (w.alloc (.cells #[.int .i64 0,.int .i64 0,.int .i64 0,.slice none 0 0,.slice none 0 0] 26)) 6 #[.int .i64 0,.int .i64 0,.int .i64 0,.int .i64 0,.int .i64 0,.int .i64 0] rfl w' (by rw[hW0]at hb;simp only[World.size_alloc]at hb ⊢;exact hb);simp only[World.size_alloc]at this;exact this
 have hrep:∀w',Below W0.heap.size W0 w'->RepR w' w'.heap.size ⟨me,6,0,[],List.replicate 6 0⟩ none 0 (some ⟨w.heap.size+1,0,none⟩) 6 :=
  λw' hb=>⟨⟨rfl,λh=>absurd h (by omega)⟩,rfl,hrd w' hb,by simp,by omega,by omega⟩
 clear hmk hrd hW0;refine(right_any W0 ⟨me,6,0,[],List.replicate 6 0⟩ none 0 0 (some ⟨w.heap.size+1,0,none⟩) 6 6 (hrep W0 (Below.refl _ _))).mono ?_;rintro e w1 ⟨rfl,hb1⟩;have hb2:=hbW.trans (hb1.mono hbW.size);have hR1:=hRW.below hb1 (by omega);obtain⟨r0,r1,r2,r3,r4⟩:=hR1.cells5;obtain⟨s0,s1,s2,s3,s4⟩:=hR1.soft5;cases hv:Rp.valid ⟨me,6,0,[],List.replicate 6 0⟩
 ·unfold orErr zeroRep
  go_wp2;refine bodyPost_ret (v:=.tuple #[zeroRep,.int .i64 310]) (by simp[zeroRep,results,results27,go_sem,r0,r1,r2,r3,r4]) rfl ⟨?_,?_⟩
  ·repeat(refine Below.setCell ?_ (by simp) _)
   exact hb2
  ·rw[HN.out,HR.out,hv];rfl
 ·unfold orErr repV
  go_wp2;refine bodyPost_ret (v:=.tuple #[repV ⟨me,6,0,[],List.replicate 6 0⟩ none 0 0 (some ⟨w.heap.size+1,0,none⟩) 6 6,.int .i64 0]) (by simp[repV,results,results27,go_sem,r0,r1,r2,r3,r4]) rfl ⟨?_,?_⟩
  ·repeat(refine Below.setCell ?_ (by simp) _)
   exact hb2
  ·rw[HN.out,HR.out,hv]
   refine⟨none,0,0,_,_,_,rfl,?_,(λa h=>by cases h),(λa h=>by cases h;simp),Nat.le_refl _⟩;simp only[size_setCell]
   repeat(refine RepR.far ?_ (λa h=>by cases h) (λa h=>by cases h;simp) _)
   exact hrep _ hb1
theorem new_big (w:World)(me many:Int)(h1:6<many):Calls prog 27 #[.int .i64 me,.int .i64 many] w λe w'=>GotRep w w' e (Rp.newRep me many):=by
 have HN:=hid (newRep_eq me many);have HR:=hid (show newOf me many=⟨me,many,0,[],List.replicate 6 0⟩from by unfold newOf;rw[show(min (max many 0) 6).toNat=6 by omega]);have hmk:=makeInts6
 go_enter func27,ntmps27
 go_wp2_with fail
 obtain⟨W0,hW0⟩:∃W0,W0=(w.alloc (.cells #[.int .i64 0,.int .i64 0,.int .i64 0,.slice none 0 0,.slice none 0 0] 26)).alloc (.cells #[.int .i64 0,.int .i64 0,.int .i64 0,.int .i64 0,.int .i64 0,.int .i64 0] 3):=⟨_,rfl⟩;rw[<- hW0];have hs0:W0.heap.size=w.heap.size+2:=by rw[hW0];simp
 have hbW:Below w.heap.size w W0:=by rw[hW0];exact((Below.refl _ _).alloc (Nat.le_refl _) _).alloc (by simp) _
 have hRW:Blk W0 w.heap.size 26 #[.int .i64 0,.int .i64 0,.int .i64 0,.slice none 0 0,.slice none 0 0]:=by rw[hW0];exact(Blk.new _ _ _).alloc _
 have hrd:∀w',Below W0.heap.size W0 w'->Reads w' w'.heap.size 1 (some ⟨w.heap.size+1,0,none⟩) 6 ((List.replicate 6 (0:Int)).map (Value.int .i64)):=by
  intro w' hb;have:=reads_zeros (w.alloc (.cells #[.int .i64 0,.int .i64 0,.int .i64 0,.slice none 0 0,.slice none 0 0] 26)) 6 #[.int .i64 0,.int .i64 0,.int .i64 0,.int .i64 0,.int .i64 0,.int .i64 0] rfl w' (by rw[hW0]at hb;simp only[World.size_alloc]at hb ⊢;exact hb);simp only[World.size_alloc]at this;exact this
 have hrep:∀w',Below W0.heap.size W0 w'->RepR w' w'.heap.size ⟨me,many,0,[],List.replicate 6 0⟩ none 0 (some ⟨w.heap.size+1,0,none⟩) 6 :=
  λw' hb=>⟨⟨rfl,λh=>absurd h (by omega)⟩,rfl,hrd w' hb,by simp,by omega,by omega⟩
 clear hmk hrd hW0;refine(right_any W0 ⟨me,many,0,[],List.replicate 6 0⟩ none 0 0 (some ⟨w.heap.size+1,0,none⟩) 6 6 (hrep W0 (Below.refl _ _))).mono ?_;rintro e w1 ⟨rfl,hb1⟩;have hb2:=hbW.trans (hb1.mono hbW.size);have hR1:=hRW.below hb1 (by omega);obtain⟨r0,r1,r2,r3,r4⟩:=hR1.cells5;obtain⟨s0,s1,s2,s3,s4⟩:=hR1.soft5;cases hv:Rp.valid ⟨me,many,0,[],List.replicate 6 0⟩
 ·unfold orErr zeroRep
  go_wp2;refine bodyPost_ret (v:=.tuple #[zeroRep,.int .i64 310]) (by simp[zeroRep,results,results27,go_sem,r0,r1,r2,r3,r4]) rfl ⟨?_,?_⟩
  ·repeat(refine Below.setCell ?_ (by simp) _)
   exact hb2
  ·rw[HN.out,HR.out,hv];rfl
 ·unfold orErr repV
  go_wp2;refine bodyPost_ret (v:=.tuple #[repV ⟨me,many,0,[],List.replicate 6 0⟩ none 0 0 (some ⟨w.heap.size+1,0,none⟩) 6 6,.int .i64 0]) (by simp[repV,results,results27,go_sem,r0,r1,r2,r3,r4]) rfl ⟨?_,?_⟩
  ·repeat(refine Below.setCell ?_ (by simp) _)
   exact hb2
  ·rw[HN.out,HR.out,hv]
   refine⟨none,0,0,_,_,_,rfl,?_,(λa h=>by cases h),(λa h=>by cases h;simp),Nat.le_refl _⟩;simp only[size_setCell]
   repeat(refine RepR.far ?_ (λa h=>by cases h) (λa h=>by cases h;simp) _)
   exact hrep _ hb1
theorem new_any (w:World)(me many:Int):Calls prog 27 #[.int .i64 me,.int .i64 many] w λe w'=>GotRep w w' e (Rp.newRep me many):=by
 by_cases h1:many<0
 ·exact new_neg w me many h1
 by_cases h2:6<many
 ·exact new_big w me many h2
 have h3:many=0∨many=1∨many=2∨many=3∨many=4∨many=5∨many=6:=by omega
 rcases h3 with rfl|rfl|rfl|rfl|rfl|rfl|rfl
 ·exact new_case0 w me
 ·exact new_case1 w me
 ·exact new_case2 w me
 ·exact new_case3 w me
 ·exact new_case4 w me
 ·exact new_case5 w me
 ·exact new_case6 w me
end
section
open Go.RowKit
theorem counts_any (w:World)(A:Option Addr)(n c:Nat)(l:List Rp.Post)
 (hx:Reads w w.heap.size 4 A n (encPs l)) (hl:l.length=n) (hn:n<=16777216) (ho:∀p∈l,∃o:Nat,o<5/\p.origin=o) :
 Calls prog 43 #[.slice A n c] w λe w'=>e=.returned (.agg (Row5 (C l n)))/\Below w.heap.size w w':=by
 have HX:=hid hx;have HL:=hid hl;have HO:=hid ho;clear hx hl ho
 go_enter func43,ntmps43
 go_wp2
 go_loopw [9] (λk wr=>∃j:Nat,j<=n/\k=.int .i64 j/\Below w.heap.size w wr /\
  Blk wr w.heap.size 88 (Row5 λ_=>0)/\Blk wr (w.heap.size+1) 88 (Row5 (C l j))) (λk _=>n - (intOf k).toNat)
 case atStart =>
  refine⟨0,by omega,rfl,(((Below.refl _ _).alloc (Nat.le_refl _) _).alloc (by simp) _),?_,?_⟩
  ·exact(Blk.new w _ _).alloc _
  ·exact Blk.new2 _ _ _ _
 case round =>
  obtain⟨j,hj,rfl,hb,hZ,hC⟩:=hrel
  by_cases hlt:j<n
  ·obtain⟨b,off,q,rfl,hbl,hq,h0,h1,h2,h3⟩:=HX.out.post HL.out hlt
   rw[<- hb.cell (p:=⟨b,_,none⟩) hbl]at h0 h1 h2 h3;obtain⟨k,hk5,hk⟩:=HO.out q (List.mem_of_getElem? hq);have HQ:=hid hq;clear hq;obtain⟨ep,og,nu,tx⟩:=q;simp only at h0 h1 h2 h3 hk;subst hk;have hbs:=hb.size;have hcs:=hC.lt;have c1:=(hC.cell k).trans (Row5.get hk5);have f1:=hC.frozen k;have e1:=World.new_ne wr _ c1;obtain⟨cb0,cb1⟩:=C_le l j k;go_wp2;go_roundw
   case rel =>
    refine⟨j+1,by omega,by go_num,?_,?_,?_⟩
    ·exact(hb.setCell (p:=⟨w.heap.size+1,k,none⟩) (by simp) _).alloc (by simp only[size_setCell];exact hbs) _
    ·exact(hZ.far (p:=⟨w.heap.size+1,k,none⟩) (by simp) _).alloc _
    ·have h:=(hC.set_ k (.int .i64 (C l j k+1))).alloc (.cells #[.int .i64 ep,.int .i64 k,.int .i64 nu,.string tx] 57)
     rw[Row5.set (g:=C l (j+1)) hk5 (by rw[C_succ HQ.out];simp) (λo _ ho=>by rw[C_succ HQ.out];simp;omega)]at h;exact h
   case measure=>simp[intOf];omega
  ·have hjn:j=n:=by omega
   subst hjn;obtain⟨a0,a1,a2,a3,a4⟩:=(show Blk wr (w.heap.size+1) 88 #[.int .i64 (C l j 0),.int .i64 (C l j 1),.int .i64 (C l j 2),.int .i64 (C l j 3),.int .i64 (C l j 4)]from hC).cells5;obtain⟨z0,z1,z2,z3,z4⟩:=(show Blk wr w.heap.size 88 #[.int .i64 0,.int .i64 0,.int .i64 0,.int .i64 0,.int .i64 0]from hZ).cells5;obtain⟨s0,s1,s2,s3,s4⟩:=hZ.soft5;go_wp2;refine bodyPost_ret (v:=.agg (Row5 (C l j))) (by simp[Row5,results,results43,go_sem,z0,z1,z2,z3,z4]) rfl ⟨rfl,?_⟩
   repeat(refine Below.setCell ?_ (by simp) _)
   exact hb
end
section
open Go.RowKit
theorem least_take {l:List Int}{j:Nat}{x:Int}(h:l[j]?=some x)(hj:0<j):Rp.least (l.take (j+1))=min (Rp.least (l.take j)) x:=by
 obtain⟨hlt,rfl⟩:=List.getElem?_eq_some_iff.1 h;rw[List.take_succ_eq_append_getElem hlt];cases l with
 | nil=>simp at hlt
 | cons a l =>
   obtain⟨i,rfl⟩:∃i,j=i+1:=⟨j - 1,by omega⟩;have hl:i<l.length:=by simpa using hlt
   simp only[Rp.least,List.take_succ_cons,List.cons_append];rw[List.foldl_append];rfl
theorem minE (a x:Int):(if x<a then x else a)=min a x:=by rw[Int.min_def];split<;>split<;>omega
theorem Reads.int {w:World}{B n:Nat}{A:Option Addr}{l:List Int}(h:Reads w B 1 A n (l.map (Value.int .i64))){j:Nat}(hj:j<n) :
 ∃b off x,A=some ⟨b,off,none⟩/\b<B/\l[j]?=some x/\w.cell? ⟨b,off+j,none⟩=some (.int .i64 x):=by
 obtain⟨b,off,e,hb,hc⟩:=h.2 (by omega);have hl:l.length=n:=by have:=h.1;simpa using this
 have hp:l[j]?=some l[j]:=List.getElem?_eq_getElem (by omega);exact⟨b,off,_,e,hb,hp,hc j _ (by simp[hp])⟩
theorem min_any (w:World)(A:Option Addr)(n c:Nat)(l:List Int)(hx:Reads w w.heap.size 1 A n (l.map (Value.int .i64)))(h0:0<n)(hn:n<=16777216) :
 Calls prog 48 #[.slice A n c] w λe w'=>e=.returned (.int .i64 (Rp.least l))/\w=w':=by
 obtain⟨b,off,x0,rfl,hbl,hx0,hc0⟩:=hx.int h0;have hl:l.length=n:=by have:=hx.1;simpa using this
 have HL:=hid hl;have HX:=hid hx;have H1:=hid (show Rp.least (l.take 1)=x0 from by
  cases l with
  | nil=>simp at hx0
  | cons a l=>simp at hx0;subst hx0;rfl)
 clear hx hl hx0;simp only[Nat.add_zero]at hc0;have hnn:(1:Int)<=(n:Int):=by omega
 go_enter func48,ntmps48
 go_wp2
 go_loopw [3,4] (λm i wr=>∃j:Nat,1<=j/\j<=n/\m=.int .i64 (Rp.least (l.take j))/\i=.int .i64 j/\wr=w) (λ_ i _=>n - (intOf i).toNat)
 case atStart=>exact⟨1,by omega,by omega,by rw[H1.out],rfl,rfl⟩
 case round =>
  obtain⟨j,hj1,hj,rfl,rfl,rfl⟩:=hrel
  by_cases hlt:j<n
  ·obtain⟨b',off',x,hA,_,hxj,hcj⟩:=HX.out.int hlt
   injection hA with hA
   injection hA with hA1 hA2
   subst hA1 hA2;have HM:=hid (least_take hxj (by omega));clear hxj;go_wp2;go_roundw
   case rel=>exact⟨j+1,by omega,by omega,by rw[HM.out,minE],by go_num,trivial⟩
   case measure=>simp[intOf];omega
  ·have hjn:j=n:=by omega
   subst hjn;have HT:=hid (show l.take j=l from List.take_of_length_le (by rw[HL.out];omega));go_wp2;go_ret;exact⟨ret_int (by rw[HT.out]),rfl⟩
def low (l:List Rp.Post)(e:Int)(j:Nat):Nat:=j+((l.drop j).takeWhile λp=>decide (p.epoch<=e)).length
theorem low_zero (r:Rp.Rep):Rp.stableN r=low r.posts (Rp.least r.heard) 0:=by simp[low,Rp.stableN]
theorem low_yes {l:List Rp.Post}{e:Int}{j:Nat}{q:Rp.Post}(h:l[j]?=some q)(hq:q.epoch<=e):low l e j=low l e (j+1):=by
 unfold low;rw[(drop_at h).1,List.takeWhile_cons,if_pos (by simpa using hq)];simp;omega
theorem low_no {l:List Rp.Post}{e:Int}{j:Nat}{q:Rp.Post}(h:l[j]?=some q)(hq:¬q.epoch<=e):low l e j=j:=by
 unfold low;rw[(drop_at h).1,List.takeWhile_cons,if_neg (by simpa using hq)];simp
theorem low_end {l:List Rp.Post}{e:Int}{j:Nat}(h:l.length<=j):low l e j=j:=by
 unfold low;rw[List.drop_eq_nil_of_le h];simp
theorem stable_any (w:World)(r:Rp.Rep)(A:Option Addr)(n c:Nat)(A':Option Addr)(n' c':Nat)(h:RepR w w.heap.size r A n A' n') :
 Calls prog 16 #[repV r A n c A' n' c'] w λe w'=>e=.returned (orErr (Rp.valid r) (.int .i64 (Rp.stableN r)) (.int .i64 0) 310)/\Below w.heap.size w w':=by
 obtain⟨me,many,clock,posts,heard⟩:=r;obtain⟨W0,hW0⟩:∃W0,W0=w.alloc (.cells #[.int .i64 me,.int .i64 many,.int .i64 clock,.slice A n c,.slice A' n' c'] 26):=⟨_,rfl⟩;have hs0:W0.heap.size=w.heap.size+1:=by rw[hW0];simp
 have hbW:Below w.heap.size w W0:=by rw[hW0];exact(Below.refl _ _).alloc (Nat.le_refl _) _
 have hBW:Blk W0 w.heap.size 26 #[.int .i64 me,.int .i64 many,.int .i64 clock,.slice A n c,.slice A' n' c']:=by rw[hW0];exact Blk.new _ _ _
 have HV:=hid (valid_any W0 ⟨me,many,clock,posts,heard⟩ A n c A' n' c' ((h.below hbW).more (by omega)));have HS:=hid (low_zero ⟨me,many,clock,posts,heard⟩);have HW0:=hid hW0;have HH:=hid h;clear h hW0;unfold repV at *;simp only at HV HS ⊢
 go_enter func16,ntmps16
 go_wp2_with fail
 rw[<- HW0.out];refine HV.out.mono ?_;rintro e w1 ⟨rfl,hb1⟩;have hb2:=hbW.trans (hb1.mono hbW.size);obtain⟨b0,b1,b2,b3,b4⟩:=(hBW.below hb1 (by omega)).cells5;cases hv:Rp.valid ⟨me,many,clock,posts,heard⟩
 ·have HVV:=hid hv
  go_wp2;exact bodyPost_ret (v:=.tuple #[.int .i64 0,.int .i64 310]) (by simp[results,results16,go_sem]) rfl ⟨by rw[HVV.out];rfl,hb2⟩
 ·have HVV:=hid hv
  have hv':=Rp.valid_iff.1 hv;obtain⟨⟨v1,v2⟩,⟨v3,v4⟩,⟨v5,v6⟩,v7,v8,v9⟩:=hv';have v7':=(Rp.isHeard_iff.1 v7).1;simp only at v1 v2 v3 v4 v5 v6 v7';have hlen:heard.length=n':=HH.out.len';have hplen:posts.length=n:=HH.out.len;have hfew:=HH.out.few;have hfew':=HH.out.few';have h0:0<n':=by omega
  have HM:=hid (min_any w1 A' n' c' heard ((HH.out.heard.below hb2).more hb2.size) h0 hfew');have HP:=hid ((HH.out.posts.below hb2).more hb2.size);have HPL:=hid hplen;clear v1 v2 v3 v4 v5 v6 v7 v8 v9 v7' hlen hplen h0 hv
  go_wp2_with (go_at_call 48;refine HM.out.mono ?_;rintro e w2 ⟨rfl,rfl⟩)
  go_loopw [5] (λk wr=>∃j:Nat,j<=n/\k=.int .i64 j/\Hid (Rp.stableN ⟨me,many,clock,posts,heard⟩=low posts (Rp.least heard) j)/\wr=w1) (λk _=>n - (intOf k).toNat)
  case atStart=>exact⟨0,by omega,rfl,HS,rfl⟩
  case round =>
   obtain⟨j,hj,rfl,hf,rfl⟩:=hrel
   by_cases hlt:j<n
   ·have hjn:decide ((j:Int)<(n:Int))=true:=by simp;omega
    obtain⟨b,off,q,rfl,hbl,hq,h0,h1,h2,h3⟩:=HP.out.post HPL.out hlt
    by_cases hle:q.epoch<=Rp.least heard
    ·have HN:=hid (low_yes hq hle)
     have hd:decide (q.epoch<=Rp.least heard)=true:=by simpa using hle
     clear hle hq;go_wp2;go_roundw
     case rel=>exact⟨j+1,by omega,by go_num,by unfold Hid;rw[hf.out,HN.out],trivial⟩
     case measure=>simp[intOf];omega
    ·have HN:=hid (low_no hq hle)
     have hd:decide (q.epoch<=Rp.least heard)=false:=by simpa using hle
     clear hle hq;go_wp2;exact bodyPost_ret (v:=.tuple #[.int .i64 j,.int .i64 0]) (by simp[results,results16,go_sem]) rfl ⟨by rw[HVV.out,hf.out,HN.out];rfl,hb2⟩
   ·have hjn:decide ((j:Int)<(n:Int))=false:=by simp;omega
    have HN:=hid (low_end (l:=posts) (e:=Rp.least heard) (j:=j) (by rw[HPL.out];omega));go_wp2;exact bodyPost_ret (v:=.tuple #[.int .i64 j,.int .i64 0]) (by simp[results,results16,go_sem]) rfl ⟨by rw[HVV.out,hf.out,HN.out];rfl,hb2⟩
end
section
open Go.RowKit
theorem index5_0 :∀(f:Nat->Int) (w:World),(Instr.index 88 (.agg (Row5 f)) (.int .i64 0)).run prog w=.ok (.int .i64 (f 0)) w:=λ_ _=>by kernel_rfl
theorem index5_1 :∀(f:Nat->Int) (w:World),(Instr.index 88 (.agg (Row5 f)) (.int .i64 1)).run prog w=.ok (.int .i64 (f 1)) w:=λ_ _=>by kernel_rfl
theorem index5_2 :∀(f:Nat->Int) (w:World),(Instr.index 88 (.agg (Row5 f)) (.int .i64 2)).run prog w=.ok (.int .i64 (f 2)) w:=λ_ _=>by kernel_rfl
theorem index5_3 :∀(f:Nat->Int) (w:World),(Instr.index 88 (.agg (Row5 f)) (.int .i64 3)).run prog w=.ok (.int .i64 (f 3)) w:=λ_ _=>by kernel_rfl
theorem index5_4 :∀(f:Nat->Int) (w:World),(Instr.index 88 (.agg (Row5 f)) (.int .i64 4)).run prog w=.ok (.int .i64 (f 4)) w:=λ_ _=>by kernel_rfl
theorem index5 (f:Nat->Int)(k:Nat)(hk:k<5)(w:World):(Instr.index 88 (.agg (Row5 f)) (.int .i64 k)).run prog w=.ok (.int .i64 (f k)) w :=
 match k,hk with
 | 0,_=>index5_0 f w
 | 1,_=>index5_1 f w
 | 2,_=>index5_2 f w
 | 3,_=>index5_3 f w
 | 4,_=>index5_4 f w
theorem C_all (l:List Rp.Post)(n:Nat)(h:l.length=n)(o:Nat):C l n o=Rp.count l o:=by
 unfold C;rw[List.take_of_length_le (by omega)]
theorem block_not {w:World}{base:Nat}{e:TypeId}{size n:Nat}{v:Value}{xs:List Value}(h:w.ownsRow base e size v n xs){g:Nat}(hg:g<base∨w.heap.size<=g):some g≠v.ownBlock:=by
 rcases h.2 with ⟨rfl,_⟩|⟨g',cap,cur,rfl,hb,hh,_⟩
 ·simp[Value.ownBlock]
 ·have hlt:g'<w.heap.size:=by
   rcases Nat.lt_or_ge g' w.heap.size with hlt|hge
   ·exact hlt
   ·rw[Array.getElem?_eq_none hge]at hh;cases hh
  simp[Value.ownBlock];omega
theorem own_apart {w:World}{B B':Nat}{e e':TypeId}{s s' n n':Nat}{v v':Value}{xs xs':List Value}(h:w.ownsRow B e s v n xs)(h':w.ownsRow B' e' s' v' n' xs')(hne:e≠e'):v.ownBlock=none∨v.ownBlock≠v'.ownBlock:=by
 rcases h.2 with ⟨rfl,_⟩|⟨g,cap,cur,rfl,_,hh,_⟩
 ·exact .inl rfl
 ·right
  rcases h'.2 with ⟨rfl,_⟩|⟨g',cap',cur',rfl,_,hh',_⟩
  ·simp[Value.ownBlock]
  ·intro e1
   simp only[Value.ownBlock,Option.some.injEq]at e1;subst e1;rw[hh]at hh';injection hh' with hh'
   injection hh' with _ h2
   exact hne h2
theorem encPs_snoc (l:List Rp.Post)(p:Rp.Post):encPs (l++[p])=encPs l++encP p:=by simp[encPs]
theorem write_no {r:Rp.Rep}{t:ByteArray}(h:Rp.valid r=false):Rp.write r t=none:=by unfold Rp.write;rw[h];rfl
theorem write_yes {r:Rp.Rep}{t:ByteArray}(h:Rp.valid r=true):Rp.write r t=if Rp.valid (Rp.written r t)then some (Rp.written r t)else none:=by unfold Rp.write;rw[h];rfl
theorem write_any (w:World)(r:Rp.Rep)(A:Option Addr)(n c:Nat)(A':Option Addr)(n' c':Nat)(text:ByteArray)(h:RepR w w.heap.size r A n A' n') :
 Calls prog 13 #[repV r A n c A' n' c',.string text] w λe w'=>GotRep w w' e (Rp.write r text):=by
 obtain⟨i0,hi0,hz0,hz1,hz2⟩:=info_parts info57;obtain⟨me,many,clock,posts,heard⟩:=r;obtain⟨W0,hW0⟩:∃W0,W0=(w.alloc (.cells #[.int .i64 me,.int .i64 many,.int .i64 clock,.slice A n c,.slice A' n' c'] 26)).alloc (.cells #[.int .i64 0,.int .i64 0,.int .i64 0,.slice none 0 0,.slice none 0 0] 26):=⟨_,rfl⟩;have hs0:W0.heap.size=w.heap.size+2:=by rw[hW0];simp
 have hbW:Below w.heap.size w W0:=by rw[hW0];exact((Below.refl _ _).alloc (Nat.le_refl _) _).alloc (by simp) _
 have hBW:Blk W0 w.heap.size 26 #[.int .i64 me,.int .i64 many,.int .i64 clock,.slice A n c,.slice A' n' c']:=by rw[hW0];exact(Blk.new _ _ _).alloc _
 have hRW:Blk W0 (w.heap.size+1) 26 #[.int .i64 0,.int .i64 0,.int .i64 0,.slice none 0 0,.slice none 0 0]:=by rw[hW0];exact Blk.new2 _ _ _ _
 have HV:=hid (valid_any W0 ⟨me,many,clock,posts,heard⟩ A n c A' n' c' ((h.below hbW).more (by omega)));have HW0:=hid hW0;have HH:=hid h;clear h hW0;unfold repV at *;simp only at HV ⊢
 go_enter func13,ntmps13
 go_wp2_with fail
 rw[<- HW0.out];refine HV.out.mono ?_;rintro e w1 ⟨rfl,hb1⟩;have hb2:=hbW.trans (hb1.mono hbW.size);have hB1:=hBW.below hb1 (by omega);have hR1:=hRW.below hb1 (by omega);have hs1:=hb1.size;obtain⟨b0,b1,b2,b3,b4⟩:=hB1.cells5;obtain⟨r0,r1,r2,r3,r4⟩:=hR1.cells5;obtain⟨s0,s1,s2,s3,s4⟩:=hR1.soft5;cases hv:Rp.valid ⟨me,many,clock,posts,heard⟩
 ·have HN:=hid (write_no (t:=text) hv)
  go_wp2;refine bodyPost_ret (v:=.tuple #[zeroRep,.int .i64 310]) (by simp[zeroRep,results,results13,go_sem,r0,r1,r2,r3,r4]) rfl ⟨?_,?_⟩
  ·repeat(refine Below.setCell ?_ (by simp) _)
   exact hb2
  ·rw[HN.out]
 ·have HN:=hid (write_yes (t:=text) hv)
  have HVV:=hid hv;obtain⟨⟨v1,v2⟩,⟨v3,v4⟩,⟨v5,v6⟩,v7,v8,v9⟩:=Rp.valid_iff.1 hv;simp only at v1 v2 v3 v4 v5 v6 v8;have HOr:Hid (∀p∈posts,∃o:Nat,o<5/\p.origin=o):=hid λp hp=>by
   obtain⟨mn,hmn⟩:∃mn:Nat,many=mn:=⟨many.toNat,by omega⟩;subst hmn;obtain⟨o,ho,e⟩:=Rp.own_range v8 hp;exact⟨o,by omega,e⟩
  have HPL:=hid HH.out.len;have hfew:=HH.out.few;have h200:n<=200:=by
   have h1:=(Rp.isLog_iff.1 v8).1;have h2:=HH.out.len;simp only at h2;omega
  simp only at HPL;obtain⟨k,rfl⟩:∃k:Nat,me=k:=⟨me.toNat,by omega⟩;have hk5:k<5:=by omega
  have HI:=hid (index5 (C posts n) k hk5);have HOwn:=hid (own_any w1 ⟨k,many,clock,posts,heard⟩ A n c A' n' c' ((HH.out.below hb2).more hb2.size));unfold repV at HOwn;simp only at HOwn;clear v3 v4 v7 v8 v9 hv
  go_wp2_with (go_at_call 42;refine HOwn.out.mono ?_;rintro e w2 ⟨A1,c1,A2,c2,rfl,o1,o2,hc1,hc2,hb3⟩)
  obtain⟨W3,hW3⟩:∃W3,W3=w2.alloc (.cells #[.int .i64 k,.int .i64 many,.int .i64 (clock+1),.slice A1 n c1,.slice A2 n' c2] 26):=⟨_,rfl⟩;rw[<- hW3];have hs2:=hb3.size;have hs3:W3.heap.size=w2.heap.size+1:=by rw[hW3];simp
  have hb4:Below w2.heap.size w2 W3:=by rw[hW3];exact(Below.refl _ _).alloc (Nat.le_refl _) _
  have hG3:Blk W3 w2.heap.size 26 #[.int .i64 k,.int .i64 many,.int .i64 (clock+1),.slice A1 n c1,.slice A2 n' c2]:=by rw[hW3];exact Blk.new _ _ _
  have hb5:Below w.heap.size w W3:=(hb2.trans (hb3.mono hb2.size)).trans (hb4.mono (by omega));have hB3:Blk W3 w.heap.size 26 #[.int .i64 k,.int .i64 many,.int .i64 clock,.slice A n c,.slice A' n' c']:=(hB1.below hb3 (by omega)).below hb4 (by omega);have hR3:Blk W3 (w.heap.size+1) 26 #[.int .i64 0,.int .i64 0,.int .i64 0,.slice none 0 0,.slice none 0 0]:=(hR1.below hb3 (by omega)).below hb4 (by omega);have O1:=hid (own_below o1 hb4);have O2:=hid (own_below o2 hb4);have F2:=hid (Fresh.of_own o2 hb2.size);have N1:=hid (block_not (own_below o1 hb4) (g:=w.heap.size) (.inl (by omega)));have N2:=hid (block_not o1 (g:=w2.heap.size) (.inr (Nat.le_refl _)));have N3:=hid (block_not (own_below o1 hb4) (g:=w.heap.size+1) (.inl (by omega)));have N4:=hid (block_not o2 (g:=w2.heap.size) (.inr (Nat.le_refl _)));have N5:=hid (block_not (own_below o2 hb4) (g:=w.heap.size+1) (.inl (by omega)));have HP3:Hid (Reads W3 W3.heap.size 4 A n (encPs posts)):=hid ((HH.out.posts.below hb5).more hb5.size);have HG3:=hid hG3;have HB3:=hid hB3;have HR3:=hid hR3;have HBelow:=hid hb5;have g2:=hG3.cell 2;have g3:=hG3.cell 3;have q0:=hB3.cell 0;have q3:=hB3.cell 3;simp only[List.getElem?_toArray,List.getElem?_cons_zero,List.getElem?_cons_succ]at g2 g3 q0 q3;clear hW3 o1 o2 hG3 hB3 hR3 hb5 hb1 hb2 hb3 hb4 hB1 hR1 hBW hRW hbW b0 b1 b2 b3 b4 r0 r1 r2 r3 r4 s0 s1 s2 s3 s4 HV HOwn;have hidx:=HI.out;have L0:=Later.of g2;have L1:=Later.of g3;have L2:=Later.of q0;have L3:=Later.of q3;refine Loose.wp_region_later [(8,.is (.agg (Row5 (C posts n)))),(14,.row W3.heap.size 57 1 #[.int .i64 (clock+1),.int .i64 k,.int .i64 (C posts n k),.string text])] 15 (by kernel_rfl) (by kernel_rfl) ?_
  (simp only[List.take_succ_cons,List.take_zero,List.drop_succ_cons,List.drop_zero])
  (repeat(first|refine Loose.walk_skip rfl ?_|(refine Loose.walk_plain rfl rfl rfl λK h=>?_;go_big_quiet_op;refine h _ ?_;clear h K)))
  refine Loose.walk_loose rfl rfl (λW' hW' hF=>Loose.loose_call (f:=43) (args:=#[.slice A n c]) (by kernel_rfl) ((counts_any W' A n c posts ((HP3.out.below hW').more hW'.size) HPL.out hfew HOr.out).mono λe w' ⟨he,hb⟩=>⟨_,he,hb,rfl⟩)) ?_;rintro _ _ _ rfl
  (simp only[Act.put,List.setIfInBounds_toArray,List.set_cons_succ,List.set_cons_zero])
  (repeat(first|refine Loose.walk_skip rfl ?_|(refine Loose.walk_plain rfl rfl rfl λK h=>?_;go_big_quiet_op;refine h _ ?_;clear h K)))
  refine Loose.walk_loose rfl rfl (λW' hW' _=>Loose.loose_val (u:=.slice (some ⟨W'.heap.size,0,none⟩) 1 1) (W':=W'.alloc (.cells #[.int .i64 (clock+1),.int .i64 k,.int .i64 (C posts n k),.string text] 57)) (by kernel_rfl) ((Below.refl _ _).alloc (Nat.le_refl _) _) ⟨_,rfl,hW'.size,Blk.new _ _ _⟩) ?_;rintro _ _ _ ⟨x,rfl,hx,_⟩
  (simp only[Act.put,List.setIfInBounds_toArray,List.set_cons_succ,List.set_cons_zero])
  (repeat(first|refine Loose.walk_skip rfl ?_|(refine Loose.walk_plain rfl rfl rfl λK h=>?_;go_big_quiet_op;refine h _ ?_;clear h K)))
  refine Loose.walk_nil ?_;rintro w4 hb6 hF;have hrow:=(Loose.Pred.row_at (B:=W3.heap.size) (t:=57) (n:=1) (cs:=#[.int .i64 (clock+1),.int .i64 k,.int .i64 (C posts n k),.string text]) (x:=x) (W:=w4) hF.2).2;have hs4:=hb6.size;have k3:=(hb6.cell (p:=⟨w2.heap.size,3,none⟩) (by simp[hs3])).trans g3;have k2:=(hb6.cell (p:=⟨w2.heap.size,2,none⟩) (by simp[hs3])).trans g2;have k0:=(hb6.cell (p:=⟨w.heap.size,0,none⟩) (by simp;omega)).trans q0;have k9:=(hb6.cell (p:=⟨w.heap.size,3,none⟩) (by simp;omega)).trans q3;have o4:=hid (own_below O1.out hb6);have jf0:=(hb6.frozen (p:=⟨w2.heap.size,3,none⟩) (by simp[hs3])).trans (HG3.out.frozen 3);clear L0 L1 L2 L3 hF
  go_upto_region 6 with (first
   | (at_builtin
      refine wpList_append_lies _ (by rfl) _ _ 23 (by rfl) w1.heap.size 57 i0 _ 4 40 underlying23 hi0 hz0 hz1 hz2 rfl (by omega) (.slice A1 n c1) n (encPs posts) (by rfl) o4.out
       ⟨x,0,none⟩ 1 1 [.int .i64 (clock+1),.int .i64 k,.int .i64 (C posts n k),.string text] (by rfl) (by rfl)
       (World.news_of_block (cs:=#[.int .i64 (clock+1),.int .i64 k,.int .i64 (C posts n k),.string text]) (t:=57) (fr:=(0,0)) hrow) (by simp[Value.oneCell'])
       (by omega) (by simp only[maxLen];omega) (by omega) (by omega) w4.heap.size rfl ?_
      intro g cap w5 hown5 hgrow hat hlt5;have j3:=(hgrow.cell_far ⟨w2.heap.size,3,none⟩ (by simp;omega) N2.out).trans k3;have j2:=(hgrow.cell_far ⟨w2.heap.size,2,none⟩ (by simp;omega) N2.out).trans k2;have j0:=(hgrow.cell_far ⟨w.heap.size,0,none⟩ (by simp;omega) N1.out).trans k0;have j9:=(hgrow.cell_far ⟨w.heap.size,3,none⟩ (by simp;omega) N1.out).trans k9;have jf:=(hgrow.frozen_far ⟨w2.heap.size,3,none⟩ (by simp;omega) N2.out).trans jf0)
   | fail)
  all_goals
   have hgG:g≠w2.heap.size:=by
    rcases hat with h|h
    ·intro e;exact N2.out (by rw[h,e])
    ·omega
   have hg1:w1.heap.size<=g:=(hown5.lt g rfl).1;have own2:=own_below O2.out hb6;have own3:=own2.kept hgrow (own_apart own2 o4.out (by decide));have hR6:RepR (w5.setCell ⟨w2.heap.size,3,none⟩ (.slice (some ⟨g,0,none⟩) (n+1) cap)) w5.heap.size ⟨k,many,clock+1,posts++[⟨clock+1,k,C posts n k,text⟩],heard⟩ (some ⟨g,0,none⟩) (n+1) A2 n':=by
    refine⟨?_,by simp[HPL.out],?_,HH.out.len',by omega,HH.out.few'⟩
    ·simp only[encPs_snoc]
     exact(Reads.of_own hown5).far (p:=⟨w2.heap.size,3,none⟩) (λa e=>by injection e with e;subst e;exact hgG) _
    ·exact(Reads.of_own own3).far (p:=⟨w2.heap.size,3,none⟩) (λa e h=>N4.out (by subst e;exact(congrArg some h).symm)) _
   have hlt4:w4.heap.size<=w5.heap.size:=hgrow.size;have hb8:Below w.heap.size w (w5.setCell ⟨w2.heap.size,3,none⟩ (.slice (some ⟨g,0,none⟩) (n+1) cap)) :=
    ((HBelow.out.trans (hb6.mono HBelow.out.size)).grown hgrow (by first|omega|(simp;omega)) (λj hj=>by have:=(o4.out.lt j hj).1;omega)).setCell (by first|omega|(simp;omega)) _
   have hR8:Blk (w5.setCell ⟨w2.heap.size,3,none⟩ (.slice (some ⟨g,0,none⟩) (n+1) cap)) (w.heap.size+1) 26 #[.int .i64 0,.int .i64 0,.int .i64 0,.slice none 0 0,.slice none 0 0]:=by
    refine Blk.far ?_ (by first|omega|(simp;omega)) _;exact(hgrow.block (w.heap.size+1) (by first|omega|(simp;omega)) N3.out).trans (HR3.out.below hb6 (by omega))
   have hG8:Blk (w5.setCell ⟨w2.heap.size,3,none⟩ (.slice (some ⟨g,0,none⟩) (n+1) cap)) w2.heap.size 26 #[.int .i64 k,.int .i64 many,.int .i64 (clock+1),.slice (some ⟨g,0,none⟩) (n+1) cap,.slice A2 n' c2] :=
    Blk.set_ (cs:=#[.int .i64 k,.int .i64 many,.int .i64 (clock+1),.slice A1 n c1,.slice A2 n' c2]) ((hgrow.block w2.heap.size (by first|omega|(simp;omega)) N2.out).trans (HG3.out.below hb6 (by omega))) 3 _
   obtain⟨W6,hW6⟩:∃W6,W6=w5.setCell ⟨w2.heap.size,3,none⟩ (.slice (some ⟨g,0,none⟩) (n+1) cap):=⟨_,rfl⟩;have hs6:W6.heap.size=w5.heap.size:=by rw[hW6,size_setCell]
   rw[<- hW6]at hR6 hb8 hR8 hG8 ⊢;rw[<- hs6]at hR6;obtain⟨x0,x1,x2,x3,x4⟩:=hG8.cells5;have HRight:=hid (right_any W6 _ _ _ cap _ _ c2 hR6);unfold repV at HRight;simp only at HRight;have HR6:=hid hR6;have HR8:=hid hR8;have HB8:=hid hb8;have HCap:=hid (own_cap hown5);clear hW6 hR6 hR8 hb8 hG8 own2 own3 hown5 hgrow hb6 j0 j2 j3 j9 jf jf0 k0 k2 k3 k9 hidx hat hrow;have HW:Hid (Rp.written ⟨k,many,clock,posts,heard⟩ text=⟨k,many,clock+1,posts++[⟨clock+1,k,C posts n k,text⟩],heard⟩):=hid (by unfold Rp.written;rw[C_all posts n HPL.out])
   go_wp2_with fail
   refine HRight.out.mono ?_;rintro e w7 ⟨rfl,hb9⟩;have hbe:=HB8.out.trans (hb9.mono HB8.out.size);have hR9:=HR8.out.below hb9 HR8.out.lt;obtain⟨r0,r1,r2,r3,r4⟩:=hR9.cells5;obtain⟨s0,s1,s2,s3,s4⟩:=hR9.soft5;cases hv2:Rp.valid ⟨k,many,clock+1,posts++[⟨clock+1,k,C posts n k,text⟩],heard⟩
   ·unfold orErr zeroRep
    go_wp2;refine bodyPost_ret (v:=.tuple #[zeroRep,.int .i64 310]) (by simp[zeroRep,results,results13,go_sem,r0,r1,r2,r3,r4]) rfl ⟨?_,?_⟩
    ·repeat(refine Below.setCell ?_ (by simp) _)
     exact hbe
    ·rw[HN.out,HW.out,hv2];rfl
   ·unfold orErr
    go_wp2;refine bodyPost_ret (v:=.tuple #[.agg #[.int .i64 k,.int .i64 many,.int .i64 (clock+1),.slice (some ⟨g,0,none⟩) (n+1) cap,.slice A2 n' c2],.int .i64 0]) (by simp[results,results13,go_sem,r0,r1,r2,r3,r4]) rfl ⟨?_,?_⟩
    ·repeat(refine Below.setCell ?_ (by simp) _)
     exact hbe
    ·rw[HN.out,HW.out,hv2]
     refine⟨some ⟨g,0,none⟩,n+1,cap,A2,n',c2,rfl,?_,(λa e=>by injection e with e;subst e;simp;omega),F2.out,HCap.out⟩;simp only[size_setCell]
     repeat(refine RepR.far ?_ (λa e=>by injection e with e;subst e;simp;omega) (λa e h=>N5.out (by subst e;exact(congrArg some h).symm)) _)
     exact(HR6.out.below hb9).more hb9.size
end
section
open Go.RowKit
def msgV (m:Rp.Msg)(M:Option Addr)(N C:Nat)(M':Option Addr)(N' C':Nat):Value:=.agg #[.int .i64 m.src,.slice M N C,.slice M' N' C']
def zeroMsg :Value:=.agg #[.int .i64 0,.slice none 0 0,.slice none 0 0]
structure MsgR (w:World) (B:Nat) (m:Rp.Msg) (M:Option Addr) (N:Nat) (M':Option Addr) (N':Nat):Prop where
 posts:Reads w B 4 M N (encPs m.posts)
 len:m.posts.length=N
 heard:Reads w B 1 M' N' (m.heard.map (Value.int .i64))
 len':m.heard.length=N'
 few:N<=16777216
 few':N'<=16777216
theorem MsgR.below {w w':World}{B:Nat}{r:Rp.Msg}{A A':Option Addr}{n n':Nat}(h:MsgR w B r A n A' n')(hb:Below B w w'):MsgR w' B r A n A' n' :=
 ⟨h.posts.below hb,h.len,h.heard.below hb,h.len',h.few,h.few'⟩
theorem MsgR.more {w:World}{B B':Nat}{r:Rp.Msg}{A A':Option Addr}{n n':Nat}(h:MsgR w B r A n A' n')(hB:B<=B'):MsgR w B' r A n A' n' :=
 ⟨h.posts.more hB,h.len,h.heard.more hB,h.len',h.few,h.few'⟩
theorem MsgR.far {w:World}{B:Nat}{r:Rp.Msg}{A A':Option Addr}{n n':Nat}(h:MsgR w B r A n A' n'){p:Addr}(hp:∀a,A=some a->a.block≠p.block)(hp':∀a,A'=some a->a.block≠p.block)(u:Value) :
 MsgR (w.setCell p u) B r A n A' n' :=
 ⟨h.posts.far hp u,h.len,h.heard.far hp' u,h.len',h.few,h.few'⟩
def GotTell (w w':World)(e:Ending)(o:Option (Rp.Rep×Rp.Msg)):Prop :=
 Below w.heap.size w w'/\match o with
  | none=>e=.returned (.tuple #[zeroRep,zeroMsg,.int .i64 310])
  | some (r,m)=>∃A n c A' n' c' M N C M' N' C',e=.returned (.tuple #[repV r A n c A' n' c',msgV m M N C M' N' C',.int .i64 0])/\RepR w' w'.heap.size r A n A' n'/\MsgR w' w'.heap.size m M N M' N'/\N<=C/\((Fresh w.heap.size A/\Fresh w.heap.size A')/\n<=c)/\Fresh w.heap.size M/\Fresh w.heap.size M'
theorem own_far {w:World}{B:Nat}{e:TypeId}{s n:Nat}{v:Value}{xs:List Value}(h:w.ownsRow B e s v n xs){p:Addr}(hp:v.ownBlock≠some p.block)(u:Value):(w.setCell p u).ownsRow B e s v n xs:=by
 refine⟨h.1,?_⟩;rcases h.2 with h2|⟨g,cap,cur,rfl,hb,hh,r⟩
 ·exact .inl h2
 ·refine .inr ⟨g,cap,cur,rfl,hb,?_,r⟩
  rw[Below.heap_setCell w p u g (by intro e;exact hp (by simp[Value.ownBlock,e]))];exact hh
theorem tell_no {r:Rp.Rep}(h:Rp.valid r=false):Rp.tell r=none:=by unfold Rp.tell;rw[h];rfl
theorem tell_yes {r:Rp.Rep}(h:Rp.valid r=true):Rp.tell r=some (Rp.told r,Rp.message r):=by unfold Rp.tell;rw[h];rfl
theorem tell_any (w:World)(r:Rp.Rep)(A:Option Addr)(n c:Nat)(A':Option Addr)(n' c':Nat)(h:RepR w w.heap.size r A n A' n') :
 Calls prog 15 #[repV r A n c A' n' c'] w λe w'=>GotTell w w' e (Rp.tell r):=by
 obtain⟨me,many,clock,posts,heard⟩:=r;obtain⟨W0,hW0⟩:∃W0,W0=((w.alloc (.cells #[.int .i64 me,.int .i64 many,.int .i64 clock,.slice A n c,.slice A' n' c'] 26)).alloc (.cells #[.int .i64 0,.int .i64 0,.int .i64 0,.slice none 0 0,.slice none 0 0] 26)).alloc (.cells #[.int .i64 0,.slice none 0 0,.slice none 0 0] 28):=⟨_,rfl⟩;have hs0:W0.heap.size=w.heap.size+3:=by rw[hW0];simp
 have hbW:Below w.heap.size w W0:=by rw[hW0];exact(((Below.refl _ _).alloc (Nat.le_refl _) _).alloc (by simp) _).alloc (by simp;omega) _
 have hBW:Blk W0 w.heap.size 26 #[.int .i64 me,.int .i64 many,.int .i64 clock,.slice A n c,.slice A' n' c']:=by rw[hW0];exact((Blk.new _ _ _).alloc _).alloc _
 have hRW:Blk W0 (w.heap.size+1) 26 #[.int .i64 0,.int .i64 0,.int .i64 0,.slice none 0 0,.slice none 0 0]:=by rw[hW0];exact(Blk.new2 _ _ _ _).alloc _
 have hMW:Blk W0 (w.heap.size+1+1) 28 #[.int .i64 0,.slice none 0 0,.slice none 0 0]:=by
  rw[hW0];have hbn:=Blk.new2 (w.alloc (.cells #[.int .i64 me,.int .i64 many,.int .i64 clock,.slice A n c,.slice A' n' c'] 26)) (.cells #[.int .i64 0,.int .i64 0,.int .i64 0,.slice none 0 0,.slice none 0 0] 26) 28 #[.int .i64 0,.slice none 0 0,.slice none 0 0];simp only[World.size_alloc]at hbn;exact hbn
 have HV:=hid (valid_any W0 ⟨me,many,clock,posts,heard⟩ A n c A' n' c' ((h.below hbW).more (by omega)));have HW0:=hid hW0;have HH:=hid h;clear h hW0;unfold repV at *;simp only at HV ⊢
 go_enter func15,ntmps15
 go_wp2_with fail
 rw[<- HW0.out];refine HV.out.mono ?_;rintro e w1 ⟨rfl,hb1⟩;have hb2:=hbW.trans (hb1.mono hbW.size);have hB1:=hBW.below hb1 (by omega);have hR1:=hRW.below hb1 (by omega);have hM1:=hMW.below hb1 (by omega);have hs1:=hb1.size;obtain⟨b0,b1,b2,b3,b4⟩:=hB1.cells5;obtain⟨r0,r1,r2,r3,r4⟩:=hR1.cells5;obtain⟨s0,s1,s2,s3,s4⟩:=hR1.soft5;have y0:=hM1.cell 0;have y1:=hM1.cell 1;have y2:=hM1.cell 2;simp only[List.getElem?_toArray,List.getElem?_cons_zero,List.getElem?_cons_succ]at y0 y1 y2;have z0:=hM1.frozen 0;have z1:=hM1.frozen 1;have z2:=hM1.frozen 2;cases hv:Rp.valid ⟨me,many,clock,posts,heard⟩
 ·have HN:=hid (tell_no hv)
  go_wp2;refine bodyPost_ret (v:=.tuple #[zeroRep,zeroMsg,.int .i64 310]) (by simp[zeroRep,zeroMsg,y0,y1,y2,results,results15,go_sem,r0,r1,r2,r3,r4]) rfl ⟨?_,?_⟩
  ·repeat(refine Below.setCell ?_ (by simp;try omega) _)
   exact hb2
  ·rw[HN.out]
 ·have HN:=hid (tell_yes hv)
  have HVV:=hid hv;obtain⟨⟨v1,v2⟩,⟨v3,v4⟩,⟨v5,v6⟩,v7,v8,v9⟩:=Rp.valid_iff.1 hv;simp only at v1 v2 v3 v4 v5 v6 v8;have HOr:Hid (∀p∈posts,∃o:Nat,o<5/\p.origin=o):=hid λp hp=>by
   obtain⟨mn,hmn⟩:∃mn:Nat,many=mn:=⟨many.toNat,by omega⟩;subst hmn;obtain⟨o,ho,e⟩:=Rp.own_range v8 hp;exact⟨o,by omega,e⟩
  have HPL:=hid HH.out.len;have hfew:=HH.out.few;have h200:n<=200:=by
   have h1:=(Rp.isLog_iff.1 v8).1;have h2:=HH.out.len;simp only at h2;omega
  simp only at HPL;obtain⟨k,rfl⟩:∃k:Nat,me=k:=⟨me.toNat,by omega⟩;have hk5:k<5:=by omega
  have HOwn:=hid (own_any w1 ⟨k,many,clock,posts,heard⟩ A n c A' n' c' ((HH.out.below hb2).more hb2.size));unfold repV at HOwn;simp only at HOwn;clear v3 v8 v9 hv;have hpos:0<n':=by
   have:=HH.out.len';have h2:=(Rp.isHeard_iff.1 v7).1;simp only at this h2;omega
  have hkn:(k:Int)<(n':Int):=by
   have:=HH.out.len';have h2:=(Rp.isHeard_iff.1 v7).1;simp only at this h2;omega
  clear v7 v4
  go_wp2_with fail
  refine HOwn.out.mono ?_;rintro e w2 ⟨A1,c1,A2,c2,rfl,o1,o2,hc1,hc2,hb3⟩;obtain⟨g2,cap2,e2,hg2,hl2⟩:=o2.form hpos;injection e2 with e2 _ e2c
  subst e2 e2c;have hs2:=hb3.size;have hB2:=hB1.below hb3 (by omega);have q0:=hB2.cell 0;simp only[List.getElem?_toArray,List.getElem?_cons_zero]at q0;have q2:=hB2.cell 2;simp only[List.getElem?_toArray,List.getElem?_cons_zero,List.getElem?_cons_succ]at q2;have e0:=World.new_ne w2 _ q0;have q2a:∀o,(w2.alloc o).cell? ⟨w.heap.size,2,none⟩=some (.int .i64 clock):=λo=>(World.cell?_alloc_some w2 _ o (by rw[q2];rfl)).trans q2
  have hk1:k<n'*1:=by omega
  have hgx:g2<w2.heap.size:=hl2;have t1:=o2.cellAt k hk1;have hklen:k<heard.length:=by have:=o2.1;simp at this;omega
  rw[List.getElem?_map,List.getElem?_eq_getElem hklen]at t1;simp only[Option.map_some]at t1;have t2:=o2.frozenAt k;have t3:=World.new_ne w2 _ t1;have q0a:∀o,(w2.alloc o).cell? ⟨w.heap.size,0,none⟩=some (.int .i64 k):=λo=>(World.cell?_alloc_some w2 _ o (by rw[q0];rfl)).trans q0
  have t1a:∀o,(w2.alloc o).cell? ⟨g2,k,none⟩=some (.int .i64 heard[k]):=λo=>(World.cell?_alloc_some w2 _ o (by rw[t1];rfl)).trans t1
  have t2a:∀o,(w2.alloc o).frozen? ⟨g2,k,none⟩=false:=λo=>(((Below.refl w2.heap.size w2).alloc (Nat.le_refl _) o).frozen (p:=⟨g2,k,none⟩) hgx).trans t2
  go_wp2;obtain⟨W3,hW3⟩:∃W3,W3=(w2.setCell ⟨g2,k,none⟩ (.int .i64 clock)).alloc (.cells #[.int .i64 k,.int .i64 many,.int .i64 clock,.slice A1 n c1,.slice (some ⟨g2,0,none⟩) n' c2] 26):=⟨_,rfl⟩;rw[<- hW3];have hs3:W3.heap.size=w2.heap.size+1:=by rw[hW3];simp
  have hG3:Blk W3 w2.heap.size 26 #[.int .i64 k,.int .i64 many,.int .i64 clock,.slice A1 n c1,.slice (some ⟨g2,0,none⟩) n' c2]:=by
   rw[hW3];have hbn:=Blk.new (w2.setCell ⟨g2,k,none⟩ (.int .i64 clock)) 26 #[.int .i64 k,.int .i64 many,.int .i64 clock,.slice A1 n c1,.slice (some ⟨g2,0,none⟩) n' c2];rw[size_setCell]at hbn;exact hbn
  have hb5:Below w.heap.size w W3:=by
   rw[hW3];exact((hb2.trans (hb3.mono hb2.size)).setCell (p:=⟨g2,k,none⟩) (by simp;omega) _).alloc (by simp only[size_setCell];omega) _
  have hB3:Blk W3 w.heap.size 26 #[.int .i64 k,.int .i64 many,.int .i64 clock,.slice A n c,.slice A' n' c']:=by rw[hW3];exact(hB2.far (by simp;omega) _).alloc _
  have hR3:Blk W3 (w.heap.size+1) 26 #[.int .i64 0,.int .i64 0,.int .i64 0,.slice none 0 0,.slice none 0 0]:=by rw[hW3];exact((hR1.below hb3 (by omega)).far (by simp;omega) _).alloc _
  have hM3:Blk W3 (w.heap.size+1+1) 28 #[.int .i64 0,.slice none 0 0,.slice none 0 0]:=by rw[hW3];exact((hM1.below hb3 (by omega)).far (by simp;omega) _).alloc _
  have o2':=(o2.stored k (.int .i64 clock)).1.alloc (.cells #[.int .i64 k,.int .i64 many,.int .i64 clock,.slice A1 n c1,.slice (some ⟨g2,0,none⟩) n' c2] 26);have o1':=(own_far o1 (p:=⟨g2,k,none⟩) (λe=>(own_apart o1 o2 (by decide)).elim (λh=>by rw[h]at e;cases e) (λh=>h e)) (.int .i64 clock)).alloc (.cells #[.int .i64 k,.int .i64 many,.int .i64 clock,.slice A1 n c1,.slice (some ⟨g2,0,none⟩) n' c2] 26);rw[<- hW3,<- List.map_set]at o2';rw[<- hW3]at o1';have O1:=hid o1';have F1:=hid (Fresh.of_own o1 hb2.size);have HCap:=hid (own_cap o1);have O2:=hid o2';have HB5:=hid hb5;have HR3:=hid hR3;have HM3:=hid hM3;have HO1:Hid (Reads W3.drew W3.drew.heap.size 4 A1 n (encPs posts)):=hid (Reads.of_own o1':Reads W3 W3.heap.size 4 A1 n (encPs posts));have HO2:Hid (Reads W3 W3.heap.size 1 (some ⟨g2,0,none⟩) n' ((heard.set k clock).map (Value.int .i64))):=hid (Reads.of_own o2');have g1b:=hid hg2;have hf':=HH.out.few';obtain⟨p0,p1,p2,p3,p4⟩:=hG3.cells5;have q:=hB3.cell 0;simp only[List.getElem?_toArray,List.getElem?_cons_zero]at q;have u1:w.heap.size+1≠w2.heap.size:=by omega
  have u2:w.heap.size+1+1≠w2.heap.size:=by omega
  have u3:w.heap.size≠w2.heap.size:=by omega
  have u4:w.heap.size+1+1≠w.heap.size:=by omega
  have u5:w.heap.size+1≠w.heap.size:=by omega
  have u4':=u4.symm;have u5':=u5.symm;have u1':=u1.symm;have u2':=u2.symm;have u3':=u3.symm;have hGs:w2.heap.size<W3.heap.size:=by omega
  have hBs:w.heap.size+1+1<W3.heap.size:=by omega
  clear hW3 o1' o2' o1 o2 hB3 hR3 hM3 hb5 hb1 hb2 hb3 hB1 hB2 hR1 hM1 hBW hRW hMW hbW b0 b1 b2 b3 b4 r0 r1 r2 r3 r4 s0 s1 s2 s3 s4 y0 y1 y2 z0 z1 z2 HV HOwn q0 q2 q0a q2a t1 t1a t2 t2a t3 e0
  go_region_held3 (λw'=>w'.cell? ⟨w2.heap.size,0,none⟩=some (.int .i64 k)/\w'.cell? ⟨w2.heap.size,1,none⟩=some (.int .i64 many)/\w'.cell? ⟨w2.heap.size,2,none⟩=some (.int .i64 clock) /\
   w'.cell? ⟨w2.heap.size,3,none⟩=some (.slice A1 n c1)/\w'.cell? ⟨w2.heap.size,4,none⟩=some (.slice (some ⟨g2,0,none⟩) n' c2)/\w'.cell? ⟨w.heap.size,0,none⟩=some (.int .i64 k))
   (go_keep)
   (first
     | (go_at_call 46
        refine(clonePost W3.drew A1 n c1 posts HO1.out hfew).mono ?_;rintro e w4 ⟨v1,rfl,own4,hb4⟩;obtain⟨A3,c3,rfl,hc3⟩:=own_slice own4;have hb6:Below W3.heap.size W3 w4:=(Below.refl _ _).drew.trans hb4;have hs4:=hb6.size;have k0:=(hb6.cell (p:=⟨w2.heap.size,0,none⟩) hGs).trans p0;have k1:=(hb6.cell (p:=⟨w2.heap.size,1,none⟩) hGs).trans p1;have k2:=(hb6.cell (p:=⟨w2.heap.size,2,none⟩) hGs).trans p2;have k3:=(hb6.cell (p:=⟨w2.heap.size,3,none⟩) hGs).trans p3;have k4:=(hb6.cell (p:=⟨w2.heap.size,4,none⟩) hGs).trans p4;have k9:=(hb6.cell (p:=⟨w.heap.size,0,none⟩) (by simp;omega)).trans q;have hl4:W3.heap.size<=w4.heap.size:=hs4)
     | (go_at_call 47
        refine(cloneInt w4 (some ⟨g2,0,none⟩) n' c2 (heard.set k clock) ((HO2.out.below hb6).more hl4) hf').mono ?_;rintro e w5 ⟨v2,rfl,own5,hb8⟩;obtain⟨A4,c4,rfl,hc4⟩:=own_slice own5;have hb9:Below W3.heap.size W3 w5:=hb6.trans (hb8.mono hl4);have j0:=(hb9.cell (p:=⟨w2.heap.size,0,none⟩) hGs).trans p0;have j1:=(hb9.cell (p:=⟨w2.heap.size,1,none⟩) hGs).trans p1;have j2:=(hb9.cell (p:=⟨w2.heap.size,2,none⟩) hGs).trans p2;have j3:=(hb9.cell (p:=⟨w2.heap.size,3,none⟩) hGs).trans p3;have j4:=(hb9.cell (p:=⟨w2.heap.size,4,none⟩) hGs).trans p4;have j9:=(hb9.cell (p:=⟨w.heap.size,0,none⟩) (by simp;omega)).trans q;have hR5:=HR3.out.below hb9 (by omega);have hM5:=HM3.out.below hb9 (by omega);obtain⟨r0,r1,r2,r3,r4⟩:=hR5.cells5;obtain⟨s0,s1,s2,s3,s4⟩:=hR5.soft5;have y0:=hM5.cell 0;have y1:=hM5.cell 1;have y2:=hM5.cell 2;simp only[List.getElem?_toArray,List.getElem?_cons_zero,List.getElem?_cons_succ]at y0 y1 y2;have z0:=hM5.frozen 0;have z1:=hM5.frozen 1;have z2:=hM5.frozen 2))
  have HB9:=hid (HB5.out.trans (hb9.mono HB5.out.size));have o1e:=own_below O1.out hb9;have o2e:=own_below O2.out hb9;have o4e:=own_below own4 hb8;have N1:∀(b:Nat),b<w1.heap.size->∀a,A1=some a->a.block≠b:=λb hb a e h=>block_not o1e (g:=b) (.inl hb) (by subst e;exact(congrArg some h).symm)
  have N3:∀(b:Nat),b<W3.heap.size->∀a,A3=some a->a.block≠b:=λb hb a e h=>block_not o4e (g:=b) (.inl hb) (by subst e;exact(congrArg some h).symm)
  have N4:∀(b:Nat),b<W3.heap.size->∀a,A4=some a->a.block≠b:=λb hb a e h=>block_not own5 (g:=b) (.inl (by omega)) (by subst e;exact(congrArg some h).symm)
  have hw1:w.heap.size+1+1<w1.heap.size:=by omega
  have hsw:w.heap.size<=W3.heap.size:=by omega
  have F3:=hid (Fresh.of_own own4 (B':=w.heap.size) hsw);have F4:=hid (Fresh.of_own own5 (B':=w.heap.size) (by omega));have HE:=hid (show RepR w5 w5.heap.size ⟨k,many,clock,posts,heard.set k clock⟩ A1 n (some ⟨g2,0,none⟩) n' from
   ⟨Reads.of_own o1e,HPL.out,Reads.of_own o2e,by simp;exact HH.out.len',hfew,hf'⟩)
  have HF:=hid (show MsgR w5 w5.heap.size ⟨k,posts,heard.set k clock⟩ A3 n A4 n' from
   ⟨Reads.of_own o4e,HPL.out,Reads.of_own own5,by simp;exact HH.out.len',hfew,hf'⟩)
  have G1:=hid g1b.out;clear o1e o2e o4e own4 own5;go_wp2;refine bodyPost_ret (v:=.tuple #[.agg #[.int .i64 k,.int .i64 many,.int .i64 clock,.slice A1 n c1,.slice (some ⟨g2,0,none⟩) n' c2],.agg #[.int .i64 k,.slice A3 n c3,.slice A4 n' c4],.int .i64 0])
   (by simp[results,results15,go_sem,r0,r1,r2,r3,r4,y0,y1,y2]) rfl ⟨?_,?_⟩
  ·repeat(refine Below.setCell ?_ (by simp;try omega) _)
   exact HB9.out
  ·rw[HN.out]
   refine⟨A1,n,c1,some ⟨g2,0,none⟩,n',c2,A3,n,c3,A4,n',c4,rfl,?_,?_,hc3,⟨⟨F1.out,λa e=>by injection e with e;subst e;have:=G1.out;simp;omega⟩,HCap.out⟩,F3.out,F4.out⟩
   ·simp only[size_setCell]
    repeat(refine RepR.far ?_ (N1 _ (by simp;try omega)) (λa e=>by injection e with e;subst e;simp;omega) _)
    exact HE.out
   ·simp only[size_setCell]
    repeat(refine MsgR.far ?_ (N3 _ (by simp;try omega)) (N4 _ (by simp;try omega)) _)
    exact HF.out
end
section
open Go.RowKit
theorem toList_inj {a b:ByteArray}:a.toList=b.toList↔a=b:=by
 constructor
 ·intro h
  rw[Go.ByteArray.toList_eq,Go.ByteArray.toList_eq]at h;cases a;cases b;simpa[Array.toList_inj]using h
 ·rintro rfl;rfl
theorem post_eq_iff (p q:Rp.Post):p=q↔p.epoch=q.epoch/\p.origin=q.origin/\p.number=q.number/\p.text=q.text:=by
 cases p;cases q;simp
theorem post_eql (p q:Rp.Post)(w:World):(binOp .eql 57 (aggP p) (aggP q)).run prog w=.ok (.bool (decide (p=q))) w:=by
 have h:=post_eq_iff p q;unfold aggP;go_simp
 by_cases h1:p.epoch=q.epoch<;>by_cases h2:p.origin=q.origin<;>by_cases h3:p.number=q.number<;>by_cases h4:p.text=q.text <;>
  simp_all[toList_inj]
theorem post_neq (p q:Rp.Post)(w:World):(binOp .neq 57 (aggP p) (aggP q)).run prog w=.ok (.bool (!decide (p=q))) w:=by
 have h:=post_eq_iff p q;unfold aggP;go_simp
 by_cases h1:p.epoch=q.epoch<;>by_cases h2:p.origin=q.origin<;>by_cases h3:p.number=q.number<;>by_cases h4:p.text=q.text <;>
  simp_all[toList_inj]
theorem hear1_any (p q:Rp.Post)(w:World):Calls prog 63 #[aggP p,aggP q] w λe w'=>e=.returned (.int .i64 (cmp3 p.epoch p.origin p.number q.epoch q.origin q.number))/\Below w.heap.size w w':=by
 unfold aggP;obtain⟨W0,hW0⟩:∃W0,W0=(w.alloc (.cells #[.int .i64 p.epoch,.int .i64 p.origin,.int .i64 p.number,.string p.text] 57)).alloc (.cells #[.int .i64 q.epoch,.int .i64 q.origin,.int .i64 q.number,.string q.text] 57):=⟨_,rfl⟩;have hb:Below w.heap.size w W0:=by rw[hW0];exact((Below.refl _ _).alloc (Nat.le_refl _) _).alloc (by simp) _
 have HW0:=hid hW0;clear hW0
 go_enter func63,ntmps63
 go_wp2_with fail
 rw[<- HW0.out];refine(postCompare_any _ _ _ _ _ _ _ _ _).mono ?_;rintro e w1 ⟨rfl,hb1⟩;go_wp2;go_ret;exact⟨rfl,hb.trans (hb1.mono hb.size)⟩
theorem hear2_any (p q:Rp.Post)(w:World):Calls prog 66 #[aggP p,aggP q] w λe w'=>e=.returned (.bool (decide (p=q)))/\Below w.heap.size w w':=by
 have he:=post_eql p q;unfold aggP at *;have hb:Below w.heap.size w ((w.alloc (.cells #[.int .i64 p.epoch,.int .i64 p.origin,.int .i64 p.number,.string p.text] 57)).alloc (.cells #[.int .i64 q.epoch,.int .i64 q.origin,.int .i64 q.number,.string q.text] 57)):=((Below.refl _ _).alloc (Nat.le_refl _) _).alloc (by simp) _;have HB:=hid hb;clear hb
 go_enter func66,ntmps66
 go_wp2
 trace_state
 go_ret;exact⟨rfl,HB.out⟩
end
section
open Go.RowKit
theorem drop_cons {α:Type}{l:List α}{j:Nat}{q:α}(h:l[j]?=some q):l.drop j=q::l.drop (j+1):=by
 obtain⟨hlt,rfl⟩:=List.getElem?_eq_some_iff.1 h;exact List.drop_eq_getElem_cons hlt
def sameFrom {α:Type}[DecidableEq α](l l':List α)(j:Nat):Bool:=decide (l.drop j=l'.drop j)
section
variable {α:Type} [DecidableEq α] {l l':List α} {j:Nat} {q q':α}
theorem sameFrom_zero :decide (l=l')=sameFrom l l' 0:=by simp[sameFrom]
theorem sameFrom_yes (h:l[j]?=some q)(h':l'[j]?=some q')(e:q=q'):sameFrom l l' j=sameFrom l l' (j+1):=by
 unfold sameFrom;rw[drop_cons h,drop_cons h'];subst e;simp
theorem sameFrom_no (h:l[j]?=some q)(h':l'[j]?=some q')(e:¬q=q'):sameFrom l l' j=false:=by
 unfold sameFrom;rw[drop_cons h,drop_cons h'];simp[e]
theorem sameFrom_end (h:l.length<=j)(h':l'.length<=j):sameFrom l l' j=true:=by
 unfold sameFrom;rw[List.drop_eq_nil_of_le h,List.drop_eq_nil_of_le h'];simp
theorem same_len (h:l.length≠l'.length):decide (l=l')=false:=by
 simp;rintro rfl;exact h rfl
end
theorem equalInt (w:World)(A:Option Addr)(n c:Nat)(l:List Int)(A':Option Addr)(n' c':Nat)(l':List Int)
 (hx:Reads w w.heap.size 1 A n (l.map (Value.int .i64))) (hx':Reads w w.heap.size 1 A' n' (l'.map (Value.int .i64))) (hn:n<=16777216) (hn':n'<=16777216) :
 Calls prog 62 #[.slice A n c,.slice A' n' c'] w λe w'=>e=.returned (.bool (decide (l=l')))/\Below w.heap.size w w':=by
 have hl:l.length=n:=by have:=hx.1;simpa using this
 have hl':l'.length=n':=by have:=hx'.1;simpa using this
 have HL:=hid hl;have HL':=hid hl';have HX:=hid hx;have HX':=hid hx';have H0:=hid (sameFrom_zero (l:=l) (l':=l'));clear hx hx' hl hl'
 by_cases hne:n=n'
 ·subst hne
  go_enter func62,ntmps62
  go_wp2
  go_loopw [13] (λk wr=>∃j:Nat,j<=n/\k=.int .i64 j/\Hid (decide (l=l')=sameFrom l l' j)/\Below w.heap.size w wr) (λk _=>n - (intOf k).toNat)
  case atStart=>exact⟨0,by omega,rfl,H0,Below.refl _ _⟩
  case round =>
   obtain⟨j,hj,rfl,hf,hb⟩:=hrel
   by_cases hlt:j<n
   ·obtain⟨b,off,x,rfl,hbl,hq,h0⟩:=HX.out.int hlt
    obtain⟨b',off',x',rfl,hbl',hq',h0'⟩:=HX'.out.int hlt;rw[<- hb.cell (p:=⟨b,_,none⟩) hbl]at h0;rw[<- hb.cell (p:=⟨b',_,none⟩) hbl']at h0';have k0:=Later.of h0;have k0':=Later.of h0'
    by_cases e1:x=x'
    ·have HE:=hid (sameFrom_yes hq hq' e1)
     have e2:(x != x')=false:=by simpa using e1
     clear e1 hq hq';go_wp2;refine wp_region_later (by kernel_rfl) (by kernel_rfl) ?_
     repeat(go_big_quiet_step (fail))
     refine wpQuiet_nil ?_;rintro W1 ⟨⟨_,hW1⟩,rfl⟩;clear k0 k0';have hb1:=hb.trans (hW1.mono hb.size);go_wp2;go_roundw
     case rel=>exact⟨j+1,by omega,by go_num,by unfold Hid;rw[hf.out,HE.out],hb1⟩
     case measure=>simp[intOf];omega
    ·have HE:=hid (sameFrom_no hq hq' e1)
     have e2:(x != x')=true:=by simpa using e1
     clear e1 hq hq';go_wp2;refine wp_region_later (by kernel_rfl) (by kernel_rfl) ?_
     repeat(go_big_quiet_step (fail))
     refine wpQuiet_nil ?_;rintro W1 ⟨⟨_,hW1⟩,rfl⟩;clear k0 k0';have hb1:=hb.trans (hW1.mono hb.size);go_wp2;go_ret;exact⟨ret_bool (by rw[hf.out,HE.out]),hb1⟩
   ·have HE:=hid (sameFrom_end (l:=l) (l':=l') (j:=j) (by rw[HL.out];omega) (by rw[HL'.out];omega))
    go_wp2;go_ret;exact⟨ret_bool (by rw[hf.out,HE.out]),hb⟩
 ·have HE:=hid (same_len (l:=l) (l':=l') (by rw[HL.out,HL'.out];exact hne))
  have hne':((n:Int) != (n':Int))=true:=by simp;omega
  clear hne
  go_enter func62,ntmps62
  go_wp2;go_ret;exact⟨ret_bool HE.out.symm,Below.refl _ _⟩
end
section
open Go.RowKit
theorem equalPost (w:World)(A:Option Addr)(n c:Nat)(l:List Rp.Post)(A':Option Addr)(n' c':Nat)(l':List Rp.Post)
 (hx:Reads w w.heap.size 4 A n (encPs l)) (hl:l.length=n) (hx':Reads w w.heap.size 4 A' n' (encPs l')) (hl':l'.length=n') (hn:n<=16777216) (hn':n'<=16777216) :
 Calls prog 61 #[.slice A n c,.slice A' n' c'] w λe w'=>e=.returned (.bool (decide (l=l')))/\Below w.heap.size w w':=by
 have HL:=hid hl;have HL':=hid hl';have HX:=hid hx;have HX':=hid hx';have H0:=hid (sameFrom_zero (l:=l) (l':=l'));clear hx hx' hl hl'
 by_cases hne:n=n'
 ·subst hne
  go_enter func61,ntmps61
  go_wp2
  go_loopw [13] (λk wr=>∃j:Nat,j<=n/\k=.int .i64 j/\Hid (decide (l=l')=sameFrom l l' j)/\Below w.heap.size w wr) (λk _=>n - (intOf k).toNat)
  case atStart=>exact⟨0,by omega,rfl,H0,Below.refl _ _⟩
  case round =>
   obtain⟨j,hj,rfl,hf,hb⟩:=hrel
   by_cases hlt:j<n
   ·obtain⟨b,off,x,rfl,hbl,hq,h0,h1,h2,h3⟩:=HX.out.post HL.out hlt
    obtain⟨b',off',x',rfl,hbl',hq',h0',h1',h2',h3'⟩:=HX'.out.post HL'.out hlt;rw[<- hb.cell (p:=⟨b,_,none⟩) hbl]at h0 h1 h2 h3;rw[<- hb.cell (p:=⟨b',_,none⟩) hbl']at h0' h1' h2' h3';have k0:=Later.of h0;have k1:=Later.of h1;have k2:=Later.of h2;have k3:=Later.of h3;have k0':=Later.of h0';have k1':=Later.of h1';have k2':=Later.of h2';have k3':=Later.of h3';have hp:=post_neq x x';unfold aggP at hp
    by_cases e1:x=x'
    ·have HE:=hid (sameFrom_yes hq hq' e1)
     have e2:(!decide (x=x'))=false:=by simpa using e1
     rw[e2]at hp;clear e1 hq hq' e2;go_wp2;refine wp_region_later (by kernel_rfl) (by kernel_rfl) ?_
     repeat(go_big_quiet_step (fail))
     refine wpQuiet_nil ?_;rintro W1 ⟨⟨_,hW1⟩,rfl⟩;clear k0 k0' k1 k1' k2 k2' k3 k3';have hb1:=hb.trans (hW1.mono hb.size);go_wp2;go_roundw
     case rel=>exact⟨j+1,by omega,by go_num,by unfold Hid;rw[hf.out,HE.out],hb1⟩
     case measure=>simp[intOf];omega
    ·have HE:=hid (sameFrom_no hq hq' e1)
     have e2:(!decide (x=x'))=true:=by simpa using e1
     rw[e2]at hp;clear e1 hq hq' e2;go_wp2;refine wp_region_later (by kernel_rfl) (by kernel_rfl) ?_
     repeat(go_big_quiet_step (fail))
     refine wpQuiet_nil ?_;rintro W1 ⟨⟨_,hW1⟩,rfl⟩;clear k0 k0' k1 k1' k2 k2' k3 k3';have hb1:=hb.trans (hW1.mono hb.size);go_wp2;go_ret;exact⟨ret_bool (by rw[hf.out,HE.out]),hb1⟩
   ·have HE:=hid (sameFrom_end (l:=l) (l':=l') (j:=j) (by rw[HL.out];omega) (by rw[HL'.out];omega))
    go_wp2;go_ret;exact⟨ret_bool (by rw[hf.out,HE.out]),hb⟩
 ·have HE:=hid (same_len (l:=l) (l':=l') (by rw[HL.out,HL'.out];exact hne))
  have hne':((n:Int) != (n':Int))=true:=by simp;omega
  clear hne
  go_enter func61,ntmps61
  go_wp2;go_ret;exact⟨ret_bool HE.out.symm,Below.refl _ _⟩
end
end Go.Proofs.YtnehgpeelgjjhaaGreatDoor.Tw
