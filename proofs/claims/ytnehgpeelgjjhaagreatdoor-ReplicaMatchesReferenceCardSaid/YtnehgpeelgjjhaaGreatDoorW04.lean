/- Contracts of functions of the program, and plain laws, towards the laws of replicas. Joined of the texts: Loose, T2, Cmp, Cmp2, Log, LooseK, RF, Gen. -/
import Derived.Test.YtnehgpeelgjjhaaGreatDoorW03
import Derived.StillTailTactics
import Derived.Test.YtnehgpeelgjjhaaGreatDoorW00
import Derived.Deep.MidRow
import Derived.Laws.CopyRow
import Derived.KernelRfl
import Derived.RangeFuncNested
import Derived.RangeFuncBound
import Derived.RangeFuncCalls
import Derived.RangeFuncLeaves
import Derived.Shelf.Abstract
import Derived.Shelf.RegionOpen
import Derived.OwnWalkIn
import Derived.TacticsInMore
import Derived.LoopNIn
import Derived.LoopIn
set_option linter.all false
set_option maxRecDepth 100000
set_option maxHeartbeats 12800000
open Go.Lib (hid)
namespace Go.Loose
open Go Go.RowKit
def plain :Op->Bool
 | .move _|.assign _|.pick ..|.build ..|.load ..|.binOp ..|.unOp ..|.convert ..|.makeInterface ..|.makeFunc ..|.slice ..|.fieldAddr ..|.field ..|.indexAddr ..|.index ..|.lookup ..|.typeAssert ..|.extract ..|.nilCheck _=>true
 | .call { callee:=.builtin .len,.. }|.call { callee:=.builtin .cap,.. }|.call { callee:=.builtin .max,.. }|.call { callee:=.builtin .min,.. }=>true
 | _=>false
section
variable {P:Program} {ops:Array Oper} {md:Region.Mode} {C:World->Prop} {V:Nat->Option (Value->World->Prop)}
theorem val_of {s:Sem Value}{w:World}{n:Next}{w':World}(h:(do pure (Next.value (<- s)):Sem Next).run P w=.ok n w'):∃x,n=.value x:=by
 rw[Sem.run_bind]at h;cases hs:s.run P w with
 | ok x w1=>rw[hs]at h;simp[Result.andThen]at h;exact⟨_,h.1.symm⟩
 | halt x w1=>rw[hs]at h;simp[Result.andThen]at h
theorem valued_bind {α:Type}{s:Sem α}{f:α->Sem Next}(hf:∀x (w:World) n w',(f x).run P w=.ok n w'->∃y,n=.value y)(w:World)(n:Next)(w':World)(h:(s >>= f).run P w=.ok n w'):∃y,n=.value y:=by
 rw[Sem.run_bind]at h;cases hs:s.run P w with
 | ok x w1=>rw[hs]at h;exact hf x w1 n w' h
 | halt x w1=>rw[hs]at h;simp[Result.andThen]at h
theorem plain_value {ρ:Operand->Value}{o:Oper}(hp:plain o.op=true){w:World}{n:Next}{w':World}(h:(execOp ρ o).run P w=.ok n w'):∃x,n=.value x:=by
 obtain⟨dst,op,type,pos,after,guard⟩:=o;cases op<;>simp only[plain,Bool.false_eq_true]at hp<;>simp only[execOp]at h
 case move x=>simp at h;exact⟨_,h.1.symm⟩
 case assign x=>simp at h;exact⟨_,h.1.symm⟩
 case pick c a b =>
  rw[Sem.run_bind]at h;cases hs:(asBool (ρ c)).run P w with
  | ok x w1=>rw[hs]at h;simp[Result.andThen]at h;exact⟨_,h.1.symm⟩
  | halt x w1=>rw[hs]at h;simp[Result.andThen]at h
 case nilCheck x =>
  split at h
  ·simp[runtimePanic,Sem.run]at h
  ·simp[runtimePanic,Sem.run]at h
  ·simp[runtimePanic,Sem.run]at h
  ·split at h
   ·simp[runtimePanic,Sem.run]at h
   ·refine valued_bind (λp w n w' h=>?_) _ _ _ h
    refine valued_bind (λr w n w' h=>?_) _ _ _ h
    split at h
    ·refine valued_bind (λr w n w' h=>?_) _ _ _ h
     simp at h;exact⟨_,h.1.symm⟩
    ·simp at h;exact⟨_,h.1.symm⟩
   ·simp at h;exact⟨_,h.1.symm⟩
  ·simp at h;exact⟨_,h.1.symm⟩
 case call c =>
  obtain⟨callee,args,tys⟩:=c;cases callee with
  | value f=>simp[plain]at hp
  | invoke f m=>simp[plain]at hp
  | builtin b =>
    cases b<;>simp only[plain,Bool.false_eq_true]at hp<;>simp only[resolve,invoke,builtin,pure_bind,Sem.run_bind,Sem.run_pure,Result.andThen_ok]at h<;>exact val_of (by rw[Sem.run_bind];exact h)
 all_goals exact val_of h
def valUpon (w:World)(v:Value):Result Next->Prop
 | .ok (.value u) w'=>w'=w/\u=v
 | _=>False
def valAt (P:Program)(o:Oper)(a:Act)(w:World)(v:Value):Prop:=valUpon w v ((execOp a.eval o).run P w)
theorem valAt_unique {o:Oper}{a:Act}{w:World}{v u:Value}(h:valAt P o a w v)(k:valAt P o a w u):v=u:=by
 unfold valAt at *;generalize (execOp a.eval o).run P w=r at *
 match r,h,k with
 | .ok (.value _) _,⟨_,e1⟩,⟨_,e2⟩=>exact e1.symm.trans e2
def looseUpon (P:Program)(Vk:Value->World->Prop)(W:World):Result Next->Prop
 | .ok (.value u) w'=>Below W.heap.size W w'/\Vk u w'
 | .ok .skip w'=>Below W.heap.size W w'/\Vk undef w'
 | .ok (.enter f args) w'=>w'=W/\Calls P f args W (λe w''=>∃u,e=.returned u/\Below W.heap.size W w''/\Vk u w'')
 | _=>False
def looseAt (P:Program)(o:Oper)(a:Act)(Vk:Value->World->Prop)(W:World):Prop:=looseUpon P Vk W ((execOp a.eval o).run P W)
def Facts (ops:Array Oper)(V:Nat->Option (Value->World->Prop))(k:Nat)(o:Oper)(a:Act)(W:World):Prop :=
 ∀i oi Vi d,i<k->ops[i]?=some oi->V i=some Vi->oi.dst=some d->d∈o.looksAt ops->a.tmps.getD d undef=undef∨Vi (a.tmps.getD d undef) W
def walk (P:Program)(ops:Array Oper)(C:World->Prop)(V:Nat->Option (Value->World->Prop))(Q:Act->(World->Prop)->Prop)(L:Nat->Bool):Nat->List Oper->Act->(World->Prop)->Prop
 | _,[],a,F=>Q a F
 | k,o::l,a,F =>
   if L k=true then walk P ops C V Q L (k+1) l a F else
   if Region.wanted o (yielded ops a.tmps)=true then
    match V k with
    | none=>∃v,(∀W,C W->valAt P o a W v)/\walk P ops C V Q L (k+1) l (a.put o.dst v) F
    | some Vk=>(∀W,C W->Facts ops V k o a W->looseAt P o a Vk W)/\∀v,(∃W,C W/\Vk v W)->walk P ops C V Q L (k+1) l (a.put o.dst v) (λW=>F W/\Vk v W)
   else walk P ops C V Q L (k+1) l (a.put o.dst undef) F
def Anti (Q:Act->(World->Prop)->Prop):Prop:=∀a (F F':World->Prop),(∀W,F' W->F W)->Q a F->Q a F'
variable {Q:Act->(World->Prop)->Prop} {L L':Nat->Bool}
theorem walk_anti (hQ:Anti Q):∀(l:List Oper) (k:Nat) (a:Act) (F F':World->Prop),(∀W,F' W->F W)->walk P ops C V Q L k l a F->walk P ops C V Q L k l a F'
 | [],_,a,F,F',h,hw=>hQ a F F' h hw
 | o::l,k,a,F,F',h,hw=>by
   unfold walk at *
   split
   ·rename_i hL;rw[if_pos hL]at hw;exact walk_anti hQ l _ _ F F' h hw
   ·rename_i hL;rw[if_neg hL]at hw
    split
    ·rename_i hwn;rw[if_pos hwn]at hw
     cases hV:V k with
     | none=>rw[hV]at hw;obtain⟨v,h1,h2⟩:=hw;exact⟨v,h1,walk_anti hQ l _ _ F F' h h2⟩
     | some Vk=>rw[hV]at hw;exact⟨hw.1,λv hv=>walk_anti hQ l _ _ _ _ (λW hW=>⟨h W hW.1,hW.2⟩) (hw.2 v hv)⟩
    ·rename_i hwn;rw[if_neg hwn]at hw;exact walk_anti hQ l _ _ F F' h hw
theorem walk_congr :∀(l:List Oper) (k:Nat) (a:Act) (F:World->Prop),(∀i,k<=i->i<k+l.length->L i=L' i)->walk P ops C V Q L k l a F->walk P ops C V Q L' k l a F
 | [],_,_,_,_,hw=>hw
 | o::l,k,a,F,h,hw=>by
   unfold walk at *;rw[<- h k (Nat.le_refl _) (by simp)];have h':∀i,k+1<=i->i<k+1+l.length->L i=L' i:=λi hi h2=>h i (by omega) (by simp;omega)
   split
   ·rename_i hL;rw[if_pos hL]at hw;exact walk_congr l _ _ F h' hw
   ·rename_i hL;rw[if_neg hL]at hw
    split
    ·rename_i hwn;rw[if_pos hwn]at hw
     cases hV:V k with
     | none=>rw[hV]at hw;obtain⟨v,h1,h2⟩:=hw;exact⟨v,h1,walk_congr l _ _ F h' h2⟩
     | some Vk=>rw[hV]at hw;exact⟨hw.1,λv hv=>walk_congr l _ _ _ h' (hw.2 v hv)⟩
    ·rename_i hwn;rw[if_neg hwn]at hw;exact walk_congr l _ _ F h' hw
theorem getD_put {a:Act}{x:Option Tmp}{v:Value}{d:Tmp}(h:x≠some d):(a.put x v).tmps.getD d undef=a.tmps.getD d undef:=by
 cases x with
 | none=>rfl
 | some t =>
   have hne:t≠d:=λe=>h (by rw[e])
   simp[Act.put,Array.getElem?_setIfInBounds_ne hne]
theorem facts_put {k:Nat}{o:Oper}{a:Act}{x:Option Tmp}{v:Value}{W:World}(h:∀d,x=some d->d∉o.looksAt ops):Facts ops V k o (a.put x v) W↔Facts ops V k o a W:=by
 unfold Facts;refine⟨λhf i oi Vi d hi h1 h2 h3 h4=>?_,λhf i oi Vi d hi h1 h2 h3 h4=>?_⟩
 ·have:=hf i oi Vi d hi h1 h2 h3 h4
  rwa [getD_put (λe=>h d e h4)]at this
 ·rw[getD_put (λe=>h d e h4)]
  exact hf i oi Vi d hi h1 h2 h3 h4
theorem valAt_put {o:Oper}(hs:∀cs b,o.op≠.select cs b){a:Act}{x:Option Tmp}{u v:Value}{w:World}(h:∀d,x=some d->d∉o.looksAt ops):valAt P o (a.put x u) w v↔valAt P o a w v:=by
 unfold valAt;rw[execOp_put (ops:=ops) o hs a x u h]
theorem looseAt_put {o:Oper}(hs:∀cs b,o.op≠.select cs b){a:Act}{x:Option Tmp}{u:Value}{Vk:Value->World->Prop}{w:World}(h:∀d,x=some d->d∉o.looksAt ops):looseAt P o (a.put x u) Vk w↔looseAt P o a Vk w:=by
 unfold looseAt;rw[execOp_put (ops:=ops) o hs a x u h]
theorem getD_put_same (a:Act)(d:Tmp)(v:Value):(a.put (some d) v).tmps.getD d undef=v∨(a.put (some d) v).tmps.getD d undef=undef:=by
 by_cases h:d<a.tmps.size
 ·left;simp[Act.put,h]
 ·right;simp[Act.put,h]
def Inv (ops:Array Oper)(V:Nat->Option (Value->World->Prop))(done:Nat->Prop)(a:Act)(w:World):Prop :=
 ∀i oi Vi d,done i->ops[i]?=some oi->V i=some Vi->oi.dst=some d->a.tmps.getD d undef=undef∨Vi (a.tmps.getD d undef) w
def Distinct (ops:Array Oper)(V:Nat->Option (Value->World->Prop))(m:Nat):Prop :=
 ∀i j oi oj Vi d,j<m->i≠j->ops[i]?=some oi->ops[j]?=some oj->V i=some Vi->oi.dst=some d->oj.dst≠some d
def Stable (V:Nat->Option (Value->World->Prop)):Prop:=∀i Vi,V i=some Vi->∀v W W',Vi v W->Below W.heap.size W W'->Vi v W'
def Closed (C:World->Prop):Prop:=∀W W',C W->Below W.heap.size W W'->C W'
theorem Inv.step {m:Nat}(hD:Distinct ops V m)(hS:Stable V){done:Nat->Prop}{a:Act}{w w':World}{k:Nat}(hkm:k<m){o:Oper}{v:Value}(h:Inv ops V done a w)(hk:ops[k]?=some o)(hb:Below w.heap.size w w')
 (hv:∀Vk,V k=some Vk->v=undef∨Vk v w'):Inv ops V (λi=>done i∨i=k) (a.put o.dst v) w':=by
 intro i oi Vi d hd hi hVi hdst
 by_cases e:i=k
 ·subst e
  rw[hk]at hi;obtain rfl:=Option.some.inj hi;rw[hdst];rcases getD_put_same a d v with h1|h1
  ·rw[h1];exact hv _ hVi
  ·exact .inl h1
 ·have hdi:done i:=hd.resolve_right e
  rw[getD_put (hD i k oi o Vi d hkm e hi hk hVi hdst)];rcases h i oi Vi d hdi hi hVi hdst with h1|h1
  ·exact .inl h1
  ·exact .inr (hS i Vi hVi _ _ _ h1 hb)
theorem Inv.mono {done done':Nat->Prop}{a:Act}{w:World}(h:Inv ops V done a w)(hd:∀i,done' i->done i):Inv ops V done' a w :=
 λi oi Vi d h0 h1 h2 h3=>h i oi Vi d (hd i h0) h1 h2 h3
theorem looseAt_some {o:Oper}{a:Act}{Vk:Value->World->Prop}{w:World}(h:looseAt P o a Vk w):∃v w',Below w.heap.size w w'/\Vk v w':=by
 unfold looseAt at h;generalize (execOp a.eval o).run P w=r at h
 match r,h with
 | .ok (.value u) w',h=>exact⟨u,w',h.1,h.2⟩
 | .ok .skip w',h=>exact⟨undef,w',h.1,h.2⟩
 | .ok (.enter f args) w',h =>
   obtain⟨e1,hc⟩:=h;obtain⟨e,w2,fr,⟨u,_,hb,hv⟩,_⟩:=hc [];exact⟨u,w2,hb,hv⟩
def says (P:Program)(ops:Array Oper)(C:World->Prop)(V:Nat->Option (Value->World->Prop))(j:Nat)(oj:Oper)(a:Act):Prop :=
 Region.wanted oj (yielded ops a.tmps)=true ->
  match V j with
  | none=>∃v,∀W,C W->valAt P oj a W v
  | some Vj=>∀W,C W->Facts ops V j oj a W->looseAt P oj a Vj W
theorem says_put {j:Nat}{oj:Oper}(hs:∀cs b,oj.op≠.select cs b){a:Act}{x:Option Tmp}{u:Value}(h:∀d,x=some d->d∉oj.looksAt ops)(hh:says P ops C V j oj (a.put x u)):says P ops C V j oj a:=by
 unfold says at *;rw[wanted_put oj a x u h]at hh;intro hw;have h2:=hh hw;cases hV:V j with
 | none=>rw[hV]at h2;obtain⟨v,hv⟩:=h2;exact⟨v,λW hW=>(valAt_put hs h).1 (hv W hW)⟩
 | some Vj=>rw[hV]at h2;exact λW hW hF=>(looseAt_put hs h).1 (h2 W hW ((facts_put h).2 hF))
theorem reach (hsel:∀(j:Nat) (o:Oper) cs b,ops[j]?=some o->o.op≠.select cs b){m:Nat}(hD:Distinct ops V m)(hS:Stable V)(hC:Closed C){j:Nat}(hjm:j<m){oj:Oper}(hj:ops[j]?=some oj)(hLj:L j=false) :
 ∀(l:List Oper) (k:Nat) (a:Act) (F:World->Prop) (w:World),(∀t o,l[t]?=some o->ops[k+t]?=some o)->k<=j->j<k+l.length ->
  (∀i oi,k<=i->i<j->L i=false->ops[i]?=some oi->oi.apart ops oj=true)->C w->Inv ops V (λi=>i<k∨L i=true) a w ->
  walk P ops C V Q L k l a F->says P ops C V j oj a
 | [],k,a,F,w,_,hkj,hlt,_,_,_,_=>by simp at hlt;omega
 | o::l,k,a,F,w,hl,hkj,hlt,hap,hw,hI,hwalk=>by
   have h0:ops[k]?=some o:=by simpa using hl 0 o rfl
   have hl':∀t o',l[t]?=some o'->ops[k+1+t]?=some o':=λt o' ht=>by
    have:=hl (t+1) o' (by simpa using ht)
    rwa [show k+(t+1)=k+1+t by omega]at this
   unfold walk at hwalk
   by_cases hk:k=j
   ·subst hk
    rw[hj]at h0;obtain rfl:=Option.some.inj h0;rw[if_neg (by simp[hLj])]at hwalk;intro hwn;rw[if_pos hwn]at hwalk;cases hV:V k with
    | none=>rw[hV]at hwalk;obtain⟨v,hv,_⟩:=hwalk;exact⟨v,hv⟩
    | some Vk=>rw[hV]at hwalk;exact hwalk.1
   ·have hlt':j<k+1+l.length:=by simp at hlt;omega
    have hap':∀i oi,k+1<=i->i<j->L i=false->ops[i]?=some oi->oi.apart ops oj=true:=λi oi h1 h2=>hap i oi (by omega) h2
    have ih:=λa' F' w'=>reach hsel hD hS hC hjm hj hLj l (k+1) a' F' w' hl' (by omega) hlt' hap'
    by_cases hL:L k=true
    ·rw[if_pos hL]at hwalk
     exact ih a F w hw (hI.mono λi hi=>hi.elim (λh=>(Nat.lt_succ_iff_lt_or_eq.1 h).elim .inl (λe=>.inr (e▸hL))) .inr) hwalk
    ·rw[if_neg hL]at hwalk
     obtain⟨h1,_,_⟩:=Oper.apart_spec (hap k o (Nat.le_refl _) (by omega) (by simpa using hL) h0);have step:∀(v:Value) (w':World),C w'->Below w.heap.size w w'->(∀Vk,V k=some Vk->v=undef∨Vk v w')->∀F',walk P ops C V Q L (k+1) l (a.put o.dst v) F'->says P ops C V j oj a:=λv w' hw' hb hv F' hwk =>
      says_put (hsel j oj · · hj) h1 (ih _ F' w' hw' ((Inv.step hD hS (by omega) hI h0 hb hv).mono λi hi=>hi.elim (λh=>(Nat.lt_succ_iff_lt_or_eq.1 h).elim (λh=>.inl (.inl h)) .inr) (λh=>.inl (.inr h))) hwk)
     by_cases hwn:Region.wanted o (yielded ops a.tmps)=true
     ·rw[if_pos hwn]at hwalk
      cases hV:V k with
      | none =>
        rw[hV]at hwalk;obtain⟨v,_,hwk⟩:=hwalk;exact step v w hw (Below.refl _ _) (λVk e=>by rw[hV]at e;cases e) F hwk
      | some Vk =>
        rw[hV]at hwalk;obtain⟨v,w',hb,hv⟩:=looseAt_some (hwalk.1 w hw λi oi Vi d hi h2 h3 h4 _=>hI i oi Vi d (.inl hi) h2 h3 h4);have hw':=hC _ _ hw hb;exact step v w' hw' hb (λVk' e=>by rw[hV]at e;cases e;exact .inr hv) _ (hwalk.2 v ⟨w',hw',hv⟩)
     ·rw[if_neg hwn]at hwalk
      exact step undef w hw (Below.refl _ _) (λ_ _=>.inl rfl) F hwalk
def came (P:Program)(ops:Array Oper)(C:World->Prop)(V:Nat->Option (Value->World->Prop))(j:Nat)(oj:Oper)(a:Act)(u:Value)(X:World->Prop):Prop :=
 (Region.wanted oj (yielded ops a.tmps)=false/\u=undef) ∨
 (Region.wanted oj (yielded ops a.tmps)=true/\V j=none/\∀W,C W->valAt P oj a W u) ∨
 (Region.wanted oj (yielded ops a.tmps)=true/\∃Vj,V j=some Vj/\(∃W,C W/\Vj u W)/\∀W,X W->Vj u W)
theorem came_put {j:Nat}{oj:Oper}(hs:∀cs b,oj.op≠.select cs b){a:Act}{x:Option Tmp}{v u:Value}{X:World->Prop}(h:∀d,x=some d->d∉oj.looksAt ops)(hh:came P ops C V j oj a u X):came P ops C V j oj (a.put x v) u X:=by
 unfold came at *;rw[wanted_put oj a x v h];rcases hh with h1|⟨h1,h2,h3⟩|h1
 ·exact .inl h1
 ·exact .inr (.inl ⟨h1,h2,λW hW=>(valAt_put hs h).2 (h3 W hW)⟩)
 ·exact .inr (.inr h1)
theorem take (hsel:∀(j:Nat) (o:Oper) cs b,ops[j]?=some o->o.op≠.select cs b)(hQ:Anti Q){w0:World}(hw0:C w0){j:Nat}{oj:Oper}(hj:ops[j]?=some oj)(hLj:L j=false){u:Value}{X:World->Prop} :
 ∀(l:List Oper) (k:Nat) (a:Act) (F:World->Prop),(∀t o,l[t]?=some o->ops[k+t]?=some o)->k<=j->j<k+l.length ->
  (∀i oi,k<=i->i<j->L i=false->ops[i]?=some oi->oi.apart ops oj=true)->came P ops C V j oj a u X ->
  walk P ops C V Q L k l a F->walk P ops C V Q (λi=>decide (i=j)||L i) k l (a.put oj.dst u) (λW=>F W/\X W)
 | [],k,a,F,_,hkj,hlt,_,_,_=>by simp at hlt;omega
 | o::l,k,a,F,hl,hkj,hlt,hap,hcame,hwalk=>by
   have h0:ops[k]?=some o:=by simpa using hl 0 o rfl
   have hl':∀t o',l[t]?=some o'->ops[k+1+t]?=some o':=λt o' ht=>by
    have:=hl (t+1) o' (by simpa using ht)
    rwa [show k+(t+1)=k+1+t by omega]at this
   unfold walk at hwalk
   by_cases hk:k=j
   ·subst hk
    rw[hj]at h0;obtain rfl:=Option.some.inj h0;rw[if_neg (by simp[hLj])]at hwalk;unfold walk;rw[if_pos (by simp)];have cg:∀a F,walk P ops C V Q L (k+1) l a F->walk P ops C V Q (λi=>decide (i=k)||L i) (k+1) l a F:=λa F=>walk_congr l (k+1) a F λi hi _=>by
     have:i≠k:=by omega
     simp[this]
    rcases hcame with ⟨hwn,rfl⟩|⟨hwn,hV,hval⟩|⟨hwn,Vj,hV,hex,hX⟩
    ·rw[if_neg (by simp[hwn])]at hwalk
     exact walk_anti hQ _ _ _ _ _ (λW hW=>hW.1) (cg _ _ hwalk)
    ·rw[if_pos hwn,hV]at hwalk
     obtain⟨v,hv,hwk⟩:=hwalk;obtain rfl:=valAt_unique (hv w0 hw0) (hval w0 hw0);exact walk_anti hQ _ _ _ _ _ (λW hW=>hW.1) (cg _ _ hwk)
    ·rw[if_pos hwn,hV]at hwalk
     exact walk_anti hQ _ _ _ _ _ (λW hW=>⟨hW.1,hX W hW.2⟩) (cg _ _ (hwalk.2 u hex))
   ·have hlt':j<k+1+l.length:=by simp at hlt;omega
    have hap':∀i oi,k+1<=i->i<j->L i=false->ops[i]?=some oi->oi.apart ops oj=true:=λi oi h1 h2=>hap i oi (by omega) h2
    have ih:=λa' F'=>take hsel hQ hw0 hj hLj (u:=u) (X:=X) l (k+1) a' F' hl' (by omega) hlt' hap'
    unfold walk
    by_cases hL:L k=true
    ·rw[if_pos hL]at hwalk
     rw[if_pos (by simp[hL])];exact ih a F hcame hwalk
    ·rw[if_neg hL]at hwalk
     rw[if_neg (by simp[hL,hk])];obtain⟨h1,h2,h3⟩:=Oper.apart_spec (hap k o (Nat.le_refl _) (by omega) (by simpa using hL) h0);have hso:∀cs b,o.op≠.select cs b:=λcs b=>hsel k o cs b h0
     rw[wanted_put o a oj.dst u h3];have ih':∀v F',walk P ops C V Q L (k+1) l (a.put o.dst v) F'->walk P ops C V Q (λi=>decide (i=j)||L i) (k+1) l ((a.put oj.dst u).put o.dst v) (λW=>F' W/\X W):=λv F' hwk=>by
      have:=ih _ F' (came_put (hsel j oj · · hj) h1 hcame) hwk
      rwa [Act.put_comm a v u h2]at this
     by_cases hwn:Region.wanted o (yielded ops a.tmps)=true
     ·rw[if_pos hwn]at hwalk ⊢
      cases hV:V k with
      | none =>
        rw[hV]at hwalk;obtain⟨v,hv,hwk⟩:=hwalk;exact⟨v,λW hW=>(valAt_put hso h3).2 (hv W hW),ih' v F hwk⟩
      | some Vk =>
        rw[hV]at hwalk;refine⟨λW hW hF=>(looseAt_put hso h3).2 (hwalk.1 W hW ((facts_put h3).1 hF)),λv hv=>?_⟩;exact walk_anti hQ _ _ _ _ _ (λW hW=>⟨⟨hW.1.1,hW.2⟩,hW.1.2⟩) (ih' v _ (hwalk.2 v hv))
     ·rw[if_neg hwn]at hwalk ⊢
      exact ih' undef F hwalk
theorem wp_of_val {o:Oper}{a:Act}{w:World}{u:Value}{K:Act->World->Prop}{Q':Exit->Act->World->Prop}(h:valAt P o a w u)(hK:K (a.put o.dst u) w):o.wp P a w K Q':=by
 unfold valAt at h;unfold Oper.wp;generalize (execOp a.eval o).run P w=r at h ⊢
 match r,h with
 | .ok (.value _) _,⟨rfl,rfl⟩=>exact hK
theorem wp_of_loose {o:Oper}{a:Act}{w:World}{Vk:Value->World->Prop}{K:Act->World->Prop}{Q':Exit->Act->World->Prop}(h:looseAt P o a Vk w)(hK:∀u w',Below w.heap.size w w'->Vk u w'->K (a.put o.dst u) w'):o.wp P a w K Q':=by
 unfold looseAt at h;unfold Oper.wp;generalize (execOp a.eval o).run P w=r at h ⊢
 match r,h with
 | .ok (.value u) w',h=>exact hK u w' h.1 h.2
 | .ok .skip w',h=>exact hK undef w' h.1 h.2
 | .ok (.enter f args) w',h =>
   obtain⟨rfl,hc⟩:=h;exact hc.mono λe w2 ⟨u,e1,hb,hv⟩=>by subst e1;exact hK u w2 hb hv
def left (listed:Array Bool):Nat->Nat
 | 0=>0
 | n+1=>left listed n+(if listed.getD n true=true then 0 else 1)
theorem left_set_ge {listed:Array Bool}{j:Nat}:∀n,n<=j->left (listed.setIfInBounds j true) n=left listed n
 | 0,_=>rfl
 | n+1,h=>by
   unfold left;rw[left_set_ge n (by omega)];have:(listed.setIfInBounds j true).getD n true=listed.getD n true:=by simp[Array.getElem?_setIfInBounds_ne (show j≠n by omega)]
   rw[this]
theorem left_set {listed:Array Bool}{j:Nat}(hl:listed.getD j true=false):∀n,j<n->left (listed.setIfInBounds j true) n+1=left listed n
 | 0,h=>by omega
 | n+1,h=>by
   have hj:j<listed.size:=by
    rcases Nat.lt_or_ge j listed.size with h1|h1
    ·exact h1
    ·simp[Array.getElem?_eq_none h1]at hl
   unfold left
   by_cases e:j=n
   ·subst e
    rw[left_set_ge j (Nat.le_refl _),hl];simp[hj]
   ·have:=left_set hl n (by omega)
    have h2:(listed.setIfInBounds j true).getD n true=listed.getD n true:=by simp[Array.getElem?_setIfInBounds_ne e]
    rw[h2];omega
theorem left_zero {listed:Array Bool}:∀n,left listed n=0->∀i,i<n->listed.getD i true=true
 | 0,_,i,h=>by omega
 | n+1,h,i,hi=>by
   unfold left at h
   by_cases e:i=n
   ·subst e
    by_cases hl:listed.getD i true=true
    ·exact hl
    ·rw[if_neg hl]at h;omega
   ·exact left_zero n (by omega) i (by omega)
def clo (md:Region.Mode)(ops:Array Oper):Nat->(Nat->Bool)->(Nat->Bool)
 | 0,s=>s
 | i+1,s=>clo md ops i (λx=>s x||(s i&&(match ops[i]? with|some o=>o.after.any (λe=>Region.binds md e&&e.on==x)|none=>false)))
theorem clo_sound {md:Region.Mode}{ops:Array Oper}{p:Nat->Prop}(hp:∀i o e,p i->ops[i]?=some o->e∈o.after->Region.binds md e=true->p e.on):∀(n:Nat) (s:Nat->Bool),(∀x,s x=true->p x)->∀x,clo md ops n s x=true->p x
 | 0,_,hs,x,hx=>hs x hx
 | n+1,s,hs,x,hx=>by
   refine clo_sound hp n _ (λy hy=>?_) x hx;simp only[Bool.or_eq_true,Bool.and_eq_true]at hy;rcases hy with h|⟨h1,h2⟩
   ·exact hs y h
   ·cases ho:ops[n]? with
    | none=>simp[ho]at h2
    | some o =>
      simp only[ho,Array.any_eq_true]at h2;obtain⟨i,hi,h3⟩:=h2;simp only[Bool.and_eq_true,beq_iff_eq]at h3;exact h3.2▸hp n o _ (hs n h1) ho (Array.getElem_mem hi) h3.1
def fits (md:Region.Mode)(ops:Array Oper)(m:Nat)(idx:List Nat):Bool :=
 Region.noSelect ops &&
 (List.range ops.size).all (λk=>match ops[k]? with|some o=>o.after.all (λe=>!Region.binds md e||decide (e.on<k))|none=>true) &&
 (List.range m).all (λj=>(List.range j).all λi=>match ops[i]?,ops[j]? with|some oi,some oj=>oj.after.any (λe=>Region.binds md e&&e.on==i)||oi.apart ops oj|_,_=>false) &&
 (List.range ops.size).all (λj=>decide (j<m)||match ops[j]? with
  | some oj=>let s:=clo md ops j (λx=>oj.after.any (λe=>Region.binds md e&&e.on==x));(List.range j).all s
  | none=>false) &&
 idx.all (λi=>(List.range m).all λj=>i==j||match ops[i]?,ops[j]? with|some oi,some oj=>oi.dst.isNone||oi.dst != oj.dst|_,_=>false) &&
 decide (m<=ops.size)
structure Fits (md:Region.Mode) (ops:Array Oper) (V:Nat->Option (Value->World->Prop)) (m:Nat):Prop where
 sel:∀(j:Nat) (o:Oper) cs b,ops[j]?=some o->o.op≠.select cs b
 early:∀k o e,ops[k]?=some o->e∈o.after->Region.binds md e=true->e.on<k
 apart:∀i j oi oj,i<j->j<m->ops[i]?=some oi->ops[j]?=some oj->(∃e∈oj.after,Region.binds md e=true/\e.on=i)∨oi.apart ops oj=true
 last:∀j oj,m<=j->ops[j]?=some oj->∀p:Nat->Prop,(∀i o e,p i->ops[i]?=some o->e∈o.after->Region.binds md e=true->p e.on)->(∀e∈oj.after,Region.binds md e=true->p e.on)->∀i,i<j->p i
 distinct:Distinct ops V m
 few:m<=ops.size
theorem any_edge {o:Oper}{i:Nat}(h:o.after.any (λe=>Region.binds md e&&e.on==i)=true):∃e∈o.after,Region.binds md e=true/\e.on=i:=by
 simp only[Array.any_eq_true]at h;obtain⟨x,hx,h3⟩:=h;simp only[Bool.and_eq_true,beq_iff_eq]at h3;exact⟨_,Array.getElem_mem hx,h3⟩
theorem Fits.of {m:Nat}{idx:List Nat}(h:fits md ops m idx=true)(hi:∀i Vi,V i=some Vi->i∈idx):Fits md ops V m:=by
 simp only[fits,Bool.and_eq_true,List.all_eq_true,List.mem_range,decide_eq_true_eq]at h;obtain⟨⟨⟨⟨⟨h1,h2⟩,h3⟩,h4⟩,h5⟩,h6⟩:=h;have lt:∀k o,ops[k]?=some o->k<ops.size:=λk o hk=>(Array.getElem?_eq_some_iff.1 hk).1
 refine⟨Region.noSelect_spec h1,λk o e hk he hb=>?_,λi j oi oj hij hjm hoi hoj=>?_,λj oj hmj hoj p hp hp0 i hij=>?_,λi j oi oj Vi d hjm hij hoi hoj hV hd=>?_,h6⟩
 ·have:=h2 k (lt k o hk)
  simp only[hk,Array.all_eq_true_iff_forall_mem]at this;have:=this e he;simpa[hb]using this
 ·have:=h3 j hjm i hij
  simp only[hoi,hoj,Bool.or_eq_true]at this;exact this.imp any_edge id
 ·have:=h4 j (lt j oj hoj)
  have hn:¬j<m:=by omega
  simp only[hoj,hn,decide_false,Bool.false_or,List.all_eq_true,List.mem_range]at this;refine clo_sound hp j _ (λx hx=>?_) i (this i hij);obtain⟨e,he,hb,rfl⟩:=any_edge hx;exact hp0 e he hb
 ·have:=h5 i (hi i Vi hV) j hjm
  simp only[hoi,hoj,hd]at this;intro e;rw[e]at this;simp at this;exact hij this
theorem walk_all {m:Nat}:∀(l:List Oper) (k:Nat) (a:Act) (F:World->Prop),(∀i,k<=i->i<k+l.length->L i=true)->walk P ops C V Q L k l a F->Q a F
 | [],_,_,_,_,h=>h
 | o::l,k,a,F,hL,h=>by
   unfold walk at h;rw[if_pos (hL k (Nat.le_refl _) (by simp))]at h;exact walk_all (m:=m) l (k+1) a F (λi h1 h2=>hL i (by omega) (by simp;omega)) h
theorem getD_true {listed:Array Bool}{i:Nat}(h:i<listed.size):listed.getD i true=listed.getD i false:=by simp[h]
theorem tail_any {m:Nat}(hF:Fits md ops V m){Q':Exit->Act->World->Prop}:∀(fuel k:Nat) (listed:Array Bool) (a:Act) (w:World),m<=k->k<=ops.size->listed.size=ops.size->left listed ops.size<=fuel ->
 (∀i,i<k->listed.getD i true=true)->(∀i,k<=i->i<ops.size->listed.getD i true=false)->wpList P ops Q' (ops.toList.drop k) a w->wpAny P md ops Q' fuel listed a w:=by
 intro fuel
 induction fuel with
 | zero =>
   intro k listed a w hmk hk hsz hle hdo hun h;have hk':k=ops.size:=by
    rcases Nat.lt_or_ge k ops.size with h1|h1
    ·have:=left_zero (listed:=listed) ops.size (by omega) k h1
     rw[hun k (Nat.le_refl _) h1]at this;cases this
    ·omega
   subst hk';refine⟨?_,?_⟩
   ·refine List.eq_nil_iff_forall_not_mem.2 λj hj=>?_
    obtain⟨h1,oj,hoj,_⟩:=mem_ready.1 hj;rw[hdo j (Array.getElem?_eq_some_iff.1 hoj).1]at h1;cases h1
   ·rw[List.drop_eq_nil_of_le (by simp)]at h
    exact h
 | succ fuel ih =>
   intro k listed a w hmk hk hsz hle hdo hun h;have only:∀j∈Region.ready md ops listed,j=k/\k<ops.size:=λj hj=>by
    obtain⟨h1,oj,hoj,hall⟩:=mem_ready.1 hj;have hjs:=(Array.getElem?_eq_some_iff.1 hoj).1;have hkj:k<=j:=by
     rcases Nat.lt_or_ge j k with h2|h2
     ·rw[hdo j h2]at h1;cases h1
     ·exact h2
    refine⟨?_,by omega⟩;rcases Nat.lt_or_ge k j with h2|h2
    ·have hp:=hF.last j oj (by omega) hoj (λi=>i<k) (λi o e hi ho he hb=>Nat.lt_trans (hF.early i o e ho he hb) hi) (λe he hb=>by
      rcases Nat.lt_or_ge e.on k with h3|h3
      ·exact h3
      ·have h4:=hall e he hb
       have h5:e.on<ops.size:=by have:=hF.early j oj e hoj he hb;omega
       have h6:=hun e.on h3 h5;rw[getD_true (by omega)]at h6;rw[h6]at h4;cases h4) k h2
     omega
    ·omega
   rcases Nat.lt_or_ge k ops.size with hlt|hge
   ·have hok:ops[k]?=some ops[k]:=Array.getElem?_eq_getElem hlt
    have hkr:k∈Region.ready md ops listed:=mem_ready.2 ⟨hun k (Nat.le_refl _) hlt,ops[k],hok,λe he hb=>by
     have h1:=hF.early k _ e hok he hb;have:=hdo e.on h1
     rwa [getD_true (by omega)]at this⟩
    refine⟨λh0=>(by rw[h0]at hkr;cases hkr),λj hj=>?_⟩;obtain⟨rfl,_⟩:=only j hj;have hd:ops.toList.drop j=ops[j]::ops.toList.drop (j+1):=by
     rw[List.drop_eq_getElem_cons (by simpa using hlt)];simp
    rw[hd]at h;have hun':=hun j (Nat.le_refl _) hlt;have hc:=left_set hun' ops.size hlt;have nxt:∀a w,wpList P ops Q' (ops.toList.drop (j+1)) a w->wpAny P md ops Q' fuel (listed.setIfInBounds j true) a w:=λa w hw =>
     ih (j+1) (listed.setIfInBounds j true) a w (by omega) (by omega) (by simpa using hsz) (by omega)
      (λi hi=>by
        by_cases e:i=j
        ·subst e;simp[hsz,hlt]
        ·have:=hdo i (by omega)
         simpa[Array.getElem?_setIfInBounds_ne (show j≠i by omega)]using this)
      (λi h1 h2=>by
        have:=hun i (by omega) h2;simpa[Array.getElem?_setIfInBounds_ne (show j≠i by omega)]using this) hw
    refine wpOp_mono nxt ?_;unfold wpOp;simp only[hok];exact h
   ·refine⟨λ_=>?_,λj hj=>by have:=(only j hj).2;omega⟩
    rw[List.drop_eq_nil_of_le (by simpa using hge)]at h;exact h
theorem main {m:Nat}(hF:Fits md ops V m)(hS:Stable V)(hC:Closed C)(hQ:Anti Q){Q':Exit->Act->World->Prop}(hend:∀a F w,Q a F->C w->F w->wpList P ops Q' (ops.toList.drop m) a w) :
 ∀(fuel:Nat) (listed:Array Bool) (a:Act) (F:World->Prop) (w:World),listed.size=ops.size->left listed ops.size<=fuel ->
  (∀i o e,listed.getD i false=true->ops[i]?=some o->e∈o.after->Region.binds md e=true->listed.getD e.on false=true) ->
  (∀i,m<=i->i<ops.size->listed.getD i true=false)->C w->F w->(∀W W',F W->Below W.heap.size W W'->F W')->Inv ops V (λi=>i<m/\listed.getD i true=true) a w ->
  walk P ops C V Q (λi=>listed.getD i true) 0 (ops.toList.take m) a F->wpAny P md ops Q' fuel listed a w:=by
 intro fuel
 induction fuel with
 | zero =>
   intro listed a F w hsz hle hdown htail hw hFw hFs hI hwalk;have hm:m=ops.size:=by
    have hf:=hF.few;rcases Nat.lt_or_ge m ops.size with h1|h1
    ·have:=left_zero (listed:=listed) ops.size (by omega) m h1
     rw[htail m (Nat.le_refl _) h1]at this;cases this
    ·omega
   have hq:=walk_all (m:=m) _ _ _ _ (λi _ hi=>left_zero (listed:=listed) ops.size (by omega) i (by simp at hi;omega)) hwalk;exact tail_any hF 0 m listed a w (Nat.le_refl _) hF.few hsz hle (λi hi=>left_zero (listed:=listed) ops.size (by omega) i (by omega)) htail (hend a F w hq hw hFw)
 | succ fuel ih =>
   intro listed a F w hsz hle hdown htail hw hFw hFs hI hwalk;have hf:=hF.few
   by_cases hall:∀i,i<m->listed.getD i true=true
   ·have hq:=walk_all (m:=m) _ _ _ _ (λi _ hi=>hall i (by simp at hi;omega)) hwalk
    exact tail_any hF (fuel+1) m listed a w (Nat.le_refl _) hf hsz hle hall htail (hend a F w hq hw hFw)
   ·have hmin:∃i,i<m/\listed.getD i true=false/\∀j,j<i->listed.getD j true=true:=by
     have key:∀n,(∀j,j<n->listed.getD j true=true)∨∃i,i<n/\listed.getD i true=false/\∀j,j<i->listed.getD j true=true:=by
      intro n
      induction n with
      | zero=>exact .inl λj hj=>by omega
      | succ n ihn =>
        rcases ihn with h1|⟨i,h1,h2,h3⟩
        ·by_cases hn:listed.getD n true=true
         ·exact .inl λj hj=>by
           rcases Nat.lt_succ_iff_lt_or_eq.1 hj with h|h
           ·exact h1 j h
           ·rw[h];exact hn
         ·exact .inr ⟨n,by omega,by simpa using hn,h1⟩
        ·exact .inr ⟨i,by omega,h2,h3⟩
     rcases key m with h|h
     ·exact absurd h hall
     ·exact h
    obtain⟨i0,hi0,hi0u,hi0d⟩:=hmin;have h0r:i0∈Region.ready md ops listed:=mem_ready.2 ⟨hi0u,ops[i0]'(by omega),Array.getElem?_eq_getElem _,λe he hb=>by
     have h1:=hF.early i0 _ e (Array.getElem?_eq_getElem (by omega)) he hb;have:=hi0d e.on h1
     rwa [getD_true (by omega)]at this⟩
    refine⟨λh0=>(by rw[h0]at h0r;cases h0r),λj hj=>?_⟩;obtain⟨hju,oj,hoj,hjall⟩:=mem_ready.1 hj;have hjs:=(Array.getElem?_eq_some_iff.1 hoj).1;have hjm:j<m:=by
     rcases Nat.lt_or_ge j m with h1|h1
     ·exact h1
     ·have:=hF.last j oj h1 hoj (λi=>listed.getD i false=true) hdown hjall i0 (by omega)
      rw[getD_true (by omega)]at hi0u;rw[hi0u]at this;cases this
    have hap:∀i oi,0<=i->i<j->(λi=>listed.getD i true) i=false->ops[i]?=some oi->oi.apart ops oj=true:=λi oi _ hij hun hoi=>by
     rcases hF.apart i j oi oj hij hjm hoi hoj with ⟨e,he,hb,rfl⟩|h
     ·have:=hjall e he hb
      simp only at hun;rw[getD_true (by omega)]at hun;rw[hun]at this;cases this
     ·exact h
    have hl:∀t o,(ops.toList.take m)[t]?=some o->ops[0+t]?=some o:=λt o ht=>by
     rw[List.getElem?_take]at ht
     split at ht
     ·simpa using ht
     ·cases ht
    have hlen:(ops.toList.take m).length=m:=by simp;omega
    have hI':Inv ops V (λi=>i<0∨(λi=>listed.getD i true) i=true/\i<m) a w:=hI.mono λi hi=>hi.elim (λh=>by omega) (λh=>⟨h.2,h.1⟩)
    have hsays:says P ops C V j oj a:=reach hF.sel hF.distinct hS hC hjm hoj hju _ 0 a F w hl (Nat.zero_le _) (by omega) hap hw
     (λi oi Vi d hd hoi hVi hdst=>by
       rcases hd with h|h
       ·omega
       ·rcases Nat.lt_or_ge i m with h1|h1
        ·exact hI i oi Vi d ⟨h1,h⟩ hoi hVi hdst
        ·have:=htail i h1 (Array.getElem?_eq_some_iff.1 hoi).1
         have h':listed.getD i true=true:=h;rw[this]at h';cases h') hwalk
    have nxt:∀(u:Value) (X:World->Prop) (w':World),came P ops C V j oj a u X->Below w.heap.size w w'->X w'->(∀W W',X W->Below W.heap.size W W'->X W')->(∀Vj,V j=some Vj->u=undef∨Vj u w')->F w' ->
     wpAny P md ops Q' fuel (listed.setIfInBounds j true) (a.put oj.dst u) w':=λu X w' hcame hb hX hXs hv hFw'=>by
     have hw':=hC _ _ hw hb;have hwk:=take hF.sel hQ hw hoj hju (X:=X) _ 0 a F hl (Nat.zero_le _) (by omega) hap hcame hwalk;have hc:=left_set hju ops.size hjs;have hset:∀i,i≠j->∀b,(listed.setIfInBounds j true).getD i b=listed.getD i b:=λi hi b=>by simp[Array.getElem?_setIfInBounds_ne (Ne.symm hi)]
     have hsetj:∀b,(listed.setIfInBounds j true).getD j b=true:=λb=>by simp[hsz,hjs]
     refine ih _ _ (λW=>F W/\X W) w' (by simpa using hsz) (by omega) ?_ ?_ hw' ⟨hFw',hX⟩ (λW W' h hb=>⟨hFs _ _ h.1 hb,hXs _ _ h.2 hb⟩) ?_ ?_
     ·intro i o e hi ho he hbd
      have hon:listed.getD e.on false=true:=by
       by_cases hij:i=j
       ·subst hij
        rw[hoj]at ho;obtain rfl:=Option.some.inj ho;exact hjall e he hbd
       ·rw[hset i hij]at hi
        exact hdown i o e hi ho he hbd
      by_cases hej:e.on=j
      ·rw[hej];exact hsetj _
      ·rw[hset _ hej];exact hon
     ·intro i h1 h2
      rw[hset i (by omega)];exact htail i h1 h2
     ·refine(Inv.step hF.distinct hS hjm hI hoj hb hv).mono λi hi=>?_
      by_cases hij:i=j
      ·exact .inr hij
      ·rw[hset i hij]at hi;exact .inl hi
     ·refine walk_congr _ 0 _ _ (λi _ _=>?_) hwk
      by_cases hij:i=j
      ·subst hij;simp[hsz,hjs]
      ·simp[hij,Array.getElem?_setIfInBounds_ne (Ne.symm hij)]
    unfold wpOp;simp only[hoj]
    by_cases hwn:Region.wanted oj (yielded ops a.tmps)=true
    ·rw[if_pos hwn]
     left;have hs:=hsays hwn;cases hV:V j with
     | none =>
       rw[hV]at hs;obtain⟨u,hu⟩:=hs;exact wp_of_val (hu w hw) (nxt u (λ_=>True) w (.inr (.inl ⟨hwn,hV,hu⟩)) (Below.refl _ _) trivial (λ_ _ _ _=>trivial) (λVj e=>by rw[hV]at e;cases e) hFw)
     | some Vj =>
       rw[hV]at hs;have hfacts:Facts ops V j oj a w:=λi oi Vi d hij hoi hVi hdst hlk=>by
        by_cases hun:listed.getD i true=true
        ·exact hI i oi Vi d ⟨by omega,hun⟩ hoi hVi hdst
        ·obtain⟨h1,_,_⟩:=Oper.apart_spec (hap i oi (Nat.zero_le _) hij (by simpa using hun) hoi)
         exact absurd hlk (h1 d hdst)
       exact wp_of_loose (hs w hw hfacts) λu w' hb hu =>
        nxt u (λW=>Vj u W) w' (.inr (.inr ⟨hwn,Vj,hV,⟨w',hC _ _ hw hb,hu⟩,λ_ h=>h⟩)) hb hu (λW W' h hb=>hS j Vj hV _ _ _ h hb) (λVj' e=>by rw[hV]at e;cases e;exact .inr hu) (hFs _ _ hFw hb)
    ·rw[if_neg hwn]
     exact nxt undef (λ_=>True) w (.inl ⟨by simpa using hwn,rfl⟩) (Below.refl _ _) trivial (λ_ _ _ _=>trivial) (λ_ _=>.inl rfl) hFw
structure Pred where
 p:Value->World->Prop
 st:∀v W W',p v W->Below W.heap.size W W'->p v W'
def at_ :List (Nat×Pred)->Nat->Option (Value->World->Prop)
 | [],_=>none
 | (i,q)::l,k=>if k=i then some q.p else at_ l k
theorem at_mem :∀(l:List (Nat×Pred)) (k:Nat) (Vk:Value->World->Prop),at_ l k=some Vk->k∈l.map (·.1)
 | [],_,_,h=>by cases h
 | (i,q)::l,k,Vk,h=>by
   unfold at_ at h
   split at h
   ·rename_i e;simp[e]
   ·have:=at_mem l k Vk h
    simp only[List.map_cons,List.mem_cons];exact .inr this
theorem at_stable :∀(l:List (Nat×Pred)),Stable (at_ l)
 | [],_,_,h=>by cases h
 | (i,q)::l,k,Vk,h=>by
   unfold at_ at h
   split at h
   ·obtain rfl:=Option.some.inj h;exact q.st
   ·exact at_stable l k Vk h
end
end Go.Loose
namespace Go.Proofs.YtnehgpeelgjjhaaGreatDoor.Tw
open Go.Proofs.Tryz
section
open Go.RowKit
def Enters (F:FuncId):Prop:=∀(args:Array Value) (w:World),(callFunc F args).run prog w=.ok (.enter F args) w
def Tells (w:World)(F:FuncId)(cap:Array Value)(args:Nat->Array Value)(p:Nat->Bool)(n:Nat):Prop :=
 Enters F/\∀i,i<n->∀w1:World,Below w.heap.size w w1->Calls prog F (args i++cap) w1 λe w2=>e=.returned (.bool (p i))/\Below w1.heap.size w1 w2
def first (p:Nat->Bool)(n i:Nat):Int:=if h:i<n then (if p i then i else first p n (i+1))else -1
  termination_by n - i
theorem first_end {p:Nat->Bool}{n i:Nat}(h:¬i<n):first p n i = -1:=by rw[first];simp[h]
theorem first_yes {p:Nat->Bool}{n i:Nat}(h:i<n)(hp:p i=true):first p n i=i:=by rw[first];simp[h,hp]
theorem first_no {p:Nat->Bool}{n i:Nat}(h:i<n)(hp:p i=false):first p n i=first p n (i+1):=by rw[first];simp[h,hp]
theorem ret_int {k:IntKind}{a b:Int}(h:a=b):Ending.returned (.int k a)=.returned (.int k b):=by rw[h]
theorem indexInt (w:World)(A:Option Addr)(n c:Nat)(xs:List Int)(F:FuncId)(cap:Array Value)(p:Nat->Bool)
 (hx:Reads w w.heap.size 1 A n (xs.map (Value.int .i64))) (hn:n<=16777216)
 (hp:Tells w F cap (λi=>#[.int .i64 (xs.getD i 0)]) p n) :
 Calls prog 115 #[.slice A n c,.func (.func F) #[] cap] w λe w'=>e=.returned (.int .i64 (first p n 0))/\Below w.heap.size w w':=by
 obtain⟨hF,hp⟩:=hp;have H:=hid hp;clear hp;have HF:=hid hF;clear hF;have HX:=hid hx;clear hx
 go_enter func115,ntmps115
 go_wp2
 go_loopw [4,5,8] (λr i k wr=>∃j:Nat,j<=n/\k=.int .i64 j/\Hid (first p n 0=first p n j)/\Below w.heap.size w wr) (λ_ _ k _=>n - (intOf k).toNat)
 case atStart=>exact⟨0,by omega,rfl,rfl,Below.refl _ _⟩
 case round =>
  obtain⟨j,hj,rfl,hf,hb⟩:=hrel
  by_cases hlt:j<n
  ·obtain⟨b,off,rfl,hbl,hcell⟩:=HX.out.2 (by omega)
   have hlen:xs.length=n:=by have:=HX.out.1;simpa using this
   have hj':j<xs.length:=by omega
   have hcall:=H.out j hlt wr hb;have hc:wr.cell? ⟨b,off+j,none⟩=some (.int .i64 (xs.getD j 0)):=by
    rw[hb.cell (p:=⟨b,off+j,none⟩) hbl];refine hcell j _ ?_;simp[List.getD_eq_getElem?_getD,List.getElem?_eq_getElem hj']
   clear hcell;generalize xs.getD j 0=x at hc hcall;have HC:=hid hcall;clear hcall
   go_wp2_with fail
   rw[HF.out,Oper.upon_enter];refine HC.out.mono ?_;rintro e w2 ⟨rfl,hb2⟩;have hb3:=hb.trans (hb2.mono hb.size);cases hpj:p j
   ·have Hpj:=hid hpj
    clear hpj;go_wp2;go_roundw
    case rel=>exact⟨j+1,by omega,by go_num,by unfold Hid;rw[hf.out,first_no hlt Hpj.out],hb3⟩
    case measure=>simp[intOf];omega
   ·have Hpj:=hid hpj
    clear hpj;go_wp2;go_ret;exact⟨ret_int (by rw[hf.out,first_yes hlt Hpj.out]),hb3⟩
  ·go_wp2
   go_ret;exact⟨ret_int (by rw[hf.out,first_end hlt]),hb⟩
end
section
open Go.RowKit
theorem ret_bool {a b:Bool}(h:a=b):Ending.returned (.bool a)=.returned (.bool b):=by rw[h]
theorem in_any (n lo hi:Int)(w:World):Calls prog 54 #[.int .i64 n,.int .i64 lo,.int .i64 hi] w λe w'=>e=.returned (.bool (decide (lo<=n)&&decide (n<=hi)))/\w=w':=by
 by_cases h:n<lo
 ·have h1:¬lo<=n:=by omega
  have hd:(decide (lo<=n)&&decide (n<=hi))=false:=by simp[h1]
  rw[hd]
  go_enter func54,ntmps54
  go_wp2;go_ret;exact⟨rfl,rfl⟩
 ·have h1:lo<=n:=by omega
  have hd:(decide (lo<=n)&&decide (n<=hi))=decide (n<=hi):=by simp[h1]
  rw[hd];clear hd
  go_enter func54,ntmps54
  go_wp2;go_ret;exact⟨rfl,rfl⟩
theorem isNaN_any (n:Int)(w:World):Calls prog 116 #[.int .i64 n] w λe w'=>e=.returned (.bool false)/\w=w':=by
 have h:(n != n)=false:=by simp
 go_enter func116,ntmps116
 go_wp2;go_ret;exact⟨rfl,rfl⟩
def cmpI (a b:Int):Int:=if a<b then -1 else if b<a then 1 else 0
theorem compare_any (a b:Int)(w:World):Calls prog 90 #[.int .i64 a,.int .i64 b] w λe w'=>e=.returned (.int .i64 (cmpI a b))/\w=w':=by
 by_cases h:a<b
 ·have hf:cmpI a b = -1:=by simp[cmpI,h]
  rw[hf]
  go_enter func90,ntmps90
  go_wp2_with (go_at_call 116;refine(isNaN_any _ _).mono ?_;rintro e w' ⟨rfl,rfl⟩)
  go_ret;exact⟨rfl,rfl⟩
 ·by_cases h':b<a
  ·have hf:cmpI a b=1:=by simp[cmpI,h,h']
   rw[hf]
   go_enter func90,ntmps90
   go_wp2_with (go_at_call 116;refine(isNaN_any _ _).mono ?_;rintro e w' ⟨rfl,rfl⟩)
   go_ret;exact⟨rfl,rfl⟩
  ·have hf:cmpI a b=0:=by simp[cmpI,h,h']
   rw[hf]
   go_enter func90,ntmps90
   go_wp2_with (go_at_call 116;refine(isNaN_any _ _).mono ?_;rintro e w' ⟨rfl,rfl⟩)
   go_ret;exact⟨rfl,rfl⟩
def or3 (a b c:Int):Int:=if a≠0 then a else if b≠0 then b else c
theorem or_any (w:World)(b:Nat)(x y z:Int)(h0:w.cell? ⟨b,0,none⟩=some (.int .i64 x))(h1:w.cell? ⟨b,1,none⟩=some (.int .i64 y))(h2:w.cell? ⟨b,2,none⟩=some (.int .i64 z))(c:Nat) :
 Calls prog 89 #[.slice (some ⟨b,0,none⟩) 3 c] w λe w'=>e=.returned (.int .i64 (or3 x y z))/\w=w':=by
 by_cases hx:x=0
 ·by_cases hy:y=0
  ·by_cases hz:z=0
   ·subst hx hy hz
    go_enter func89,ntmps89
    go_wp2;refine wp_loop_rounds 4 ?_
    repeat(rw[rounds_succ];go_wp2)
    go_ret;exact⟨rfl,rfl⟩
   ·subst hx hy
    have hf:or3 0 0 z=z:=by simp[or3]
    have hz':(z != 0)=true:=by simp[hz]
    rw[hf]
    go_enter func89,ntmps89
    go_wp2;refine wp_loop_rounds 4 ?_
    repeat(rw[rounds_succ];go_wp2)
    go_ret;exact⟨rfl,rfl⟩
  ·subst hx
   have hf:or3 0 y z=y:=by simp[or3,hy]
   have hz':(y != 0)=true:=by simp[hy]
   rw[hf]
   go_enter func89,ntmps89
   go_wp2;refine wp_loop_rounds 4 ?_
   repeat(rw[rounds_succ];go_wp2)
   go_ret;exact⟨rfl,rfl⟩
 ·have hf:or3 x y z=x:=by simp[or3,hx]
  have hz':(x != 0)=true:=by simp[hx]
  rw[hf]
  go_enter func89,ntmps89
  go_wp2;refine wp_loop_rounds 4 ?_
  repeat(rw[rounds_succ];go_wp2)
  go_ret;exact⟨rfl,rfl⟩
end
section
open Go.RowKit
def cmp3 (e o n e' o' n':Int):Int:=or3 (cmpI e e') (cmpI o o') (cmpI n n')
theorem postCompare_any (e o n e' o' n':Int)(s s':ByteArray)(w:World) :
 Calls prog 64 #[.agg #[.int .i64 e,.int .i64 o,.int .i64 n,.string s],.agg #[.int .i64 e',.int .i64 o',.int .i64 n',.string s']] w λr w'=>r=.returned (.int .i64 (cmp3 e o n e' o' n'))/\Below w.heap.size w w':=by
 go_enter func64,ntmps64
 go_wp2
 go_region_held3 (λW=>W.cell? ⟨w.heap.size,0,none⟩=some (.int .i64 e)/\W.cell? ⟨w.heap.size,1,none⟩=some (.int .i64 o)/\W.cell? ⟨w.heap.size,2,none⟩=some (.int .i64 n) /\
  W.cell? ⟨w.heap.size+1,0,none⟩=some (.int .i64 e')/\W.cell? ⟨w.heap.size+1,1,none⟩=some (.int .i64 o')/\W.cell? ⟨w.heap.size+1,2,none⟩=some (.int .i64 n'))
  (go_keep)
  ((first|(go_at_call 90;refine(compare_any _ _ _).mono ?_;rintro e w' ⟨rfl,rfl⟩)|(go_at_call 89;refine(or_any _ (w.heap.size+2) (cmpI e e') (cmpI o o') (cmpI n n') ?c0 ?c1 ?c2 _).mono ?_;(case c0=>go_simp);(case c1=>go_simp);(case c2=>go_simp);rintro e w' ⟨rfl,rfl⟩)))
 rename_i hh;clear hh;go_wp2;go_ret;exact⟨rfl,by repeat(first|exact Below.refl _ _|refine Below.drew ?_|refine Below.alloc ?_ (by simp;try omega) _)⟩
end
section
open Go.RowKit
def Blk (w:World)(g:Nat)(t:TypeId)(cs:Array Value):Prop:=w.heap[g]?=some (.cells cs t (0,0))
section
variable {w w':World} {g:Nat} {t:TypeId} {cs:Array Value}
theorem Blk.lt (h:Blk w g t cs):g<w.heap.size:=by
 rcases Nat.lt_or_ge g w.heap.size with hlt|hge
 ·exact hlt
 ·unfold Blk at h;rw[Array.getElem?_eq_none hge]at h;cases h
theorem Blk.cell (h:Blk w g t cs)(i:Nat):w.cell? ⟨g,i,none⟩=cs[i]?:=cell_of_row w g i cs t (0,0) h
theorem Blk.frozen (h:Blk w g t cs)(i:Nat):w.frozen? ⟨g,i,none⟩=false:=by
 unfold Blk at h;simp[World.frozen?,h]
theorem Blk.new (w:World)(t:TypeId)(cs:Array Value):Blk (w.alloc (.cells cs t)) w.heap.size t cs:=heap_alloc_new w _
theorem Blk.drew (h:Blk w g t cs):Blk w.drew g t cs:=h
theorem Blk.drewN (h:Blk w g t cs)(n:Nat):Blk (w.drewN n) g t cs:=h
theorem Blk.alloc (h:Blk w g t cs)(o:Obj):Blk (w.alloc o) g t cs:=(Below.heap_alloc w o g h.lt).trans h
theorem Blk.set_ (h:Blk w g t cs)(i:Nat)(u:Value):Blk (w.setCell ⟨g,i,none⟩ u) g t (cs.setIfInBounds i u):=by
 unfold Blk at h ⊢;simp[World.setCell,Array.getElem?_modify,h]
theorem Blk.far (h:Blk w g t cs){p:Addr}(hp:g≠p.block)(u:Value):Blk (w.setCell p u) g t cs:=(Below.heap_setCell w p u g hp).trans h
theorem Blk.below {B:Nat}(h:Blk w g t cs)(hb:Below B w w')(hg:g<B):Blk w' g t cs:=(hb.block g hg).trans h
end
def Row5 (f:Nat->Int):Array Value:=#[.int .i64 (f 0),.int .i64 (f 1),.int .i64 (f 2),.int .i64 (f 3),.int .i64 (f 4)]
theorem Row5.get {f:Nat->Int}{k:Nat}(h:k<5):(Row5 f)[k]?=some (.int .i64 (f k)):=by
 match k,h with
 | 0,_=>rfl
 | 1,_=>rfl
 | 2,_=>rfl
 | 3,_=>rfl
 | 4,_=>rfl
theorem Row5.set {f g:Nat->Int}{k:Nat}{v:Int}(h:k<5)(hv:g k=v)(ho:∀i,i<5->i≠k->g i=f i):(Row5 f).setIfInBounds k (.int .i64 v)=Row5 g:=by
 subst hv
 match k,h with
 | 0,_=>simp[Row5,ho 1 (by omega) (by omega),ho 2 (by omega) (by omega),ho 3 (by omega) (by omega),ho 4 (by omega) (by omega)]
 | 1,_=>simp[Row5,ho 0 (by omega) (by omega),ho 2 (by omega) (by omega),ho 3 (by omega) (by omega),ho 4 (by omega) (by omega)]
 | 2,_=>simp[Row5,ho 1 (by omega) (by omega),ho 0 (by omega) (by omega),ho 3 (by omega) (by omega),ho 4 (by omega) (by omega)]
 | 3,_=>simp[Row5,ho 1 (by omega) (by omega),ho 2 (by omega) (by omega),ho 0 (by omega) (by omega),ho 4 (by omega) (by omega)]
 | 4,_=>simp[Row5,ho 1 (by omega) (by omega),ho 2 (by omega) (by omega),ho 3 (by omega) (by omega),ho 0 (by omega) (by omega)]
def encP (p:Rp.Post):List Value:=[.int .i64 p.epoch,.int .i64 p.origin,.int .i64 p.number,.string p.text]
def aggP (p:Rp.Post):Value:=.agg #[.int .i64 p.epoch,.int .i64 p.origin,.int .i64 p.number,.string p.text]
def encPs (l:List Rp.Post):List Value:=l.flatMap encP
theorem encPs_length (l:List Rp.Post):(encPs l).length=l.length*4:=by
 induction l with
 | nil=>rfl
 | cons p l ih=>simp only[encPs,List.flatMap_cons,List.length_append]at *;rw[ih];simp[encP];omega
theorem encPs_get :∀(l:List Rp.Post) (j:Nat) (p:Rp.Post) (i:Nat),l[j]?=some p->i<4->(encPs l)[j*4+i]?=(encP p)[i]?
 | [],j,p,i,h,_=>by simp at h
 | q::l,0,p,i,h,hi=>by
   simp at h;subst h;show(encP q++encPs l)[0*4+i]?=_;rw[List.getElem?_append_left (by simp[encP];omega)];simp
 | q::l,j+1,p,i,h,hi=>by
   show(encP q++encPs l)[(j+1)*4+i]?=_;rw[List.getElem?_append_right (by simp[encP];omega)];have:(j+1)*4+i - (encP q).length=j*4+i:=by simp[encP];omega
   rw[this];exact encPs_get l j p i (by simpa using h) hi
theorem Reads.post {w:World}{B n:Nat}{A:Option Addr}{l:List Rp.Post}(h:Reads w B 4 A n (encPs l))(hl:l.length=n){j:Nat}(hj:j<n) :
 ∃b off p,A=some ⟨b,off,none⟩/\b<B/\l[j]?=some p/\w.cell? ⟨b,off+j*4,none⟩=some (.int .i64 p.epoch)/\w.cell? ⟨b,off+j*4+1,none⟩=some (.int .i64 p.origin) /\
  w.cell? ⟨b,off+j*4+2,none⟩=some (.int .i64 p.number)/\w.cell? ⟨b,off+j*4+3,none⟩=some (.string p.text):=by
 obtain⟨b,off,e,hb,hc⟩:=h.2 (by omega);have hp:l[j]?=some l[j]:=List.getElem?_eq_getElem (by omega);refine⟨b,off,l[j],e,hb,hp,?_,?_,?_,?_⟩
 ·have:=hc (j*4+0) _ (encPs_get l j _ 0 hp (by omega));simpa using this
 ·have:=hc (j*4+1) _ (encPs_get l j _ 1 hp (by omega));simpa[Nat.add_assoc]using this
 ·have:=hc (j*4+2) _ (encPs_get l j _ 2 hp (by omega));simpa[Nat.add_assoc]using this
 ·have:=hc (j*4+3) _ (encPs_get l j _ 3 hp (by omega));simpa[Nat.add_assoc]using this
end
end Go.Proofs.YtnehgpeelgjjhaaGreatDoor.Tw
namespace Go.Loose
open Go Go.RowKit Go.Proofs.YtnehgpeelgjjhaaGreatDoor.Tw
section
variable {P:Program} {ops:Array Oper} {V:Nat->Option (Value->World->Prop)} {Q:Act->(World->Prop)->Prop} {w:World} {k:Nat} {o:Oper} {l:List Oper} {a:Act} {F:World->Prop}
abbrev From (w:World):World->Prop:=λW=>∃x:Later w,W=x.W
theorem wp_region_later {id:Nat}{l:List Oper}{Q':Exit->Act->World->Prop}{a:Act}{w:World}(Vs:List (Nat×Pred))(m:Nat)(hm:P.follows .mixedOrders=true)(hB:fits .any l.toArray m (Vs.map (·.1))=true)
 (h:walk P l.toArray (From w) (at_ Vs) (λa' F=>∀W,Below w.heap.size w W->F W->wpList P l.toArray Q' (l.drop m) a' W) (λ_=>false) 0 (l.take m) a (λ_=>True)) :
 (Code.region id l.toArray true).wp P Q' a w:=by
 refine wp_region_any hm ?_;refine main (C:=From w) (V:=at_ Vs) (Q:=λa' F=>∀W,Below w.heap.size w W->F W->wpList P l.toArray Q' (l.drop m) a' W) (Fits.of hB λi Vi hi=>at_mem Vs i Vi hi) (at_stable Vs)
  (λW W' ⟨x,hx⟩ hb=>⟨⟨W',x.is.trans ((hx▸hb).mono x.is.size)⟩,rfl⟩) (λa' F F' hF hq W hW hF'=>hq W hW (hF W hF')) (λa' F W hq ⟨x,hx⟩ hF=>by simpa using hq W (hx▸x.is) hF)
  l.toArray.size (Array.replicate l.toArray.size false) a (λ_=>True) { w with drawn:=w.drawn+1 } (by simp) ?_ ?_ ?_ ⟨⟨_,(Below.refl _ _).drew⟩,rfl⟩ trivial (λ_ _ _ _=>trivial) ?_ ?_
 ·have:∀n,left (Array.replicate l.toArray.size false) n<=n:=λn=>by
   induction n with
   | zero=>exact Nat.le_refl _
   | succ n ih=>unfold left;split<;>omega
  exact this _
 ·intro i o e hi
  have:(Array.replicate l.toArray.size false).getD i false=false:=by simp[Array.getElem?_replicate];split<;>rfl
  rw[this]at hi;cases hi
 ·intro i _ h2
  have h3:i<l.length:=by simpa using h2
  simp[Array.getElem?_replicate,h3]
 ·intro i oi Vi d hd hoi
  have h3:i<l.length:=by simpa using (Array.getElem?_eq_some_iff.1 hoi).1
  simp[Array.getElem?_replicate,h3]at hd
 ·refine walk_congr _ 0 _ _ (λi _ hi=>?_) (by simpa using h)
  have h3:i<l.length:=by simp at hi;omega
  simp[Array.getElem?_replicate,h3]
theorem walk_nil {L:Nat->Bool}{C:World->Prop}(h:Q a F):walk P ops C V Q L k [] a F:=h
theorem walk_skip {C:World->Prop}(hw:Region.wanted o (yielded ops a.tmps)=false)(h:walk P ops C V Q (λ_=>false) (k+1) l (a.put o.dst undef) F):walk P ops C V Q (λ_=>false) k (o::l) a F:=by
 unfold walk;rw[if_neg (by simp),if_neg (by simp[hw])];exact h
theorem walk_plain {C:World->Prop}(hw:Region.wanted o (yielded ops a.tmps)=true)(hV:V k=none)(hp:plain o.op=true)
 (h:∀K:Act->Prop,(∀a',walk P ops C V Q (λ_=>false) (k+1) l a' F->K a')->o.quiet P a C K):walk P ops C V Q (λ_=>false) k (o::l) a F:=by
 unfold walk;rw[if_neg (by simp),if_pos hw,hV];obtain⟨v,h1,h2⟩:=h _ λ_ h=>h
 refine⟨v,λW hW=>?_,h2⟩;have h3:=h1 W hW;unfold Oper.quietAt at h3;unfold valAt;cases hr:(execOp a.eval o).run P W with
 | ok n w' =>
   rw[hr]at h3;obtain⟨x,rfl⟩:=plain_value hp hr;exact h3
 | halt x w'=>rw[hr]at h3;exact h3
theorem walk_loose {Vk:Value->World->Prop}(hw:Region.wanted o (yielded ops a.tmps)=true)(hV:V k=some Vk)
 (h1:∀W,Below w.heap.size w W->Facts ops V k o a W->looseAt P o a Vk W)
 (h2:∀v W,Below w.heap.size w W->Vk v W->walk P ops (From w) V Q (λ_=>false) (k+1) l (a.put o.dst v) (λW=>F W/\Vk v W)):walk P ops (From w) V Q (λ_=>false) k (o::l) a F:=by
 unfold walk;rw[if_neg (by simp),if_pos hw,hV];exact⟨λW ⟨x,hx⟩ hF=>h1 W (hx▸x.is) hF,λv ⟨W,⟨x,hx⟩,hv⟩=>h2 v W (hx▸x.is) hv⟩
theorem loose_call {Vk:Value->World->Prop}{W:World}{f:FuncId}{args:Array Value}(hr:(execOp a.eval o).run P W=.ok (.enter f args) W)(hc:Calls P f args W λe w''=>∃u,e=.returned u/\Below W.heap.size W w''/\Vk u w''):looseAt P o a Vk W:=by
 unfold looseAt;rw[hr];exact⟨rfl,hc⟩
theorem loose_val {Vk:Value->World->Prop}{W W':World}{u:Value}(hr:(execOp a.eval o).run P W=.ok (.value u) W')(hb:Below W.heap.size W W')(hv:Vk u W'):looseAt P o a Vk W:=by
 unfold looseAt;rw[hr];exact⟨hb,hv⟩
end
def Pred.is (v:Value):Pred:=⟨λu _=>u=v,λ_ _ _ h _=>h⟩
def Pred.var (B:Nat)(t:TypeId)(cs:Array Value):Pred :=
 ⟨λu W=>∃b,u=.pointer (some ⟨b,0,none⟩)/\B<=b/\Blk W b t cs,λ_ _ _ ⟨b,e,hb,h⟩ hW=>⟨b,e,hb,h.below hW h.lt⟩⟩
def Pred.row (B:Nat)(t:TypeId)(n:Nat)(cs:Array Value):Pred :=
 ⟨λu W=>∃b,u=.slice (some ⟨b,0,none⟩) n n/\B<=b/\Blk W b t cs,λ_ _ _ ⟨b,e,hb,h⟩ hW=>⟨b,e,hb,h.below hW h.lt⟩⟩
theorem Pred.var_at {B:Nat}{t:TypeId}{cs:Array Value}{x:Nat}{W:World}(h:(Pred.var B t cs).p (.pointer (some ⟨x,0,none⟩)) W):B<=x/\Blk W x t cs:=by
 obtain⟨b,e,hb,h⟩:=h;injection e with e
 injection e with e
 injection e with e
 subst e;exact⟨hb,h⟩
theorem Pred.row_at {B:Nat}{t:TypeId}{n x:Nat}{cs:Array Value}{W:World}(h:(Pred.row B t n cs).p (.slice (some ⟨x,0,none⟩) n n) W):B<=x/\Blk W x t cs:=by
 obtain⟨b,e,hb,h⟩:=h;injection e with e
 injection e with e
 injection e with e
 subst e;exact⟨hb,h⟩
theorem loose_loadA {P:Program}{o:Oper}{a:Act}{W:World}(ty:TypeId)(x:Operand)(ho:o.op=.load ty x)(b i:Nat)(hx:a.eval x=.pointer (some ⟨b,i,none⟩))(cs:Array Value){d:TypeDesc}(hc:W.rangeAt b i cs.toList)
 (hu:P.underlying ty=some d) (hd:d.isRow=true) (hi:(P.info? ty).map (·.size)=some cs.size):looseAt P o a (Pred.is (.agg cs)).p W:=by
 refine loose_val (u:=.agg cs) (W':=W) ?_ (Below.refl _ _) rfl;unfold execOp;simp only[ho,hx,Sem.run_bind,run_loadAt_mid W b i ty cs.toList d hc hu hd (by simpa using hi)];simp
end Go.Loose
namespace Go.Proofs.YtnehgpeelgjjhaaGreatDoor.Tw
open Go.Proofs.Tryz
section
open Go.RowKit
section
variable {P:Program}
theorem calls_of_marks {f:FuncId}{fn:Func}{c:Code}{args:Array Value}{w:World}{R:Ending->World->Prop}(hf:P.funcs[f]?=some fn)(hb:fn.body=some c)
 (h:c.wp P (bodyPostM Fence.wide 9 P fn R) { tmps:=args++Array.replicate (fn.ntmps - args.size) undef,defers:=[] } w):Calls P f args w R :=
 callsIn_wide.1 (callsIn_of_wp_marks (F:=Fence.wide) (n:=9) hf hb trivial (wpIn_wide.2 h) rfl)
theorem grown_below {w w':World}(h:Below w.heap.size w w')(row:Option Nat):w.grownBy w' row:=⟨h.os,h.tape,h.output,h.size,λk hk _=>h.block k hk⟩
theorem wp_range_never {g:Operand}{ps:Array Tmp}{assign body:Code}{Q:Exit->Act->World->Prop}{a:Act}{w:World}{gf:Nat}{lb:Array Value}
 (hg:a.eval g=.func (.func gf) #[] lb) (eg:∀args w,(callFunc gf args).run P w=.ok (.enter gf args) w)
 (hcall:∀l W,Below w.heap.size w W->Calls P gf (#[.func (.yield l) #[] #[]]++lb) W λe W'=>(∃v,e=.returned v)/\Below W.heap.size W W')
 (hdone:∀(D:Nat) (W:World),w.heap.size<=D->Below w.heap.size w W->W.heap[D]?=some (.deferred (some []))->Q .normal { a with defers:={ target:=.collected D,args:=#[] }::a.defers } W) :
 (Code.rangeFunc g ps assign body).wp P Q a w:=by
 refine wpIn_wide (n:=9).1 ?_;refine wpIn_rangeFunc_ownF (α:=Empty) (F:=Fence.wide) rfl (by omega) hg trivial eg (encs:=λx=>nomatch x) (Kp:=λ_ _=>True) (S:=λ_=>True) (Sp:=λ_=>False) (N:=0) (w0:=w)
  (λl J Jx W hW hJ hJx hY h0=>callsIn_wide.2 ((hcall l W hW).mono λe W' ⟨hv,hb⟩=>⟨hv,.inl ⟨[],trivial,hJ [] W W' none h0 (grown_below hb none) (by simp)⟩⟩))
  (λ_ _=>trivial) (λ_ _ _ _ _ _ _ _=>trivial) (Below.refl _ _) (λx=>nomatch x)
  (λ_ W=>Below w.heap.size w W) (λ_ _ _=>False) (ownFrom_below (Nat.le_refl _) (Nat.le_refl _)) (λ_ _ _ _ _ hs _ _=>hs) (Below.refl _ _) (λx=>nomatch x)
  (λ_ x=>nomatch x) (λ_ _ x=>nomatch x) (λD xs W hD _ hb hK=>hdone D W hD hb hK) (λ_ _ _ _ _ h _ _=>h.elim)
theorem leaves_mark {fn:Func}{tmps:Array Value}{R:Ending->World->Prop}{D:Nat}{W:World}{v:Value}(hK:W.heap[D]?=some (.deferred (some [])))
 (hres:(results fn tmps).run P (W.putObj D (.deferred none))=.ok v (W.putObj D (.deferred none))) (hR:R (.returned v) (W.putObj D (.deferred none))) :
 LeavesInM Fence.wide 9 P fn tmps R [{ target:=.collected D,args:=#[] }] .returning W :=
 ⟨by simp,.inl ⟨D,_,rfl,run_takeDeferred hK,⟨v,hres,hR⟩⟩⟩
theorem leaves_marks {fn:Func}{tmps:Array Value}{R:Ending->World->Prop}{D E:Nat}{W:World}{v:Value}(hK:W.heap[D]?=some (.deferred (some [])))(hE:W.heap[E]?=some (.deferred (some [])))(hne:E≠D)
 (hres:(results fn tmps).run P ((W.putObj D (.deferred none)).putObj E (.deferred none))=.ok v ((W.putObj D (.deferred none)).putObj E (.deferred none))) (hR:R (.returned v) ((W.putObj D (.deferred none)).putObj E (.deferred none))) :
 LeavesInM Fence.wide 9 P fn tmps R [{ target:=.collected D,args:=#[] },{ target:=.collected E,args:=#[] }] .returning W :=
 ⟨by simp,.inl ⟨D,_,rfl,run_takeDeferred hK,leaves_mark ((World.putObj_heap_other hne).trans hE) hres hR⟩⟩
theorem below_putObj {B:Nat}{w W:World}(h:Below B w W){g:Nat}(hg:B<=g)(o:Obj):Below B w (W.putObj g o) :=
 ⟨h.os,h.tape,h.output,by simp;exact h.size,λk hk=>(World.putObj_heap_other (by omega)).trans (h.block k hk)⟩
theorem below_setRow {B:Nat}{w W:World}(h:Below B w W){g:Nat}(hg:B<=g)(cs:Array Value):Below B w (W.setRow g cs) :=
 ⟨h.os,h.tape,h.output,by simp;exact h.size,λk hk=>(setRow_other W g k cs (by omega)).trans (h.block k hk)⟩
theorem Blk.putObj {W:World}{g r:Nat}{t:TypeId}{cs:Array Value}(h:Blk W g t cs)(hr:g≠r)(o:Obj):Blk (W.putObj r o) g t cs:=(World.putObj_heap_other hr).trans h
theorem Blk.setRow {W:World}{g r:Nat}{t:TypeId}{cs:Array Value}(h:Blk W g t cs)(hr:g≠r)(ds:Array Value):Blk (W.setRow r ds) g t cs:=(setRow_other W r g ds hr).trans h
theorem Blk.setRow_same {W:World}{g:Nat}{t:TypeId}{cs:Array Value}(h:Blk W g t cs)(ds:Array Value):Blk (W.setRow g ds) g t ds:=setRow_heap W g cs ds t (0,0) h
theorem Blk.heap {w:World}{g:Nat}{t:TypeId}{cs:Array Value}(h:Blk w g t cs):w.heap[g]?=some (.cells cs t (0,0)):=h
end
end
section
open Go.RowKit
theorem indexPost (w:World)(A:Option Addr)(n c:Nat)(l:List Rp.Post)(F:FuncId)(cap:Array Value)(p:Nat->Bool)
 (hx:Reads w w.heap.size 4 A n (encPs l)) (hl:l.length=n) (hn:n<=16777216)
 (hp:Tells w F cap (λi=>#[aggP (l.getD i default)]) p n) :
 Calls prog 87 #[.slice A n c,.func (.func F) #[] cap] w λe w'=>e=.returned (.int .i64 (first p n 0))/\Below w.heap.size w w':=by
 obtain⟨hF,hp⟩:=hp;have H:=hid hp;clear hp;have HF:=hid hF;clear hF;have HX:=hid hx;clear hx;have HL:=hid hl;clear hl
 go_enter func87,ntmps87
 go_wp2
 go_loopw [4,5,8] (λr i k wr=>∃j:Nat,j<=n/\k=.int .i64 j/\Hid (first p n 0=first p n j)/\Below w.heap.size w wr) (λ_ _ k _=>n - (intOf k).toNat)
 case atStart=>exact⟨0,by omega,rfl,rfl,Below.refl _ _⟩
 case round =>
  obtain⟨j,hj,rfl,hf,hb⟩:=hrel
  by_cases hlt:j<n
  ·obtain⟨b,off,q,rfl,hbl,hq,h0,h1,h2,h3⟩:=HX.out.post HL.out hlt
   have hq':l.getD j default=q:=by simp[List.getD_eq_getElem?_getD,hq]
   have hcall:=H.out j hlt wr hb;rw[hq']at hcall;have HC:=hid hcall;clear hcall hq hq';rw[<- hb.cell (p:=⟨b,_,none⟩) hbl]at h0 h1 h2 h3
   go_wp2_with fail
   rw[HF.out,Oper.upon_enter];refine HC.out.mono ?_;rintro e w2 ⟨rfl,hb2⟩;have hb3:=hb.trans (hb2.mono hb.size);cases hpj:p j
   ·have Hpj:=hid hpj
    clear hpj;go_wp2;go_roundw
    case rel=>exact⟨j+1,by omega,by go_num,by unfold Hid;rw[hf.out,first_no hlt Hpj.out],hb3⟩
    case measure=>simp[intOf];omega
   ·have Hpj:=hid hpj
    clear hpj;go_wp2;go_ret;exact⟨ret_int (by rw[hf.out,first_yes hlt Hpj.out]),hb3⟩
  ·go_wp2
   go_ret;exact⟨ret_int (by rw[hf.out,first_end hlt]),hb⟩
def anyB (p:Nat->Bool)(n:Nat):Bool:=(List.range n).any p
theorem first_pos (p:Nat->Bool)(n:Nat):∀(d i:Nat),n - i=d->(0<=first p n i↔∃j,i<=j/\j<n/\p j=true):=by
 intro d
 induction d with
 | zero =>
   intro i hd;rw[first_end (by omega)];constructor
   ·intro h;omega
   ·rintro⟨j,h1,h2,_⟩;omega
 | succ d ih =>
   intro i hd;have hi:i<n:=by omega
   cases hp:p i
   ·rw[first_no hi hp,ih (i+1) (by omega)]
    constructor
    ·rintro⟨j,h1,h2,h3⟩;exact⟨j,by omega,h2,h3⟩
    ·rintro⟨j,h1,h2,h3⟩
     rcases Nat.lt_or_ge i j with h|h
     ·exact⟨j,h,h2,h3⟩
     ·have:j=i:=by omega
      subst this;rw[hp]at h3;cases h3
   ·rw[first_yes hi hp]
    exact⟨λ_=>⟨i,Nat.le_refl _,hi,hp⟩,λ_=>Int.natCast_nonneg _⟩
theorem first_any (p:Nat->Bool)(n:Nat):decide (0<=first p n 0)=anyB p n:=by
 rw[Bool.eq_iff_iff,decide_eq_true_eq,first_pos p n n 0 (by omega)];simp only[anyB,List.any_eq_true,List.mem_range];constructor
 ·rintro⟨j,_,h2,h3⟩;exact⟨j,h2,h3⟩
 ·rintro⟨j,h2,h3⟩;exact⟨j,by omega,h2,h3⟩
theorem anyB_list {α:Type}(l:List α)(d:α)(q:α->Bool):anyB (λi=>q (l.getD i d)) l.length=l.any q:=by
 rw[Bool.eq_iff_iff];simp only[anyB,List.any_eq_true,List.mem_range];constructor
 ·rintro⟨j,h1,h2⟩;exact⟨l[j],List.getElem_mem h1,by simpa[List.getD_eq_getElem?_getD,List.getElem?_eq_getElem h1]using h2⟩
 ·rintro⟨x,hx,h⟩
  obtain⟨j,hj⟩:=List.getElem?_of_mem hx;have hlt:j<l.length:=by
   rcases Nat.lt_or_ge j l.length with h|h
   ·exact h
   ·rw[List.getElem?_eq_none h]at hj;cases hj
  exact⟨j,hlt,by simpa[List.getD_eq_getElem?_getD,hj]using h⟩
theorem containsInt (w:World)(A:Option Addr)(n c:Nat)(xs:List Int)(F:FuncId)(cap:Array Value)(p:Nat->Bool)
 (hx:Reads w w.heap.size 1 A n (xs.map (Value.int .i64))) (hn:n<=16777216)
 (hp:Tells w F cap (λi=>#[.int .i64 (xs.getD i 0)]) p n) :
 Calls prog 85 #[.slice A n c,.func (.func F) #[] cap] w λe w'=>e=.returned (.bool (anyB p n))/\Below w.heap.size w w':=by
 have H:=hid (indexInt w A n c xs F cap p hx hn hp);have HE:=hid (first_any p n);clear hp hx
 go_enter func85,ntmps85
 go_wp2_with (go_at_call 115;refine H.out.mono ?_;rintro e w' ⟨rfl,hb⟩)
 go_ret;exact⟨ret_bool HE.out,hb⟩
theorem containsPost (w:World)(A:Option Addr)(n c:Nat)(l:List Rp.Post)(F:FuncId)(cap:Array Value)(p:Nat->Bool)
 (hx:Reads w w.heap.size 4 A n (encPs l)) (hl:l.length=n) (hn:n<=16777216)
 (hp:Tells w F cap (λi=>#[aggP (l.getD i default)]) p n) :
 Calls prog 57 #[.slice A n c,.func (.func F) #[] cap] w λe w'=>e=.returned (.bool (anyB p n))/\Below w.heap.size w w':=by
 have H:=hid (indexPost w A n c l F cap p hx hl hn hp);have HE:=hid (first_any p n);clear hp hx hl
 go_enter func57,ntmps57
 go_wp2_with (go_at_call 87;refine H.out.mono ?_;rintro e w' ⟨rfl,hb⟩)
 go_ret;exact⟨ret_bool HE.out,hb⟩
end
end Go.Proofs.YtnehgpeelgjjhaaGreatDoor.Tw
