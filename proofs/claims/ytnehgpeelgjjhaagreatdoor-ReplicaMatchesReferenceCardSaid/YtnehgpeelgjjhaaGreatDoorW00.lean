/- Contracts of functions of the program, and plain laws, towards the laws of replicas. Joined of the texts: Rp, V14, L4p, L5p. -/
import Derived.KernelRfl
set_option linter.all false
set_option maxRecDepth 100000
set_option maxHeartbeats 12800000
namespace Rp
structure Post where
 epoch:Int
 origin:Int
 number:Int
 text:ByteArray
  deriving DecidableEq,Inhabited
structure Rep where
 me:Int
 many:Int
 clock:Int
 posts:List Post
 heard:List Int
  deriving DecidableEq,Inhabited
structure Msg where
 src:Int
 posts:List Post
 heard:List Int
  deriving DecidableEq,Inhabited
def inr (n lo hi:Int):Bool:=decide (lo<=n)&&decide (n<=hi)
def before (a b:Post):Bool :=
 decide (a.epoch<b.epoch)||(decide (a.epoch=b.epoch)&&(decide (a.origin<b.origin)||(decide (a.origin=b.origin)&&decide (a.number<b.number))))
def own (l:List Post)(o:Int):List Post:=l.filter λp=>decide (p.origin=o)
def count (l:List Post)(o:Int):Int:=(own l o).length
def lastE (l:List Post)(o:Int):Int:=match (own l o).getLast? with|none=>0|some p=>p.epoch
def formed (many:Int)(p:Post):Bool:=inr p.epoch 1 1000000&&inr p.origin 0 (many - 1)&&decide (p.text.size<=20000)
def linked (pre:List Post)(p:Post):Bool:=match pre.getLast? with|none=>true|some q=>before q p
def stepOk (many:Int)(pre:List Post)(p:Post):Bool :=
 formed many p&&(linked pre p&&(decide (p.number=count pre p.origin)&&decide (lastE pre p.origin<p.epoch)))
def logGo (many:Int):List Post->List Post->Bool
 | _,[]=>true
 | pre,p::r=>stepOk many pre p&&logGo many (pre++[p]) r
def isLog (l:List Post)(many:Int):Bool:=decide (l.length<=200)&&logGo many [] l
def isHeard (l:List Int)(many most:Int):Bool:=decide ((l.length:Int)=many)&&l.all λn=>inr n 0 most
def valid (r:Rep):Bool :=
 inr r.many 1 5&&(inr r.me 0 (r.many - 1)&&(inr r.clock 0 1000000&&(isHeard r.heard r.many r.clock&&(isLog r.posts r.many&&r.posts.all λp=>decide (p.epoch<=r.clock)))))
theorem inr_iff {n lo hi:Int}:inr n lo hi=true↔lo<=n/\n<=hi:=by simp[inr]
theorem before_iff {a b:Post}:before a b=true↔a.epoch<b.epoch∨(a.epoch=b.epoch/\(a.origin<b.origin∨(a.origin=b.origin/\a.number<b.number))):=by
 simp[before]
theorem before_trans {a b c:Post}(h:before a b=true)(h':before b c=true):before a c=true:=by
 rw[before_iff]at *;omega
theorem before_irrefl (a:Post):¬before a a=true:=by rw[before_iff];omega
theorem before_total {a b:Post}(h:¬before a b=true)(h':¬(a.epoch=b.epoch/\a.origin=b.origin/\a.number=b.number)):before b a=true:=by
 rw[before_iff]at *;omega
abbrev Sorted (l:List Post):Prop:=l.Pairwise λa b=>before a b=true
theorem sorted_unique :∀{a b:List Post},Sorted a->Sorted b->(∀x,x∈a↔x∈b)->a=b
 | [],[],_,_,_=>rfl
 | [],y::_,_,_,h=>absurd ((h y).2 (List.mem_cons_self ..)) (by simp)
 | x::_,[],_,_,h=>absurd ((h x).1 (List.mem_cons_self ..)) (by simp)
 | x::a,y::b,ha,hb,h=>by
   rw[Sorted,List.pairwise_cons]at ha hb;have hxy:x=y:=by
    have h1:=(h x).1 (List.mem_cons_self ..);have h2:=(h y).2 (List.mem_cons_self ..);rcases List.mem_cons.1 h1 with e|h1
    ·exact e
    ·rcases List.mem_cons.1 h2 with e|h2
     ·exact e.symm
     ·exact absurd (before_trans (ha.1 _ h2) (hb.1 _ h1)) (before_irrefl _)
   subst hxy;have:a=b:=sorted_unique ha.2 hb.2 λz=>by
    constructor
    ·intro hz
     rcases List.mem_cons.1 ((h z).1 (List.mem_cons_of_mem _ hz))with e|h1
     ·subst e;exact absurd (ha.1 _ hz) (before_irrefl _)
     ·exact h1
    ·intro hz
     rcases List.mem_cons.1 ((h z).2 (List.mem_cons_of_mem _ hz))with e|h1
     ·subst e;exact absurd (hb.1 _ hz) (before_irrefl _)
     ·exact h1
   rw[this]
theorem Sorted.filter {l:List Post}(h:Sorted l)(p:Post->Bool):Sorted (l.filter p):=List.Pairwise.filter p h
theorem mem_own {l:List Post}{o:Int}{p:Post}:p∈own l o↔p∈l/\p.origin=o:=by simp[own]
theorem own_append (a b:List Post)(o:Int):own (a++b) o=own a o++own b o:=by simp[own]
theorem own_cons (p:Post)(l:List Post)(o:Int):own (p::l) o=if p.origin=o then p::own l o else own l o:=by
 by_cases h:p.origin=o<;>simp[own,h]
theorem own_nil (o:Int):own [] o=[]:=rfl
def chain :Int->Int->List Post->Bool
 | _,_,[]=>true
 | n,e,p::r=>decide (p.number=n)&&(decide (e<p.epoch)&&chain (n+1) p.epoch r)
theorem count_snoc (pre:List Post)(p:Post)(o:Int):count (pre++[p]) o=count pre o+if p.origin=o then 1 else 0:=by
 unfold count;rw[own_append,own_cons,own_nil];by_cases h:p.origin=o<;>simp[h]
theorem lastE_snoc (pre:List Post)(p:Post)(o:Int):lastE (pre++[p]) o=if p.origin=o then p.epoch else lastE pre o:=by
 unfold lastE;rw[own_append,own_cons,own_nil];by_cases h:p.origin=o<;>simp[h]
def Links :List Post->List Post->Prop
 | _,[]=>True
 | pre,p::r=>linked pre p=true/\Links (pre++[p]) r
theorem logGo_iff (many:Int):∀(r pre:List Post),logGo many pre r=true ↔
 (∀p∈r,formed many p=true)/\Links pre r/\∀o,chain (count pre o) (lastE pre o) (own r o)=true
 | [],pre=>by simp[logGo,Links,own_nil,chain]
 | p::r,pre=>by
   simp only[logGo,stepOk,Bool.and_eq_true,logGo_iff many r (pre++[p]),Links,List.mem_cons,forall_eq_or_imp,decide_eq_true_eq];constructor
   ·rintro⟨⟨h1,h2,h3,h4⟩,h5,h6,h7⟩
    refine⟨⟨h1,h5⟩,⟨h2,h6⟩,λo=>?_⟩;have:=h7 o;rw[count_snoc,lastE_snoc]at this;rw[own_cons]
    by_cases ho:p.origin=o
    ·subst ho;simp only[if_true]at this ⊢;simp[chain,h3,h4];simpa using this
    ·simpa[ho]using this
   ·rintro⟨⟨h1,h5⟩,⟨h2,h6⟩,h7⟩
    have h0:=h7 p.origin;rw[own_cons,if_pos rfl]at h0;simp only[chain,Bool.and_eq_true,decide_eq_true_eq]at h0;refine⟨⟨h1,h2,h0.1,h0.2.1⟩,h5,h6,λo=>?_⟩;have:=h7 o;rw[own_cons]at this;rw[count_snoc,lastE_snoc]
    by_cases ho:p.origin=o
    ·subst ho;simp only[if_true];exact h0.2.2
    ·simpa[ho]using this
theorem links_sorted :∀(r pre:List Post),Sorted pre->Links pre r->Sorted (pre++r)
 | [],pre,h,_=>by simpa using h
 | p::r,pre,h,hl=>by
   have:=links_sorted r (pre++[p]) ?_ hl.2
   ·simpa using this
   ·refine List.pairwise_append.2 ⟨h,List.pairwise_singleton ..,λx hx y hy=>?_⟩
    obtain rfl:y=p:=by simpa using hy
    have hl1:=hl.1;rcases List.eq_nil_or_concat pre with e|⟨L,q,rfl⟩
    ·subst e;simp at hx
    ·rw[List.concat_eq_append]at *
     simp[linked]at hl1;rcases List.mem_append.1 hx with hx|hx
     ·exact before_trans ((List.pairwise_append.1 h).2.2 x hx q (by simp)) hl1
     ·obtain rfl:x=q:=by simpa using hx
      exact hl1
theorem sorted_links :∀(r pre:List Post),Sorted (pre++r)->Links pre r
 | [],_,_=>trivial
 | p::r,pre,h=>by
   refine⟨?_,sorted_links r (pre++[p]) (by simpa using h)⟩;rcases List.eq_nil_or_concat pre with e|⟨L,q,rfl⟩
   ·subst e;rfl
   ·rw[List.concat_eq_append]at *
    simp[linked];exact(List.pairwise_append.1 h).2.2 q (by simp) p (by simp)
theorem isLog_iff {l:List Post}{many:Int}:isLog l many=true ↔
 l.length<=200/\(∀p∈l,formed many p=true)/\Sorted l/\∀o,chain 0 0 (own l o)=true:=by
 simp only[isLog,Bool.and_eq_true,decide_eq_true_eq,logGo_iff];have h0:∀o,count [] o=0:=λ_=>rfl
 have h1:∀o,lastE [] o=0:=λ_=>rfl
 simp only[h0,h1];constructor
 ·rintro⟨a,b,c,d⟩;exact⟨a,b,by simpa using links_sorted l [] List.Pairwise.nil c,d⟩
 ·rintro⟨a,b,c,d⟩;exact⟨a,b,sorted_links l [] (by simpa using c),d⟩
theorem chain_number :∀{l:List Post} {n e:Int},chain n e l=true->∀(i:Nat) (p:Post),l[i]?=some p->p.number=n+i
 | [],_,_,_,i,p,h=>by simp at h
 | x::r,n,e,hc,0,p,h=>by
   simp only[chain,Bool.and_eq_true,decide_eq_true_eq]at hc;simp at h;subst h;simpa using hc.1
 | x::r,n,e,hc,i+1,p,h=>by
   simp only[chain,Bool.and_eq_true,decide_eq_true_eq]at hc;have:=chain_number hc.2.2 i p (by simpa using h);omega
def merge :List Post->List Post->List Post
 | [],[]=>[]
 | x::a,[]=>x::merge a []
 | [],y::b=>y::merge [] b
 | x::a,y::b=>if before x y then x::merge a (y::b)else if x=y then merge a (y::b)else y::merge (x::a) b
  termination_by a b=>a.length+b.length
theorem merge_nil_right :∀a:List Post,merge a []=a
 | []=>by rw[merge]
 | x::a=>by rw[merge,merge_nil_right a]
theorem merge_nil_left :∀b:List Post,merge [] b=b
 | []=>by rw[merge]
 | x::b=>by rw[merge,merge_nil_left b]
theorem mem_merge (z:Post)(a b:List Post):z∈merge a b↔z∈a∨z∈b:=by
 fun_induction merge a b with
 | case1=>simp
 | case2 x a ih=>simp[ih]
 | case3 y b ih=>simp[ih]
 | case4 x a y b h ih=>rw[List.mem_cons,ih];simp[or_assoc]
 | case5 x a b h ih=>rw[ih];simp only[List.mem_cons];grind
 | case6 x a y b h e ih=>rw[List.mem_cons,ih];simp only[List.mem_cons];grind
theorem merge_sorted (a b:List Post)(ha:Sorted a)(hb:Sorted b)
 (hab:∀x∈a,∀y∈b,x.epoch=y.epoch/\x.origin=y.origin/\x.number=y.number->x=y):Sorted (merge a b):=by
 fun_induction merge a b with
 | case1=>exact List.Pairwise.nil
 | case2 x a ih=>rw[merge_nil_right];exact ha
 | case3 y b ih=>rw[merge_nil_left];exact hb
 | case4 x a y b h ih =>
   rw[Sorted,List.pairwise_cons]at ha ⊢;refine⟨λz hz=>?_,ih ha.2 hb λu hu v hv=>hab u (List.mem_cons_of_mem _ hu) v hv⟩;rcases(mem_merge ..).1 hz with hz|hz
   ·exact ha.1 z hz
   ·rcases List.mem_cons.1 hz with e|hz
    ·subst e;exact h
    ·exact before_trans h ((List.pairwise_cons.1 hb).1 z hz)
 | case5 x a b h ih=>exact ih (List.pairwise_cons.1 ha).2 hb λu hu v hv=>hab u (List.mem_cons_of_mem _ hu) v hv
 | case6 x a y b h e ih =>
   have hyx:before y x=true:=before_total h λhk=>e (hab x (by simp) y (by simp) hk)
   rw[Sorted,List.pairwise_cons];refine⟨λz hz=>?_,ih ha (List.pairwise_cons.1 hb).2 λu hu v hv=>hab u hu v (List.mem_cons_of_mem _ hv)⟩;rcases(mem_merge ..).1 hz with hz|hz
   ·rcases List.mem_cons.1 hz with e|hz
    ·subst e;exact hyx
    ·exact before_trans hyx ((List.pairwise_cons.1 ha).1 z hz)
   ·exact(List.pairwise_cons.1 hb).1 z hz
def newRep (me many:Int):Option Rep :=
 let r:Rep:=⟨me,many,0,[],List.replicate (min (max many 0) 6).toNat 0⟩
 if valid r then some r else none
def written (r:Rep)(text:ByteArray):Rep:={ r with clock:=r.clock+1,posts:=r.posts++[⟨r.clock+1,r.me,count r.posts r.me,text⟩] }
def write (r:Rep)(text:ByteArray):Option Rep :=
 if valid r then (if valid (written r text)then some (written r text)else none)else none
def told (r:Rep):Rep:={ r with heard:=r.heard.set r.me.toNat r.clock }
def message (r:Rep):Msg:=⟨r.me,(told r).posts,(told r).heard⟩
def tell (r:Rep):Option (Rep×Msg):=if valid r then some (told r,message r)else none
def maxE (c:Int)(l:List Post):Int:=l.foldl (λc p=>max c p.epoch) c
def maxN (c:Int)(l:List Int):Int:=l.foldl max c
def maxH (me:Nat)(a b:List Int):List Int:=(List.range a.length).map λi=>if i=me then a.getD i 0 else max (a.getD i 0) (b.getD i 0)
def mayHear (r:Rep)(m:Msg):Bool :=
 valid r&&(inr m.src 0 (r.many - 1)&&(isLog m.posts r.many&&(isHeard m.heard r.many 1000000 &&
  (decide (count m.posts r.me<=count r.posts r.me)&&decide (m.heard.getD r.me.toNat 0<=r.heard.getD r.me.toNat 0)))))
def joined (r:Rep)(m:Msg):Rep :=
 { r with posts:=merge r.posts m.posts,clock:=maxN (maxE r.clock m.posts) m.heard,heard:=maxH r.me.toNat r.heard m.heard }
def hear (r:Rep)(m:Msg):Option Rep :=
 if mayHear r m then (if valid (joined r m)then some (joined r m)else none)else none
def least :List Int->Int
 | []=>0
 | x::l=>l.foldl min x
def stableN (r:Rep):Nat:=(r.posts.takeWhile λp=>decide (p.epoch<=least r.heard)).length
def stable (r:Rep):Option Nat:=if valid r then some (stableN r)else none
inductive Motion where
 | write (who:Nat) (text:ByteArray)
 | send (who:Nat)
 | deliver (who at_:Nat)
  deriving Inhabited
structure Sys where
 reps:List Rep
 msgs:List Msg
  deriving Inhabited
def Sys.rep (s:Sys)(i:Nat):Rep:=s.reps.getD i default
def Sys.set (s:Sys)(i:Nat)(r:Rep):Sys:={ s with reps:=s.reps.set i r }
def act (s:Sys):Motion->Sys
 | .write i t=>match write (s.rep i) t with|some r=>s.set i r|none=>s
 | .send i=>match tell (s.rep i)with|some (r,m)=>{ s.set i r with msgs:=s.msgs++[m] }|none=>{ s with msgs:=s.msgs++[⟨0,[],[]⟩] }
 | .deliver i a=>if (s.msgs.getD a default).src=i then s else match hear (s.rep i) (s.msgs.getD a default)with|some r=>s.set i r|none=>s
def start (k:Nat):Sys:=⟨(List.range k).map fun(i:Nat)=>(newRep (i:Int) (k:Int)).getD default,[]⟩
def runs (k:Nat)(l:List Motion):Sys:=l.foldl act (start k)
theorem isHeard_iff {l:List Int}{many most:Int}:isHeard l many most=true↔(l.length:Int)=many/\∀n∈l,0<=n/\n<=most:=by
 simp[isHeard,inr_iff]
theorem valid_iff {r:Rep}:valid r=true↔(1<=r.many/\r.many<=5)/\(0<=r.me/\r.me<=r.many - 1)/\(0<=r.clock/\r.clock<=1000000) /\
 isHeard r.heard r.many r.clock=true/\isLog r.posts r.many=true/\∀p∈r.posts,p.epoch<=r.clock:=by
 simp only[valid,Bool.and_eq_true,inr_iff,List.all_eq_true,decide_eq_true_eq]
theorem formed_iff {many:Int}{p:Post}:formed many p=true↔(1<=p.epoch/\p.epoch<=1000000)/\(0<=p.origin/\p.origin<=many - 1)/\p.text.size<=20000:=by
 simp only[formed,Bool.and_eq_true,inr_iff,decide_eq_true_eq];omega
structure Knows (k:Nat) (s:Sys) (posts:List Post) (heard:List Int):Prop where
 log:isLog posts k=true
 pre:∀o:Nat,o<k->own posts o <+: own (s.rep o).posts o
 len:heard.length=k
 nonneg:∀n∈heard,0<=n
 all:∀o:Nat,o<k->∀p∈(s.rep o).posts,p.origin=o->p.epoch<=heard.getD o 0->p∈posts
 le:∀o:Nat,o<k->heard.getD o 0<=(s.rep o).heard.getD o 0
structure Inv (k:Nat) (s:Sys):Prop where
 len:s.reps.length=k
 rep:∀i:Nat,i<k->valid (s.rep i)=true/\(s.rep i).me=i/\(s.rep i).many=k
 knows:∀i:Nat,i<k->Knows k s (s.rep i).posts (s.rep i).heard
 msgs:∀m∈s.msgs,Knows k s m.posts m.heard/\0<=m.src/\m.src<k
structure Grows (o:Nat) (r r':Rep):Prop where
 own:own r.posts o <+: own r'.posts o
 heard:r.heard.getD o 0<=r'.heard.getD o 0
 new:∀p∈r'.posts,p.origin=o->p∈r.posts∨r.clock<p.epoch
 sub:∀p∈r.posts,p∈r'.posts
 clock:r.clock<=r'.clock
 hears:∀j:Nat,r.heard.getD j 0<=r'.heard.getD j 0
def Mono (k:Nat)(s s':Sys):Prop:=∀o:Nat,o<k->Grows o (s.rep o) (s'.rep o)
theorem Grows.refl (o:Nat)(r:Rep):Grows o r r:=⟨List.prefix_refl _,Int.le_refl _,λ_ h _=>.inl h,λ_ h=>h,Int.le_refl _,λ_=>Int.le_refl _⟩
theorem Grows.trans {o:Nat}{a b c:Rep}(h:Grows o a b)(h':Grows o b c):Grows o a c where
 own:=h.own.trans h'.own
 heard:=Int.le_trans h.heard h'.heard
 new:=λp hp ho=>by
  rcases h'.new p hp ho with hb|hlt
  ·exact h.new p hb ho
  ·exact .inr (Int.lt_of_le_of_lt h.clock hlt)
 sub:=λp hp=>h'.sub p (h.sub p hp)
 clock:=Int.le_trans h.clock h'.clock
 hears:=λj=>Int.le_trans (h.hears j) (h'.hears j)
theorem Mono.refl (k:Nat)(s:Sys):Mono k s s:=λo _=>.refl o _
theorem Mono.trans {k:Nat}{a b c:Sys}(h:Mono k a b)(h':Mono k b c):Mono k a c:=λo ho=>(h o ho).trans (h' o ho)
theorem getD_le_clock {k:Nat}{r:Rep}(h:valid r=true)(hm:r.many=k){o:Nat}(ho:o<k):r.heard.getD o 0<=r.clock:=by
 obtain⟨_,_,_,hh,_,_⟩:=valid_iff.1 h;obtain⟨hl,ha⟩:=isHeard_iff.1 hh;have hlt:o<r.heard.length:=by omega
 rw[List.getD_eq_getElem?_getD,List.getElem?_eq_getElem hlt];exact(ha _ (List.getElem_mem hlt)).2
theorem Inv.le_clock {k:Nat}{s:Sys}(h:Inv k s){o:Nat}(ho:o<k)(j:Nat)(hj:j<k):(s.rep o).heard.getD j 0<=(s.rep o).clock :=
 getD_le_clock (h.rep o ho).1 (h.rep o ho).2.2 hj
theorem Knows.mono {k:Nat}{s s':Sys}{P:List Post}{H:List Int}(h:Knows k s P H)(hi:Inv k s)(hm:Mono k s s'):Knows k s' P H where
 log:=h.log
 pre:=λo ho=>(h.pre o ho).trans (hm o ho).own
 len:=h.len
 nonneg:=h.nonneg
 all:=λo ho p hp hpo hle=>by
  rcases(hm o ho).new p hp hpo with hp|hlt
  ·exact h.all o ho p hp hpo hle
  ·have h1:=h.le o ho
   have h2:=hi.le_clock ho o ho;omega
 le:=λo ho=>Int.le_trans (h.le o ho) (hm o ho).heard
theorem Sys.rep_set {s:Sys}{i:Nat}{r:Rep}(hi:i<s.reps.length)(j:Nat):(s.set i r).rep j=if j=i then r else s.rep j:=by
 unfold Sys.rep Sys.set;simp only[List.getD_eq_getElem?_getD,List.getElem?_set]
 by_cases h:i=j
 ·subst h;simp[hi]
 ·have h':¬j=i:=λe=>h e.symm
  simp[h,h']
theorem mono_set {k:Nat}{s:Sys}{i:Nat}{r:Rep}(h:Inv k s)(hi:i<k)(hg:Grows i (s.rep i) r):Mono k s (s.set i r):=by
 intro o _;rw[Sys.rep_set (by rw[h.len];exact hi)]
 by_cases e:o=i
 ·subst e;simpa using hg
 ·simp only[e,if_false];exact .refl o _
theorem inv_set {k:Nat}{s:Sys}{i:Nat}{r:Rep}(h:Inv k s)(hi:i<k)(hv:valid r=true)(hme:r.me=i)(hmany:r.many=k)
 (hg:Grows i (s.rep i) r) (hk:Knows k (s.set i r) r.posts r.heard):Inv k (s.set i r):=by
 have hm:=mono_set h hi hg;have hl:i<s.reps.length:=by rw[h.len];exact hi
 refine⟨by simp[Sys.set,h.len],λj hj=>?_,λj hj=>?_,λm hm'=>?_⟩
 ·rw[Sys.rep_set hl]
  by_cases e:j=i
  ·subst e;simpa using ⟨hv,hme,hmany⟩
  ·simp only[e,if_false];exact h.rep j hj
 ·have hrj:=Sys.rep_set (r:=r) hl j
  by_cases e:j=i
  ·rw[if_pos e]at hrj;rw[hrj];exact hk
  ·rw[if_neg e]at hrj;rw[hrj];exact(h.knows j hj).mono h hm
 ·obtain⟨a,b⟩:=h.msgs m hm'
  exact⟨a.mono h hm,b⟩
theorem prefix_mem {a b:List Post}(h:a <+: b){x:Post}(hx:x∈a):x∈b:=h.subset hx
theorem chain_same {a b:List Post}(hb:chain 0 0 b=true)(h:a <+: b){x y:Post}(hx:x∈a)(hy:y∈b)(hn:x.number=y.number):x=y:=by
 obtain⟨i,hi⟩:=List.getElem?_of_mem (prefix_mem h hx);obtain⟨j,hj⟩:=List.getElem?_of_mem hy;have h1:=chain_number hb i x hi;have h2:=chain_number hb j y hj;have:i=j:=by omega
 subst this;rw[hi]at hj;exact Option.some.inj hj
theorem own_range {l:List Post}{k:Nat}(h:isLog l k=true){p:Post}(hp:p∈l):∃o:Nat,o<k/\p.origin=o:=by
 have:=(formed_iff.1 ((isLog_iff.1 h).2.1 p hp)).2.1;exact⟨p.origin.toNat,by omega,by omega⟩
theorem agree_of_pre {k:Nat}{G:Nat->List Post}{a b:List Post}(ha:isLog a k=true)
 (hG:∀o<k,chain 0 0 (G o)=true) (h1:∀o<k,own a o <+: G o) (h2:∀o<k,own b o <+: G o) :
 ∀x∈a,∀y∈b,x.epoch=y.epoch/\x.origin=y.origin/\x.number=y.number->x=y:=by
 intro x hx y hy ⟨_,ho,hn⟩;obtain⟨o,hlt,hxo⟩:=own_range ha hx;have hx':x∈own a o:=mem_own.2 ⟨hx,hxo⟩;have hy':y∈own b o:=mem_own.2 ⟨hy,by omega⟩;exact chain_same (hG o hlt) (h1 o hlt) hx' (prefix_mem (h2 o hlt) hy') hn
theorem own_merge {k:Nat}{G:Nat->List Post}{a b:List Post}(ha:isLog a k=true)(hb:isLog b k=true)
 (hG:∀o<k,chain 0 0 (G o)=true) (h1:∀o<k,own a o <+: G o) (h2:∀o<k,own b o <+: G o) (o:Nat) (ho:o<k) :
 own (merge a b) o=(if (own a o).length<=(own b o).length then own b o else own a o):=by
 have sa:=(isLog_iff.1 ha).2.2.1;have sb:=(isLog_iff.1 hb).2.2.1;have sm:=merge_sorted a b sa sb (agree_of_pre ha hG h1 h2);have hs2:Sorted (if (own a o).length<=(own b o).length then own b o else own a o):=by
  split
  ·exact sb.filter _
  ·exact sa.filter _
 refine sorted_unique (sm.filter _) hs2 λx=>?_
 rw[mem_own,mem_merge]
 split
 ·rename_i hle
  have hp:=List.prefix_of_prefix_length_le (h1 o ho) (h2 o ho) hle;rw[mem_own];constructor
  ·rintro⟨hx|hx,e⟩
   ·exact mem_own.1 (prefix_mem hp (mem_own.2 ⟨hx,e⟩))
   ·exact⟨hx,e⟩
  ·rintro⟨hx,e⟩;exact⟨.inr hx,e⟩
 ·rename_i hle
  have hp:=List.prefix_of_prefix_length_le (h2 o ho) (h1 o ho) (by omega);rw[mem_own];constructor
  ·rintro⟨hx|hx,e⟩
   ·exact⟨hx,e⟩
   ·exact mem_own.1 (prefix_mem hp (mem_own.2 ⟨hx,e⟩))
  ·rintro⟨hx,e⟩;exact⟨.inl hx,e⟩
theorem write_some {r r':Rep}{t:ByteArray}(h:write r t=some r'):valid r=true/\valid r'=true/\r'=written r t:=by
 unfold write at h
 split at h
 ·split at h
  ·rename_i h1 h2;cases h;exact⟨h1,h2,rfl⟩
  ·cases h
 ·cases h
theorem write_step {k:Nat}{s:Sys}{i:Nat}{t:ByteArray}{r:Rep}(h:Inv k s)(hi:i<k)(hw:write (s.rep i) t=some r) :
 Inv k (s.set i r)/\Mono k s (s.set i r):=by
 obtain⟨hv,hv',hr⟩:=write_some hw;obtain⟨_,hme,hmany⟩:=h.rep i hi;have hl:i<s.reps.length:=by rw[h.len];exact hi
 have hg:Grows i (s.rep i) r:=by
  subst hr;refine⟨?_,Int.le_refl _,λp hp _=>?_,λp hp=>?_,by simp[written];omega,λ_=>Int.le_refl _⟩
  ·simp only[written,own_append];exact List.prefix_append ..
  ·simp only[written,List.mem_append,List.mem_singleton]at hp
   rcases hp with hp|rfl
   ·exact .inl hp
   ·exact .inr (by simp;omega)
  ·simp[written,hp]
 refine⟨inv_set h hi hv' (by subst hr;exact hme) (by subst hr;exact hmany) hg ?_,mono_set h hi hg⟩;have hk:=h.knows i hi;have hlog:=(valid_iff.1 hv').2.2.2.2.1;rw[show r.many=(k:Int) by subst hr;exact hmany]at hlog;have hrep:=λj=>Sys.rep_set (s:=s) (r:=r) hl j
 have hown:∀o:Nat,o≠i->own r.posts o=own (s.rep i).posts o:=by
  intro o ho;subst hr;simp only[written,own_append,own_cons,own_nil];rw[if_neg (by rw[hme];omega),List.append_nil]
 refine⟨hlog,λo ho=>?_,by subst hr;exact hk.len,by subst hr;exact hk.nonneg,λo ho p hp hpo hle=>?_,λo ho=>?_⟩
 ·rw[hrep]
  by_cases e:o=i
  ·subst e;rw[if_pos rfl];exact List.prefix_refl _
  ·rw[if_neg e,hown o e];exact hk.pre o ho
 ·rw[hrep]at hp
  by_cases e:o=i
  ·subst e;rw[if_pos rfl]at hp;exact hp
  ·rw[if_neg e]at hp
   have:=hk.all o ho p hp hpo (by subst hr;exact hle);subst hr;simp[written,this]
 ·rw[hrep]
  by_cases e:o=i
  ·subst e;rw[if_pos rfl];exact Int.le_refl _
  ·rw[if_neg e];subst hr;exact hk.le o ho
theorem getD_set (l:List Int)(i j:Nat)(x:Int)(hi:i<l.length):(l.set i x).getD j 0=if j=i then x else l.getD j 0:=by
 simp only[List.getD_eq_getElem?_getD,List.getElem?_set]
 by_cases h:i=j
 ·subst h;simp[hi]
 ·have h':¬j=i:=λe=>h e.symm
  simp[h,h']
theorem mem_set_of {l:List Int}{i:Nat}{x n:Int}(h:n∈l.set i x):n∈l∨n=x:=by
 rcases List.mem_or_eq_of_mem_set h with h|h
 ·exact .inl h
 ·exact .inr h
theorem told_valid {r:Rep}(h:valid r=true):valid (told r)=true:=by
 obtain⟨a,b,c,d,e,f⟩:=valid_iff.1 h;obtain⟨hl,hn⟩:=isHeard_iff.1 d;refine valid_iff.2 ⟨a,b,c,isHeard_iff.2 ⟨by simpa[told]using hl,λn hm=>?_⟩,e,f⟩;rcases mem_set_of hm with hm|hm
 ·exact hn n hm
 ·subst hm;simp only[told];omega
theorem tell_step {k:Nat}{s:Sys}{i:Nat}(h:Inv k s)(hi:i<k) :
 Inv k { s.set i (told (s.rep i))with msgs:=s.msgs++[message (s.rep i)] }/\Mono k s (s.set i (told (s.rep i))):=by
 obtain⟨hv,hme,hmany⟩:=h.rep i hi;have hl:i<s.reps.length:=by rw[h.len];exact hi
 have hk:=h.knows i hi;have hil:i<(s.rep i).heard.length:=by rw[hk.len];exact hi
 have hmn:(s.rep i).me.toNat=i:=by omega
 have hH:∀j:Nat,(told (s.rep i)).heard.getD j 0=if j=i then (s.rep i).clock else (s.rep i).heard.getD j 0:=by
  intro j;simp only[told,hmn];exact getD_set _ _ _ _ hil
 have hg:Grows i (s.rep i) (told (s.rep i)):=by
  refine⟨List.prefix_refl _,?_,λp hp _=>.inl hp,λp hp=>hp,Int.le_refl _,λj=>?_⟩
  ·rw[hH,if_pos rfl];exact h.le_clock hi i hi
  ·rw[hH];split
   ·rename_i e;subst e;exact h.le_clock hi _ hi
   ·exact Int.le_refl _
 have hrep:=λj=>Sys.rep_set (s:=s) (r:=told (s.rep i)) hl j
 have hK:Knows k (s.set i (told (s.rep i))) (told (s.rep i)).posts (told (s.rep i)).heard:=by
  refine⟨hk.log,λo ho=>?_,by simp[told,hk.len],λn hn=>?_,λo ho p hp hpo hle=>?_,λo ho=>?_⟩
  ·rw[hrep]
   by_cases e:o=i
   ·rw[if_pos e];exact List.prefix_refl _
   ·rw[if_neg e];exact hk.pre o ho
  ·rcases mem_set_of hn with hn|hn
   ·exact hk.nonneg n hn
   ·subst hn;exact(valid_iff.1 hv).2.2.1.1
  ·rw[hrep]at hp
   by_cases e:o=i
   ·rw[if_pos e]at hp;exact hp
   ·rw[if_neg e]at hp
    rw[hH,if_neg e]at hle;exact hk.all o ho p hp hpo hle
  ·rw[hrep]
   by_cases e:o=i
   ·rw[if_pos e];exact Int.le_refl _
   ·rw[if_neg e,hH,if_neg e];exact hk.le o ho
 have hI:=inv_set h hi (told_valid hv) hme hmany hg hK;refine⟨⟨hI.len,hI.rep,λj hj=>?_,λm hm=>?_⟩,mono_set h hi hg⟩
 ·obtain⟨a,b,c,d,e,f⟩:=hI.knows j hj
  exact⟨a,b,c,d,e,f⟩
 ·rcases List.mem_append.1 hm with hm|hm
  ·obtain⟨⟨a,b,c,d,e,f⟩,g⟩:=hI.msgs m hm
   exact⟨⟨a,b,c,d,e,f⟩,g⟩
  ·obtain rfl:m=message (s.rep i):=by simpa using hm
   obtain⟨a,b,c,d,e,f⟩:=hK;refine⟨⟨a,b,c,d,e,f⟩,?_,?_⟩<;>simp only[message,hme]<;>omega
theorem mayHear_iff {r:Rep}{m:Msg}:mayHear r m=true↔valid r=true/\(0<=m.src/\m.src<=r.many - 1)/\isLog m.posts r.many=true /\
 isHeard m.heard r.many 1000000=true/\count m.posts r.me<=count r.posts r.me/\m.heard.getD r.me.toNat 0<=r.heard.getD r.me.toNat 0:=by
 simp only[mayHear,Bool.and_eq_true,inr_iff,decide_eq_true_eq]
theorem maxE_le (l:List Post)(c:Int):c<=maxE c l/\∀p∈l,p.epoch<=maxE c l:=by
 unfold maxE
 induction l generalizing c with
 | nil=>simp
 | cons x l ih =>
   obtain⟨h1,h2⟩:=ih (max c x.epoch);simp only[List.foldl_cons,List.mem_cons,forall_eq_or_imp];refine⟨by omega,by omega,h2⟩
theorem maxN_le (l:List Int)(c:Int):c<=maxN c l/\∀p∈l,p<=maxN c l:=by
 unfold maxN
 induction l generalizing c with
 | nil=>simp
 | cons x l ih =>
   obtain⟨h1,h2⟩:=ih (max c x);simp only[List.foldl_cons,List.mem_cons,forall_eq_or_imp];refine⟨by omega,by omega,h2⟩
theorem maxE_bound (l:List Post)(c B:Int)(hc:c<=B)(h:∀p∈l,p.epoch<=B):maxE c l<=B:=by
 unfold maxE
 induction l generalizing c with
 | nil=>simpa
 | cons x l ih=>simp only[List.foldl_cons];exact ih _ (by have:=h x (by simp);omega) λp hp=>h p (by simp[hp])
theorem maxN_bound (l:List Int)(c B:Int)(hc:c<=B)(h:∀p∈l,p<=B):maxN c l<=B:=by
 unfold maxN
 induction l generalizing c with
 | nil=>simpa
 | cons x l ih=>simp only[List.foldl_cons];exact ih _ (by have:=h x (by simp);omega) λp hp=>h p (by simp[hp])
theorem maxH_len (me:Nat)(a b:List Int):(maxH me a b).length=a.length:=by simp[maxH]
theorem maxH_getD (me:Nat)(a b:List Int)(j:Nat)(hj:j<a.length):(maxH me a b).getD j 0=if j=me then a.getD j 0 else max (a.getD j 0) (b.getD j 0):=by
 rw[List.getD_eq_getElem?_getD,maxH,List.getElem?_map,List.getElem?_range hj];rfl
theorem maxH_mem {me:Nat}{a b:List Int}{n:Int}(h:n∈maxH me a b):∃j,j<a.length/\n=(maxH me a b).getD j 0:=by
 obtain⟨j,hj⟩:=List.getElem?_of_mem h;have hl:j<(maxH me a b).length:=by
  rcases Nat.lt_or_ge j (maxH me a b).length with h|h
  ·exact h
  ·rw[List.getElem?_eq_none h]at hj;cases hj
 exact⟨j,by simpa[maxH_len]using hl,by rw[List.getD_eq_getElem?_getD,hj];rfl⟩
theorem getD_out (a:List Int)(j:Nat)(h:a.length<=j):a.getD j 0=0:=by rw[List.getD_eq_getElem?_getD,List.getElem?_eq_none h];rfl
theorem Inv.chains {k:Nat}{s:Sys}(h:Inv k s)(o:Nat)(ho:o<k):chain 0 0 (own (s.rep o).posts o)=true :=
 (isLog_iff.1 (h.knows o ho).log).2.2.2 o
theorem joined_grows {k:Nat}{s:Sys}{i:Nat}{m:Msg}(h:Inv k s)(hi:i<k)(hk':Knows k s m.posts m.heard) :
 Grows i (s.rep i) (joined (s.rep i) m)/\(∀o:Nat,o<k->own (joined (s.rep i) m).posts o <+: own (s.rep o).posts o)/\own (joined (s.rep i) m).posts i=own (s.rep i).posts i:=by
 obtain⟨hv,hme,hmany⟩:=h.rep i hi;have hk:=h.knows i hi;have hmn:(s.rep i).me.toNat=i:=by omega
 have hO:=λo ho=>own_merge (G:=λo=>own (s.rep o).posts o) hk.log hk'.log h.chains hk.pre hk'.pre o ho
 have hpre:∀o:Nat,o<k->own (joined (s.rep i) m).posts o <+: own (s.rep o).posts o:=by
  intro o ho;show own (merge _ _) _ <+: _;rw[hO o ho];split
  ·exact hk'.pre o ho
  ·exact hk.pre o ho
 have hii:own (joined (s.rep i) m).posts i=own (s.rep i).posts i:=by
  show own (merge _ _) _=_;rw[hO i hi];split
  ·rename_i hle
   exact(hk'.pre i hi).eq_of_length (Nat.le_antisymm (hk'.pre i hi).length_le hle)
  ·rfl
 refine⟨⟨by rw[hii];exact List.prefix_refl _,?_,λp hp hpo=>?_,λp hp=>?_,?_,λj=>?_⟩,hpre,hii⟩
 ·show _<=(maxH _ _ _).getD i 0
  rw[maxH_getD _ _ _ _ (by rw[hk.len];exact hi),hmn,if_pos rfl];exact Int.le_refl _
 ·have:p∈own (joined (s.rep i) m).posts i:=mem_own.2 ⟨hp,hpo⟩
  rw[hii]at this;exact .inl (mem_own.1 this).1
 ·exact(mem_merge ..).2 (.inl hp)
 ·have h1:=(maxE_le m.posts (s.rep i).clock).1
  have h2:=(maxN_le m.heard (maxE (s.rep i).clock m.posts)).1;show _<=maxN _ _;omega
 ·show _<=(maxH _ _ _).getD j 0
  by_cases hj:j<(s.rep i).heard.length
  ·rw[maxH_getD _ _ _ _ hj];split<;>omega
  ·rw[getD_out _ _ (by omega),getD_out _ _ (by rw[maxH_len];omega)];exact Int.le_refl _
theorem hear_step {k:Nat}{s:Sys}{i:Nat}{m:Msg}(h:Inv k s)(hi:i<k)(hm:m∈s.msgs)(hv':valid (joined (s.rep i) m)=true) :
 Inv k (s.set i (joined (s.rep i) m))/\Mono k s (s.set i (joined (s.rep i) m)):=by
 obtain⟨hv,hme,hmany⟩:=h.rep i hi;have hl:i<s.reps.length:=by rw[h.len];exact hi
 have hk:=h.knows i hi;obtain⟨hk',_⟩:=h.msgs m hm;obtain⟨hg,hpre,hii⟩:=joined_grows h hi hk';have hmn:(s.rep i).me.toNat=i:=by omega
 have hrep:=λj=>Sys.rep_set (s:=s) (r:=joined (s.rep i) m) hl j
 have hlog:=(valid_iff.1 hv').2.2.2.2.1;rw[show(joined (s.rep i) m).many=(k:Int)from hmany]at hlog;refine⟨inv_set h hi hv' hme hmany hg ?_,mono_set h hi hg⟩;have hHj:∀o:Nat,o<k->(joined (s.rep i) m).heard.getD o 0=if o=i then (s.rep i).heard.getD o 0 else max ((s.rep i).heard.getD o 0) (m.heard.getD o 0):=by
  intro o ho;show(maxH _ _ _).getD o 0=_;rw[maxH_getD _ _ _ _ (by rw[hk.len];exact ho),hmn]
 refine⟨hlog,λo ho=>?_,by show(maxH _ _ _).length=_;rw[maxH_len,hk.len],λn hn=>?_,λo ho p hp hpo hle=>?_,λo ho=>?_⟩
 ·rw[hrep]
  by_cases e:o=i
  ·subst e;rw[if_pos rfl];exact List.prefix_refl _
  ·rw[if_neg e];exact hpre o ho
 ·have:=isHeard_iff.1 (valid_iff.1 hv').2.2.2.1
  exact(this.2 n hn).1
 ·rw[hrep]at hp
  by_cases e:o=i
  ·subst e;rw[if_pos rfl]at hp;exact hp
  ·rw[if_neg e]at hp
   rw[hHj o ho,if_neg e]at hle;refine(mem_merge ..).2 ?_;rcases Int.le_total ((s.rep i).heard.getD o 0) (m.heard.getD o 0)with hc|hc
   ·exact .inr (hk'.all o ho p hp hpo (by omega))
   ·exact .inl (hk.all o ho p hp hpo (by omega))
 ·rw[hrep,hHj o ho]
  by_cases e:o=i
  ·subst e;rw[if_pos rfl,if_pos rfl,hHj o ho,if_pos rfl];exact Int.le_refl _
  ·rw[if_neg e,if_neg e]
   have h1:=hk.le o ho;have h2:=hk'.le o ho;omega
def sumTo :Nat->(Nat->Nat)->Nat
 | 0,_=>0
 | n+1,f=>sumTo n f+f n
theorem sumTo_le {n:Nat}{f g:Nat->Nat}(h:∀i<n,f i<=g i):sumTo n f<=sumTo n g:=by
 induction n with
 | zero=>exact Nat.le_refl _
 | succ n ih=>have:=ih λi hi=>h i (by omega);have:=h n (by omega);simp only[sumTo];omega
theorem sumTo_eq {n:Nat}{f g:Nat->Nat}(h:∀i<n,f i=g i):sumTo n f=sumTo n g:=by
 induction n with
 | zero=>rfl
 | succ n ih=>have:=ih λi hi=>h i (by omega);have:=h n (by omega);simp only[sumTo];omega
theorem sumTo_add {n:Nat}{f g:Nat->Nat}:sumTo n (λi=>f i+g i)=sumTo n f+sumTo n g:=by
 induction n with
 | zero=>rfl
 | succ n ih=>simp only[sumTo];omega
theorem sumTo_one {n i:Nat}(hi:i<n):sumTo n (λj=>if j=i then 1 else 0)=1:=by
 induction n with
 | zero=>omega
 | succ n ih =>
   simp only[sumTo]
   by_cases e:n=i
   ·subst e
    have:sumTo n (λj=>if j=n then 1 else 0)=sumTo n (λ_=>0):=sumTo_eq λj hj=>by rw[if_neg (by omega)]
    have h0:∀m,sumTo m (λ_=>0)=0:=λm=>by induction m with|zero=>rfl|succ m ih=>simpa[sumTo]using ih
    rw[this,h0];simp
   ·rw[ih (by omega),if_neg e]
theorem length_eq_sum {k:Nat}:∀{l:List Post},(∀p∈l,∃o:Nat,o<k/\p.origin=o)->l.length=sumTo k λo=>(own l o).length
 | [],_=>by
   have h0:∀m,sumTo m (λ_=>0)=0:=λm=>by induction m with|zero=>rfl|succ m ih=>simpa[sumTo]using ih
   simp[own_nil,h0]
 | p::l,h=>by
   obtain⟨o,ho,hpo⟩:=h p (by simp);have ih:=length_eq_sum (l:=l) λq hq=>h q (by simp[hq])
   have:(sumTo k λo=>(own (p::l) o).length)=sumTo k λj=>(own l j).length+if j=o then 1 else 0:=by
    refine sumTo_eq λj _=>?_
    rw[own_cons,hpo]
    by_cases e:j=o
    ·subst e;simp
    ·rw[if_neg (by omega),if_neg e];simp
   rw[this,sumTo_add,sumTo_one ho,<- ih];simp
def total (k:Nat)(s:Sys):Nat:=sumTo k λo=>(own (s.rep o).posts o).length
structure Bounded (k B:Nat) (s:Sys):Prop where
 clock:∀i:Nat,i<k->(s.rep i).clock<=B
 msgs:∀m∈s.msgs,(∀p∈m.posts,p.epoch<=B)/\∀n∈m.heard,n<=B
 total:total k s=B
theorem length_le_total {k:Nat}{s:Sys}{l:List Post}(hl:isLog l k=true)(hp:∀o:Nat,o<k->own l o <+: own (s.rep o).posts o):l.length<=total k s:=by
 rw[length_eq_sum λp hp=>own_range hl hp];exact sumTo_le λo ho=>(hp o ho).length_le
theorem chain_snoc :∀{l:List Post} {n e:Int} {p:Post},chain n e l=true->p.number=n+l.length->e<p.epoch->(∀q∈l,q.epoch<p.epoch)->chain n e (l++[p])=true
 | [],n,e,p,_,h1,h2,_=>by simp[chain];exact⟨by simpa using h1,h2⟩
 | x::l,n,e,p,hc,h1,h2,h3=>by
   simp only[chain,Bool.and_eq_true,decide_eq_true_eq,List.cons_append]at hc ⊢;refine⟨hc.1,hc.2.1,chain_snoc hc.2.2 ?_ (h3 x (by simp)) λq hq=>h3 q (by simp[hq])⟩;rw[h1];simp;omega
theorem written_valid {k B:Nat}{s:Sys}{i:Nat}{t:ByteArray}(h:Inv k s)(hb:Bounded k B s)(hi:i<k)(hB:B+1<=200)(ht:t.size<=20000) :
 valid (written (s.rep i) t)=true:=by
 obtain⟨hv,hme,hmany⟩:=h.rep i hi;obtain⟨a,b,c,d,e,f⟩:=valid_iff.1 hv;have hcb:=hb.clock i hi;have hk:=h.knows i hi;have hlen:=length_le_total hk.log hk.pre;rw[hb.total]at hlen;refine valid_iff.2 ⟨a,b,by simp only[written];omega,?_,?_,?_⟩
 ·obtain⟨hl,hn⟩:=isHeard_iff.1 d
  exact isHeard_iff.2 ⟨hl,λn hm=>by have:=hn n hm;simp only[written];omega⟩
 ·obtain⟨e1,e2,e3,e4⟩:=isLog_iff.1 e
  refine isLog_iff.2 ⟨by simp[written];omega,λp hp=>?_,?_,λo=>?_⟩
  ·simp only[written,List.mem_append,List.mem_singleton]at hp
   rcases hp with hp|rfl
   ·exact e2 p hp
   ·exact formed_iff.2 ⟨by simp;omega,b,ht⟩
  ·simp only[written]
   refine List.pairwise_append.2 ⟨e3,List.pairwise_singleton ..,λx hx y hy=>?_⟩;obtain rfl:y=_:=by simpa using hy
   have:=f x hx;rw[before_iff];simp;omega
  ·simp only[written,own_append,own_cons,own_nil]
   by_cases ho:(s.rep i).me=o
   ·rw[if_pos ho]
    refine chain_snoc (e4 o) (by subst ho;simp[count]) (by simp;omega) λq hq=>?_
    have:=f q (mem_own.1 hq).1;simp;omega
   ·rw[if_neg ho,List.append_nil];exact e4 o
 ·intro p hp
  simp only[written,List.mem_append,List.mem_singleton]at hp ⊢;rcases hp with hp|rfl
  ·have:=f p hp;omega
  ·simp
theorem joined_valid {k B:Nat}{s:Sys}{i:Nat}{m:Msg}(h:Inv k s)(hb:Bounded k B s)(hi:i<k)(hB:B<=200)(hm:m∈s.msgs) :
 mayHear (s.rep i) m=true/\valid (joined (s.rep i) m)=true/\(joined (s.rep i) m).clock<=B:=by
 obtain⟨hv,hme,hmany⟩:=h.rep i hi;obtain⟨a,b,c,d,e,f⟩:=valid_iff.1 hv;have hcb:=hb.clock i hi;have hk:=h.knows i hi;obtain⟨hk',hs0,hs1⟩:=h.msgs m hm;obtain⟨hg,hpre,hii⟩:=joined_grows h hi hk';obtain⟨hb1,hb2⟩:=hb.msgs m hm;have hmn:(s.rep i).me.toNat=i:=by omega
 have hcl:(joined (s.rep i) m).clock<=B:=maxN_bound _ _ _ (maxE_bound _ _ _ hcb hb1) hb2;have hO:=λo ho=>own_merge (G:=λo=>own (s.rep o).posts o) hk.log hk'.log h.chains hk.pre hk'.pre o ho
 have c1:=maxE_le m.posts (s.rep i).clock;have c2:=maxN_le m.heard (maxE (s.rep i).clock m.posts);have hcd:(joined (s.rep i) m).clock=maxN (maxE (s.rep i).clock m.posts) m.heard:=rfl;have hmem:∀p∈(joined (s.rep i) m).posts,p∈(s.rep i).posts∨p∈m.posts:=λp hp=>(mem_merge ..).1 hp
 have hF:∀p∈(joined (s.rep i) m).posts,formed k p=true:=λp hp=>by
  rcases hmem p hp with hp|hp
  ·exact(isLog_iff.1 hk.log).2.1 p hp
  ·exact(isLog_iff.1 hk'.log).2.1 p hp
 refine⟨mayHear_iff.2 ⟨hv,by omega,by rw[hmany];exact hk'.log,isHeard_iff.2 ⟨by rw[hmany];have:=hk'.len;omega,λn hn=>⟨hk'.nonneg n hn,by have:=hb2 n hn;omega⟩⟩,?_,?_⟩,
  valid_iff.2 ⟨a,b,by rw[hcd];rw[hcd]at hcl;omega,isHeard_iff.2 ⟨?_,λn hn=>?_⟩,isLog_iff.2 ⟨?_,?_,?_,λo=>?_⟩,λp hp=>?_⟩,hcl⟩
 ·rw[hme];have:=(hk'.pre i hi).length_le;unfold count;omega
 ·rw[hmn];exact hk'.le i hi
 ·show((maxH _ _ _).length:Int)=(s.rep i).many
  rw[maxH_len,hmany,hk.len]
 ·obtain⟨j,hj,e⟩:=maxH_mem hn
  rw[maxH_getD _ _ _ _ hj]at e;have g1:0<=(s.rep i).heard.getD j 0/\(s.rep i).heard.getD j 0<=(s.rep i).clock:=by
   rw[List.getD_eq_getElem?_getD,List.getElem?_eq_getElem hj];exact(isHeard_iff.1 d).2 _ (List.getElem_mem hj)
  have g2:m.heard.getD j 0<=maxN (maxE (s.rep i).clock m.posts) m.heard:=by
   have hj':j<m.heard.length:=by rw[hk'.len,<- hk.len];exact hj
   rw[List.getD_eq_getElem?_getD,List.getElem?_eq_getElem hj'];exact c2.2 _ (List.getElem_mem hj')
  rw[hcd]
  split at e<;>omega
 ·have:(joined (s.rep i) m).posts.length<=total k s:=by
   rw[length_eq_sum (k:=k) λp hp=>?_]
   ·exact sumTo_le λo ho=>(hpre o ho).length_le
   ·have:=(formed_iff.1 (hF p hp)).2.1
    exact⟨p.origin.toNat,by omega,by omega⟩
  rw[hb.total]at this;omega
 ·rw[show(joined (s.rep i) m).many=(k:Int)from hmany];exact hF
 ·exact merge_sorted _ _ (isLog_iff.1 hk.log).2.2.1 (isLog_iff.1 hk'.log).2.2.1 (agree_of_pre hk.log h.chains hk.pre hk'.pre)
 ·by_cases ho:0<=o/\o<k
  ·have:o=(o.toNat:Int):=by omega
   rw[this];show chain 0 0 (own (merge _ _) _)=true;rw[hO o.toNat (by omega)];split
   ·exact(isLog_iff.1 hk'.log).2.2.2 _
   ·exact(isLog_iff.1 hk.log).2.2.2 _
  ·have:own (joined (s.rep i) m).posts o=[]:=by
    refine List.eq_nil_iff_forall_not_mem.2 λp hp=>?_
    obtain⟨hp,hpo⟩:=mem_own.1 hp;have:=(formed_iff.1 (hF p hp)).2.1;omega
   rw[this];rfl
 ·rw[hcd]
  rcases hmem p hp with hp|hp
  ·have:=f p hp;omega
  ·have:=c1.2 p hp;omega
def Motion.ok (k sent:Nat):Motion->Prop
 | .write i t=>i<k/\t.size<=20000
 | .send i=>i<k
 | .deliver i a=>i<k/\a<sent
def Motion.writes :Motion->Nat
 | .write ..=>1
 | _=>0
def Motion.sends :Motion->Nat
 | .send ..=>1
 | _=>0
theorem total_set {k:Nat}{s:Sys}{i:Nat}{r:Rep}(hl:i<s.reps.length)(h:own r.posts i=own (s.rep i).posts i):total k (s.set i r)=total k s:=by
 refine sumTo_eq λo _=>?_
 rw[Sys.rep_set hl]
 by_cases e:o=i
 ·subst e;rw[if_pos rfl,h]
 ·rw[if_neg e]
structure Acted (k B:Nat) (s:Sys) (m:Motion):Prop where
 inv:Inv k (act s m)
 mono:Mono k s (act s m)
 bounded:Bounded k (B+m.writes) (act s m)
 sent:(act s m).msgs.length=s.msgs.length+m.sends
 keeps:∀a:Nat,a<s.msgs.length->(act s m).msgs.getD a default=s.msgs.getD a default
theorem act_step {k B:Nat}{s:Sys}{m:Motion}(h:Inv k s)(hb:Bounded k B s)(hm:m.ok k s.msgs.length)(hB:B+1<=200):Acted k B s m:=by
 cases m with
 | write i t =>
   obtain⟨hi,ht⟩:=hm;have hl:i<s.reps.length:=by rw[h.len];exact hi
   have hv:=written_valid h hb hi hB ht;have hw:write (s.rep i) t=some (written (s.rep i) t):=by unfold write;rw[if_pos (h.rep i hi).1,if_pos hv]
   have hact:act s (.write i t)=s.set i (written (s.rep i) t):=by simp[act,hw]
   obtain⟨h1,h2⟩:=write_step h hi hw;refine⟨by rw[hact];exact h1,by rw[hact];exact h2,?_,by rw[hact];rfl,by rw[hact];exact λ_ _=>rfl⟩;rw[hact];refine⟨λj hj=>?_,λm hm=>?_,?_⟩
   ·rw[Sys.rep_set hl]
    have:=hb.clock j hj
    by_cases e:j=i
    ·subst e;simp[written,Motion.writes];exact this
    ·simp only[e,if_false,Motion.writes];omega
   ·obtain⟨p1,p2⟩:=hb.msgs m hm
    exact⟨λp hp=>by have:=p1 p hp;simp only[Motion.writes];omega,λn hn=>by have:=p2 n hn;simp only[Motion.writes];omega⟩
   ·have:total k (s.set i (written (s.rep i) t))=sumTo k λo=>(own (s.rep o).posts o).length+if o=i then 1 else 0:=by
     refine sumTo_eq λo _=>?_
     rw[Sys.rep_set hl]
     by_cases e:o=i
     ·subst e;simp[written,own_append,own_cons,own_nil,(h.rep o hi).2.1]
     ·simp[e]
    rw[this,sumTo_add,sumTo_one hi,<- hb.total];rfl
 | send i =>
   have hi:i<k:=hm;have hl:i<s.reps.length:=by rw[h.len];exact hi
   have hw:tell (s.rep i)=some (told (s.rep i),message (s.rep i)):=by unfold tell;rw[if_pos (h.rep i hi).1]
   have hact:act s (.send i)={ s.set i (told (s.rep i))with msgs:=s.msgs++[message (s.rep i)] }:=by simp[act,hw]
   obtain⟨h1,h2⟩:=tell_step h hi;refine⟨by rw[hact];exact h1,by rw[hact];exact h2,?_,by rw[hact];simp[Motion.sends],?_⟩
   ·rw[hact]
    refine⟨λj hj=>?_,λm hm=>?_,?_⟩
    ·show((s.set i (told (s.rep i))).rep j).clock<=_
     rw[Sys.rep_set hl];have:=hb.clock j hj
     by_cases e:j=i
     ·subst e;simpa[told,Motion.writes]using this
     ·simpa[e,Motion.writes]using this
    ·rcases List.mem_append.1 hm with hm|hm
     ·exact hb.msgs m hm
     ·obtain rfl:m=message (s.rep i):=by simpa using hm
      have hc:=hb.clock i hi;obtain⟨_,_,_,d,_,f⟩:=valid_iff.1 (told_valid (h.rep i hi).1);refine⟨λp hp=>?_,λn hn=>?_⟩
      ·have:=f p hp;simp only[told,Motion.writes]at this ⊢;omega
      ·have:=((isHeard_iff.1 d).2 n hn).2;simp only[told,Motion.writes]at this ⊢;omega
    ·show total k (s.set i (told (s.rep i)))=_
     rw[total_set (r:=told (s.rep i)) hl rfl,hb.total];rfl
   ·intro a ha
    rw[hact];simp[List.getD_eq_getElem?_getD,List.getElem?_append_left ha]
 | deliver i a =>
   obtain⟨hi,ha⟩:=hm;have hl:i<s.reps.length:=by rw[h.len];exact hi
   by_cases hs:(s.msgs.getD a default).src=i
   ·have hact:act s (.deliver i a)=s:=by simp only[act];rw[if_pos hs]
    exact⟨by rw[hact];exact h,by rw[hact];exact .refl k s,by rw[hact];exact hb,by rw[hact];rfl,by rw[hact];exact λ_ _=>rfl⟩
   ·have hmem:s.msgs.getD a default∈s.msgs:=by
     rw[List.getD_eq_getElem?_getD,List.getElem?_eq_getElem ha];exact List.getElem_mem ha
    obtain⟨h1,h2,h3⟩:=joined_valid h hb hi (by omega) hmem;have hw:hear (s.rep i) (s.msgs.getD a default)=some (joined (s.rep i) (s.msgs.getD a default)):=by unfold hear;rw[if_pos h1,if_pos h2]
    have hact:act s (.deliver i a)=s.set i (joined (s.rep i) (s.msgs.getD a default)):=by simp only[act,hw];rw[if_neg hs]
    obtain⟨g1,g2⟩:=hear_step h hi hmem h2;refine⟨by rw[hact];exact g1,by rw[hact];exact g2,?_,by rw[hact];rfl,by rw[hact];exact λ_ _=>rfl⟩;rw[hact];refine⟨λj hj=>?_,hb.msgs,?_⟩
    ·rw[Sys.rep_set hl]
     by_cases e:j=i
     ·rw[if_pos e];exact h3
     ·rw[if_neg e];exact hb.clock j hj
    ·rw[total_set hl (joined_grows h hi (h.msgs _ hmem).1).2.2,hb.total];rfl
def okAll (k:Nat):Nat->List Motion->Prop
 | _,[]=>True
 | n,m::l=>m.ok k n/\okAll k (n+m.sends) l
def writesOf (l:List Motion):Nat:=(l.map Motion.writes).foldr (·+·) 0
def sendsOf (l:List Motion):Nat:=(l.map Motion.sends).foldr (·+·) 0
theorem writesOf_cons (m:Motion)(l:List Motion):writesOf (m::l)=m.writes+writesOf l:=rfl
theorem sendsOf_cons (m:Motion)(l:List Motion):sendsOf (m::l)=m.sends+sendsOf l:=rfl
structure Ran (k B:Nat) (s:Sys) (l:List Motion) (s':Sys):Prop where
 inv:Inv k s'
 mono:Mono k s s'
 bounded:Bounded k (B+writesOf l) s'
 sent:s'.msgs.length=s.msgs.length+sendsOf l
 keeps:∀a:Nat,a<s.msgs.length->s'.msgs.getD a default=s.msgs.getD a default
theorem ran {k:Nat}:∀(l:List Motion) {B:Nat} {s:Sys},Inv k s->Bounded k B s->okAll k s.msgs.length l->B+writesOf l+1<=200->Ran k B s l (l.foldl act s)
 | [],B,s,h,hb,_,_=>⟨h,.refl k s,hb,rfl,λ_ _=>rfl⟩
 | m::l,B,s,h,hb,ho,hB=>by
   rw[writesOf_cons]at hB;have a:=act_step h hb ho.1 (by omega);have r:=ran l a.inv a.bounded (by rw[a.sent];exact ho.2) (by omega);refine⟨r.inv,a.mono.trans r.mono,?_,?_,λx hx=>?_⟩
   ·have:=r.bounded;rw[writesOf_cons,<- Nat.add_assoc];exact this
   ·have h1:=r.sent;have h2:=a.sent;rw[sendsOf_cons,List.foldl_cons];omega
   ·have h2:=a.sent
    rw[List.foldl_cons,r.keeps x (by omega),a.keeps x hx]
theorem okAll_take {k:Nat}:∀{l:List Motion} {n:Nat} (j:Nat),okAll k n l->okAll k n (l.take j)
 | [],_,_,_=>by simp[okAll]
 | _::_,_,0,_=>trivial
 | _::_,_,j+1,h=>⟨h.1,okAll_take j h.2⟩
theorem okAll_append {k:Nat}:∀{a b:List Motion} {n:Nat},okAll k n (a++b)↔okAll k n a/\okAll k (n+sendsOf a) b
 | [],b,n=>by simp[okAll,sendsOf]
 | m::a,b,n=>by
   simp only[List.cons_append,okAll,okAll_append (a:=a),sendsOf_cons,and_assoc,Nat.add_assoc]
theorem writesOf_append (a b:List Motion):writesOf (a++b)=writesOf a+writesOf b:=by
 induction a with
 | nil=>simp[writesOf]
 | cons m a ih=>rw[List.cons_append,writesOf_cons,writesOf_cons,ih];omega
theorem sendsOf_append (a b:List Motion):sendsOf (a++b)=sendsOf a+sendsOf b:=by
 induction a with
 | nil=>simp[sendsOf]
 | cons m a ih=>rw[List.cons_append,sendsOf_cons,sendsOf_cons,ih];omega
theorem writesOf_le (l:List Motion):writesOf l<=l.length:=by
 induction l with
 | nil=>simp[writesOf]
 | cons m l ih =>
   rw[writesOf_cons];have:m.writes<=1:=by cases m<;>simp[Motion.writes]
   simp;omega
theorem writesOf_take (l:List Motion)(j:Nat):writesOf (l.take j)<=writesOf l:=by
 have:=writesOf_append (l.take j) (l.drop j);rw[List.take_append_drop]at this;omega
theorem newRep_some {k i:Nat}(hk:1<=k)(hk5:k<=5)(hi:i<k):newRep (i:Int) (k:Int)=some ⟨i,k,0,[],List.replicate k 0⟩:=by
 have e:(min (max (k:Int) 0) 6).toNat=k:=by omega
 unfold newRep;simp only[e];rw[if_pos];refine valid_iff.2 ⟨by simp;omega,by simp;omega,by simp,isHeard_iff.2 ⟨by simp,λn hn=>?_⟩,rfl,λp hp=>by simp at hp⟩;have:=(List.mem_replicate.1 hn).2;simp;omega
theorem start_rep {k i:Nat}(hk:1<=k)(hk5:k<=5)(hi:i<k):(start k).rep i=⟨i,k,0,[],List.replicate k 0⟩:=by
 unfold start Sys.rep;simp[List.getD_eq_getElem?_getD,List.getElem?_range hi,newRep_some hk hk5 hi]
theorem start_inv {k:Nat}(hk:1<=k)(hk5:k<=5):Inv k (start k)/\Bounded k 0 (start k):=by
 refine⟨⟨by simp[start],λi hi=>?_,λi hi=>?_,λm hm=>by simp[start]at hm⟩,⟨λi hi=>?_,λm hm=>by simp[start]at hm,?_⟩⟩
 ·rw[start_rep hk hk5 hi]
  refine⟨valid_iff.2 ⟨by simp;omega,by simp;omega,by simp,isHeard_iff.2 ⟨by simp,λn hn=>?_⟩,rfl,λp hp=>by simp at hp⟩,rfl,rfl⟩;have:=(List.mem_replicate.1 hn).2;simp;omega
 ·rw[start_rep hk hk5 hi]
  refine⟨rfl,λo ho=>by simp[own_nil],by simp,λn hn=>by have:=(List.mem_replicate.1 hn).2;omega,λo ho p hp=>?_,λo ho=>?_⟩
  ·rw[start_rep hk hk5 ho]at hp;simp at hp
  ·rw[start_rep hk hk5 ho];exact Int.le_refl _
 ·rw[start_rep hk hk5 hi];simp
 ·have h0:∀m,sumTo m (λ_=>0)=0:=λm=>by induction m with|zero=>rfl|succ m ih=>simpa[sumTo]using ih
  have:total k (start k)=sumTo k λ_=>0:=sumTo_eq λo ho=>by rw[start_rep hk hk5 ho];rfl
  rw[this,h0]
theorem takeWhile_eq_filter :∀{l:List Post} (e:Int),Sorted l->(l.takeWhile λp=>decide (p.epoch<=e))=l.filter λp=>decide (p.epoch<=e)
 | [],_,_=>rfl
 | x::l,e,h=>by
   rw[Sorted,List.pairwise_cons]at h
   by_cases hx:x.epoch<=e
   ·simp[hx,takeWhile_eq_filter e h.2]
   ·simp only[List.takeWhile_cons,hx,decide_false,List.filter_cons]
    refine(List.filter_eq_nil_iff.2 λy hy=>?_).symm;have:=before_iff.1 (h.1 y hy);simp;omega
def low (l:List Post)(e:Int):List Post:=l.takeWhile λp=>decide (p.epoch<=e)
def blockOf (k a i:Nat):List Motion:=.send i::(List.range k).map λj=>.deliver j a
structure Got (i:Nat) (P:List Post) (c:Int) (r:Rep):Prop where
 posts:∀p∈P,p∈r.posts
 heard:c<=r.heard.getD i 0
theorem Got.grows {i o:Nat}{P:List Post}{c:Int}{r r':Rep}(h:Got i P c r)(hg:Grows o r r'):Got i P c r' :=
 ⟨λp hp=>hg.sub p (h.posts p hp),Int.le_trans h.heard (hg.hears i)⟩
theorem deliver_got {k B:Nat}{s:Sys}{j a:Nat}(h:Inv k s)(hb:Bounded k B s)(hB:B+1<=200)(hj:j<k)(ha:a<s.msgs.length)(i:Nat)(hik:i<k)
 (hs:(s.msgs.getD a default).src=i) (P:List Post) (c:Int) (hP:∀p∈P,p∈(s.msgs.getD a default).posts) (hc:c<=(s.msgs.getD a default).heard.getD i 0)
 (hown:Got i P c (s.rep i)):Got i P c ((act s (.deliver j a)).rep j):=by
 have hl:j<s.reps.length:=by rw[h.len];exact hj
 by_cases hs':(s.msgs.getD a default).src=j
 ·have hact:act s (.deliver j a)=s:=by simp only[act];rw[if_pos hs']
  have:j=i:=by omega
  rw[hact,this];exact hown
 ·have hmem:s.msgs.getD a default∈s.msgs:=by
   rw[List.getD_eq_getElem?_getD,List.getElem?_eq_getElem ha];exact List.getElem_mem ha
  obtain⟨h1,h2,_⟩:=joined_valid h hb hj (by omega) hmem;have hw:hear (s.rep j) (s.msgs.getD a default)=some (joined (s.rep j) (s.msgs.getD a default)):=by unfold hear;rw[if_pos h1,if_pos h2]
  have hact:act s (.deliver j a)=s.set j (joined (s.rep j) (s.msgs.getD a default)):=by simp only[act,hw];rw[if_neg hs']
  rw[hact,Sys.rep_set hl,if_pos rfl];refine⟨λp hp=>(mem_merge ..).2 (.inr (hP p hp)),?_⟩;show _<=(maxH _ _ _).getD i 0;rw[maxH_getD _ _ _ _ (by rw[(h.knows j hj).len];exact hik)];have:(s.rep j).me.toNat=j:=by have:=(h.rep j hj).2.1;omega
  rw[this,if_neg (by omega)];omega
theorem delivers_got {k B:Nat}{a i:Nat}(hik:i<k)(P:List Post)(c:Int)(hB:B+1<=200):∀(js:List Nat) {s:Sys},Inv k s->Bounded k B s->(∀j∈js,j<k)->a<s.msgs.length ->
 (s.msgs.getD a default).src=i->(∀p∈P,p∈(s.msgs.getD a default).posts)->c<=(s.msgs.getD a default).heard.getD i 0->Got i P c (s.rep i) ->
 ∀j∈js,Got i P c (((js.map λj=>Motion.deliver j a).foldl act s).rep j)
 | [],_,_,_,_,_,_,_,_,_=>λj hj=>by simp at hj
 | x::js,s,h,hb,hjs,ha,hs,hP,hc,hown=>by
   have hx:x<k:=hjs x (by simp);have st:=act_step (m:=.deliver x a) h hb ⟨hx,ha⟩ hB;have hb':Bounded k B (act s (.deliver x a)):=st.bounded;have hlen:(act s (.deliver x a)).msgs.length=s.msgs.length:=st.sent;have hkp:=st.keeps a ha;have hgx:=deliver_got h hb hB hx ha i hik hs P c hP hc hown;have ih:=delivers_got hik P c hB js st.inv hb' (λj hj=>hjs j (by simp[hj])) (by rw[hlen];exact ha) (by rw[hkp];exact hs) (by rw[hkp];exact hP) (by rw[hkp];exact hc) (hown.grows (st.mono i hik));have hr:=ran (k:=k) (js.map λj=>Motion.deliver j a) st.inv hb' (by
    have:∀(l:List Nat) (n:Nat),(∀j∈l,j<k)->a<n->okAll k n (l.map λj=>Motion.deliver j a):=by
     intro l
     induction l with
     | nil=>intros;trivial
     | cons y l ih=>intro n h1 h2;exact⟨⟨h1 y (by simp),h2⟩,ih _ (λj hj=>h1 j (by simp[hj])) h2⟩
    exact this js _ (λj hj=>hjs j (by simp[hj])) (by rw[hlen];exact ha)) (by
    have:writesOf (js.map λj=>Motion.deliver j a)=0:=by
     clear ih hjs
     induction js with
     | nil=>rfl
     | cons y l ih=>rw[List.map_cons,writesOf_cons,ih];rfl
    omega)
   intro j hj;rw[List.map_cons,List.foldl_cons];rcases List.mem_cons.1 hj with e|hj
   ·subst e;exact hgx.grows (hr.mono j hx)
   ·exact ih j hj
theorem block_ok {k i a n:Nat}(hi:i<k)(ha:a<=n):okAll k n (blockOf k a i):=by
 refine⟨hi,?_⟩;have:∀(l:List Nat) (n:Nat),(∀j∈l,j<k)->a<n->okAll k n (l.map λj=>Motion.deliver j a):=by
  intro l
  induction l with
  | nil=>intros;trivial
  | cons y l ih=>intro n h1 h2;exact⟨⟨h1 y (by simp),h2⟩,ih _ (λj hj=>h1 j (by simp[hj])) h2⟩
 exact this _ _ (λj hj=>List.mem_range.1 hj) (by simp[Motion.sends];omega)
theorem block_writes (k a i:Nat):writesOf (blockOf k a i)=0:=by
 have:∀l:List Nat,writesOf (l.map λj=>Motion.deliver j a)=0:=by
  intro l
  induction l with
  | nil=>rfl
  | cons y l ih=>rw[List.map_cons,writesOf_cons,ih];rfl
 show writesOf (_::_)=0;rw[writesOf_cons,this];rfl
theorem block_sends (k a i:Nat):sendsOf (blockOf k a i)=1:=by
 have:∀l:List Nat,sendsOf (l.map λj=>Motion.deliver j a)=0:=by
  intro l
  induction l with
  | nil=>rfl
  | cons y l ih=>rw[List.map_cons,sendsOf_cons,ih];rfl
 show sendsOf (_::_)=1;rw[sendsOf_cons,this];rfl
theorem block_got {k B:Nat}{s:Sys}{i:Nat}(h:Inv k s)(hb:Bounded k B s)(hB:B+1<=200)(hi:i<k)(j:Nat)(hj:j<k) :
 Got i (s.rep i).posts (s.rep i).clock (((blockOf k s.msgs.length i).foldl act s).rep j):=by
 have hl:i<s.reps.length:=by rw[h.len];exact hi
 have st:=act_step (m:=.send i) h hb hi hB;have hb':Bounded k B (act s (.send i)):=st.bounded;have hlen:(act s (.send i)).msgs.length=s.msgs.length+1:=st.sent;have hw:tell (s.rep i)=some (told (s.rep i),message (s.rep i)):=by unfold tell;rw[if_pos (h.rep i hi).1]
 have hact:act s (.send i)={ s.set i (told (s.rep i))with msgs:=s.msgs++[message (s.rep i)] }:=by simp[act,hw]
 have hmsg:(act s (.send i)).msgs.getD s.msgs.length default=message (s.rep i):=by rw[hact];simp[List.getD_eq_getElem?_getD]
 have hme:=(h.rep i hi).2.1;have hmn:(s.rep i).me.toNat=i:=by omega
 have hhi:(told (s.rep i)).heard.getD i 0=(s.rep i).clock:=by
  simp only[told,hmn];rw[getD_set _ _ _ _ (by rw[(h.knows i hi).len];exact hi),if_pos rfl]
 have hrep:(act s (.send i)).rep i=told (s.rep i):=by
  rw[hact];show(s.set i (told (s.rep i))).rep i=_
  rw[Sys.rep_set hl,if_pos rfl]
 show Got i _ _ ((List.foldl act (act s (.send i)) _).rep j);exact delivers_got hi (s.rep i).posts (s.rep i).clock hB (List.range k) st.inv hb' (λj hj=>List.mem_range.1 hj) (by omega) (by rw[hmsg];exact hme) (by rw[hmsg];exact λp hp=>hp)
  (by rw[hmsg];show _<=(told (s.rep i)).heard.getD i 0;omega) (by rw[hrep];exact⟨λp hp=>hp,by omega⟩) j (List.mem_range.2 hj)
structure AllHeard (k:Nat) (s s':Sys):Prop where
 got:∀i:Nat,i<k->∀j:Nat,j<k->Got i (own (s.rep i).posts i) (s.rep i).clock (s'.rep j)
theorem blocks {k B:Nat}{s:Sys}(h:Inv k s)(hb:Bounded k B s)(hB:B+1<=200):∀n,n<=k ->
 okAll k s.msgs.length ((List.range n).flatMap λi=>blockOf k (s.msgs.length+i) i)/\writesOf ((List.range n).flatMap λi=>blockOf k (s.msgs.length+i) i)=0 /\
 sendsOf ((List.range n).flatMap λi=>blockOf k (s.msgs.length+i) i)=n /\
 ∀i:Nat,i<n->∀j:Nat,j<k->Got i (s.rep i).posts (s.rep i).clock ((((List.range n).flatMap λi=>blockOf k (s.msgs.length+i) i).foldl act s).rep j)
 | 0,_=>⟨trivial,rfl,rfl,λi hi=>by omega⟩
 | n+1,hn=>by
   obtain⟨h1,h2,h3,h4⟩:=blocks h hb hB n (by omega);have r:=ran _ h hb h1 (by omega);have e:(List.range (n+1)).flatMap (λi=>blockOf k (s.msgs.length+i) i)=(List.range n).flatMap (λi=>blockOf k (s.msgs.length+i) i)++blockOf k (s.msgs.length+n) n:=by
    rw[List.range_succ,List.flatMap_append];simp
   rw[e];have hb':=r.bounded;rw[h2]at hb';have hs:=r.sent;rw[h3]at hs;have r2:=ran (blockOf k (s.msgs.length+n) n) r.inv hb' (block_ok (by omega) (by omega)) (by rw[block_writes];omega);refine⟨okAll_append.2 ⟨h1,block_ok (by omega) (by omega)⟩,by rw[writesOf_append,h2,block_writes],by rw[sendsOf_append,h3,block_sends],λi hi j hj=>?_⟩;rw[List.foldl_append];rcases Nat.lt_or_ge i n with hlt|hge
   ·exact(h4 i hlt j hj).grows (r2.mono j hj)
   ·have:i=n:=by omega
    subst this;have g:=block_got r.inv hb' (by omega) (show i<k by omega) j hj;rw[hs]at g;exact⟨λp hp=>g.posts p ((r.mono i (by omega)).sub p hp),Int.le_trans (r.mono i (by omega)).clock g.heard⟩
def pick (c:Int)(n:Nat):Nat:=((if c<0 then -(c+1)else c)%(n:Int)).toNat
theorem pick_lt (c:Int){n:Nat}(h:0<n):pick c n<n:=by
 unfold pick;have h1:(if c<0 then -(c+1)else c)%(n:Int)<n:=Int.emod_lt_of_pos _ (by omega);have h2:0<=(if c<0 then -(c+1)else c)%(n:Int):=Int.emod_nonneg _ (by omega);omega
def textOf (j:Nat):ByteArray:=if j=0 then ⟨#[]⟩else if j=1 then ⟨#[97]⟩else ⟨#[98,99]⟩
theorem textOf_size (j:Nat):(textOf j).size<=2:=by
 unfold textOf
 split
 ·decide
 ·split<;>decide
def motionOf (many sent:Nat)(x:Int×Int×Int):Option Motion :=
 if pick x.1 3=0 then some (.write (pick x.2.1 many) (textOf (pick x.2.2 3)))
 else if pick x.1 3=1 then some (.send (pick x.2.1 many))
 else if sent=0 then none else some (.deliver (pick x.2.1 many) (pick x.2.2 sent))
def motionsGo (many:Nat):Nat->List (Int×Int×Int)->List Motion
 | _,[]=>[]
 | sent,x::l=>match motionOf many sent x with
   | none=>motionsGo many sent l
   | some m=>m::motionsGo many (sent+m.sends) l
def motions (many:Nat)(x:List (Int×Int×Int)):List Motion:=motionsGo many 0 (x.take 60)
theorem motionOf_ok {many sent:Nat}{x:Int×Int×Int}{m:Motion}(hm:0<many)(h:motionOf many sent x=some m):m.ok many sent:=by
 unfold motionOf at h
 split at h
 ·cases h;exact⟨pick_lt _ hm,by have:=textOf_size (pick x.2.2 3);omega⟩
 ·split at h
  ·cases h;exact pick_lt _ hm
  ·split at h
   ·cases h
   ·cases h;exact⟨pick_lt _ hm,pick_lt _ (by omega)⟩
theorem motionsGo_ok {many:Nat}(hm:0<many):∀(l:List (Int×Int×Int)) (sent:Nat),okAll many sent (motionsGo many sent l)
 | [],_=>trivial
 | x::l,sent=>by
   rw[motionsGo]
   split
   ·exact motionsGo_ok hm l sent
   ·rename_i m h;exact⟨motionOf_ok hm h,motionsGo_ok hm l _⟩
theorem motionsGo_length {many:Nat}:∀(l:List (Int×Int×Int)) (sent:Nat),(motionsGo many sent l).length<=l.length
 | [],_=>Nat.le_refl _
 | x::l,sent=>by
   rw[motionsGo]
   split
   ·have:=motionsGo_length (many:=many) l sent;simp;omega
   ·rename_i m h;have:=motionsGo_length (many:=many) l (sent+m.sends);simp;omega
theorem motions_ok {many:Nat}(hm:0<many)(x:List (Int×Int×Int)):okAll many 0 (motions many x):=motionsGo_ok hm _ _
theorem motions_length (many:Nat)(x:List (Int×Int×Int)):(motions many x).length<=60:=by
 have:=motionsGo_length (many:=many) (x.take 60) 0;simp at this;unfold motions;omega
end Rp
namespace Go.Proofs.YtnehgpeelgjjhaaGreatDoor.Tw
section
open Rp
abbrev pA :Post:=⟨1,0,0,⟨#[97]⟩⟩
abbrev pB :Post:=⟨2,0,1,⟨#[98]⟩⟩
abbrev pC :Post:=⟨1,1,0,⟨#[99]⟩⟩
abbrev rA0 :Rep:=⟨0,2,0,[],[0,0]⟩
abbrev rB0 :Rep:=⟨1,2,0,[],[0,0]⟩
abbrev rA1 :Rep:=⟨0,2,1,[pA],[0,0]⟩
abbrev rA2 :Rep:=⟨0,2,1,[pA],[1,0]⟩
abbrev mM :Msg:=⟨0,[pA],[1,0]⟩
abbrev rA3 :Rep:=⟨0,2,2,[pA,pB],[1,0]⟩
abbrev rB1 :Rep:=⟨1,2,1,[pC],[0,0]⟩
abbrev rB2 :Rep:=⟨1,2,1,[pA,pC],[1,0]⟩
abbrev rB3 :Rep:=⟨1,2,1,[pA,pC],[1,1]⟩
abbrev mN :Msg:=⟨1,[pA,pC],[1,1]⟩
abbrev rC :Rep:=⟨0,2,2,[pA,pC,pB],[1,1]⟩
theorem sn1 :newRep 0 2=some rA0:=by decide +kernel
theorem sn2 :newRep 1 2=some rB0:=by decide +kernel
theorem sn3 :write rA0 ⟨#[97]⟩=some rA1:=by decide +kernel
theorem sn4 :tell rA1=some (rA2,mM):=by decide +kernel
theorem sn5 :write rA2 ⟨#[98]⟩=some rA3:=by decide +kernel
theorem sn6 :write rB0 ⟨#[99]⟩=some rB1:=by decide +kernel
theorem jn1 :joined rB1 mM=rB2:=by
 unfold joined;have:merge [pC] [pA]=[pA,pC]:=by simp[merge,before]
 rw[this];decide +kernel
theorem jn2 :joined rA3 mN=rC:=by
 unfold joined;have:merge [pA,pB] [pA,pC]=[pA,pC,pB]:=by simp[merge,before]
 rw[this];decide +kernel
theorem sn7 :hear rB1 mM=some rB2:=by
 unfold hear;rw[jn1];decide +kernel
theorem sn8 :tell rB2=some (rB3,mN):=by decide +kernel
theorem sn9 :hear rA3 mN=some rC:=by
 unfold hear;rw[jn2];decide +kernel
theorem sn10 :valid rC=true:=by decide +kernel
theorem sn11 :stableN rC=2:=by decide +kernel
theorem sn12 :newRep 2 2=none:=by decide +kernel
theorem sn13 :valid rB3=true:=by decide +kernel
theorem sn14 :rA3≠rC:=by decide +kernel
theorem sn15 :valid ⟨0,0,0,[],[]⟩=false:=by decide +kernel
abbrev moL :List Motion:=[.write 0 ⟨#[97]⟩,.send 0,.deliver 1 0]
theorem sn16 :okAll 2 0 moL:=by
 simp only[okAll,Motion.ok,Motion.sends];decide
theorem sn17 :writesOf moL=1:=by decide +kernel
abbrev rD :Rep:=⟨1,2,1,[pA],[1,0]⟩
theorem st0 :start 2=⟨[rA0,rB0],[]⟩:=by kernel_rfl
theorem st1 :act ⟨[rA0,rB0],[]⟩ (.write 0 ⟨#[97]⟩)=⟨[rA1,rB0],[]⟩:=by kernel_rfl
theorem st2 :act ⟨[rA1,rB0],[]⟩ (.send 0)=⟨[rA2,rB0],[mM]⟩:=by kernel_rfl
theorem jn3 :joined rB0 mM=rD:=by
 unfold joined;have:merge [] [pA]=[pA]:=merge_nil_left _;rw[this];decide +kernel
theorem hr3 :hear rB0 mM=some rD:=by
 unfold hear;rw[jn3];decide +kernel
theorem st3 :act ⟨[rA2,rB0],[mM]⟩ (.deliver 1 0)=⟨[rA2,rD],[mM]⟩:=by
 have h1:(⟨[rA2,rB0],[mM]⟩:Sys).rep 1=rB0:=rfl;have h2:([mM]:List Msg).getD 0 default=mM:=rfl;simp only[act,h1,h2,hr3];rfl
theorem sn18 :(runs 2 moL).reps=[rA2,rD]:=by
 show(act (act (act (start 2) (.write 0 ⟨#[97]⟩)) (.send 0)) (.deliver 1 0)).reps=_;rw[st0,st1,st2,st3]
end
section
open Rp
structure Stabled (k:Nat) (l:List Motion) (f s:Nat):Prop where
 lenL:(runs k l).reps.length=k
 lenE:(runs k (l.take f)).reps.length=k
 lenO:(runs k (l.take s)).reps.length=k
 val:∀i:Nat,i<k->valid ((runs k (l.take f)).rep i)=true
 le:∀i:Nat,i<k->stableN ((runs k (l.take f)).rep i)<=((runs k (l.take f)).rep i).posts.length
 heard:∀i:Nat,i<k->((runs k (l.take f)).rep i).heard.length=k
 late:∀i:Nat,i<k->stableN ((runs k (l.take f)).rep i)<=((runs k l).rep i).posts.length
 has:∀i:Nat,i<k->∀p∈((runs k (l.take f)).rep i).posts,p∈((runs k l).rep i).posts
 same:∀i:Nat,i<k->∀p:Nat,p<stableN ((runs k (l.take f)).rep i)->((runs k l).rep i).posts[p]?=((runs k (l.take f)).rep i).posts[p]?
 allO:∀i j:Nat,i<k->j<k->∀p∈((runs k (l.take s)).rep j).posts,p.epoch<=least ((runs k (l.take f)).rep i).heard->p∈((runs k (l.take f)).rep i).posts.take (stableN ((runs k (l.take f)).rep i))
 allL:∀i j:Nat,i<k->j<k->∀p∈((runs k l).rep j).posts,p.epoch<=least ((runs k (l.take f)).rep i).heard->p∈((runs k (l.take f)).rep i).posts.take (stableN ((runs k (l.take f)).rep i))
end
section
open Rp
structure Agreed (k:Nat) (l once twice:List Motion):Prop where
 ok1:okAll k 0 once
 ok2:okAll k 0 twice
 w1:writesOf once=writesOf l
 w2:writesOf twice=writesOf l
 len1:(runs k once).reps.length=k
 len2:(runs k twice).reps.length=k
 posts1:∀i:Nat,i<k->((runs k once).rep i).posts=((runs k once).rep 0).posts
 posts2:∀i:Nat,i<k->((runs k twice).rep i).posts=((runs k once).rep 0).posts
 stab:∀i:Nat,i<k->stableN ((runs k twice).rep i)=((runs k twice).rep i).posts.length
 val:∀i:Nat,i<k->valid ((runs k twice).rep i)=true
 count:((runs k once).rep 0).posts.length=writesOf l
end
end Go.Proofs.YtnehgpeelgjjhaaGreatDoor.Tw
