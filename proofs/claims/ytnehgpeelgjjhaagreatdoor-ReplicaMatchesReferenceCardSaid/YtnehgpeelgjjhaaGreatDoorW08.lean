/- Contracts of functions of the program, and plain laws, towards the laws of replicas. Joined of the texts: SameR, RunP, Mot. -/
import Derived.Test.YtnehgpeelgjjhaaGreatDoorW07
set_option linter.all false
set_option maxRecDepth 100000
set_option maxHeartbeats 12800000
open Go.Lib (hid)
namespace Go.Proofs.YtnehgpeelgjjhaaGreatDoor.Tw
open Go.Proofs.Tryz
section
open Go.RowKit
theorem rep_eq_iff (p q:Rp.Rep):p=q↔p.me=q.me/\p.many=q.many/\p.clock=q.clock/\p.posts=q.posts/\p.heard=q.heard:=by
 cases p;cases q;simp
theorem same_any (w:World)(r:Rp.Rep)(A:Option Addr)(n c:Nat)(A':Option Addr)(n' c':Nat)(r2:Rp.Rep)(B:Option Addr)(m d:Nat)(B':Option Addr)(m' d':Nat)
 (h:RepR w w.heap.size r A n A' n') (h2:RepR w w.heap.size r2 B m B' m') :
 Calls prog 24 #[repV r A n c A' n' c',repV r2 B m d B' m' d'] w λe w'=>e=.returned (.bool (decide (r=r2)))/\Below w.heap.size w w':=by
 obtain⟨me,many,clock,posts,heard⟩:=r;obtain⟨me2,many2,clock2,posts2,heard2⟩:=r2;obtain⟨W0,hW0⟩:∃W0,W0=(w.alloc (.cells #[.int .i64 me,.int .i64 many,.int .i64 clock,.slice A n c,.slice A' n' c'] 26)).alloc (.cells #[.int .i64 me2,.int .i64 many2,.int .i64 clock2,.slice B m d,.slice B' m' d'] 26):=⟨_,rfl⟩;have hs0:W0.heap.size=w.heap.size+2:=by rw[hW0];simp
 have hbW:Below w.heap.size w W0:=by rw[hW0];exact((Below.refl _ _).alloc (Nat.le_refl _) _).alloc (by simp) _
 have hBW:Blk W0 w.heap.size 26 #[.int .i64 me,.int .i64 many,.int .i64 clock,.slice A n c,.slice A' n' c']:=by rw[hW0];exact(Blk.new _ _ _).alloc _
 have hRW:Blk W0 (w.heap.size+1) 26 #[.int .i64 me2,.int .i64 many2,.int .i64 clock2,.slice B m d,.slice B' m' d']:=by rw[hW0];exact Blk.new2 _ _ _ _
 have HEq:=hid (equalPost W0 A n c posts B m d posts2 ((h.posts.below hbW).more (by omega)) h.len ((h2.posts.below hbW).more (by omega)) h2.len h.few h2.few);have HW0:=hid hW0;have HH:=hid h;have HH2:=hid h2;have HI:=hid (rep_eq_iff ⟨me,many,clock,posts,heard⟩ ⟨me2,many2,clock2,posts2,heard2⟩);clear h h2 hW0;obtain⟨res,hres⟩:∃res,res=decide ((⟨me,many,clock,posts,heard⟩:Rp.Rep)=⟨me2,many2,clock2,posts2,heard2⟩):=⟨_,rfl⟩;rw[<- hres];have HRes:=hid hres;clear hres;unfold repV at *;simp only at HEq ⊢
 go_enter func24,ntmps24
 by_cases e1:me=me2
 ·have z1:decide (me=me2)=true:=by simpa using e1
  have z2:(me==me2)=true:=by simpa using e1
  by_cases e2:many=many2
  ·have z3:decide (many=many2)=true:=by simpa using e2
   have z4:(many==many2)=true:=by simpa using e2
   by_cases e3:clock=clock2
   ·have z5:decide (clock=clock2)=true:=by simpa using e3
    have z6:(clock==clock2)=true:=by simpa using e3
    have HE:=hid (And.intro e1 (And.intro e2 e3));clear e1 e2 e3
    go_wp2_with fail
    rw[<- HW0.out];refine HEq.out.mono ?_;rintro e w1 ⟨rfl,hb1⟩;have hB1:=hBW.below hb1 (by omega);have hR1:=hRW.below hb1 (by omega);obtain⟨b0,b1,b2,b3,b4⟩:=hB1.cells5;obtain⟨r0,r1,r2,r3,r4⟩:=hR1.cells5;have hb2:=hbW.trans (hb1.mono hbW.size);cases e4:decide (posts=posts2)
    ·have HN:=hid (show res=false by
      rw[HRes.out];rw[decide_eq_false_iff_not]at e4 ⊢;rw[HI.out];exact λh=>e4 h.2.2.2.1)
     go_wp2;go_ret;exact⟨ret_bool HN.out.symm,hb2⟩
    ·have HN:=hid (show res=decide (heard=heard2) by
      have e5:posts=posts2:=by simpa using e4
      rw[HRes.out,decide_eq_decide,HI.out];exact⟨λh=>h.2.2.2.2,λh=>⟨HE.out.1,HE.out.2.1,HE.out.2.2,e5,h⟩⟩)
     have HEI:=hid (equalInt w1 A' n' c' heard B' m' d' heard2 ((HH.out.heard.below hb2).more hb2.size) ((HH2.out.heard.below hb2).more hb2.size) HH.out.few' HH2.out.few')
     go_wp2_with fail
     refine HEI.out.mono ?_;rintro e w2 ⟨rfl,hb3⟩;go_wp2;go_ret;exact⟨ret_bool HN.out.symm,hb2.trans (hb3.mono hb2.size)⟩
   ·have z5:decide (clock=clock2)=false:=by simpa using e3
    have z6:(clock==clock2)=false:=by simpa using e3
    have HN:=hid (show res=false by
     rw[HRes.out,decide_eq_false_iff_not];rw[HI.out];exact λh=>e3 h.2.2.1)
    clear e1 e2 e3;go_wp2;go_ret;exact⟨ret_bool HN.out.symm,by first|exact hbW|(rw[<- HW0.out];exact hbW)⟩
  ·have z3:decide (many=many2)=false:=by simpa using e2
   have z4:(many==many2)=false:=by simpa using e2
   have HN:=hid (show res=false by
    rw[HRes.out,decide_eq_false_iff_not];rw[HI.out];exact λh=>e2 h.2.1)
   clear e1 e2;go_wp2;go_ret;exact⟨ret_bool HN.out.symm,by first|exact hbW|(rw[<- HW0.out];exact hbW)⟩
 ·have z1:decide (me=me2)=false:=by simpa using e1
  have z2:(me==me2)=false:=by simpa using e1
  have HN:=hid (show res=false by
   rw[HRes.out,decide_eq_false_iff_not];rw[HI.out];exact λh=>e1 h.1)
  clear e1;go_wp2;go_ret;exact⟨ret_bool HN.out.symm,by first|exact hbW|(rw[<- HW0.out];exact hbW)⟩
end
section
open Go.RowKit
structure RV where
 r:Rp.Rep
 A:Option Addr
 n:Nat
 c:Nat
 A':Option Addr
 n':Nat
 c':Nat
structure MV where
 m:Rp.Msg
 M:Option Addr
 N:Nat
 C:Nat
 M':Option Addr
 N':Nat
 C':Nat
def RV.enc (v:RV):List Value:=[.int .i64 v.r.me,.int .i64 v.r.many,.int .i64 v.r.clock,.slice v.A v.n v.c,.slice v.A' v.n' v.c']
def MV.enc (v:MV):List Value:=[.int .i64 v.m.src,.slice v.M v.N v.C,.slice v.M' v.N' v.C']
def encRs (l:List RV):List Value:=l.flatMap RV.enc
def encMs (l:List MV):List Value:=l.flatMap MV.enc
theorem encRs_get :∀(l:List RV) (j:Nat) (p:RV) (i:Nat),l[j]?=some p->i<5->(encRs l)[j*5+i]?=p.enc[i]?
 | [],j,p,i,h,_=>by simp at h
 | x::l,0,p,i,h,hi=>by
   simp at h;subst h;rw[show encRs (x::l)=x.enc++encRs l from rfl,Nat.zero_mul,Nat.zero_add,List.getElem?_append_left (by simp[RV.enc];exact hi)]
 | x::l,j+1,p,i,h,hi=>by
   rw[show encRs (x::l)=x.enc++encRs l from rfl,List.getElem?_append_right (by simp[RV.enc];omega)];have:=encRs_get l j p i (by simpa using h) hi;rw[<- this]
   congr 1
   simp[RV.enc];omega
theorem encMs_get :∀(l:List MV) (j:Nat) (p:MV) (i:Nat),l[j]?=some p->i<3->(encMs l)[j*3+i]?=p.enc[i]?
 | [],j,p,i,h,_=>by simp at h
 | x::l,0,p,i,h,hi=>by
   simp at h;subst h;rw[show encMs (x::l)=x.enc++encMs l from rfl,Nat.zero_mul,Nat.zero_add,List.getElem?_append_left (by simp[MV.enc];exact hi)]
 | x::l,j+1,p,i,h,hi=>by
   rw[show encMs (x::l)=x.enc++encMs l from rfl,List.getElem?_append_right (by simp[MV.enc];omega)];have:=encMs_get l j p i (by simpa using h) hi;rw[<- this]
   congr 1
   simp[MV.enc];omega
theorem encMs_snoc (l:List MV)(p:MV):encMs (l++[p])=encMs l++p.enc:=by simp[encMs]
theorem encRs_snoc (l:List RV)(p:RV):encRs (l++[p])=encRs l++p.enc:=by simp[encRs]
def Apart (A:Option Addr)(n:Nat)(x:Nat)(va vb:Value):Prop:=0<n->∀a,A=some a->a.block≠x/\va.ownBlock≠some a.block/\vb.ownBlock≠some a.block
structure RunR (B:Nat) (W:World) (x:Nat) (va:Value) (rl:List RV) (vb:Value) (ml:List MV):Prop where
 blk:Blk W x 112 #[va,vb]
 reps:W.ownsRow B 26 5 va rl.length (encRs rl)
 msgs:W.ownsRow B 28 3 vb ml.length (encMs ml)
 rep:∀v∈rl,RepR W W.heap.size v.r v.A v.n v.A' v.n'/\Apart v.A v.n x va vb/\Apart v.A' v.n' x va vb
 msg:∀v∈ml,MsgR W W.heap.size v.m v.M v.N v.M' v.N'/\v.N<=v.C/\Apart v.M v.N x va vb/\Apart v.M' v.N' x va vb
 at_:B<=x
 caps:∀v∈rl,v.n<=v.c
section
variable {B x:Nat} {W W':World} {va vb:Value} {rl:List RV} {ml:List MV}
theorem RunR.keep (h:RunR B W x va rl vb ml)(hb:Below W.heap.size W W'):RunR B W' x va rl vb ml :=
 ⟨h.blk.below hb h.blk.lt,own_below h.reps hb,own_below h.msgs hb,λv hv=>⟨((h.rep v hv).1.below hb).more hb.size,(h.rep v hv).2⟩,
   λv hv=>⟨((h.msg v hv).1.below hb).more hb.size,(h.msg v hv).2⟩,h.at_,h.caps⟩
theorem RunR.drew (h:RunR B W x va rl vb ml):RunR B W.drew x va rl vb ml:=h.keep (Below.refl _ _).drew
theorem Fresh.apart {A:Option Addr}{n:Nat}(h:RunR B W x va rl vb ml)(hf:Fresh W.heap.size A):Apart A n x va vb:=by
 intro _ a ha;have h1:=hf a ha;have h2:=h.blk.lt;have key:∀{e:TypeId} {s n:Nat} {v:Value} {xs:List Value},W.ownsRow B e s v n xs->v.ownBlock≠some a.block:=by
  intro e s n v xs ho e1;have:=ho.lt a.block e1;omega
 exact⟨by omega,key h.reps,key h.msgs⟩
end
theorem RunR.repCells {B x g cap:Nat}{W:World}{vb:Value}{rl:List RV}{ml:List MV}{v:RV}{who:Nat}(h:RunR B W x (.slice (some ⟨g,0,none⟩) rl.length cap) rl vb ml)(hv:rl[who]?=some v) :
 W.cell? ⟨g,who*5,none⟩=some (.int .i64 v.r.me)/\W.cell? ⟨g,who*5+1,none⟩=some (.int .i64 v.r.many)/\W.cell? ⟨g,who*5+2,none⟩=some (.int .i64 v.r.clock) /\
  W.cell? ⟨g,who*5+3,none⟩=some (.slice v.A v.n v.c)/\W.cell? ⟨g,who*5+4,none⟩=some (.slice v.A' v.n' v.c'):=by
 have hl:who<rl.length:=(List.getElem?_eq_some_iff.1 hv).1;have key:∀i,i<5->W.cell? ⟨g,who*5+i,none⟩=v.enc[i]?:=λi hi=>by
  rw[h.reps.cellAt (who*5+i) (by omega),encRs_get rl who v i hv hi]
 exact⟨key 0 (by omega),key 1 (by omega),key 2 (by omega),key 3 (by omega),key 4 (by omega)⟩
theorem encRs_set :∀(l:List RV) (j:Nat) (v:RV),j<l.length ->
 (((((encRs l).set (j*5) (.int .i64 v.r.me)).set (j*5+1) (.int .i64 v.r.many)).set (j*5+2) (.int .i64 v.r.clock)).set (j*5+3) (.slice v.A v.n v.c)).set (j*5+4) (.slice v.A' v.n' v.c')=encRs (l.set j v)
 | [],j,v,h=>by simp at h
 | x::l,0,v,_=>by simp[encRs,RV.enc]
 | x::l,j+1,v,h=>by
   have ih:=encRs_set l j v (by simpa using h);have e:encRs (x::l)=x.enc++encRs l:=rfl;have e2:encRs ((x::l).set (j+1) v)=x.enc++encRs (l.set j v):=rfl;have hx:x.enc.length=5:=rfl;rw[e2,<- ih,e];have hs:∀(ys:List Value) (k:Nat) (u:Value),(x.enc++ys).set ((j+1)*5+k) u=x.enc++ys.set (j*5+k) u:=λys k u=>by
    rw[List.set_append_right _ _ (by rw[hx];omega),hx]
    congr 2
    omega
   have hs0:∀(ys:List Value) (u:Value),(x.enc++ys).set ((j+1)*5) u=x.enc++ys.set (j*5) u:=λys u=>hs ys 0 u
   rw[hs0,hs,hs,hs,hs]
theorem Reads.far0 {w:World}{B size n:Nat}{A:Option Addr}{xs:List Value}(h:Reads w B size A n xs){p:Addr}(hp:0<n->∀a,A=some a->a.block≠p.block)(u:Value):Reads (w.setCell p u) B size A n xs:=by
 rcases Nat.eq_zero_or_pos n with h0|h0
 ·exact⟨h.1,λh1=>by omega⟩
 ·exact h.far (hp h0) u
theorem RepR.far0 {w:World}{B:Nat}{r:Rp.Rep}{A A':Option Addr}{n n':Nat}(h:RepR w B r A n A' n'){p:Addr}(hp:0<n->∀a,A=some a->a.block≠p.block)(hp':0<n'->∀a,A'=some a->a.block≠p.block)(u:Value) :
 RepR (w.setCell p u) B r A n A' n' :=
 ⟨h.posts.far0 hp u,h.len,h.heard.far0 hp' u,h.len',h.few,h.few'⟩
theorem MsgR.far0 {w:World}{B:Nat}{r:Rp.Msg}{A A':Option Addr}{n n':Nat}(h:MsgR w B r A n A' n'){p:Addr}(hp:0<n->∀a,A=some a->a.block≠p.block)(hp':0<n'->∀a,A'=some a->a.block≠p.block)(u:Value) :
 MsgR (w.setCell p u) B r A n A' n' :=
 ⟨h.posts.far0 hp u,h.len,h.heard.far0 hp' u,h.len',h.few,h.few'⟩
theorem Reads.grown {w w':World}{B size n:Nat}{row:Option Nat}{A:Option Addr}{xs:List Value}(h:Reads w B size A n xs)(hg:w.grownBy w' row)(hB:B<=w.heap.size)(hne:0<n->∀a,A=some a->some a.block≠row):Reads w' B size A n xs:=by
 refine⟨h.1,λhn=>?_⟩;obtain⟨b,off,e,hb,hc⟩:=h.2 hn;have hne':some b≠row:=hne hn ⟨b,off,none⟩ e;exact⟨b,off,e,hb,λj u hu=>(hg.cell_far ⟨b,off+j,none⟩ (show b<_ by omega) hne').trans (hc j u hu)⟩
theorem RepR.grown {w w':World}{B:Nat}{row:Option Nat}{r:Rp.Rep}{A A':Option Addr}{n n':Nat}(h:RepR w B r A n A' n')(hg:w.grownBy w' row)(hB:B<=w.heap.size)(hne:0<n->∀a,A=some a->some a.block≠row)(hne':0<n'->∀a,A'=some a->some a.block≠row):RepR w' B r A n A' n' :=
 ⟨h.posts.grown hg hB hne,h.len,h.heard.grown hg hB hne',h.len',h.few,h.few'⟩
theorem MsgR.grown {w w':World}{B:Nat}{row:Option Nat}{r:Rp.Msg}{A A':Option Addr}{n n':Nat}(h:MsgR w B r A n A' n')(hg:w.grownBy w' row)(hB:B<=w.heap.size)(hne:0<n->∀a,A=some a->some a.block≠row)(hne':0<n'->∀a,A'=some a->some a.block≠row):MsgR w' B r A n A' n' :=
 ⟨h.posts.grown hg hB hne,h.len,h.heard.grown hg hB hne',h.len',h.few,h.few'⟩
theorem Reads.lt {w:World}{B size n:Nat}{A:Option Addr}{xs:List Value}(h:Reads w B size A n xs)(hn:0<n):∀a,A=some a->a.block<B:=by
 obtain⟨b,off,e,hb,_⟩:=h.2 hn;intro a ha;rw[e]at ha;injection ha with ha;subst ha;exact hb
theorem row_store {B x g n cap m k:Nat}{W:World}{vb:Value}{cs:Array Value}{xs ys:List Value}(u:Value)
 (h:Blk W x 112 cs/\W.ownsRow B 26 5 (.slice (some ⟨g,0,none⟩) n cap) n xs/\W.ownsRow B 28 3 vb m ys) :
 Blk (W.setCell ⟨g,k,none⟩ u) x 112 cs/\(W.setCell ⟨g,k,none⟩ u).ownsRow B 26 5 (.slice (some ⟨g,0,none⟩) n cap) n (xs.set k u)/\(W.setCell ⟨g,k,none⟩ u).ownsRow B 28 3 vb m ys:=by
 obtain⟨hb,hr,hm⟩:=h;refine⟨hb.far (p:=⟨g,k,none⟩) ?_ u,(hr.stored k u).1,own_far hm (p:=⟨g,k,none⟩) ?_ u⟩
 ·intro e
  exact own_ne_blk hr hb (by decide) (by simp[Value.ownBlock,e])
 ·intro e
  exact(own_apart hm hr (by decide)).elim (λh=>by rw[h]at e;cases e) (λh=>h e)
theorem Apart.ne {A:Option Addr}{k x g n c:Nat}{vb:Value}(h:Apart A k x (.slice (some ⟨g,0,none⟩) n c) vb):0<k->∀a,A=some a->a.block≠g :=
 λhk a ha e=>(h hk a ha).2.1 (by simp[Value.ownBlock,e])
theorem RunR.setRep {B x g cap:Nat}{W:World}{vb:Value}{rl:List RV}{ml:List MV}(h:RunR B W x (.slice (some ⟨g,0,none⟩) rl.length cap) rl vb ml){who:Nat}(hw:who<rl.length)(v:RV)
 (hv:RepR W W.heap.size v.r v.A v.n v.A' v.n') (h1:Apart v.A v.n x (.slice (some ⟨g,0,none⟩) rl.length cap) vb) (h2:Apart v.A' v.n' x (.slice (some ⟨g,0,none⟩) rl.length cap) vb) (hcv:v.n<=v.c) :
 RunR B (((((W.setCell ⟨g,who*5,none⟩ (.int .i64 v.r.me)).setCell ⟨g,who*5+1,none⟩ (.int .i64 v.r.many)).setCell ⟨g,who*5+2,none⟩ (.int .i64 v.r.clock)).setCell ⟨g,who*5+3,none⟩ (.slice v.A v.n v.c)).setCell ⟨g,who*5+4,none⟩ (.slice v.A' v.n' v.c'))
  x (.slice (some ⟨g,0,none⟩) rl.length cap) (rl.set who v) vb ml:=by
 obtain⟨b,r,m⟩:=row_store (k:=who*5+4) (.slice v.A' v.n' v.c') (row_store (k:=who*5+3) (.slice v.A v.n v.c) (row_store (k:=who*5+2) (.int .i64 v.r.clock) (row_store (k:=who*5+1) (.int .i64 v.r.many) (row_store (k:=who*5) (.int .i64 v.r.me) ⟨h.blk,h.reps,h.msgs⟩))));rw[encRs_set rl who v hw]at r;refine⟨b,by rw[List.length_set];exact r,m,λv' hv'=>?_,λv' hv'=>?_,h.at_,λv' hv'=>(List.mem_or_eq_of_mem_set hv').elim (h.caps v') (λe=>e▸hcv)⟩
 ·have key:RepR W W.heap.size v'.r v'.A v'.n v'.A' v'.n'/\Apart v'.A v'.n x (.slice (some ⟨g,0,none⟩) rl.length cap) vb/\Apart v'.A' v'.n' x (.slice (some ⟨g,0,none⟩) rl.length cap) vb:=by
   rcases List.mem_or_eq_of_mem_set hv' with h'|h'
   ·exact h.rep v' h'
   ·subst h';exact⟨hv,h1,h2⟩
  refine⟨?_,key.2⟩;simp only[size_setCell]
  repeat(refine RepR.far0 ?_ key.2.1.ne key.2.2.ne _)
  exact key.1
 ·have key:=h.msg v' hv'
  refine⟨?_,key.2⟩;simp only[size_setCell]
  repeat(refine MsgR.far0 ?_ key.2.2.1.ne key.2.2.2.ne _)
  exact key.1
theorem apart_push {w1:World}{x:Nat}{va vb:Value}{g' n' c' k K:Nat}{s:Nat}{A:Option Addr}{xs:List Value}{w:World}(h:Apart A k x va vb)(hr:Reads w K s A k xs)(hK:K<=w1.heap.size)(hat:vb.ownBlock=some g'∨w1.heap.size<=g') :
 Apart A k x va (.slice (some ⟨g',0,none⟩) n' c'):=by
 intro hk a ha;obtain⟨h1,h2,h3⟩:=h hk a ha;refine⟨h1,h2,?_⟩;have h4:=hr.lt hk a ha;simp only[Value.ownBlock,ne_eq,Option.some.injEq];intro e;rcases hat with h5|h5
 ·rw[h5]at h3;simp at h3;omega
 ·omega
theorem RunR.push {B x g' cap':Nat}{W W1 w7:World}{va vb:Value}{rl:List RV}{ml:List MV}(h:RunR B W x va rl vb ml)(v:MV)(hv:MsgR W W.heap.size v.m v.M v.N v.M' v.N')(hc:v.N<=v.C)
 (h1:Apart v.M v.N x va vb) (h2:Apart v.M' v.N' x va vb) (hW1:Below W.heap.size W W1) (hgrow:W1.grownBy w7 vb.ownBlock)
 (hown:w7.ownsRow B 28 3 (.slice (some ⟨g',0,none⟩) (ml.length+1) cap') (ml.length+1) (encMs ml++v.enc)) (hat:vb.ownBlock=some g'∨W1.heap.size<=g') :
 RunR B (w7.setCell ⟨x,1,none⟩ (.slice (some ⟨g',0,none⟩) (ml.length+1) cap')) x va rl (.slice (some ⟨g',0,none⟩) (ml.length+1) cap') (ml++[v]):=by
 have hB1:Blk W1 x 112 #[va,vb]:=h.blk.below hW1 h.blk.lt;have hm1:=own_below h.msgs hW1;have hr1:=own_below h.reps hW1;have hxne:some x≠vb.ownBlock:=λe=>own_ne_blk hm1 hB1 (by decide) e.symm
 have hB7:Blk w7 x 112 #[va,vb]:=(hgrow.block x hB1.lt hxne).trans hB1;have hr7:=hr1.kept hgrow (own_apart hr1 hm1 (by decide));have hs7:=hgrow.size;have hsW:=hW1.size;have hB8:=hB7.set_ 1 (.slice (some ⟨g',0,none⟩) (ml.length+1) cap');refine⟨hB8,own_far hr7 (p:=⟨x,1,none⟩) (own_ne_blk hr7 hB7 (by decide)) _,?_,λv' hv'=>?_,λv' hv'=>?_,h.at_,h.caps⟩
 ·rw[encMs_snoc,List.length_append]
  exact own_far hown (p:=⟨x,1,none⟩) (own_ne_blk hown hB7 (by decide)) _
 ·obtain⟨k1,k2,k3⟩:=h.rep v' hv'
  refine⟨?_,apart_push (w1:=W1) k2 k1.posts hsW hat,apart_push (w1:=W1) k3 k1.heard hsW hat⟩;simp only[size_setCell];refine RepR.far0 ?_ (λhk a ha=>(k2 hk a ha).1) (λhk a ha=>(k3 hk a ha).1) _;exact((k1.below hW1).grown hgrow hsW (λhk a ha e=>(k2 hk a ha).2.2 e.symm) (λhk a ha e=>(k3 hk a ha).2.2 e.symm)).more (by omega)
 ·have key:MsgR W W.heap.size v'.m v'.M v'.N v'.M' v'.N'/\v'.N<=v'.C/\Apart v'.M v'.N x va vb/\Apart v'.M' v'.N' x va vb:=by
   rcases List.mem_append.1 hv' with h'|h'
   ·exact h.msg v' h'
   ·obtain rfl:v'=v:=by simpa using h'
    exact⟨hv,hc,h1,h2⟩
  obtain⟨k1,k0,k2,k3⟩:=key;refine⟨?_,k0,apart_push (w1:=W1) k2 k1.posts hsW hat,apart_push (w1:=W1) k3 k1.heard hsW hat⟩;simp only[size_setCell];refine MsgR.far0 ?_ (λhk a ha=>(k2 hk a ha).1) (λhk a ha=>(k3 hk a ha).1) _;exact((k1.below hW1).grown hgrow hsW (λhk a ha e=>(k2 hk a ha).2.2 e.symm) (λhk a ha e=>(k3 hk a ha).2.2 e.symm)).more (by omega)
end
section
open Go.RowKit
theorem map_set_r (l:List RV)(j:Nat)(v:RV):(l.set j v).map (·.r)=(l.map (·.r)).set j v.r:=by rw[List.map_set]
theorem mwrite_any (B x:Nat)(W:World)(va:Value)(rl:List RV)(vb:Value)(ml:List MV)(h:RunR B W x va rl vb ml)(kind at_:Int)(who:Nat)(v:RV)(hv:rl[who]?=some v)(hfew:rl.length<=5)(text:ByteArray) :
 Calls prog 91 #[.pointer (some ⟨x,0,none⟩),.agg #[.int .i64 kind,.int .i64 who,.int .i64 at_,.string text]] W λe W'=>(∃u,e=.returned u)/\Below B W W' /\
  ∃rl',RunR B W' x va rl' vb ml/\rl'.map (·.r)=match Rp.write v.r text with|some r=>(rl.map (·.r)).set who r|none=>rl.map (·.r):=by
 have hl:who<rl.length:=(List.getElem?_eq_some_iff.1 hv).1;obtain⟨g,cap,rfl,hg,hgl⟩:=h.reps.form (by omega);obtain⟨c0,c1,c2,c3,c4⟩:=h.repCells hv;have x0:=h.blk.cell 0;simp only[List.getElem?_toArray,List.getElem?_cons_zero]at x0;have hxl:=h.blk.lt;have hrep:=(h.rep v (List.mem_of_getElem? hv)).1;obtain⟨r,A,n,c,A',n',c'⟩:=v;simp only at c0 c1 c2 c3 c4 hrep;obtain⟨W0,hW0⟩:∃W0,W0=W.alloc (.cells #[.int .i64 kind,.int .i64 who,.int .i64 at_,.string text] 64):=⟨_,rfl⟩;have hb0:Below W.heap.size W W0:=by rw[hW0];exact(Below.refl _ _).alloc (Nat.le_refl _) _
 have hm0:Blk W0 W.heap.size 64 #[.int .i64 kind,.int .i64 who,.int .i64 at_,.string text]:=by rw[hW0];exact Blk.new _ _ _
 have hs0:W0.heap.size=W.heap.size+1:=by rw[hW0];simp
 have HRep:Hid (∀W',Below W0.heap.size W0 W'->RepR W' W'.heap.size r A n A' n'):=hid λW' hb=>(hrep.below (hb0.trans (hb.mono hb0.size))).more (hb0.trans (hb.mono hb0.size)).size
 have hBW:B<=W.heap.size:=by have:=h.at_;omega
 have HR:=hid h;have HV:=hid hv;clear h hv hrep;have HW0:=hid hW0;clear hW0;have d1:=hm0.cell 1;have d3:=hm0.cell 3;simp only[List.getElem?_toArray,List.getElem?_cons_zero,List.getElem?_cons_succ]at d1 d3;rw[<- hb0.cell (p:=⟨g,_,none⟩) hgl]at c0 c1 c2 c3 c4;rw[<- hb0.cell (p:=⟨x,_,none⟩) hxl]at x0;obtain⟨me,many,clock,posts,heard⟩:=r;simp only at c0 c1 c2 c3 c4;have hxl0:x<W0.heap.size:=by omega
 have hgl0:g<W0.heap.size:=by omega
 have hWl0:W.heap.size<W0.heap.size:=by omega
 have HS0:=hid hs0;clear hs0;have hwr:=λW' hb=>write_any W' ⟨me,many,clock,posts,heard⟩ A n c A' n' c' text (HRep.out W' hb)
 unfold GotRep repV zeroRep at hwr;simp only at hwr;have hwl:(who:Int)<(rl.length:Int):=by omega
 cases hw:Rp.write ⟨me,many,clock,posts,heard⟩ text
 ·rw[hw]at hwr
  simp only at hwr;have HWr:=hid hwr;clear hwr
  go_enter func91,ntmps91
  go_wp2;rw[<- HW0.out];have m0:=World.new_ne W0 _ x0;have m1:=World.new_ne W0 _ d1;have m2:=World.new_ne W0 _ c0
  go_region_held3 (λw'=>w'.cell? ⟨x,0,none⟩=some (.slice (some ⟨g,0,none⟩) rl.length cap)/\w'.cell? ⟨W.heap.size,1,none⟩=some (.int .i64 who)/\w'.cell? ⟨W.heap.size,3,none⟩=some (.string text) /\
   w'.cell? ⟨g,who*5,none⟩=some (.int .i64 me)/\w'.cell? ⟨g,who*5+1,none⟩=some (.int .i64 many)/\w'.cell? ⟨g,who*5+2,none⟩=some (.int .i64 clock) /\
   w'.cell? ⟨g,who*5+3,none⟩=some (.slice A n c)/\w'.cell? ⟨g,who*5+4,none⟩=some (.slice A' n' c'))
   (go_keep)
   (first
     | (go_at_call 13
        refine(HWr.out _ (by first|exact(Below.refl _ _).drew|exact(Below.refl _ _).drew.alloc (Nat.le_refl _) _)).mono ?_;rintro e w4 ⟨hb4,rfl⟩;have B4:Below W0.heap.size W0 w4:=by first|exact(Below.refl _ _).drew.trans hb4|exact((Below.refl _ _).drew.alloc (Nat.le_refl _) _).trans (hb4.mono (by simp))
        have hbW4:Below W.heap.size W w4:=hb0.trans (B4.mono hb0.size);have hsz4:=hbW4.size;have k0:=(B4.cell (p:=⟨x,0,none⟩) (show x<W0.heap.size by omega)).trans x0;have k1:=(B4.cell (p:=⟨W.heap.size,1,none⟩) (show W.heap.size<W0.heap.size by omega)).trans d1;have k3:=(B4.cell (p:=⟨W.heap.size,3,none⟩) (show W.heap.size<W0.heap.size by omega)).trans d3;have q0:=(B4.cell (p:=⟨g,who*5,none⟩) (show g<W0.heap.size by omega)).trans c0;have q1:=(B4.cell (p:=⟨g,who*5+1,none⟩) (show g<W0.heap.size by omega)).trans c1;have q2:=(B4.cell (p:=⟨g,who*5+2,none⟩) (show g<W0.heap.size by omega)).trans c2;have q3:=(B4.cell (p:=⟨g,who*5+3,none⟩) (show g<W0.heap.size by omega)).trans c3;have q4:=(B4.cell (p:=⟨g,who*5+4,none⟩) (show g<W0.heap.size by omega)).trans c4;have n0:=World.new_ne w4 _ k0;have n1:=World.new_ne w4 _ k1;have n2:=World.new_ne w4 _ q0
        try
         have hbk:Blk w4 W0.heap.size 26 #[.int .i64 0,.int .i64 0,.int .i64 0,.slice none 0 0,.slice none 0 0]:=Blk.below (B:=(W0.alloc (.cells #[.int .i64 0,.int .i64 0,.int .i64 0,.slice none 0 0,.slice none 0 0] 26)).heap.size) (Blk.new W0 26 #[.int .i64 0,.int .i64 0,.int .i64 0,.slice none 0 0,.slice none 0 0]).drew hb4 (by simp);obtain⟨z0,z1,z2,z3,z4⟩:=hbk.cells5;obtain⟨s0,s1,s2,s3,s4⟩:=hbk.soft5))
  all_goals
   go_wp2;go_end0;refine(λhfin:Below W.heap.size W _=>⟨⟨_,rfl⟩,hfin.mono hBW,rl,HR.out.keep hfin,rfl⟩) ?_
   repeat(first|refine Below.setCell ?_ (by first|omega|(simp;try omega)) _|refine Below.alloc ?_ (by first|omega|(simp;try omega)) _|refine Below.drew ?_)
   exact hbW4
 ·rename_i r'
  obtain⟨me',many',clock',posts',heard'⟩:=r';rw[hw]at hwr;simp only at hwr;have HWr:=hid hwr;clear hwr
  go_enter func91,ntmps91
  go_wp2;rw[<- HW0.out];have m0:=World.new_ne W0 _ x0;have m1:=World.new_ne W0 _ d1;have m2:=World.new_ne W0 _ c0
  go_region_held3 (λw'=>w'.cell? ⟨x,0,none⟩=some (.slice (some ⟨g,0,none⟩) rl.length cap)/\w'.cell? ⟨W.heap.size,1,none⟩=some (.int .i64 who)/\w'.cell? ⟨W.heap.size,3,none⟩=some (.string text) /\
   w'.cell? ⟨g,who*5,none⟩=some (.int .i64 me)/\w'.cell? ⟨g,who*5+1,none⟩=some (.int .i64 many)/\w'.cell? ⟨g,who*5+2,none⟩=some (.int .i64 clock) /\
   w'.cell? ⟨g,who*5+3,none⟩=some (.slice A n c)/\w'.cell? ⟨g,who*5+4,none⟩=some (.slice A' n' c'))
   (go_keep)
   (first
     | (go_at_call 13
        refine(HWr.out _ (by first|exact(Below.refl _ _).drew|exact(Below.refl _ _).drew.alloc (Nat.le_refl _) _)).mono ?_;rintro e w4 ⟨hb4,A5,n5,c5,A6,n6,c6,rfl,hR4,hF5,hF6,hcv⟩;have B4:Below W0.heap.size W0 w4:=by first|exact(Below.refl _ _).drew.trans hb4|exact((Below.refl _ _).drew.alloc (Nat.le_refl _) _).trans (hb4.mono (by simp))
        have hbW4:Below W.heap.size W w4:=hb0.trans (B4.mono hb0.size);have hsz4:=hbW4.size;have k0:=(B4.cell (p:=⟨x,0,none⟩) (show x<W0.heap.size by omega)).trans x0;have k1:=(B4.cell (p:=⟨W.heap.size,1,none⟩) (show W.heap.size<W0.heap.size by omega)).trans d1;have k3:=(B4.cell (p:=⟨W.heap.size,3,none⟩) (show W.heap.size<W0.heap.size by omega)).trans d3;have q0:=(B4.cell (p:=⟨g,who*5,none⟩) (show g<W0.heap.size by omega)).trans c0;have q1:=(B4.cell (p:=⟨g,who*5+1,none⟩) (show g<W0.heap.size by omega)).trans c1;have q2:=(B4.cell (p:=⟨g,who*5+2,none⟩) (show g<W0.heap.size by omega)).trans c2;have q3:=(B4.cell (p:=⟨g,who*5+3,none⟩) (show g<W0.heap.size by omega)).trans c3;have q4:=(B4.cell (p:=⟨g,who*5+4,none⟩) (show g<W0.heap.size by omega)).trans c4;have n0:=World.new_ne w4 _ k0;have n1:=World.new_ne w4 _ k1;have n2:=World.new_ne w4 _ q0
        try
         have hbk:Blk w4 W0.heap.size 26 #[.int .i64 0,.int .i64 0,.int .i64 0,.slice none 0 0,.slice none 0 0]:=Blk.below (B:=(W0.alloc (.cells #[.int .i64 0,.int .i64 0,.int .i64 0,.slice none 0 0,.slice none 0 0] 26)).heap.size) (Blk.new W0 26 #[.int .i64 0,.int .i64 0,.int .i64 0,.slice none 0 0,.slice none 0 0]).drew hb4 (by simp);obtain⟨z0,z1,z2,z3,z4⟩:=hbk.cells5;obtain⟨s0,s1,s2,s3,s4⟩:=hbk.soft5))
  ·obtain⟨W5,hW5⟩:∃W5,W5=w4.alloc (.cells #[.int .i64 me',.int .i64 many',.int .i64 clock',.slice A5 n5 c5,.slice A6 n6 c6] 26):=⟨_,rfl⟩
   rw[<- hW5];have hB5:Blk W5 w4.heap.size 26 #[.int .i64 me',.int .i64 many',.int .i64 clock',.slice A5 n5 c5,.slice A6 n6 c6]:=by rw[hW5];exact Blk.new _ _ _
   have hb5:Below W.heap.size W W5:=by rw[hW5];exact hbW4.alloc hsz4 _
   have hb05:Below W0.heap.size W0 W5:=by rw[hW5];exact B4.alloc B4.size _
   have hR5:RepR W5 W5.heap.size ⟨me',many',clock',posts',heard'⟩ A5 n5 A6 n6:=by
    rw[hW5];exact(hR4.below ((Below.refl _ _).alloc (Nat.le_refl _) _)).more (by simp)
   have hA5:Apart A5 n5 x (.slice (some ⟨g,0,none⟩) rl.length cap) vb:=Fresh.apart HR.out (λa e=>by have:=hF5 a e;simp at this;omega);have hA6:Apart A6 n6 x (.slice (some ⟨g,0,none⟩) rl.length cap) vb:=Fresh.apart HR.out (λa e=>by have:=hF6 a e;simp at this;omega);have hs5:=hb5.size;have HR5:=hid (HR.out.keep hb5);have HSet:=hid (HR5.out.setRep hl ⟨⟨me',many',clock',posts',heard'⟩,A5,n5,c5,A6,n6,c6⟩ hR5 hA5 hA6 hcv);have x5:=(hb05.cell (p:=⟨x,0,none⟩) hxl0).trans x0;have d5:=(hb05.cell (p:=⟨W.heap.size,1,none⟩) hWl0).trans d1;obtain⟨v0,v1,v2,v3,v4⟩:=hB5.cells5;have hgx:g≠x:=λe=>own_ne_blk HR5.out.reps HR5.out.blk (by decide) (by simp[Value.ownBlock,e])
   have hgW:g≠W.heap.size:=by omega
   have hgG:g≠w4.heap.size:=by omega
   have hgx':=hgx.symm;have hgW':=hgW.symm;have hgG':=hgG.symm;have t0:=HR5.out.reps.frozenAt (who*5);have t1:=HR5.out.reps.frozenAt (who*5+1);have t2:=HR5.out.reps.frozenAt (who*5+2);have t3:=HR5.out.reps.frozenAt (who*5+3);have t4:=HR5.out.reps.frozenAt (who*5+4);obtain⟨p0,p1,p2,p3,p4⟩:=HR5.out.repCells HV.out;simp only at p0 p1 p2 p3 p4;clear hW5 k0 k1 k3 q0 q1 q2 q3 q4 n0 n1 n2 hb4 hR4 hF5 hF6 c0 c1 c2 c3 c4 hA5 hA6 hR5 x0 d1 d3 m0 m1 m2 hB5 hb05 B4 hbW4;go_wp2
   go_region_held3 (λw'=>w'.cell? ⟨x,0,none⟩=some (.slice (some ⟨g,0,none⟩) rl.length cap)/\w'.cell? ⟨W.heap.size,1,none⟩=some (.int .i64 who) /\
    w'.cell? ⟨w4.heap.size,0,none⟩=some (.int .i64 me')/\w'.cell? ⟨w4.heap.size,1,none⟩=some (.int .i64 many')/\w'.cell? ⟨w4.heap.size,2,none⟩=some (.int .i64 clock') /\
    w'.cell? ⟨w4.heap.size,3,none⟩=some (.slice A5 n5 c5)/\w'.cell? ⟨w4.heap.size,4,none⟩=some (.slice A6 n6 c6))
    (go_keep)
    (fail)
   go_wp2;go_end0;refine⟨⟨_,rfl⟩,?_,rl.set who ⟨⟨me',many',clock',posts',heard'⟩,A5,n5,c5,A6,n6,c6⟩,HSet.out.drew,map_set_r _ _ _⟩;refine Below.drew ?_
   repeat(refine Below.setCell ?_ (by simp;try omega) _)
   exact hb5.mono hBW
  ·obtain⟨W5,hW5⟩:∃W5,W5=((((w4.setCell ⟨W0.heap.size,0,none⟩ (.int .i64 me')).setCell ⟨W0.heap.size,1,none⟩ (.int .i64 many')).setCell ⟨W0.heap.size,2,none⟩ (.int .i64 clock')).setCell ⟨W0.heap.size,3,none⟩ (.slice A5 n5 c5)).setCell ⟨W0.heap.size,4,none⟩ (.slice A6 n6 c6):=⟨_,rfl⟩
   rw[<- hW5];have hB5:Blk W5 W0.heap.size 26 #[.int .i64 me',.int .i64 many',.int .i64 clock',.slice A5 n5 c5,.slice A6 n6 c6]:=by rw[hW5];exact((((hbk.set_ 0 _).set_ 1 _).set_ 2 _).set_ 3 _).set_ 4 _
   have hb5:Below W.heap.size W W5:=by rw[hW5];exact((((hbW4.setCell (p:=⟨W0.heap.size,0,none⟩) (show W.heap.size<=W0.heap.size by omega) _).setCell (p:=⟨W0.heap.size,1,none⟩) (show W.heap.size<=W0.heap.size by omega) _).setCell (p:=⟨W0.heap.size,2,none⟩) (show W.heap.size<=W0.heap.size by omega) _).setCell (p:=⟨W0.heap.size,3,none⟩) (show W.heap.size<=W0.heap.size by omega) _).setCell (p:=⟨W0.heap.size,4,none⟩) (show W.heap.size<=W0.heap.size by omega) _
   have hb05:Below W0.heap.size W0 W5:=by rw[hW5];exact((((B4.setCell (p:=⟨W0.heap.size,0,none⟩) (Nat.le_refl _) _).setCell (p:=⟨W0.heap.size,1,none⟩) (Nat.le_refl _) _).setCell (p:=⟨W0.heap.size,2,none⟩) (Nat.le_refl _) _).setCell (p:=⟨W0.heap.size,3,none⟩) (Nat.le_refl _) _).setCell (p:=⟨W0.heap.size,4,none⟩) (Nat.le_refl _) _
   have hR5:RepR W5 W5.heap.size ⟨me',many',clock',posts',heard'⟩ A5 n5 A6 n6:=by
    rw[hW5];simp only[size_setCell]
    repeat(refine RepR.far ?_ (λa e h=>by have:=hF5 a e;simp at this h;omega) (λa e h=>by have:=hF6 a e;simp at this h;omega) _)
    exact hR4
   have hA5:Apart A5 n5 x (.slice (some ⟨g,0,none⟩) rl.length cap) vb:=Fresh.apart HR.out (λa e=>by have:=hF5 a e;simp at this;omega);have hA6:Apart A6 n6 x (.slice (some ⟨g,0,none⟩) rl.length cap) vb:=Fresh.apart HR.out (λa e=>by have:=hF6 a e;simp at this;omega);have hs5:=hb5.size;have HR5:=hid (HR.out.keep hb5);have HSet:=hid (HR5.out.setRep hl ⟨⟨me',many',clock',posts',heard'⟩,A5,n5,c5,A6,n6,c6⟩ hR5 hA5 hA6 hcv);have x5:=(hb05.cell (p:=⟨x,0,none⟩) hxl0).trans x0;have d5:=(hb05.cell (p:=⟨W.heap.size,1,none⟩) hWl0).trans d1;obtain⟨v0,v1,v2,v3,v4⟩:=hB5.cells5;have hgx:g≠x:=λe=>own_ne_blk HR5.out.reps HR5.out.blk (by decide) (by simp[Value.ownBlock,e])
   have hgW:g≠W.heap.size:=by omega
   have hgG:g≠W0.heap.size:=by omega
   have hgx':=hgx.symm;have hgW':=hgW.symm;have hgG':=hgG.symm;have t0:=HR5.out.reps.frozenAt (who*5);have t1:=HR5.out.reps.frozenAt (who*5+1);have t2:=HR5.out.reps.frozenAt (who*5+2);have t3:=HR5.out.reps.frozenAt (who*5+3);have t4:=HR5.out.reps.frozenAt (who*5+4);obtain⟨p0,p1,p2,p3,p4⟩:=HR5.out.repCells HV.out;simp only at p0 p1 p2 p3 p4;clear hW5 k0 k1 k3 q0 q1 q2 q3 q4 n0 n1 n2 hb4 hR4 hF5 hF6 c0 c1 c2 c3 c4 hA5 hA6 hR5 x0 d1 d3 m0 m1 m2 hB5 hb05 B4 hbW4;go_wp2
   go_region_held3 (λw'=>w'.cell? ⟨x,0,none⟩=some (.slice (some ⟨g,0,none⟩) rl.length cap)/\w'.cell? ⟨W.heap.size,1,none⟩=some (.int .i64 who) /\
    w'.cell? ⟨W0.heap.size,0,none⟩=some (.int .i64 me')/\w'.cell? ⟨W0.heap.size,1,none⟩=some (.int .i64 many')/\w'.cell? ⟨W0.heap.size,2,none⟩=some (.int .i64 clock') /\
    w'.cell? ⟨W0.heap.size,3,none⟩=some (.slice A5 n5 c5)/\w'.cell? ⟨W0.heap.size,4,none⟩=some (.slice A6 n6 c6))
    (go_keep)
    (fail)
   go_wp2;go_end0;refine⟨⟨_,rfl⟩,?_,rl.set who ⟨⟨me',many',clock',posts',heard'⟩,A5,n5,c5,A6,n6,c6⟩,HSet.out.drew,map_set_r _ _ _⟩;refine Below.drew ?_
   repeat(refine Below.setCell ?_ (by simp;try omega) _)
   exact hb5.mono hBW
end
end Go.Proofs.YtnehgpeelgjjhaaGreatDoor.Tw
