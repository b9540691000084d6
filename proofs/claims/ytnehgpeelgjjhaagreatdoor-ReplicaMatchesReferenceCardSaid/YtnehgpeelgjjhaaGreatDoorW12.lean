/- Contracts of functions of the program, and plain laws, towards the laws of replicas. Joined of the texts: Small, RootP, R1, R2p, AllM, Pick, Motns, R3p. -/
import Derived.Test.YtnehgpeelgjjhaaGreatDoorW11
import Derived.Test.YtnehgpeelgjjhaaGreatDoorW06
import Derived.Test.YtnehgpeelgjjhaaGreatDoorW00
import Derived.OwnWalk
import Derived.IntWalk
set_option linter.all false
set_option maxRecDepth 100000
set_option maxHeartbeats 12800000
open Go.Lib (hid)
namespace Go.Proofs.YtnehgpeelgjjhaaGreatDoor.Tw
open Go.Proofs.Tryz
section
open Go.RowKit
theorem samePosts_any (w:World)(A:Option Addr)(n c:Nat)(l:List Rp.Post)(A':Option Addr)(n' c':Nat)(l':List Rp.Post)
 (hx:Reads w w.heap.size 4 A n (encPs l)) (hl:l.length=n) (hx':Reads w w.heap.size 4 A' n' (encPs l')) (hl':l'.length=n') (hn:n<=16777216) (hn':n'<=16777216) :
 Calls prog 33 #[.slice A n c,.slice A' n' c'] w λe w'=>e=.returned (.bool (decide (l=l')))/\Below w.heap.size w w':=by
 have HL:=hid hl;have HL':=hid hl';have HX:=hid hx;have HX':=hid hx';have H0:=hid (sameFrom_zero (l:=l) (l':=l'));clear hx hx' hl hl'
 by_cases hne:n=n'
 ·subst hne
  go_enter func33,ntmps33
  go_wp2
  go_loopw [5] (λk wr=>∃j:Nat,j<=n/\k=.int .i64 j/\Hid (decide (l=l')=sameFrom l l' j)/\Below w.heap.size w wr) (λk _=>n - (intOf k).toNat)
  case atStart=>exact⟨0,by omega,rfl,H0,Below.refl _ _⟩
  case round =>
   obtain⟨j,hj,rfl,hf,hb⟩:=hrel
   by_cases hlt:j<n
   ·obtain⟨b,off,x,rfl,hbl,hq,h0,h1,h2,h3⟩:=HX.out.post HL.out hlt
    obtain⟨b',off',x',rfl,hbl',hq',h0',h1',h2',h3'⟩:=HX'.out.post HL'.out hlt;rw[<- hb.cell (p:=⟨b,_,none⟩) hbl]at h0 h1 h2 h3;rw[<- hb.cell (p:=⟨b',_,none⟩) hbl']at h0' h1' h2' h3';have k0:=Later.of h0;have k1:=Later.of h1;have k2:=Later.of h2;have k3:=Later.of h3;have k0':=Later.of h0';have k1':=Later.of h1';have k2':=Later.of h2';have k3':=Later.of h3';have hp:=post_neq x x';unfold aggP at hp
    by_cases e1:x=x'
    ·have HE:=hid (sameFrom_yes hq hq' e1)
     have e2:(!decide (x=x'))=false:=by simpa using e1
     rw[e2]at hp;clear e1 hq hq' e2;go_wp2;refine wp_region_later (by kernel_rfl) (by kernel_rfl) ?_
     repeat(go_big_quiet_step (fail))
     refine wpQuiet_nil ?_;rintro W1 ⟨⟨_,hW1⟩,rfl⟩;clear k0 k0' k1 k1' k2 k2' k3 k3';have hb1:=hb.trans (hW1.mono hb.size);go_wp2;go_roundw
     case rel=>exact⟨j+1,by omega,by go_num,by unfold Hid;rw[hf.out,HE.out],hb1⟩
     case measure=>simp[intOf];omega
    ·have HE:=hid (sameFrom_no hq hq' e1)
     have e2:(!decide (x=x'))=true:=by simpa using e1
     rw[e2]at hp;clear e1 hq hq' e2;go_wp2;refine wp_region_later (by kernel_rfl) (by kernel_rfl) ?_
     repeat(go_big_quiet_step (fail))
     refine wpQuiet_nil ?_;rintro W1 ⟨⟨_,hW1⟩,rfl⟩;clear k0 k0' k1 k1' k2 k2' k3 k3';have hb1:=hb.trans (hW1.mono hb.size);go_wp2;go_ret;exact⟨ret_bool (by rw[hf.out,HE.out]),hb1⟩
   ·have HE:=hid (sameFrom_end (l:=l) (l':=l') (j:=j) (by rw[HL.out];omega) (by rw[HL'.out];omega))
    go_wp2;go_ret;exact⟨ret_bool (by rw[hf.out,HE.out]),hb⟩
 ·have HE:=hid (same_len (l:=l) (l':=l') (by rw[HL.out,HL'.out];exact hne))
  have hne':((n:Int) != (n':Int))=true:=by simp;omega
  clear hne
  go_enter func33,ntmps33
  go_wp2;go_ret;exact⟨ret_bool HE.out.symm,Below.refl _ _⟩
end
end Go.Proofs.YtnehgpeelgjjhaaGreatDoor.Tw
namespace Rp
section
variable {α β:Type} (lf:α->β) (nd:β->β->β) (e0:β)
def leftN (n:Nat):Nat:=2 ^ (n - 1).log2
theorem leftN_pos (n:Nat):0<leftN n:=Nat.two_pow_pos _
theorem leftN_lt {n:Nat}(h:2<=n):leftN n<n:=by
 have:=Nat.log2_self_le (n:=n - 1) (by omega);unfold leftN;omega
theorem leftN_le {n:Nat}(h:2<=n):n<=2*leftN n:=by
 have:=Nat.lt_log2_self (n:=n - 1);unfold leftN;rw[Nat.pow_succ]at this;omega
theorem pow_between {a b:Nat}(h:2 ^ a<2*2 ^ b)(h':2 ^ b<2*2 ^ a):a=b:=by
 have h1:2 ^ a<2 ^ (b+1):=by rw[Nat.pow_succ];omega
 have h2:2 ^ b<2 ^ (a+1):=by rw[Nat.pow_succ];omega
 have:=(Nat.pow_lt_pow_iff_right (a:=2) (by omega)).1 h1;have:=(Nat.pow_lt_pow_iff_right (a:=2) (by omega)).1 h2;omega
theorem leftN_unique {n e:Nat}(h:2<=n)(h1:2 ^ e<n)(h2:n<=2*2 ^ e):leftN n=2 ^ e:=by
 have a:=leftN_lt h;have b:=leftN_le h;have:(n - 1).log2=e:=pow_between (by unfold leftN at *;omega) (by unfold leftN at *;omega);unfold leftN;rw[this]
def rootN :Nat->List α->β
 | 0,_=>e0
 | _+1,[]=>e0
 | _+1,[x]=>lf x
 | k+1,x::y::xs=>nd (rootN k ((x::y::xs).take (leftN (xs.length+2)))) (rootN k ((x::y::xs).drop (leftN (xs.length+2))))
theorem rootN_more :∀(k j:Nat) (xs:List α),xs.length<=k->xs.length<=j->rootN lf nd e0 k xs=rootN lf nd e0 j xs
 | 0,0,_,_,_=>rfl
 | 0,_+1,[],_,_=>rfl
 | _+1,0,[],_,_=>rfl
 | _+1,_+1,[],_,_=>rfl
 | _+1,_+1,[_],_,_=>rfl
 | 0,_,_::_,h,_=>absurd h (by simp)
 | _,0,_::_,_,h=>absurd h (by simp)
 | k+1,j+1,x::y::xs,h,h'=>by
   have a:=leftN_lt (n:=xs.length+2) (by omega);have b:=leftN_pos (xs.length+2);simp only[List.length_cons]at h h';simp only[rootN];rw[rootN_more k j _ (by simp only[List.length_take,List.length_cons];omega) (by simp only[List.length_take,List.length_cons];omega),
    rootN_more k j _ (by simp only[List.length_drop,List.length_cons];omega) (by simp only[List.length_drop,List.length_cons];omega)]
def rootR (xs:List α):β:=rootN lf nd e0 xs.length xs
theorem rootR_nil :rootR lf nd e0 []=e0:=rfl
theorem rootR_one (x:α):rootR lf nd e0 [x]=lf x:=rfl
theorem rootR_two {xs:List α}(h:2<=xs.length):rootR lf nd e0 xs=nd (rootR lf nd e0 (xs.take (leftN xs.length))) (rootR lf nd e0 (xs.drop (leftN xs.length))):=by
 match xs,h with
 | [],h=>simp at h
 | [_],h=>simp at h
 | x::y::xs,_ =>
   have a:=leftN_lt (n:=xs.length+2) (by omega);have b:=leftN_pos (xs.length+2);show nd _ _=_;simp only[List.length_cons];unfold rootR
   congr 1
   ·exact rootN_more _ _ _ _ _ _ (by simp only[List.length_take,List.length_cons];omega) (Nat.le_refl _)
   ·exact rootN_more _ _ _ _ _ _ (by simp only[List.length_drop,List.length_cons];omega) (Nat.le_refl _)
theorem rootR_join {a b:List α}{e:Nat}(ha:a.length=2 ^ e)(h0:0<b.length)(h1:b.length<=2 ^ e):rootR lf nd e0 (a++b)=nd (rootR lf nd e0 a) (rootR lf nd e0 b):=by
 have hl:(a++b).length=2 ^ e+b.length:=by rw[List.length_append,ha]
 have hp:0<2 ^ e:=Nat.two_pow_pos _;rw[rootR_two lf nd e0 (by omega),leftN_unique (e:=e) (by omega) (by omega) (by omega),<- ha,List.take_left,List.drop_left]
def Stack (xs:List α)(l:List β)(ns:List Nat):Prop :=
 ∃(cs:List (List α)) (c:List α),xs=cs.flatten++c/\l=cs.map (rootR lf nd e0)++[rootR lf nd e0 c]/\ns=cs.map List.length++[c.length] /\
  (∀d∈cs,∃e,d.length=2 ^ e)/\(∃e,c.length=2 ^ e)/\cs.Pairwise (λa b=>b.length<a.length)/\∀d∈cs,c.length<=d.length
def Stacked (xs:List α)(l:List β)(ns:List Nat):Prop :=
 ∃cs:List (List α),xs=cs.flatten/\l=cs.map (rootR lf nd e0)/\ns=cs.map List.length/\(∀d∈cs,∃e,d.length=2 ^ e)/\cs.Pairwise (λa b=>b.length<a.length)
variable {lf nd e0}
theorem Stacked.nil :Stacked lf nd e0 [] [] []:=⟨[],rfl,rfl,rfl,by simp,List.Pairwise.nil⟩
theorem Stacked.push {xs:List α}{l:List β}{ns:List Nat}(h:Stacked lf nd e0 xs l ns)(x:α):Stack lf nd e0 (xs++[x]) (l++[lf x]) (ns++[1]):=by
 obtain⟨cs,rfl,rfl,rfl,hp,hd⟩:=h;refine⟨cs,[x],rfl,rfl,rfl,hp,⟨0,rfl⟩,hd,λd hd=>?_⟩;obtain⟨e,he⟩:=hp d hd;have:0<2 ^ e:=Nat.two_pow_pos _;show 1<=d.length;omega
theorem Stack.len {xs:List α}{l:List β}{ns:List Nat}(h:Stack lf nd e0 xs l ns):l.length=ns.length/\1<=l.length:=by
 obtain⟨cs,c,rfl,rfl,rfl,_⟩:=h;simp
theorem eq_nil_or_snoc {γ:Type}(l:List γ):l=[]∨∃a b,l=a++[b]:=by
 rcases List.eq_nil_or_concat l with h|⟨a,b,h⟩
 ·exact .inl h
 ·exact .inr ⟨a,b,by rw[h,List.concat_eq_append]⟩
theorem pairwise_snoc {γ:Type}{R:γ->γ->Prop}{a:List γ}{b:γ}:(a++[b]).Pairwise R↔a.Pairwise R/\∀x∈a,R x b:=by
 rw[List.pairwise_append];constructor
 ·rintro⟨h1,_,h3⟩
  exact⟨h1,λx hx=>h3 x hx b (by simp)⟩
 ·rintro⟨h1,h2⟩
  exact⟨h1,List.pairwise_singleton _ _,λx hx y hy=>by rw[List.mem_singleton]at hy;subst hy;exact h2 x hx⟩
theorem Stack.join {xs:List α}{l:List β}{ns:List Nat}{a b:β}{k:Nat}(h:Stack lf nd e0 xs (l++[a,b]) (ns++[k,k])):Stack lf nd e0 xs (l++[nd a b]) (ns++[2*k]):=by
 obtain⟨cs,c,rfl,hl,hn,hp,⟨e,he⟩,hd,hc⟩:=h;rw[show l++[a,b]=(l++[a])++[b] by simp]at hl;rw[show ns++[k,k]=(ns++[k])++[k] by simp]at hn;obtain⟨hl1,hl2⟩:=List.append_inj' hl rfl;obtain⟨hn1,hn2⟩:=List.append_inj' hn rfl;rcases eq_nil_or_snoc cs with rfl|⟨ds,d,rfl⟩
 ·simp at hl1
 ·rw[List.map_append]at hl1 hn1
  obtain⟨hl3,hl4⟩:=List.append_inj' hl1 rfl;obtain⟨hn3,hn4⟩:=List.append_inj' hn1 rfl;simp only[List.map_cons,List.map_nil,List.cons.injEq,and_true]at hl2 hl4 hn2 hn4;subst hl3 hn3 hl2 hl4;rw[pairwise_snoc]at hd;obtain⟨f,hf⟩:=hp d (by simp);have hfe:2 ^ f=2 ^ e:=by omega
  have hfe':f=e:=by have:=(Nat.pow_right_inj (a:=2) (by omega)).1 hfe;exact this
  refine⟨ds,d++c,by simp,?_,?_,λx hx=>hp x (by simp[hx]),⟨e+1,by rw[List.length_append,Nat.pow_succ];omega⟩,hd.1,λx hx=>?_⟩
  ·rw[rootR_join (e:=f) lf nd e0 hf (by have:=Nat.two_pow_pos e;omega) (by omega)]
  ·rw[List.length_append]
   congr 2
   omega
  ·obtain⟨g,hg⟩:=hp x (by simp[hx])
   have h1:=hd.2 x hx;have h2:f<g:=(Nat.pow_lt_pow_iff_right (a:=2) (by omega)).1 (by omega);have h3:2 ^ (f+1)<=2 ^ g:=Nat.pow_le_pow_right (by omega) h2;rw[Nat.pow_succ]at h3;rw[List.length_append];omega
theorem Stack.done1 {xs:List α}{a:β}{k:Nat}(h:Stack lf nd e0 xs [a] [k]):Stacked lf nd e0 xs [a] [k]:=by
 obtain⟨cs,c,rfl,hl,hn,hp,hc,hd,hle⟩:=h;refine⟨cs++[c],by simp,by rw[hl];simp,by rw[hn];simp,λd hd=>?_,?_⟩
 ·rcases List.mem_append.1 hd with h|h
  ·exact hp d h
  ·rw[List.mem_singleton]at h;subst h;exact hc
 ·rw[pairwise_snoc]
  refine⟨hd,λx hx=>?_⟩;have:cs=[]:=by
   have:=congrArg List.length hn;simp at this;exact this
  rw[this]at hx;cases hx
theorem Stack.done {xs:List α}{l:List β}{ns:List Nat}{j k:Nat}(h:Stack lf nd e0 xs l (ns++[j,k]))(hjk:j≠k):Stacked lf nd e0 xs l (ns++[j,k]):=by
 obtain⟨cs,c,rfl,hl,hn,hp,hc,hd,hle⟩:=h;refine⟨cs++[c],by simp,by rw[hl];simp,by rw[hn];simp,λd hd=>?_,?_⟩
 ·rcases List.mem_append.1 hd with h|h
  ·exact hp d h
  ·rw[List.mem_singleton]at h;subst h;exact hc
 ·rw[pairwise_snoc]
  refine⟨hd,λx hx=>?_⟩;rw[show ns++[j,k]=(ns++[j])++[k] by simp]at hn;obtain⟨hn1,hn2⟩:=List.append_inj' hn rfl;simp only[List.cons.injEq,and_true]at hn2;rcases eq_nil_or_snoc cs with rfl|⟨ds,d,rfl⟩
  ·cases hx
  ·rw[List.map_append]at hn1
   obtain⟨hn3,hn4⟩:=List.append_inj' hn1 rfl;simp only[List.map_cons,List.map_nil,List.cons.injEq,and_true]at hn4;rw[pairwise_snoc]at hd;have h1:=hle d (by simp);rcases List.mem_append.1 hx with h|h
   ·have:=hd.2 x h
    omega
   ·rw[List.mem_singleton]at h
    subst h;omega
theorem flat_lt :∀(cs:List (List α)) (e:Nat),(∀d∈cs,∃f,d.length=2 ^ f)->cs.Pairwise (λa b=>b.length<a.length)->(∀d∈cs,d.length<2 ^ e)->cs.flatten.length<2 ^ e
 | [],e,_,_,_=>Nat.two_pow_pos e
 | c::cs,e,hp,hd,hb=>by
   obtain⟨f,hf⟩:=hp c (by simp);rw[List.pairwise_cons]at hd;have h1:=flat_lt cs f (λd hd=>hp d (by simp[hd])) hd.2 (λd hx=>by have:=hd.1 d hx;omega);have h2:=hb c (by simp);have h3:f<e:=(Nat.pow_lt_pow_iff_right (a:=2) (by omega)).1 (by omega);have h4:2 ^ (f+1)<=2 ^ e:=Nat.pow_le_pow_right (by omega) h3;rw[Nat.pow_succ]at h4;rw[List.flatten_cons,List.length_append];omega
theorem fold_root :∀(cs:List (List α)) (l:List β) (d:β),cs.map (rootR lf nd e0)=l++[d]->(∀d∈cs,∃f,d.length=2 ^ f)->cs.Pairwise (λa b=>b.length<a.length)->l.foldr nd d=rootR lf nd e0 cs.flatten
 | [],l,d,h,_,_=>by simp at h
 | [c],l,d,h,_,_=>by
   match l,h with
   | [],h=>simp at h ⊢;exact h.symm
   | x::l,h=>simp at h
 | c::b::cs,l,d,h,hp,hd=>by
   match l,h with
   | [],h=>simp at h
   | x::l,h =>
     rw[List.map_cons,List.cons_append,List.cons.injEq]at h;rw[List.pairwise_cons]at hd;obtain⟨e,he⟩:=hp c (by simp);have h1:=fold_root (b::cs) l d h.2 (λd hd=>hp d (by simp[hd])) hd.2;have h2:=flat_lt (b::cs) e (λd hd=>hp d (by simp[hd])) hd.2 (λd hx=>by have:=hd.1 d hx;omega);have h3:0<(b::cs).flatten.length:=by
      obtain⟨f,hf⟩:=hp b (by simp);have:=Nat.two_pow_pos f;rw[List.flatten_cons,List.length_append];omega
     rw[List.foldr_cons,h1,<- h.1,show(c::b::cs).flatten=c++(b::cs).flatten from rfl,rootR_join lf nd e0 he h3 (by omega)]
theorem Stacked.root {xs:List α}{l:List β}{ns:List Nat}{d:β}(h:Stacked lf nd e0 xs (l++[d]) ns):l.foldr nd d=rootR lf nd e0 xs:=by
 obtain⟨cs,rfl,hl,_,hp,hd⟩:=h;exact fold_root cs l d hl.symm hp hd
theorem Stacked.len {xs:List α}{l:List β}{ns:List Nat}(h:Stacked lf nd e0 xs l ns):l.length=ns.length:=by
 obtain⟨cs,rfl,rfl,rfl,_⟩:=h;simp
theorem le_sum :∀{l:List Nat} {k:Nat},k∈l->k<=l.sum
 | [],_,h=>by cases h
 | x::l,k,h=>by
   rw[List.sum_cons];rcases List.mem_cons.1 h with rfl|h
   ·omega
   ·have:=le_sum h
    omega
theorem Stacked.le {xs:List α}{l:List β}{ns:List Nat}(h:Stacked lf nd e0 xs l ns):∀k∈ns,k<=xs.length:=by
 obtain⟨cs,rfl,rfl,rfl,_⟩:=h;intro k hk;obtain⟨c,hc,rfl⟩:=List.mem_map.1 hk;rw[List.length_flatten];exact le_sum hk
theorem Stack.le {xs:List α}{l:List β}{ns:List Nat}(h:Stack lf nd e0 xs l ns):∀k∈ns,k<=xs.length:=by
 obtain⟨cs,c,rfl,rfl,rfl,_⟩:=h;intro k hk;rw[List.length_append];rcases List.mem_append.1 hk with h|h
 ·have:k<=cs.flatten.length:=by
   rw[List.length_flatten];exact le_sum h
  omega
 ·rw[List.mem_singleton]at h
  omega
end
end Rp
namespace Go.Proofs.YtnehgpeelgjjhaaGreatDoor.Tw
open Go.Proofs.Tryz
section
open Go.RowKit
theorem rin_any (n lo hi:Int)(w:World):Calls prog 38 #[.int .i64 n,.int .i64 lo,.int .i64 hi] w λe w'=>e=.returned (.bool (Rp.inr n lo hi))/\w=w':=by
 unfold Rp.inr
 by_cases h:n<lo
 ·have h1:¬lo<=n:=by omega
  have hd:(decide (lo<=n)&&decide (n<=hi))=false:=by simp[h1]
  rw[hd]
  go_enter func38,ntmps38
  go_wp2;go_ret;exact⟨rfl,rfl⟩
 ·have h1:lo<=n:=by omega
  have hd:(decide (lo<=n)&&decide (n<=hi))=decide (n<=hi):=by simp[h1]
  rw[hd];clear hd
  go_enter func38,ntmps38
  go_wp2;go_ret;exact⟨rfl,rfl⟩
theorem before_flat (a b:Rp.Post):Rp.before a b=if a.epoch=b.epoch then (if a.origin=b.origin then decide (a.number<b.number)else decide (a.origin<b.origin))else decide (a.epoch<b.epoch):=by
 unfold Rp.before
 by_cases h:a.epoch=b.epoch
 ·rw[if_pos h]
  by_cases h2:a.origin=b.origin
  ·rw[if_pos h2];simp[h,h2]
  ·rw[if_neg h2];simp[h,h2]
 ·rw[if_neg h];simp[h]
theorem rbefore_any (a b:Rp.Post)(w:World):Calls prog 88 #[aggP a,aggP b] w λe w'=>e=.returned (.bool (Rp.before a b))/\Below w.heap.size w w':=by
 rw[before_flat];unfold aggP
 by_cases h:a.epoch=b.epoch
 ·rw[if_pos h]
  by_cases h2:a.origin=b.origin
  ·rw[if_pos h2]
   go_enter func88,ntmps88
   go_wp2;go_ret;exact⟨rfl,by repeat(first|exact Below.refl _ _|refine Below.drew ?_|refine Below.alloc ?_ (by simp;try omega) _)⟩
  ·rw[if_neg h2]
   go_enter func88,ntmps88
   go_wp2;go_ret;exact⟨rfl,by repeat(first|exact Below.refl _ _|refine Below.drew ?_|refine Below.alloc ?_ (by simp;try omega) _)⟩
 ·rw[if_neg h]
  go_enter func88,ntmps88
  go_wp2;go_ret;exact⟨rfl,by repeat(first|exact Below.refl _ _|refine Below.drew ?_|refine Below.alloc ?_ (by simp;try omega) _)⟩
theorem count_take {l:List Rp.Post}{j:Nat}{p:Rp.Post}(o:Int)(h:l[j]?=some p):Rp.count (l.take (j+1)) o=Rp.count (l.take j) o+if p.origin=o then 1 else 0:=by
 rw[List.take_add_one,h];exact Rp.count_snoc _ _ _
theorem rcount_any (w:World)(A:Option Addr)(n c:Nat)(l:List Rp.Post)(o:Int)(hx:Reads w w.heap.size 4 A n (encPs l))(hl:l.length=n)(hn:n<=16777216) :
 Calls prog 45 #[.slice A n c,.int .i64 o] w λe w'=>e=.returned (.int .i64 (Rp.count l o))/\w=w':=by
 have HL:=hid hl;have HX:=hid hx;clear hx hl;have HB:Hid (∀j,Rp.count (l.take j) o<=j/\0<=Rp.count (l.take j) o):=hid λj=>by
  unfold Rp.count Rp.own;have h1:=List.length_filter_le (λp:Rp.Post=>decide (p.origin=o)) (l.take j);rw[List.length_take]at h1;omega
 go_enter func45,ntmps45
 go_wp2_with fail
 go_loopw [5,6] (λs q wr=>∃j:Nat,j<=n/\s=.int .i64 (Rp.count (l.take j) o)/\q=.int .i64 j/\wr=w) (λ_ q _=>n - (intOf q).toNat)
 case atStart=>exact⟨0,by omega,rfl,rfl,rfl⟩
 case round =>
  obtain⟨j,hj,rfl,rfl,rfl⟩:=hrel
  by_cases hlj:j<n
  ·obtain⟨b,off,y,rfl,hbl,hq,h0,h1,h2,h3⟩:=HX.out.post HL.out hlj
   have hct:=hid (count_take o hq);have hbd:=HB.out j;generalize Rp.count (l.take j) o=cv at hct hbd ⊢;clear hq
   by_cases ho:y.origin=o
   ·go_wp2_with fail
    go_roundw
    case rel=>exact⟨j+1,by omega,by rw[hct.out,if_pos ho],by go_num,trivial⟩
    case measure=>simp[intOf];omega
   ·go_wp2_with fail
    go_roundw
    case rel=>exact⟨j+1,by omega,by rw[hct.out,if_neg ho,Int.add_zero],by go_num,trivial⟩
    case measure=>simp[intOf];omega
  ·have hjn:j=n:=by omega
   subst hjn;rw[List.take_of_length_le (by rw[HL.out];omega)]
   go_wp2_with fail
   go_ret;exact⟨rfl,rfl⟩
theorem rheard_any (w:World)(A:Option Addr)(n c:Nat)(xs:List Int)(many most:Int)(hx:Reads w w.heap.size 1 A n (xs.map (Value.int .i64)))(hn:n<=16777216) :
 Calls prog 60 #[.slice A n c,.int .i64 many,.int .i64 most] w λe w'=>e=.returned (.bool (Rp.isHeard xs many most))/\w=w':=by
 have hlen:xs.length=n:=by have:=hx.1;simpa using this
 have HX:=hid hx;have HL:=hid hlen;clear hx;obtain⟨res,hres⟩:∃res,res=Rp.isHeard xs many most:=⟨_,rfl⟩;rw[<- hres];have HR:=hid hres;clear hres hlen
 go_enter func60,ntmps60
 go_wp2_with fail
 go_loopw [7] (λq wr=>∃j:Nat,j<=n/\q=.int .i64 j/\(xs.take j).all (λn=>Rp.inr n 0 most)=true/\wr=w) (λq _=>n - (intOf q).toNat)
 case atStart=>exact⟨0,by omega,rfl,rfl,rfl⟩
 case round =>
  obtain⟨j,hj,rfl,hall,rfl⟩:=hrel;have HA:=hid hall;clear hall
  by_cases hlj:j<n
  ·obtain⟨b,off,rfl,hbl,hcell⟩:=HX.out.2 (by omega)
   obtain⟨x,hx⟩:∃x,xs[j]?=some x:=⟨_,List.getElem?_eq_getElem (by rw[HL.out];exact hlj)⟩;have h0:=hcell j (.int .i64 x) (by rw[List.getElem?_map,hx];rfl);have HQ:=hid hx;clear hcell hx;cases hin:Rp.inr x 0 most
   ·have HI:=hid hin
    clear hin
    go_wp2_with (go_at_call 38;refine(rin_any _ _ _ _).mono ?_;rw[HI.out];rintro e w' ⟨rfl,rfl⟩)
    have hno:res=false:=by
     rw[HR.out];unfold Rp.isHeard;have h1:xs.all (λn=>Rp.inr n 0 most)=false:=by
      rw[List.all_eq_false];exact⟨x,List.mem_of_getElem? HQ.out,by rw[HI.out];simp⟩
     rw[h1,Bool.and_false]
    subst hno;exact bodyPost_ret (v:=.bool false) (by simp[results,results60,go_sem]) rfl ⟨rfl,rfl⟩
   ·have HI:=hid hin
    clear hin
    go_wp2_with (go_at_call 38;refine(rin_any _ _ _ _).mono ?_;rw[HI.out];rintro e w' ⟨rfl,rfl⟩)
    go_roundw
    case rel=>exact⟨j+1,by omega,by go_num,by rw[List.take_add_one,HQ.out,List.all_append,HA.out];simp[HI.out],trivial⟩
    case measure=>simp[intOf];omega
  ·have hjn:j=n:=by omega
   subst hjn;have hfin:res=decide ((j:Int)=many):=by
    rw[HR.out];unfold Rp.isHeard;have:=HA.out;rw[List.take_of_length_le (by rw[HL.out];omega)]at this;rw[this,Bool.and_true,HL.out]
   subst hfin
   go_wp2_with fail
   go_ret;exact⟨rfl,rfl⟩
end
end Go.Proofs.YtnehgpeelgjjhaaGreatDoor.Tw
namespace Rp
theorem logGo_append (many:Int):∀(a b pre:List Post),logGo many pre (a++b)=(logGo many pre a&&logGo many (pre++a) b)
 | [],b,pre=>by simp[logGo]
 | p::a,b,pre=>by
   simp only[List.cons_append,logGo,logGo_append many a b (pre++[p]),Bool.and_assoc,List.append_assoc,List.nil_append]
theorem logGo_snoc (many:Int)(l:List Post)(p:Post):logGo many [] (l++[p])=(logGo many [] l&&stepOk many l p):=by
 rw[logGo_append];simp[logGo]
theorem logGo_step {many:Int}{l:List Post}{i:Nat}{p:Post}(h:l[i]?=some p):logGo many [] (l.take (i+1))=(logGo many [] (l.take i)&&stepOk many (l.take i) p):=by
 rw[List.take_add_one,h];exact logGo_snoc _ _ _
theorem logGo_bad {many:Int}{l:List Post}(k:Nat)(h:logGo many [] (l.take k)=false):isLog l many=false:=by
 unfold isLog;have e:logGo many [] l=(logGo many [] (l.take k)&&logGo many (l.take k) (l.drop k)):=by
  have:=logGo_append many (l.take k) (l.drop k) [];rw[List.take_append_drop]at this;exact this
 rw[e,h];simp
theorem linked_zero (l:List Post)(p:Post):linked (l.take 0) p=true:=rfl
theorem linked_succ {l:List Post}{m:Nat}{q:Post}(h:l[m]?=some q)(p:Post):linked (l.take (m+1)) p=before q p:=by
 rw[List.take_add_one,h];simp[linked]
def fresh (pre:List Post)(p:Post):Bool:=pre.all λy=>!(decide (y.origin=p.origin)&&decide (y.epoch=p.epoch))
theorem lastE_le {pre:List Post}{o:Int}(hs:Sorted pre){y:Post}(hy:y∈pre)(ho:y.origin=o):y.epoch<=lastE pre o:=by
 have h1:y∈own pre o:=mem_own.2 ⟨hy,ho⟩;have h2:Sorted (own pre o):=hs.filter _;unfold lastE;rcases List.eq_nil_or_concat (own pre o)with e|⟨L,q,e⟩
 ·rw[e]at h1;cases h1
 ·rw[List.concat_eq_append]at e
  rw[e]at h1 h2 ⊢;simp only[List.getLast?_append,List.getLast?_singleton,Option.some_or];rcases List.mem_append.1 h1 with h|h
  ·have:=(List.pairwise_append.1 h2).2.2 y h q (by simp)
   rw[before_iff]at this;omega
  ·simp at h;rw[h];exact Int.le_refl _
theorem fresh_eq {many:Int}{pre:List Post}{p:Post}(hl:logGo many [] pre=true)(hf:formed many p=true)(hk:linked pre p=true):fresh pre p=decide (lastE pre p.origin<p.epoch):=by
 have hlinks:=((logGo_iff many pre []).1 hl).2.1;have hsort:Sorted pre:=by simpa using links_sorted pre [] List.Pairwise.nil hlinks
 have hsort2:Sorted (pre++[p]):=links_sorted [p] pre hsort ⟨hk,trivial⟩;have hpos:=(formed_iff.1 hf).1.1
 by_cases h:lastE pre p.origin<p.epoch
 ·rw[decide_eq_true h]
  unfold fresh;rw[List.all_eq_true];intro y hy
  by_cases ho:y.origin=p.origin
  ·have h1:=lastE_le hsort hy ho
   have:¬y.epoch=p.epoch:=by omega
   simp[this]
  ·simp[ho]
 ·rw[decide_eq_false h]
  unfold fresh;rw[List.all_eq_false];unfold lastE at h;rcases List.eq_nil_or_concat (own pre p.origin)with e|⟨L,q,e⟩
  ·rw[e]at h;simp at h;omega
  ·rw[List.concat_eq_append]at e
   rw[e]at h;simp only[List.getLast?_append,List.getLast?_singleton,Option.some_or]at h;have hq:q∈own pre p.origin:=by rw[e];simp
   obtain⟨hq1,hq2⟩:=mem_own.1 hq;have hb:=(List.pairwise_append.1 hsort2).2.2 q hq1 p (by simp);rw[before_iff]at hb;have he:q.epoch=p.epoch:=by omega
   exact⟨q,hq1,by simp[hq2,he]⟩
theorem stepOk_eq {many:Int}{pre:List Post}{p:Post}(hl:logGo many [] pre=true):stepOk many pre p=(formed many p&&(linked pre p&&(decide (p.number=count pre p.origin)&&fresh pre p))):=by
 unfold stepOk
 by_cases hf:formed many p=true
 ·by_cases hk:linked pre p=true
  ·rw[fresh_eq hl hf hk]
  ·simp only[Bool.not_eq_true]at hk;rw[hk];simp
 ·simp only[Bool.not_eq_true]at hf;rw[hf];simp
theorem fresh_take {l:List Post}{k:Nat}{y p:Post}(h:l[k]?=some y):fresh (l.take (k+1)) p=(fresh (l.take k) p&&!(decide (y.origin=p.origin)&&decide (y.epoch=p.epoch))):=by
 rw[List.take_add_one,h];simp[fresh]
theorem fresh_bad {l:List Post}{p:Post}{k i:Nat}(hk:k<=i)(h:fresh (l.take k) p=false):fresh (l.take i) p=false:=by
 have e:l.take i=l.take k++(l.take i).drop k:=by
  have h1:=List.take_append_drop k (l.take i);rw[List.take_take,Nat.min_eq_left hk]at h1;exact h1.symm
 rw[e];unfold fresh at h ⊢;rw[List.all_append,h];rfl
end Rp
namespace Go.Proofs.YtnehgpeelgjjhaaGreatDoor.Tw
open Go.Proofs.Tryz
section
open Go.RowKit
theorem info64 :(prog.info? 64).map (λi=>(i.zero,i.size,i.bytes))=some (some (.agg #[.int .i64 0,.int .i64 0,.int .i64 0,.string ⟨#[]⟩]),4,40):=by kernel_rfl
theorem encMo_snoc (l:List Rp.Motion)(m:Rp.Motion):encMo (l++[m])=encMo l++moE m:=by simp[encMo]
end
section
open Go.RowKit
theorem pick_pos {c:Int}{n:Nat}(h:0<=c)(hn:0<n):c.tmod (n:Int)=(Rp.pick c n:Int):=by
 unfold Rp.pick;rw[if_neg (by omega),Int.tmod_eq_emod_of_nonneg h];have:=Int.emod_nonneg c (show(n:Int)≠0 by omega);omega
theorem pick_neg {c:Int}{n:Nat}(h:c<0)(hn:0<n):(-(c+1)).tmod (n:Int)=(Rp.pick c n:Int):=by
 unfold Rp.pick;rw[if_pos h,Int.tmod_eq_emod_of_nonneg (by omega)];have:=Int.emod_nonneg (-(c+1)) (show(n:Int)≠0 by omega);omega
theorem pick_any (c:Int)(n:Nat)(w:World)(h0:0<n)(hn:n<=1000)(hc:Hid (IntKind.i64.wrap (c+1)=c+1/\IntKind.i64.wrap (-(c+1)) = -(c+1)∨0<=c)) :
 Calls prog 40 #[.int .i64 c,.int .i64 n] w λe w'=>e=.returned (.int .i64 (Rp.pick c n))/\w=w':=by
 have hz:¬(n:Int)=0:=by omega
 have HZ:=hz
 go_enter func40,ntmps40
 by_cases hlt:c<0
 ·have HP:=hid (pick_neg hlt h0)
  obtain⟨w1,w2⟩:IntKind.i64.wrap (c+1)=c+1/\IntKind.i64.wrap (-(c+1)) = -(c+1):=by
   rcases hc.out with h|h
   ·exact h
   ·omega
  go_wp2;go_ret;exact⟨ret_int (by rw[<- HP.out,Int.neg_tmod]),rfl⟩
 ·have HP:=hid (pick_pos (c:=c) (n:=n) (by omega) h0)
  go_wp2;go_ret;exact⟨ret_int (by rw[<- HP.out,Int.tmod_eq_emod_of_nonneg (by omega)]),rfl⟩
theorem pickL_any (c:Int)(n:Nat)(w:World)(h0:0<n)(hn:n<=1000)(hc:Hid (IntKind.i64.wrap (c+1)=c+1/\IntKind.i64.wrap (-(c+1)) = -(c+1)∨0<=c)) :
 Calls prog 8 #[.int .i64 c,.int .i64 n] w λe w'=>e=.returned (.int .i64 (Rp.pick c n))/\w=w':=by
 have hz:¬(n:Int)=0:=by omega
 have HZ:=hz
 go_enter func8,ntmps8
 by_cases hlt:c<0
 ·have HP:=hid (pick_neg hlt h0)
  obtain⟨w1,w2⟩:IntKind.i64.wrap (c+1)=c+1/\IntKind.i64.wrap (-(c+1)) = -(c+1):=by
   rcases hc.out with h|h
   ·exact h
   ·omega
  go_wp2;go_ret;exact⟨ret_int (by rw[<- HP.out,Int.neg_tmod]),rfl⟩
 ·have HP:=hid (pick_pos (c:=c) (n:=n) (by omega) h0)
  go_wp2;go_ret;exact⟨ret_int (by rw[<- HP.out,Int.tmod_eq_emod_of_nonneg (by omega)]),rfl⟩
theorem pick_wrap {c:Int}(h : -9223372036854775808<=c/\c<=9223372036854775807):Hid (IntKind.i64.wrap (c+1)=c+1/\IntKind.i64.wrap (-(c+1)) = -(c+1)∨0<=c):=by
 refine hid ?_
 by_cases h0:0<=c
 ·exact .inr h0
 ·exact .inl ⟨IntWalk.i64_in _ (by omega),IntWalk.i64_in _ (by omega)⟩
end
section
open Go.RowKit
def enc3 (l:List (Int×Int×Int)):List Value:=l.flatMap λx=>[.int .i64 x.1,.int .i64 x.2.1,.int .i64 x.2.2]
theorem enc3_get :∀(l:List (Int×Int×Int)) (j:Nat) (p:Int×Int×Int) (i:Nat),l[j]?=some p->i<3->(enc3 l)[j*3+i]?=([.int .i64 p.1,.int .i64 p.2.1,.int .i64 p.2.2]:List Value)[i]?
 | [],j,p,i,h,_=>by simp at h
 | q::l,0,p,i,h,hi=>by
   simp at h;subst h;show(_++enc3 l)[0*3+i]?=_;rw[List.getElem?_append_left (by simp;omega)];simp
 | q::l,j+1,p,i,h,hi=>by
   show(_++enc3 l)[(j+1)*3+i]?=_;rw[List.getElem?_append_right (by simp;omega)];have:(j+1)*3+i - ([.int .i64 q.1,.int .i64 q.2.1,.int .i64 q.2.2]:List Value).length=j*3+i:=by simp;omega
   rw[this];exact enc3_get l j p i (by simpa using h) hi
theorem Reads.three {w:World}{B n:Nat}{A:Option Addr}{l:List (Int×Int×Int)}(h:Reads w B 3 A n (enc3 l))(hl:l.length=n){j:Nat}(hj:j<n) :
 ∃b off p,A=some ⟨b,off,none⟩/\b<B/\l[j]?=some p/\w.cell? ⟨b,off+j*3,none⟩=some (.int .i64 p.1)/\w.cell? ⟨b,off+j*3+1,none⟩=some (.int .i64 p.2.1)/\w.cell? ⟨b,off+j*3+2,none⟩=some (.int .i64 p.2.2):=by
 obtain⟨b,off,e,hb,hc⟩:=h.2 (by omega);have hp:l[j]?=some l[j]:=List.getElem?_eq_getElem (by omega);refine⟨b,off,l[j],e,hb,hp,?_,?_,?_⟩
 ·have:=hc (j*3+0) _ (enc3_get l j _ 0 hp (by omega));simpa using this
 ·have:=hc (j*3+1) _ (enc3_get l j _ 1 hp (by omega));simpa[Nat.add_assoc]using this
 ·have:=hc (j*3+2) _ (enc3_get l j _ 2 hp (by omega));simpa[Nat.add_assoc]using this
def goTo (many:Nat)(xs:List (Int×Int×Int))(i:Nat):List Rp.Motion:=Rp.motionsGo many 0 (xs.take i)
theorem motionsGo_snoc (many:Nat)(x:Int×Int×Int):∀(l:List (Int×Int×Int)) (s:Nat),Rp.motionsGo many s (l++[x])=Rp.motionsGo many s l++(Rp.motionOf many (s+Rp.sendsOf (Rp.motionsGo many s l)) x).toList
 | [],s=>by
   simp only[List.nil_append,Rp.motionsGo];have:s+Rp.sendsOf []=s:=rfl;rw[this];cases Rp.motionOf many s x<;>simp
 | y::l,s=>by
   simp only[List.cons_append,Rp.motionsGo];cases h:Rp.motionOf many s y with
   | none=>simp only;exact motionsGo_snoc many x l s
   | some m =>
     simp only;rw[motionsGo_snoc many x l (s+m.sends),Rp.sendsOf_cons,List.cons_append,Nat.add_assoc]
theorem goTo_succ {many:Nat}{xs:List (Int×Int×Int)}{i:Nat}{x:Int×Int×Int}(h:xs[i]?=some x) :
 goTo many xs (i+1)=goTo many xs i++(Rp.motionOf many (Rp.sendsOf (goTo many xs i)) x).toList:=by
 unfold goTo;have h2:xs.take (i+1)=xs.take i++[x]:=by rw[List.take_add_one,h];rfl
 rw[h2,motionsGo_snoc,Nat.zero_add]
theorem goTo_length (many:Nat)(xs:List (Int×Int×Int))(i:Nat):(goTo many xs i).length<=i:=by
 have:=Rp.motionsGo_length (many:=many) (xs.take i) 0;have h2:(xs.take i).length<=i:=by rw[List.length_take];omega
 unfold goTo;omega
theorem motionsOf_any (w:World)(many:Nat)(A:Option Addr)(n c:Nat)(xs:List (Int×Int×Int))(hx:Reads w w.heap.size 3 A n (enc3 xs))(hl:xs.length=n)(hm:1<=many)(hm5:many<=5)
 (hw:∀x∈xs,(-9223372036854775808<=x.1/\x.1<=9223372036854775807)/\(-9223372036854775808<=x.2.1/\x.2.1<=9223372036854775807)/\(-9223372036854775808<=x.2.2/\x.2.2<=9223372036854775807)) :
 Calls prog 9 #[.int .i64 many,.slice A n c,.slice none 0 0] w λe w'=>∃A' n' c',e=.returned (.slice A' n' c')/\w'.ownsRow w.heap.size 64 4 (.slice A' n' c') n' (encMo (Rp.motions many xs))/\(Rp.motions many xs).length=n'/\n'<=c'/\Below w.heap.size w w':=by
 obtain⟨i0,hi0,hz0,hz1,hz2⟩:=info_parts info64;have HX:=hid hx;have HL:=hid hl;have HWF:=hid hw;clear hx hl hw
 go_enter func9,ntmps9
 go_wp2
 go_loopw [7,8,9,10] (λs sv kv q wr=>∃(i:Nat) (A':Option Addr) (n' c' kk:Nat),i<=n/\i<=60/\q=.int .i64 i/\kv=.int .i64 kk/\kk<=i/\s=.slice A' n' c'/\sv=.int .i64 (Rp.sendsOf (goTo many xs i)) /\
  Hid (wr.ownsRow w.heap.size 64 4 (.slice A' n' c') n' (encMo (goTo many xs i))/\(goTo many xs i).length=n'/\n'<=c')/\Below w.heap.size w wr) (λ_ _ _ q _=>n - (intOf q).toNat)
 case atStart=>exact⟨0,none,0,0,0,by omega,by omega,rfl,rfl,by omega,rfl,rfl,hid ⟨World.ownsRow_nil _ _ _ _,rfl,Nat.le_refl _⟩,Below.refl _ _⟩
 case round =>
  obtain⟨i,A',n',c',kk,hi,hi60,rfl,rfl,hkk,rfl,rfl,hO,hb⟩:=hrel
  by_cases hlt:i<n
  ·by_cases hlt60:i<60
   ·obtain⟨b,off,x,rfl,hbl,hq,h0,h1,h2⟩:=HX.out.three HL.out hlt
    rw[<- hb.cell (p:=⟨b,_,none⟩) hbl]at h0 h1 h2;obtain⟨x0,x1,x2⟩:=x;obtain⟨wx0,wx1,wx2⟩:=HWF.out _ (List.mem_of_getElem? hq);simp only at h0 h1 h2 wx0 wx1 wx2;have HP0:Hid (∀W,Calls prog 40 #[.int .i64 x0,.int .i64 3] W λe w'=>e=.returned (.int .i64 (Rp.pick x0 3))/\W=w'):=hid λW=>pick_any x0 3 W (by omega) (by omega) (pick_wrap wx0)
    have HP1:=hid (pick_any x1 many · (by omega) (by omega) (pick_wrap wx1));have HP2:Hid (∀W,Calls prog 40 #[.int .i64 x2,.int .i64 3] W λe w'=>e=.returned (.int .i64 (Rp.pick x2 3))/\W=w'):=hid λW=>pick_any x2 3 W (by omega) (by omega) (pick_wrap wx2)
    have HG:=hid (goTo_succ (many:=many) hq);have hp0:=Rp.pick_lt x0 (show 0<3 by omega);have hp1:=Rp.pick_lt x1 (show 0<many by omega);have hp2:=Rp.pick_lt x2 (show 0<3 by omega);have HW2:=hid wx2;clear wx0 wx1 wx2 hq;obtain⟨p0,e0⟩:∃p0,p0=Rp.pick x0 3:=⟨_,rfl⟩;obtain⟨p1,e1⟩:∃p1,p1=Rp.pick x1 many:=⟨_,rfl⟩;rw[<- e0]at HP0 hp0;rw[<- e1]at HP1 hp1;have E0:=hid e0;have E1:=hid e1;clear e0 e1;have hsle:Rp.sendsOf (goTo many xs i)<=60:=by
     have:=goTo_length many xs i;have h2:∀l:List Rp.Motion,Rp.sendsOf l<=l.length:=λl=>by have:=sendsOf_take_le l l.length;rwa [List.take_length]at this
     have:=h2 (goTo many xs i);omega
    obtain⟨sj,es⟩:∃sj,sj=Rp.sendsOf (goTo many xs i):=⟨_,rfl⟩;rw[<- es]at hsle ⊢;have ES:=hid es;clear es;have h3:p0=0∨p0=1∨p0=2:=by omega
    rcases h3 with rfl|rfl|rfl
    ·obtain⟨p2,e2⟩:∃p2,p2=Rp.pick x2 3:=⟨_,rfl⟩
     rw[<- e2]at HP2 hp2;have E2:=hid e2;clear e2;have h4:p2=0∨p2=1∨p2=2:=by omega
     have hx2a:∀o,(wr.alloc o).cell? ⟨b,off+i*3+2,none⟩=some (.int .i64 x2):=λo=>(World.cell?_alloc_some wr _ o (by rw[h2];rfl)).trans h2
     have e3:=World.new_ne wr _ h0;go_wp2
     go_region_held3 (λw'=>w'.cell? ⟨b,off+i*3,none⟩=some (.int .i64 x0)/\w'.cell? ⟨b,off+i*3+1,none⟩=some (.int .i64 x1))
      (go_keep)
      (first
        | (go_at_call 40
           first
            | (with_reducible refine(HP0.out _).mono ?_;rintro e _ ⟨rfl,rfl⟩)
            | (with_reducible refine(HP1.out _).mono ?_;rintro e _ ⟨rfl,rfl⟩)))
     all_goals
      obtain⟨W1,hW1⟩:∃W1,W1=(wr.alloc (.cells #[.int .i64 1,.int .i64 p1,.int .i64 0,.string ⟨#[]⟩] 64)).drew:=⟨_,rfl⟩;have HWx:=hid hW1;have hG1:Blk W1 wr.heap.size 64 #[.int .i64 1,.int .i64 p1,.int .i64 0,.string ⟨#[]⟩]:=by rw[hW1];exact(Blk.new _ _ _).drew
      have hb1:Below wr.heap.size wr W1:=by rw[hW1];exact((Below.refl _ _).alloc (Nat.le_refl _) _).drew
      have hO1:Hid (W1.ownsRow w.heap.size 64 4 (.slice A' n' c') n' (encMo (goTo many xs i))):=hid (own_below hO.out.1 hb1);have hs1:=hb1.size;have hlb:b<wr.heap.size:=by have:=hb.size;omega
      have y2:=(hb1.cell (p:=⟨b,off+i*3+2,none⟩) hlb).trans h2;have y2a:∀o,(W1.alloc o).cell? ⟨b,off+i*3+2,none⟩=some (.int .i64 x2):=λo=>(World.cell?_alloc_some W1 _ o (by rw[y2];rfl)).trans y2
      obtain⟨d0,d1,d2,d3⟩:=hG1.cells4;have f3:=hG1.frozen 3;have e0:=World.new_ne W1 _ d0;have hGl:=hG1.lt;have d3a:∀o,(W1.alloc o).cell? ⟨wr.heap.size,3,none⟩=some (.string ⟨#[]⟩):=λo=>(World.cell?_alloc_some W1 _ o (by rw[d3];rfl)).trans d3
      have f3a:∀o,(W1.alloc o).frozen? ⟨wr.heap.size,3,none⟩=false:=λo=>(((Below.refl W1.heap.size W1).alloc (Nat.le_refl _) o).frozen (p:=⟨wr.heap.size,3,none⟩) hGl).trans f3
      rw[show IntKind.i64.wrap 1=1 from IntWalk.i64_in _ (by omega)];rw[<- hW1];clear hW1;have hNG:(Value.slice A' n' c').ownBlock≠some wr.heap.size:=λe=>by have:=(hO.out.1.lt _ e).2;omega
      have hn60:n'<=60:=by have h1:=goTo_length many xs i;have h2:=hO.out.2.1;omega
      have hws:=hb.size;rcases h4 with rfl|rfl|rfl
      ·go_wp2_with (first
        | (go_at_call 40
           refine(HP2.out _).mono ?_;rintro e _ ⟨rfl,rfl⟩)
        | (at_builtin
           refine wpList_append_lies _ (by rfl) _ _ 36 (by rfl) w.heap.size 64 i0 _ 4 40 underlying36 hi0 hz0 hz1 hz2 rfl (by omega) (.slice A' n' c') n' (encMo (goTo many xs i)) (by rfl) (((own_far hO1.out (p:=⟨wr.heap.size,3,none⟩) hNG _).alloc _).alloc _)
            ⟨W1.heap.size+1,0,none⟩ 1 1 [.int .i64 1,.int .i64 p1,.int .i64 0,.string ⟨#[]⟩] (by rfl) (by rfl)
            (World.news_of_block (cs:=#[.int .i64 1,.int .i64 p1,.int .i64 0,.string ⟨#[]⟩]) (t:=64) (fr:=(0,0)) (by simpa using heap_alloc_new ((W1.setCell ⟨wr.heap.size,3,none⟩ (.string ⟨#[]⟩)).alloc (.cells #[.string ⟨#[]⟩,.string ⟨#[97]⟩,.string ⟨#[98,99]⟩] 9)) (.cells #[.int .i64 1,.int .i64 p1,.int .i64 0,.string ⟨#[]⟩] 64))) (by simp[Value.oneCell'])
            (by omega) (by simp only[maxLen];omega) (by omega) (by simp;omega) (W1.heap.size+1+1) (by simp) ?_
           intro g cap w5 hown5 hgrow hat hlt5))
       have hgt:goTo many xs (i+1)=goTo many xs i++[.write p1 (Rp.textOf 0)]:=by
        rw[HG.out];unfold Rp.motionOf;simp only[<- E0.out,<- E1.out,<- E2.out];rfl
       have hcc:n'+1<=cap:=by
        obtain⟨_,_,e,hc⟩:=own_slice hown5;injection e with _ _ e
        rw[e];exact hc
       have HRel:=hid (show(w5.ownsRow w.heap.size 64 4 (.slice (some ⟨g,0,none⟩) (n'+1) cap) (n'+1) (encMo (goTo many xs (i+1))))/\(goTo many xs (i+1)).length=n'+1/\n'+1<=cap from
        ⟨by rw[hgt,encMo_snoc];exact hown5,by rw[hgt,List.length_append,hO.out.2.1];rfl,hcc⟩)
       have HSn:Hid (Rp.sendsOf (goTo many xs (i+1))=sj):=hid (by rw[hgt,Rp.sendsOf_append,<- ES.out];rfl);have HBf:Below w.heap.size w w5:=((((hb.trans (hb1.mono hws)).setCell (p:=⟨wr.heap.size,3,none⟩) hws _).alloc (by simp only[size_setCell];omega) _).alloc (by simp;omega) _).grown hgrow (by simp;omega) (λj hj=>(hO.out.1.lt j hj).1);have HBF:=hid HBf;clear hown5 hgrow hat hgt HBf;go_roundw
       case rel=>exact⟨i+1,some ⟨g,0,none⟩,n'+1,cap,kk+1,by omega,by omega,by go_num,by go_num,by omega,rfl,by rw[HSn.out],HRel,HBF.out⟩
       case measure=>simp[intOf];omega
      ·go_wp2_with (first
        | (go_at_call 40
           refine(HP2.out _).mono ?_;rintro e _ ⟨rfl,rfl⟩)
        | (at_builtin
           refine wpList_append_lies _ (by rfl) _ _ 36 (by rfl) w.heap.size 64 i0 _ 4 40 underlying36 hi0 hz0 hz1 hz2 rfl (by omega) (.slice A' n' c') n' (encMo (goTo many xs i)) (by rfl) (((own_far hO1.out (p:=⟨wr.heap.size,3,none⟩) hNG _).alloc _).alloc _)
            ⟨W1.heap.size+1,0,none⟩ 1 1 [.int .i64 1,.int .i64 p1,.int .i64 0,.string ⟨#[97]⟩] (by rfl) (by rfl)
            (World.news_of_block (cs:=#[.int .i64 1,.int .i64 p1,.int .i64 0,.string ⟨#[97]⟩]) (t:=64) (fr:=(0,0)) (by simpa using heap_alloc_new ((W1.setCell ⟨wr.heap.size,3,none⟩ (.string ⟨#[97]⟩)).alloc (.cells #[.string ⟨#[]⟩,.string ⟨#[97]⟩,.string ⟨#[98,99]⟩] 9)) (.cells #[.int .i64 1,.int .i64 p1,.int .i64 0,.string ⟨#[97]⟩] 64))) (by simp[Value.oneCell'])
            (by omega) (by simp only[maxLen];omega) (by omega) (by simp;omega) (W1.heap.size+1+1) (by simp) ?_
           intro g cap w5 hown5 hgrow hat hlt5))
       have hgt:goTo many xs (i+1)=goTo many xs i++[.write p1 (Rp.textOf 1)]:=by
        rw[HG.out];unfold Rp.motionOf;simp only[<- E0.out,<- E1.out,<- E2.out];rfl
       have hcc:n'+1<=cap:=by
        obtain⟨_,_,e,hc⟩:=own_slice hown5;injection e with _ _ e
        rw[e];exact hc
       have HRel:=hid (show(w5.ownsRow w.heap.size 64 4 (.slice (some ⟨g,0,none⟩) (n'+1) cap) (n'+1) (encMo (goTo many xs (i+1))))/\(goTo many xs (i+1)).length=n'+1/\n'+1<=cap from
        ⟨by rw[hgt,encMo_snoc];exact hown5,by rw[hgt,List.length_append,hO.out.2.1];rfl,hcc⟩)
       have HSn:Hid (Rp.sendsOf (goTo many xs (i+1))=sj):=hid (by rw[hgt,Rp.sendsOf_append,<- ES.out];rfl);have HBf:Below w.heap.size w w5:=((((hb.trans (hb1.mono hws)).setCell (p:=⟨wr.heap.size,3,none⟩) hws _).alloc (by simp only[size_setCell];omega) _).alloc (by simp;omega) _).grown hgrow (by simp;omega) (λj hj=>(hO.out.1.lt j hj).1);have HBF:=hid HBf;clear hown5 hgrow hat hgt HBf;go_roundw
       case rel=>exact⟨i+1,some ⟨g,0,none⟩,n'+1,cap,kk+1,by omega,by omega,by go_num,by go_num,by omega,rfl,by rw[HSn.out],HRel,HBF.out⟩
       case measure=>simp[intOf];omega
      ·go_wp2_with (first
        | (go_at_call 40
           refine(HP2.out _).mono ?_;rintro e _ ⟨rfl,rfl⟩)
        | (at_builtin
           refine wpList_append_lies _ (by rfl) _ _ 36 (by rfl) w.heap.size 64 i0 _ 4 40 underlying36 hi0 hz0 hz1 hz2 rfl (by omega) (.slice A' n' c') n' (encMo (goTo many xs i)) (by rfl) (((own_far hO1.out (p:=⟨wr.heap.size,3,none⟩) hNG _).alloc _).alloc _)
            ⟨W1.heap.size+1,0,none⟩ 1 1 [.int .i64 1,.int .i64 p1,.int .i64 0,.string ⟨#[98,99]⟩] (by rfl) (by rfl)
            (World.news_of_block (cs:=#[.int .i64 1,.int .i64 p1,.int .i64 0,.string ⟨#[98,99]⟩]) (t:=64) (fr:=(0,0)) (by simpa using heap_alloc_new ((W1.setCell ⟨wr.heap.size,3,none⟩ (.string ⟨#[98,99]⟩)).alloc (.cells #[.string ⟨#[]⟩,.string ⟨#[97]⟩,.string ⟨#[98,99]⟩] 9)) (.cells #[.int .i64 1,.int .i64 p1,.int .i64 0,.string ⟨#[98,99]⟩] 64))) (by simp[Value.oneCell'])
            (by omega) (by simp only[maxLen];omega) (by omega) (by simp;omega) (W1.heap.size+1+1) (by simp) ?_
           intro g cap w5 hown5 hgrow hat hlt5))
       have hgt:goTo many xs (i+1)=goTo many xs i++[.write p1 (Rp.textOf 2)]:=by
        rw[HG.out];unfold Rp.motionOf;simp only[<- E0.out,<- E1.out,<- E2.out];rfl
       have hcc:n'+1<=cap:=by
        obtain⟨_,_,e,hc⟩:=own_slice hown5;injection e with _ _ e
        rw[e];exact hc
       have HRel:=hid (show(w5.ownsRow w.heap.size 64 4 (.slice (some ⟨g,0,none⟩) (n'+1) cap) (n'+1) (encMo (goTo many xs (i+1))))/\(goTo many xs (i+1)).length=n'+1/\n'+1<=cap from
        ⟨by rw[hgt,encMo_snoc];exact hown5,by rw[hgt,List.length_append,hO.out.2.1];rfl,hcc⟩)
       have HSn:Hid (Rp.sendsOf (goTo many xs (i+1))=sj):=hid (by rw[hgt,Rp.sendsOf_append,<- ES.out];rfl);have HBf:Below w.heap.size w w5:=((((hb.trans (hb1.mono hws)).setCell (p:=⟨wr.heap.size,3,none⟩) hws _).alloc (by simp only[size_setCell];omega) _).alloc (by simp;omega) _).grown hgrow (by simp;omega) (λj hj=>(hO.out.1.lt j hj).1);have HBF:=hid HBf;clear hown5 hgrow hat hgt HBf;go_roundw
       case rel=>exact⟨i+1,some ⟨g,0,none⟩,n'+1,cap,kk+1,by omega,by omega,by go_num,by go_num,by omega,rfl,by rw[HSn.out],HRel,HBF.out⟩
       case measure=>simp[intOf];omega
    ·have e3:=World.new_ne wr _ h0
     go_wp2
     go_region_held3 (λw'=>w'.cell? ⟨b,off+i*3,none⟩=some (.int .i64 x0)/\w'.cell? ⟨b,off+i*3+1,none⟩=some (.int .i64 x1))
      (go_keep)
      (first
        | (go_at_call 40
           first
            | (with_reducible refine(HP0.out _).mono ?_;rintro e _ ⟨rfl,rfl⟩)
            | (with_reducible refine(HP1.out _).mono ?_;rintro e _ ⟨rfl,rfl⟩)))
     all_goals
      obtain⟨W1,hW1⟩:∃W1,W1=(wr.alloc (.cells #[.int .i64 2,.int .i64 p1,.int .i64 0,.string ⟨#[]⟩] 64)).drew:=⟨_,rfl⟩;have hG1:Blk W1 wr.heap.size 64 #[.int .i64 2,.int .i64 p1,.int .i64 0,.string ⟨#[]⟩]:=by rw[hW1];exact(Blk.new _ _ _).drew
      have hb1:Below wr.heap.size wr W1:=by rw[hW1];exact((Below.refl _ _).alloc (Nat.le_refl _) _).drew
      have hO1:Hid (W1.ownsRow w.heap.size 64 4 (.slice A' n' c') n' (encMo (goTo many xs i))):=hid (own_below hO.out.1 hb1);have hs1:=hb1.size;obtain⟨d0,d1,d2,d3⟩:=hG1.cells4
      first|rw[show IntKind.i64.wrap 2=2 from IntWalk.i64_in _ (by omega)]|rw[show IntKind.i64.wrap (1+((1:Nat):Int))=2 from IntWalk.i64_in _ (by omega)]
      rw[<- hW1];clear hW1;have hn60:n'<=60:=by have h1:=goTo_length many xs i;have h2:=hO.out.2.1;omega
      have hws:=hb.size
      go_wp2_with (first
       | (at_builtin
          refine wpList_append_lies _ (by rfl) _ _ 36 (by rfl) w.heap.size 64 i0 _ 4 40 underlying36 hi0 hz0 hz1 hz2 rfl (by omega) (.slice A' n' c') n' (encMo (goTo many xs i)) (by rfl) (hO1.out.alloc _)
           ⟨W1.heap.size,0,none⟩ 1 1 [.int .i64 2,.int .i64 p1,.int .i64 0,.string ⟨#[]⟩] (by rfl) (by rfl)
           (World.news_of_block (cs:=#[.int .i64 2,.int .i64 p1,.int .i64 0,.string ⟨#[]⟩]) (t:=64) (fr:=(0,0)) (heap_alloc_new W1 _)) (by simp[Value.oneCell'])
           (by omega) (by simp only[maxLen];omega) (by omega) (by simp;omega) (W1.heap.size+1) (by simp) ?_
          intro g cap w5 hown5 hgrow hat hlt5))
      have hgt:goTo many xs (i+1)=goTo many xs i++[.send p1]:=by
       rw[HG.out];unfold Rp.motionOf;simp only[<- E0.out,<- E1.out];rfl
      have hcc:n'+1<=cap:=by
       obtain⟨_,_,e,hc⟩:=own_slice hown5;injection e with _ _ e
       rw[e];exact hc
      have HRel:=hid (show(w5.ownsRow w.heap.size 64 4 (.slice (some ⟨g,0,none⟩) (n'+1) cap) (n'+1) (encMo (goTo many xs (i+1))))/\(goTo many xs (i+1)).length=n'+1/\n'+1<=cap from
       ⟨by rw[hgt,encMo_snoc];exact hown5,by rw[hgt,List.length_append,hO.out.2.1];rfl,hcc⟩)
      have HSn:Hid (Rp.sendsOf (goTo many xs (i+1))=sj+1):=hid (by rw[hgt,Rp.sendsOf_append,<- ES.out];rfl);have HBf:Below w.heap.size w w5:=((hb.trans (hb1.mono hws)).alloc (by omega) _).grown hgrow (by simp;omega) (λj hj=>(hO.out.1.lt j hj).1);have HBF:=hid HBf;clear hown5 hgrow hat hgt HBf;go_roundw
      case rel=>exact⟨i+1,some ⟨g,0,none⟩,n'+1,cap,kk,by omega,by omega,by go_num,rfl,by omega,rfl,by rw[HSn.out];go_num,HRel,HBF.out⟩
      case measure=>simp[intOf];omega
    ·have e3:=World.new_ne wr _ h0
     go_wp2
     go_region_held3 (λw'=>w'.cell? ⟨b,off+i*3,none⟩=some (.int .i64 x0)/\w'.cell? ⟨b,off+i*3+1,none⟩=some (.int .i64 x1))
      (go_keep)
      (first
        | (go_at_call 40
           first
            | (with_reducible refine(HP0.out _).mono ?_;rintro e _ ⟨rfl,rfl⟩)
            | (with_reducible refine(HP1.out _).mono ?_;rintro e _ ⟨rfl,rfl⟩)))
     all_goals
      obtain⟨W1,hW1⟩:∃W1,W1=(wr.alloc (.cells #[.int .i64 3,.int .i64 p1,.int .i64 0,.string ⟨#[]⟩] 64)).drew:=⟨_,rfl⟩;have hG1:Blk W1 wr.heap.size 64 #[.int .i64 3,.int .i64 p1,.int .i64 0,.string ⟨#[]⟩]:=by rw[hW1];exact(Blk.new _ _ _).drew
      have hb1:Below wr.heap.size wr W1:=by rw[hW1];exact((Below.refl _ _).alloc (Nat.le_refl _) _).drew
      have hO1:Hid (W1.ownsRow w.heap.size 64 4 (.slice A' n' c') n' (encMo (goTo many xs i))):=hid (own_below hO.out.1 hb1);have hs1:=hb1.size;obtain⟨d0,d1,d2,d3⟩:=hG1.cells4;have f2:=hG1.frozen 2;have hlb:b<wr.heap.size:=by have:=hb.size;omega
      have y2:=(hb1.cell (p:=⟨b,off+i*3+2,none⟩) hlb).trans h2
      first|rw[show IntKind.i64.wrap 3=3 from IntWalk.i64_in _ (by omega)]|rw[show IntKind.i64.wrap (1+((2:Nat):Int))=3 from IntWalk.i64_in _ (by omega)]
      rw[<- hW1];clear hW1;have hn60:n'<=60:=by have h1:=goTo_length many xs i;have h2:=hO.out.2.1;omega
      have hws:=hb.size;have hNG:(Value.slice A' n' c').ownBlock≠some wr.heap.size:=λe=>by have:=(hO.out.1.lt _ e).2;omega
      have HZ2:=hid hz2
      by_cases hz:sj=0
      ·subst hz
       have hgt:goTo many xs (i+1)=goTo many xs i:=by
        rw[HG.out];unfold Rp.motionOf;simp only[<- E0.out,<- ES.out];simp
       have HRel:=hid (show(W1.ownsRow w.heap.size 64 4 (.slice A' n' c') n' (encMo (goTo many xs (i+1))))/\(goTo many xs (i+1)).length=n'/\n'<=c' from⟨by rw[hgt];exact hO1.out,by rw[hgt];exact hO.out.2.1,hO.out.2.2⟩);have HSn:Hid (Rp.sendsOf (goTo many xs (i+1))=0):=hid (by rw[hgt,<- ES.out]);have HBF:=hid (hb.trans (hb1.mono hws));clear hgt;go_wp2;go_roundw
       case rel=>exact⟨i+1,A',n',c',kk,by omega,by omega,by go_num,rfl,by omega,rfl,by rw[HSn.out],HRel,HBF.out⟩
       case measure=>simp[intOf];omega
      ·have hpk:Hid (∀W,Calls prog 40 #[.int .i64 x2,.int .i64 sj] W λe w'=>e=.returned (.int .i64 (Rp.pick x2 sj))/\W=w'):=hid λW=>pick_any x2 sj W (by omega) (by omega) (pick_wrap HW2.out)
       have hsz:¬(sj:Int)=0:=by omega
       obtain⟨a,ea⟩:∃a,a=Rp.pick x2 sj:=⟨_,rfl⟩;rw[<- ea]at hpk;have EA:=hid ea;clear ea;have HZ:=hid hz;clear hz
       go_wp2_with (first
        | (go_at_call 40
           refine(hpk.out _).mono ?_;rintro e _ ⟨rfl,rfl⟩)
        | (at_builtin
           refine wpList_append_lies _ (by rfl) _ _ 36 (by rfl) w.heap.size 64 i0 _ 4 40 underlying36 hi0 hz0 hz1 HZ2.out rfl (by omega) (.slice A' n' c') n' (encMo (goTo many xs i)) (by rfl) ((own_far hO1.out (p:=⟨wr.heap.size,2,none⟩) hNG _).alloc _)
            ⟨W1.heap.size,0,none⟩ 1 1 [.int .i64 3,.int .i64 p1,.int .i64 a,.string ⟨#[]⟩] (by rfl) (by rfl)
            (World.news_of_block (cs:=#[.int .i64 3,.int .i64 p1,.int .i64 a,.string ⟨#[]⟩]) (t:=64) (fr:=(0,0)) (by simpa using heap_alloc_new (W1.setCell ⟨wr.heap.size,2,none⟩ (.int .i64 a)) (.cells #[.int .i64 3,.int .i64 p1,.int .i64 a,.string ⟨#[]⟩] 64))) (by simp[Value.oneCell'])
            (by omega) (by simp only[maxLen];omega) (by omega) (by simp;omega) (W1.heap.size+1) (by simp) ?_
           intro g cap w5 hown5 hgrow hat hlt5))
       have hgt:goTo many xs (i+1)=goTo many xs i++[.deliver p1 a]:=by
        rw[HG.out];unfold Rp.motionOf;simp only[<- E0.out,<- E1.out,<- ES.out,if_neg HZ.out,<- EA.out];rfl
       have hcc:n'+1<=cap:=by
        obtain⟨_,_,e,hc⟩:=own_slice hown5;injection e with _ _ e
        rw[e];exact hc
       have HRel:=hid (show(w5.ownsRow w.heap.size 64 4 (.slice (some ⟨g,0,none⟩) (n'+1) cap) (n'+1) (encMo (goTo many xs (i+1))))/\(goTo many xs (i+1)).length=n'+1/\n'+1<=cap from
        ⟨by rw[hgt,encMo_snoc];exact hown5,by rw[hgt,List.length_append,hO.out.2.1];rfl,hcc⟩)
       have HSn:Hid (Rp.sendsOf (goTo many xs (i+1))=sj):=hid (by rw[hgt,Rp.sendsOf_append,<- ES.out];rfl);have HBf:Below w.heap.size w w5:=(((hb.trans (hb1.mono hws)).setCell (p:=⟨wr.heap.size,2,none⟩) hws _).alloc (by simp only[size_setCell];omega) _).grown hgrow (by simp;omega) (λj hj=>(hO.out.1.lt j hj).1);have HBF:=hid HBf;clear hown5 hgrow hat hgt HBf;go_roundw
       case rel=>exact⟨i+1,some ⟨g,0,none⟩,n'+1,cap,kk,by omega,by omega,by go_num,rfl,by omega,rfl,by rw[HSn.out],HRel,HBF.out⟩
       case measure=>simp[intOf];omega
   ·have hi60':i=60:=by omega
    subst hi60';have HFin:=hid (show wr.ownsRow w.heap.size 64 4 (.slice A' n' c') n' (encMo (Rp.motions many xs))/\(Rp.motions many xs).length=n'/\n'<=c'/\Below w.heap.size w wr from⟨hO.out.1,hO.out.2.1,hO.out.2.2,hb⟩);clear hO hb;go_wp2;go_ret;exact⟨A',n',c',rfl,HFin.out⟩
  ·have hin:i=n:=by omega
   subst hin;have hge:goTo many xs i=Rp.motions many xs:=by
    unfold goTo Rp.motions;rw[List.take_of_length_le (Nat.le_of_eq HL.out),List.take_of_length_le (by rw[HL.out];exact hi60)]
   rw[hge]at hO;have HFin:=hid (show wr.ownsRow w.heap.size 64 4 (.slice A' n' c') n' (encMo (Rp.motions many xs))/\(Rp.motions many xs).length=n'/\n'<=c'/\Below w.heap.size w wr from⟨hO.out.1,hO.out.2.1,hO.out.2.2,hb⟩);clear hO hb hge;go_wp2;go_ret;exact⟨A',n',c',rfl,HFin.out⟩
end
end Go.Proofs.YtnehgpeelgjjhaaGreatDoor.Tw
namespace Rp
theorem all_last {l:List Post}{many c:Int}(h:isLog l many=true){m:Nat}{q:Post}(hm:l.length=m+1)(hq:l[m]?=some q):(l.all λp=>decide (p.epoch<=c))=decide (q.epoch<=c):=by
 have hs:=(isLog_iff.1 h).2.2.1;have e:l=l.take m++[q]:=by
  have h1:l.take (m+1)=l.take m++[q]:=by rw[List.take_add_one,hq];rfl
  rw[List.take_of_length_le (by omega)]at h1;exact h1
 by_cases hc:q.epoch<=c
 ·rw[decide_eq_true hc,List.all_eq_true]
  intro y hy;rw[e]at hy hs;rcases List.mem_append.1 hy with h|h
  ·have:=(List.pairwise_append.1 hs).2.2 y h q (by simp)
   rw[before_iff]at this;exact decide_eq_true (by omega)
  ·simp at h;subst h;exact decide_eq_true hc
 ·rw[decide_eq_false hc,List.all_eq_false]
  exact⟨q,List.mem_of_getElem? hq,by simp;omega⟩
end Rp
