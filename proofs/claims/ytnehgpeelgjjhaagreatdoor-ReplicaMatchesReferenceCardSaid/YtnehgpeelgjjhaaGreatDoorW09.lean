/- Contracts of functions of the program, and plain laws, towards the laws of replicas. Joined of the texts: Mot2. -/
import Derived.Test.YtnehgpeelgjjhaaGreatDoorW08
import Derived.Deep.RegionLaw
set_option linter.all false
set_option maxRecDepth 100000
set_option maxHeartbeats 12800000
open Go.Lib (hid)
namespace Go.Proofs.YtnehgpeelgjjhaaGreatDoor.Tw
open Go.Proofs.Tryz
section
open Go.RowKit
theorem info28 :(prog.info? 28).map (λi=>(i.zero,i.size,i.bytes))=some (some (.agg #[.int .i64 0,.slice none 0 0,.slice none 0 0]),3,56):=by kernel_rfl
theorem Blk.cells3 {w:World}{g:Nat}{t:TypeId}{a b c:Value}(h:Blk w g t #[a,b,c]) :
 w.cell? ⟨g,0,none⟩=some a/\w.cell? ⟨g,1,none⟩=some b/\w.cell? ⟨g,2,none⟩=some c:=⟨h.cell 0,h.cell 1,h.cell 2⟩
theorem Blk.soft3 {w:World}{g:Nat}{t:TypeId}{cs:Array Value}(h:Blk w g t cs) :
 w.frozen? ⟨g,0,none⟩=false/\w.frozen? ⟨g,1,none⟩=false/\w.frozen? ⟨g,2,none⟩=false:=⟨h.frozen 0,h.frozen 1,h.frozen 2⟩
theorem msend_any (B x:Nat)(W:World)(va:Value)(rl:List RV)(vb:Value)(ml:List MV)(h:RunR B W x va rl vb ml)(kind at_:Int)(who:Nat)(v:RV)(hv:rl[who]?=some v)(hfew:rl.length<=5)(hmany:ml.length<=1000)(hval:Rp.valid v.r=true)(text:ByteArray) :
 Calls prog 92 #[.pointer (some ⟨x,0,none⟩),.agg #[.int .i64 kind,.int .i64 who,.int .i64 at_,.string text]] W λe W'=>(∃u,e=.returned u)/\Below B W W' /\
  ∃rl' vb' ml',RunR B W' x va rl' vb' ml'/\match Rp.tell v.r with
   | some (r,m)=>rl'.map (·.r)=(rl.map (·.r)).set who r/\ml'.map (·.m)=ml.map (·.m)++[m]
   | none=>rl'.map (·.r)=rl.map (·.r)/\ml'.map (·.m)=ml.map (·.m)++[⟨0,[],[]⟩]:=by
 obtain⟨i0,hi0,hz0,hz1,hz2⟩:=info_parts info28;obtain⟨Ab,cb,rfl,hcb⟩:=own_slice h.msgs;have hl:who<rl.length:=(List.getElem?_eq_some_iff.1 hv).1;obtain⟨g,cap,rfl,hg,hgl⟩:=h.reps.form (by omega);obtain⟨c0,c1,c2,c3,c4⟩:=h.repCells hv;have x0:=h.blk.cell 0;simp only[List.getElem?_toArray,List.getElem?_cons_zero]at x0;have hxl:=h.blk.lt;have hrep:=(h.rep v (List.mem_of_getElem? hv)).1;obtain⟨r,A,n,c,A',n',c'⟩:=v;simp only at c0 c1 c2 c3 c4 hrep;obtain⟨W0,hW0⟩:∃W0,W0=W.alloc (.cells #[.int .i64 kind,.int .i64 who,.int .i64 at_,.string text] 64):=⟨_,rfl⟩;have hb0:Below W.heap.size W W0:=by rw[hW0];exact(Below.refl _ _).alloc (Nat.le_refl _) _
 have hm0:Blk W0 W.heap.size 64 #[.int .i64 kind,.int .i64 who,.int .i64 at_,.string text]:=by rw[hW0];exact Blk.new _ _ _
 have hs0:W0.heap.size=W.heap.size+1:=by rw[hW0];simp
 have HRep:Hid (∀W',Below W0.heap.size W0 W'->RepR W' W'.heap.size r A n A' n'):=hid λW' hb=>(hrep.below (hb0.trans (hb.mono hb0.size))).more (hb0.trans (hb.mono hb0.size)).size
 have hBW:B<=W.heap.size:=by have:=h.at_;omega
 have HR:=hid h;have HV:=hid hv;clear h hv hrep;have HW0:=hid hW0;clear hW0;have d1:=hm0.cell 1;simp only[List.getElem?_toArray,List.getElem?_cons_zero,List.getElem?_cons_succ]at d1;rw[<- hb0.cell (p:=⟨g,_,none⟩) hgl]at c0 c1 c2 c3 c4;rw[<- hb0.cell (p:=⟨x,_,none⟩) hxl]at x0;obtain⟨me,many,clock,posts,heard⟩:=r;simp only at c0 c1 c2 c3 c4;have hxl0:x<W0.heap.size:=by omega
 have hgl0:g<W0.heap.size:=by omega
 have hWl0:W.heap.size<W0.heap.size:=by omega
 have HS0:=hid hs0;clear hs0;have htl:=λW' hb=>tell_any W' ⟨me,many,clock,posts,heard⟩ A n c A' n' c' (HRep.out W' hb)
 unfold GotTell repV zeroRep zeroMsg msgV at htl;simp only at htl;have hwl:(who:Int)<(rl.length:Int):=by omega
 cases hw:Rp.tell ⟨me,many,clock,posts,heard⟩with
 | none=>rw[tell_yes hval]at hw;cases hw
 | some rm =>
   obtain⟨⟨me',many',clock',posts',heard'⟩,⟨src,mposts,mheard⟩⟩:=rm;rw[hw]at htl;simp only at htl;have HTl:=hid htl;clear htl
   go_enter func92,ntmps92
   go_wp2;rw[<- HW0.out];have m0:=World.new_ne W0 _ x0;have m1:=World.new_ne W0 _ d1;have m2:=World.new_ne W0 _ c0;have u0:x≠W0.heap.size:=by omega
   have u0':=u0.symm;have u1:x≠W0.heap.size+1:=by omega
   have u1':=u1.symm;have u2:W.heap.size≠W0.heap.size:=by omega
   have u2':=u2.symm;have u3:W.heap.size≠W0.heap.size+1:=by omega
   have u3':=u3.symm;have u4:g≠W0.heap.size:=by omega
   have u4':=u4.symm;have u5:g≠W0.heap.size+1:=by omega
   have u5':=u5.symm
   go_region_held3 (λw'=>w'.cell? ⟨x,0,none⟩=some (.slice (some ⟨g,0,none⟩) rl.length cap)/\w'.cell? ⟨W.heap.size,1,none⟩=some (.int .i64 who) /\
    w'.cell? ⟨g,who*5,none⟩=some (.int .i64 me)/\w'.cell? ⟨g,who*5+1,none⟩=some (.int .i64 many)/\w'.cell? ⟨g,who*5+2,none⟩=some (.int .i64 clock) /\
    w'.cell? ⟨g,who*5+3,none⟩=some (.slice A n c)/\w'.cell? ⟨g,who*5+4,none⟩=some (.slice A' n' c'))
    (go_keep)
    (first
      | (go_at_call 15
         refine(HTl.out _ (by first|exact(Below.refl _ _).drew|exact(Below.refl _ _).drew.alloc (Nat.le_refl _) _|exact((Below.refl _ _).drew.alloc (Nat.le_refl _) _).alloc (by simp) _)).mono ?_;rintro e w4 ⟨hb4,A5,n5,c5,A6,n6,c6,M5,N5,C5,M6,N6,C6,rfl,hR4,hM4,hNC,⟨⟨hF5,hF6⟩,hcv⟩,hF7,hF8⟩;have B4:Below W0.heap.size W0 w4:=by first|exact(Below.refl _ _).drew.trans hb4|exact((Below.refl _ _).drew.alloc (Nat.le_refl _) _).trans (hb4.mono (by simp))|exact(((Below.refl _ _).drew.alloc (Nat.le_refl _) _).alloc (by simp) _).trans (hb4.mono (by simp;omega))
         have hbW4:Below W.heap.size W w4:=hb0.trans (B4.mono hb0.size);have hsz4:=hbW4.size;have k0:=(B4.cell (p:=⟨x,0,none⟩) (show x<W0.heap.size by omega)).trans x0;have k1:=(B4.cell (p:=⟨W.heap.size,1,none⟩) (show W.heap.size<W0.heap.size by omega)).trans d1;have q0:=(B4.cell (p:=⟨g,who*5,none⟩) (show g<W0.heap.size by omega)).trans c0;have q1:=(B4.cell (p:=⟨g,who*5+1,none⟩) (show g<W0.heap.size by omega)).trans c1;have q2:=(B4.cell (p:=⟨g,who*5+2,none⟩) (show g<W0.heap.size by omega)).trans c2;have q3:=(B4.cell (p:=⟨g,who*5+3,none⟩) (show g<W0.heap.size by omega)).trans c3;have q4:=(B4.cell (p:=⟨g,who*5+4,none⟩) (show g<W0.heap.size by omega)).trans c4;have n0:=World.new_ne w4 _ k0;have n1:=World.new_ne w4 _ k1;have n2:=World.new_ne w4 _ q0
         try
          have hbk:Blk w4 W0.heap.size 26 #[.int .i64 0,.int .i64 0,.int .i64 0,.slice none 0 0,.slice none 0 0]:=by
           refine Blk.below ?_ hb4 (by simp;try omega)
           first|exact(Blk.new W0 26 _).drew|exact((Blk.new W0 26 _).alloc _).drew
          obtain⟨z0,z1,z2,z3,z4⟩:=hbk.cells5;obtain⟨s0,s1,s2,s3,s4⟩:=hbk.soft5;have z0a:∀o,(w4.alloc o).cell? ⟨W0.heap.size,0,none⟩=some (.int .i64 0):=λo=>(World.cell?_alloc_some w4 _ o (by rw[z0];rfl)).trans z0
          have s0a:∀o,(w4.alloc o).frozen? ⟨W0.heap.size,0,none⟩=false:=λo=>(((Below.refl w4.heap.size w4).alloc (Nat.le_refl _) o).frozen (p:=⟨W0.heap.size,0,none⟩) (lt_of_cell z0)).trans s0
          have z1a:∀o,(w4.alloc o).cell? ⟨W0.heap.size,1,none⟩=some (.int .i64 0):=λo=>(World.cell?_alloc_some w4 _ o (by rw[z1];rfl)).trans z1
          have s1a:∀o,(w4.alloc o).frozen? ⟨W0.heap.size,1,none⟩=false:=λo=>(((Below.refl w4.heap.size w4).alloc (Nat.le_refl _) o).frozen (p:=⟨W0.heap.size,1,none⟩) (lt_of_cell z1)).trans s1
          have z2a:∀o,(w4.alloc o).cell? ⟨W0.heap.size,2,none⟩=some (.int .i64 0):=λo=>(World.cell?_alloc_some w4 _ o (by rw[z2];rfl)).trans z2
          have s2a:∀o,(w4.alloc o).frozen? ⟨W0.heap.size,2,none⟩=false:=λo=>(((Below.refl w4.heap.size w4).alloc (Nat.le_refl _) o).frozen (p:=⟨W0.heap.size,2,none⟩) (lt_of_cell z2)).trans s2
          have z3a:∀o,(w4.alloc o).cell? ⟨W0.heap.size,3,none⟩=some (.slice none 0 0):=λo=>(World.cell?_alloc_some w4 _ o (by rw[z3];rfl)).trans z3
          have s3a:∀o,(w4.alloc o).frozen? ⟨W0.heap.size,3,none⟩=false:=λo=>(((Below.refl w4.heap.size w4).alloc (Nat.le_refl _) o).frozen (p:=⟨W0.heap.size,3,none⟩) (lt_of_cell z3)).trans s3
          have z4a:∀o,(w4.alloc o).cell? ⟨W0.heap.size,4,none⟩=some (.slice none 0 0):=λo=>(World.cell?_alloc_some w4 _ o (by rw[z4];rfl)).trans z4
          have s4a:∀o,(w4.alloc o).frozen? ⟨W0.heap.size,4,none⟩=false:=λo=>(((Below.refl w4.heap.size w4).alloc (Nat.le_refl _) o).frozen (p:=⟨W0.heap.size,4,none⟩) (lt_of_cell z4)).trans s4
          have zn:=World.new_ne w4 _ z0
         try
          have hbk:Blk w4 (W0.heap.size+1) 26 #[.int .i64 0,.int .i64 0,.int .i64 0,.slice none 0 0,.slice none 0 0]:=by
           refine Blk.below ?_ hb4 (by simp;try omega);exact(Blk.new2 W0 _ 26 _).drew
          obtain⟨z0,z1,z2,z3,z4⟩:=hbk.cells5;obtain⟨s0,s1,s2,s3,s4⟩:=hbk.soft5;have z0a:∀o,(w4.alloc o).cell? ⟨W0.heap.size+1,0,none⟩=some (.int .i64 0):=λo=>(World.cell?_alloc_some w4 _ o (by rw[z0];rfl)).trans z0
          have s0a:∀o,(w4.alloc o).frozen? ⟨W0.heap.size+1,0,none⟩=false:=λo=>(((Below.refl w4.heap.size w4).alloc (Nat.le_refl _) o).frozen (p:=⟨W0.heap.size+1,0,none⟩) (lt_of_cell z0)).trans s0
          have z1a:∀o,(w4.alloc o).cell? ⟨W0.heap.size+1,1,none⟩=some (.int .i64 0):=λo=>(World.cell?_alloc_some w4 _ o (by rw[z1];rfl)).trans z1
          have s1a:∀o,(w4.alloc o).frozen? ⟨W0.heap.size+1,1,none⟩=false:=λo=>(((Below.refl w4.heap.size w4).alloc (Nat.le_refl _) o).frozen (p:=⟨W0.heap.size+1,1,none⟩) (lt_of_cell z1)).trans s1
          have z2a:∀o,(w4.alloc o).cell? ⟨W0.heap.size+1,2,none⟩=some (.int .i64 0):=λo=>(World.cell?_alloc_some w4 _ o (by rw[z2];rfl)).trans z2
          have s2a:∀o,(w4.alloc o).frozen? ⟨W0.heap.size+1,2,none⟩=false:=λo=>(((Below.refl w4.heap.size w4).alloc (Nat.le_refl _) o).frozen (p:=⟨W0.heap.size+1,2,none⟩) (lt_of_cell z2)).trans s2
          have z3a:∀o,(w4.alloc o).cell? ⟨W0.heap.size+1,3,none⟩=some (.slice none 0 0):=λo=>(World.cell?_alloc_some w4 _ o (by rw[z3];rfl)).trans z3
          have s3a:∀o,(w4.alloc o).frozen? ⟨W0.heap.size+1,3,none⟩=false:=λo=>(((Below.refl w4.heap.size w4).alloc (Nat.le_refl _) o).frozen (p:=⟨W0.heap.size+1,3,none⟩) (lt_of_cell z3)).trans s3
          have z4a:∀o,(w4.alloc o).cell? ⟨W0.heap.size+1,4,none⟩=some (.slice none 0 0):=λo=>(World.cell?_alloc_some w4 _ o (by rw[z4];rfl)).trans z4
          have s4a:∀o,(w4.alloc o).frozen? ⟨W0.heap.size+1,4,none⟩=false:=λo=>(((Below.refl w4.heap.size w4).alloc (Nat.le_refl _) o).frozen (p:=⟨W0.heap.size+1,4,none⟩) (lt_of_cell z4)).trans s4
          have zn:=World.new_ne w4 _ z0
         try
          have hbm:Blk w4 W0.heap.size 28 #[.int .i64 0,.slice none 0 0,.slice none 0 0]:=by
           refine Blk.below ?_ hb4 (by simp;try omega)
           first|exact(Blk.new W0 28 _).drew|exact((Blk.new W0 28 _).alloc _).drew
          obtain⟨y0,y1,y2⟩:=hbm.cells3;obtain⟨f0,f1,f2⟩:=hbm.soft3;have y0a:∀o,(w4.alloc o).cell? ⟨W0.heap.size,0,none⟩=some (.int .i64 0):=λo=>(World.cell?_alloc_some w4 _ o (by rw[y0];rfl)).trans y0
          have f0a:∀o,(w4.alloc o).frozen? ⟨W0.heap.size,0,none⟩=false:=λo=>(((Below.refl w4.heap.size w4).alloc (Nat.le_refl _) o).frozen (p:=⟨W0.heap.size,0,none⟩) (lt_of_cell y0)).trans f0
          have y1a:∀o,(w4.alloc o).cell? ⟨W0.heap.size,1,none⟩=some (.slice none 0 0):=λo=>(World.cell?_alloc_some w4 _ o (by rw[y1];rfl)).trans y1
          have f1a:∀o,(w4.alloc o).frozen? ⟨W0.heap.size,1,none⟩=false:=λo=>(((Below.refl w4.heap.size w4).alloc (Nat.le_refl _) o).frozen (p:=⟨W0.heap.size,1,none⟩) (lt_of_cell y1)).trans f1
          have y2a:∀o,(w4.alloc o).cell? ⟨W0.heap.size,2,none⟩=some (.slice none 0 0):=λo=>(World.cell?_alloc_some w4 _ o (by rw[y2];rfl)).trans y2
          have f2a:∀o,(w4.alloc o).frozen? ⟨W0.heap.size,2,none⟩=false:=λo=>(((Below.refl w4.heap.size w4).alloc (Nat.le_refl _) o).frozen (p:=⟨W0.heap.size,2,none⟩) (lt_of_cell y2)).trans f2
          have yn:=World.new_ne w4 _ y0
         try
          have hbm:Blk w4 (W0.heap.size+1) 28 #[.int .i64 0,.slice none 0 0,.slice none 0 0]:=by
           refine Blk.below ?_ hb4 (by simp;try omega);exact(Blk.new2 W0 _ 28 _).drew
          obtain⟨y0,y1,y2⟩:=hbm.cells3;obtain⟨f0,f1,f2⟩:=hbm.soft3;have y0a:∀o,(w4.alloc o).cell? ⟨W0.heap.size+1,0,none⟩=some (.int .i64 0):=λo=>(World.cell?_alloc_some w4 _ o (by rw[y0];rfl)).trans y0
          have f0a:∀o,(w4.alloc o).frozen? ⟨W0.heap.size+1,0,none⟩=false:=λo=>(((Below.refl w4.heap.size w4).alloc (Nat.le_refl _) o).frozen (p:=⟨W0.heap.size+1,0,none⟩) (lt_of_cell y0)).trans f0
          have y1a:∀o,(w4.alloc o).cell? ⟨W0.heap.size+1,1,none⟩=some (.slice none 0 0):=λo=>(World.cell?_alloc_some w4 _ o (by rw[y1];rfl)).trans y1
          have f1a:∀o,(w4.alloc o).frozen? ⟨W0.heap.size+1,1,none⟩=false:=λo=>(((Below.refl w4.heap.size w4).alloc (Nat.le_refl _) o).frozen (p:=⟨W0.heap.size+1,1,none⟩) (lt_of_cell y1)).trans f1
          have y2a:∀o,(w4.alloc o).cell? ⟨W0.heap.size+1,2,none⟩=some (.slice none 0 0):=λo=>(World.cell?_alloc_some w4 _ o (by rw[y2];rfl)).trans y2
          have f2a:∀o,(w4.alloc o).frozen? ⟨W0.heap.size+1,2,none⟩=false:=λo=>(((Below.refl w4.heap.size w4).alloc (Nat.le_refl _) o).frozen (p:=⟨W0.heap.size+1,2,none⟩) (lt_of_cell y2)).trans f2
          have yn:=World.new_ne w4 _ y0))
   have hlA:W0.heap.size<=w4.heap.size:=B4.size
   try have hlk:=hbk.lt
   try have hlm:=hbm.lt
   obtain⟨gy,gz,W5,hy,hz,hW5⟩:∃gy gz W5,gy=w4.heap.size/\gz=w4.heap.size+1/\W5=(w4.alloc (.cells #[.int .i64 me',.int .i64 many',.int .i64 clock',.slice A5 n5 c5,.slice A6 n6 c6] 26)).alloc (.cells #[.int .i64 src,.slice M5 N5 C5,.slice M6 N6 C6] 28):=⟨_,_,_,rfl,rfl,rfl⟩;have hne12:w4.heap.size≠w4.heap.size+1:=by omega
   have hB5:Blk W5 gy 26 #[.int .i64 me',.int .i64 many',.int .i64 clock',.slice A5 n5 c5,.slice A6 n6 c6]:=by rw[hW5,hy];exact(Blk.new _ _ _).alloc _
   have hM5:Blk W5 gz 28 #[.int .i64 src,.slice M5 N5 C5,.slice M6 N6 C6]:=by rw[hW5,hz];exact Blk.new2 _ _ _ _
   have hb5:Below W.heap.size W W5:=by rw[hW5];exact(hbW4.alloc hsz4 _).alloc (by simp;omega) _
   have hb05:Below W0.heap.size W0 W5:=by rw[hW5];exact(B4.alloc B4.size _).alloc (by have:=B4.size;simp;omega) _
   have hR5:RepR W5 W5.heap.size ⟨me',many',clock',posts',heard'⟩ A5 n5 A6 n6:=by
    rw[hW5];simp only[size_setCell,World.size_alloc]
    repeat(refine RepR.far0 ?_ (λhk a e h=>by have h1:=hR4.posts.lt hk a e;have h2:=hF5 a e;simp at h2 h;omega) (λhk a e h=>by have h1:=hR4.heard.lt hk a e;have h2:=hF6 a e;simp at h2 h;omega) _)
    exact(hR4.below (((Below.refl w4.heap.size w4).alloc (Nat.le_refl _) _).alloc (by simp) _)).more (by omega)
   have hQ5:MsgR W5 W5.heap.size ⟨src,mposts,mheard⟩ M5 N5 M6 N6:=by
    rw[hW5];simp only[size_setCell,World.size_alloc]
    repeat(refine MsgR.far0 ?_ (λhk a e h=>by have h1:=hM4.posts.lt hk a e;have h2:=hF7 a e;simp at h2 h;omega) (λhk a e h=>by have h1:=hM4.heard.lt hk a e;have h2:=hF8 a e;simp at h2 h;omega) _)
    exact(hM4.below (((Below.refl w4.heap.size w4).alloc (Nat.le_refl _) _).alloc (by simp) _)).more (by omega)
   rw[<- hW5,<- hz,<- hy];clear hne12 hW5
   rotate_left
   have hlA:W0.heap.size<=w4.heap.size:=B4.size
   try have hlk:=hbk.lt
   try have hlm:=hbm.lt
   obtain⟨gy,gz,W5,hy,hz,hW5⟩:∃gy gz W5,gy=w4.heap.size+1/\gz=w4.heap.size/\W5=(w4.alloc (.cells #[.int .i64 src,.slice M5 N5 C5,.slice M6 N6 C6] 28)).alloc (.cells #[.int .i64 me',.int .i64 many',.int .i64 clock',.slice A5 n5 c5,.slice A6 n6 c6] 26):=⟨_,_,_,rfl,rfl,rfl⟩;have hne12:w4.heap.size+1≠w4.heap.size:=by omega
   have hB5:Blk W5 gy 26 #[.int .i64 me',.int .i64 many',.int .i64 clock',.slice A5 n5 c5,.slice A6 n6 c6]:=by rw[hW5,hy];exact Blk.new2 _ _ _ _
   have hM5:Blk W5 gz 28 #[.int .i64 src,.slice M5 N5 C5,.slice M6 N6 C6]:=by rw[hW5,hz];exact(Blk.new _ _ _).alloc _
   have hb5:Below W.heap.size W W5:=by rw[hW5];exact(hbW4.alloc hsz4 _).alloc (by simp;omega) _
   have hb05:Below W0.heap.size W0 W5:=by rw[hW5];exact(B4.alloc B4.size _).alloc (by have:=B4.size;simp;omega) _
   have hR5:RepR W5 W5.heap.size ⟨me',many',clock',posts',heard'⟩ A5 n5 A6 n6:=by
    rw[hW5];simp only[size_setCell,World.size_alloc]
    repeat(refine RepR.far0 ?_ (λhk a e h=>by have h1:=hR4.posts.lt hk a e;have h2:=hF5 a e;simp at h2 h;omega) (λhk a e h=>by have h1:=hR4.heard.lt hk a e;have h2:=hF6 a e;simp at h2 h;omega) _)
    exact(hR4.below (((Below.refl w4.heap.size w4).alloc (Nat.le_refl _) _).alloc (by simp) _)).more (by omega)
   have hQ5:MsgR W5 W5.heap.size ⟨src,mposts,mheard⟩ M5 N5 M6 N6:=by
    rw[hW5];simp only[size_setCell,World.size_alloc]
    repeat(refine MsgR.far0 ?_ (λhk a e h=>by have h1:=hM4.posts.lt hk a e;have h2:=hF7 a e;simp at h2 h;omega) (λhk a e h=>by have h1:=hM4.heard.lt hk a e;have h2:=hF8 a e;simp at h2 h;omega) _)
    exact(hM4.below (((Below.refl w4.heap.size w4).alloc (Nat.le_refl _) _).alloc (by simp) _)).more (by omega)
   rw[<- hW5,<- hy,<- hz];clear hne12 hW5
   rotate_left
   have hlA:W0.heap.size<=w4.heap.size:=B4.size
   try have hlk:=hbk.lt
   try have hlm:=hbm.lt
   obtain⟨gy,gz,W5,hy,hz,hW5⟩:∃gy gz W5,gy=W0.heap.size/\gz=w4.heap.size/\W5=((((((((w4.alloc (.cells #[.int .i64 0,.slice none 0 0,.slice none 0 0] 28)).setCell ⟨W0.heap.size,0,none⟩ (.int .i64 me')).setCell ⟨W0.heap.size,1,none⟩ (.int .i64 many')).setCell ⟨W0.heap.size,2,none⟩ (.int .i64 clock')).setCell ⟨W0.heap.size,3,none⟩ (.slice A5 n5 c5)).setCell ⟨W0.heap.size,4,none⟩ (.slice A6 n6 c6)).setCell ⟨w4.heap.size,0,none⟩ (.int .i64 src)).setCell ⟨w4.heap.size,1,none⟩ (.slice M5 N5 C5)).setCell ⟨w4.heap.size,2,none⟩ (.slice M6 N6 C6):=⟨_,_,_,rfl,rfl,rfl⟩;have hne12:W0.heap.size≠w4.heap.size:=by omega
   have hB5:Blk W5 gy 26 #[.int .i64 me',.int .i64 many',.int .i64 clock',.slice A5 n5 c5,.slice A6 n6 c6]:=by rw[hW5,hy];exact(((((((((hbk.alloc _).set_ 0 _).set_ 1 _).set_ 2 _).set_ 3 _).set_ 4 _).far hne12 _).far hne12 _).far hne12 _)
   have hM5:Blk W5 gz 28 #[.int .i64 src,.slice M5 N5 C5,.slice M6 N6 C6]:=by rw[hW5,hz];exact(((((((((Blk.new w4 28 #[.int .i64 0,.slice none 0 0,.slice none 0 0]).far hne12.symm _).far hne12.symm _).far hne12.symm _).far hne12.symm _).far hne12.symm _).set_ 0 _).set_ 1 _).set_ 2 _)
   have hb5:Below W.heap.size W W5:=by rw[hW5];exact(((((((((hbW4.alloc hsz4 _).setCell (p:=⟨W0.heap.size,0,none⟩) (show W.heap.size<=W0.heap.size by omega) _).setCell (p:=⟨W0.heap.size,1,none⟩) (show W.heap.size<=W0.heap.size by omega) _).setCell (p:=⟨W0.heap.size,2,none⟩) (show W.heap.size<=W0.heap.size by omega) _).setCell (p:=⟨W0.heap.size,3,none⟩) (show W.heap.size<=W0.heap.size by omega) _).setCell (p:=⟨W0.heap.size,4,none⟩) (show W.heap.size<=W0.heap.size by omega) _).setCell (p:=⟨w4.heap.size,0,none⟩) (show W.heap.size<=w4.heap.size by omega) _).setCell (p:=⟨w4.heap.size,1,none⟩) (show W.heap.size<=w4.heap.size by omega) _).setCell (p:=⟨w4.heap.size,2,none⟩) (show W.heap.size<=w4.heap.size by omega) _)
   have hb05:Below W0.heap.size W0 W5:=by rw[hW5];exact(((((((((B4.alloc B4.size _).setCell (p:=⟨W0.heap.size,0,none⟩) (Nat.le_refl _) _).setCell (p:=⟨W0.heap.size,1,none⟩) (Nat.le_refl _) _).setCell (p:=⟨W0.heap.size,2,none⟩) (Nat.le_refl _) _).setCell (p:=⟨W0.heap.size,3,none⟩) (Nat.le_refl _) _).setCell (p:=⟨W0.heap.size,4,none⟩) (Nat.le_refl _) _).setCell (p:=⟨w4.heap.size,0,none⟩) (show W0.heap.size<=w4.heap.size by omega) _).setCell (p:=⟨w4.heap.size,1,none⟩) (show W0.heap.size<=w4.heap.size by omega) _).setCell (p:=⟨w4.heap.size,2,none⟩) (show W0.heap.size<=w4.heap.size by omega) _)
   have hR5:RepR W5 W5.heap.size ⟨me',many',clock',posts',heard'⟩ A5 n5 A6 n6:=by
    rw[hW5];simp only[size_setCell,World.size_alloc]
    repeat(refine RepR.far0 ?_ (λhk a e h=>by have h1:=hR4.posts.lt hk a e;have h2:=hF5 a e;simp at h2 h;omega) (λhk a e h=>by have h1:=hR4.heard.lt hk a e;have h2:=hF6 a e;simp at h2 h;omega) _)
    exact(hR4.below ((Below.refl w4.heap.size w4).alloc (Nat.le_refl _) _)).more (by omega)
   have hQ5:MsgR W5 W5.heap.size ⟨src,mposts,mheard⟩ M5 N5 M6 N6:=by
    rw[hW5];simp only[size_setCell,World.size_alloc]
    repeat(refine MsgR.far0 ?_ (λhk a e h=>by have h1:=hM4.posts.lt hk a e;have h2:=hF7 a e;simp at h2 h;omega) (λhk a e h=>by have h1:=hM4.heard.lt hk a e;have h2:=hF8 a e;simp at h2 h;omega) _)
    exact(hM4.below ((Below.refl w4.heap.size w4).alloc (Nat.le_refl _) _)).more (by omega)
   rw[<- hW5,<- hy,<- hz];clear hne12 hW5
   rotate_left
   have hlA:W0.heap.size<=w4.heap.size:=B4.size
   try have hlk:=hbk.lt
   try have hlm:=hbm.lt
   obtain⟨gy,gz,W5,hy,hz,hW5⟩:∃gy gz W5,gy=W0.heap.size/\gz=W0.heap.size+1/\W5=((((((((w4).setCell ⟨W0.heap.size,0,none⟩ (.int .i64 me')).setCell ⟨W0.heap.size,1,none⟩ (.int .i64 many')).setCell ⟨W0.heap.size,2,none⟩ (.int .i64 clock')).setCell ⟨W0.heap.size,3,none⟩ (.slice A5 n5 c5)).setCell ⟨W0.heap.size,4,none⟩ (.slice A6 n6 c6)).setCell ⟨W0.heap.size+1,0,none⟩ (.int .i64 src)).setCell ⟨W0.heap.size+1,1,none⟩ (.slice M5 N5 C5)).setCell ⟨W0.heap.size+1,2,none⟩ (.slice M6 N6 C6):=⟨_,_,_,rfl,rfl,rfl⟩;have hne12:W0.heap.size≠W0.heap.size+1:=by omega
   have hB5:Blk W5 gy 26 #[.int .i64 me',.int .i64 many',.int .i64 clock',.slice A5 n5 c5,.slice A6 n6 c6]:=by rw[hW5,hy];exact((((((((hbk.set_ 0 _).set_ 1 _).set_ 2 _).set_ 3 _).set_ 4 _).far hne12 _).far hne12 _).far hne12 _)
   have hM5:Blk W5 gz 28 #[.int .i64 src,.slice M5 N5 C5,.slice M6 N6 C6]:=by rw[hW5,hz];exact((((((((hbm.far hne12.symm _).far hne12.symm _).far hne12.symm _).far hne12.symm _).far hne12.symm _).set_ 0 _).set_ 1 _).set_ 2 _)
   have hb5:Below W.heap.size W W5:=by rw[hW5];exact((((((((hbW4.setCell (p:=⟨W0.heap.size,0,none⟩) (show W.heap.size<=W0.heap.size by omega) _).setCell (p:=⟨W0.heap.size,1,none⟩) (show W.heap.size<=W0.heap.size by omega) _).setCell (p:=⟨W0.heap.size,2,none⟩) (show W.heap.size<=W0.heap.size by omega) _).setCell (p:=⟨W0.heap.size,3,none⟩) (show W.heap.size<=W0.heap.size by omega) _).setCell (p:=⟨W0.heap.size,4,none⟩) (show W.heap.size<=W0.heap.size by omega) _).setCell (p:=⟨W0.heap.size+1,0,none⟩) (show W.heap.size<=W0.heap.size+1 by omega) _).setCell (p:=⟨W0.heap.size+1,1,none⟩) (show W.heap.size<=W0.heap.size+1 by omega) _).setCell (p:=⟨W0.heap.size+1,2,none⟩) (show W.heap.size<=W0.heap.size+1 by omega) _)
   have hb05:Below W0.heap.size W0 W5:=by rw[hW5];exact((((((((B4.setCell (p:=⟨W0.heap.size,0,none⟩) (Nat.le_refl _) _).setCell (p:=⟨W0.heap.size,1,none⟩) (Nat.le_refl _) _).setCell (p:=⟨W0.heap.size,2,none⟩) (Nat.le_refl _) _).setCell (p:=⟨W0.heap.size,3,none⟩) (Nat.le_refl _) _).setCell (p:=⟨W0.heap.size,4,none⟩) (Nat.le_refl _) _).setCell (p:=⟨W0.heap.size+1,0,none⟩) (show W0.heap.size<=W0.heap.size+1 by omega) _).setCell (p:=⟨W0.heap.size+1,1,none⟩) (show W0.heap.size<=W0.heap.size+1 by omega) _).setCell (p:=⟨W0.heap.size+1,2,none⟩) (show W0.heap.size<=W0.heap.size+1 by omega) _)
   have hR5:RepR W5 W5.heap.size ⟨me',many',clock',posts',heard'⟩ A5 n5 A6 n6:=by
    rw[hW5];simp only[size_setCell,World.size_alloc]
    repeat(refine RepR.far0 ?_ (λhk a e h=>by have h1:=hR4.posts.lt hk a e;have h2:=hF5 a e;simp at h2 h;omega) (λhk a e h=>by have h1:=hR4.heard.lt hk a e;have h2:=hF6 a e;simp at h2 h;omega) _)
    exact hR4
   have hQ5:MsgR W5 W5.heap.size ⟨src,mposts,mheard⟩ M5 N5 M6 N6:=by
    rw[hW5];simp only[size_setCell,World.size_alloc]
    repeat(refine MsgR.far0 ?_ (λhk a e h=>by have h1:=hM4.posts.lt hk a e;have h2:=hF7 a e;simp at h2 h;omega) (λhk a e h=>by have h1:=hM4.heard.lt hk a e;have h2:=hF8 a e;simp at h2 h;omega) _)
    exact hM4
   rw[<- hW5,<- hz,<- hy];clear hne12 hW5
   rotate_left
   have hlA:W0.heap.size<=w4.heap.size:=B4.size
   try have hlk:=hbk.lt
   try have hlm:=hbm.lt
   obtain⟨gy,gz,W5,hy,hz,hW5⟩:∃gy gz W5,gy=w4.heap.size/\gz=W0.heap.size/\W5=(((w4.alloc (.cells #[.int .i64 me',.int .i64 many',.int .i64 clock',.slice A5 n5 c5,.slice A6 n6 c6] 26)).setCell ⟨W0.heap.size,0,none⟩ (.int .i64 src)).setCell ⟨W0.heap.size,1,none⟩ (.slice M5 N5 C5)).setCell ⟨W0.heap.size,2,none⟩ (.slice M6 N6 C6):=⟨_,_,_,rfl,rfl,rfl⟩;have hne12:w4.heap.size≠W0.heap.size:=by omega
   have hB5:Blk W5 gy 26 #[.int .i64 me',.int .i64 many',.int .i64 clock',.slice A5 n5 c5,.slice A6 n6 c6]:=by rw[hW5,hy];exact((((Blk.new w4 26 #[.int .i64 me',.int .i64 many',.int .i64 clock',.slice A5 n5 c5,.slice A6 n6 c6]).far hne12 _).far hne12 _).far hne12 _)
   have hM5:Blk W5 gz 28 #[.int .i64 src,.slice M5 N5 C5,.slice M6 N6 C6]:=by rw[hW5,hz];exact((((hbm.alloc _).set_ 0 _).set_ 1 _).set_ 2 _)
   have hb5:Below W.heap.size W W5:=by rw[hW5];exact((((hbW4.alloc hsz4 _).setCell (p:=⟨W0.heap.size,0,none⟩) (show W.heap.size<=W0.heap.size by omega) _).setCell (p:=⟨W0.heap.size,1,none⟩) (show W.heap.size<=W0.heap.size by omega) _).setCell (p:=⟨W0.heap.size,2,none⟩) (show W.heap.size<=W0.heap.size by omega) _)
   have hb05:Below W0.heap.size W0 W5:=by rw[hW5];exact((((B4.alloc B4.size _).setCell (p:=⟨W0.heap.size,0,none⟩) (Nat.le_refl _) _).setCell (p:=⟨W0.heap.size,1,none⟩) (Nat.le_refl _) _).setCell (p:=⟨W0.heap.size,2,none⟩) (Nat.le_refl _) _)
   have hR5:RepR W5 W5.heap.size ⟨me',many',clock',posts',heard'⟩ A5 n5 A6 n6:=by
    rw[hW5];simp only[size_setCell,World.size_alloc]
    repeat(refine RepR.far0 ?_ (λhk a e h=>by have h1:=hR4.posts.lt hk a e;have h2:=hF5 a e;simp at h2 h;omega) (λhk a e h=>by have h1:=hR4.heard.lt hk a e;have h2:=hF6 a e;simp at h2 h;omega) _)
    exact(hR4.below ((Below.refl w4.heap.size w4).alloc (Nat.le_refl _) _)).more (by omega)
   have hQ5:MsgR W5 W5.heap.size ⟨src,mposts,mheard⟩ M5 N5 M6 N6:=by
    rw[hW5];simp only[size_setCell,World.size_alloc]
    repeat(refine MsgR.far0 ?_ (λhk a e h=>by have h1:=hM4.posts.lt hk a e;have h2:=hF7 a e;simp at h2 h;omega) (λhk a e h=>by have h1:=hM4.heard.lt hk a e;have h2:=hF8 a e;simp at h2 h;omega) _)
    exact(hM4.below ((Below.refl w4.heap.size w4).alloc (Nat.le_refl _) _)).more (by omega)
   rw[<- hW5,<- hy,<- hz];clear hne12 hW5
   rotate_left
   have hlA:W0.heap.size<=w4.heap.size:=B4.size
   try have hlk:=hbk.lt
   try have hlm:=hbm.lt
   obtain⟨gy,gz,W5,hy,hz,hW5⟩:∃gy gz W5,gy=W0.heap.size+1/\gz=W0.heap.size/\W5=((((((((w4).setCell ⟨W0.heap.size+1,0,none⟩ (.int .i64 me')).setCell ⟨W0.heap.size+1,1,none⟩ (.int .i64 many')).setCell ⟨W0.heap.size+1,2,none⟩ (.int .i64 clock')).setCell ⟨W0.heap.size+1,3,none⟩ (.slice A5 n5 c5)).setCell ⟨W0.heap.size+1,4,none⟩ (.slice A6 n6 c6)).setCell ⟨W0.heap.size,0,none⟩ (.int .i64 src)).setCell ⟨W0.heap.size,1,none⟩ (.slice M5 N5 C5)).setCell ⟨W0.heap.size,2,none⟩ (.slice M6 N6 C6):=⟨_,_,_,rfl,rfl,rfl⟩;have hne12:W0.heap.size+1≠W0.heap.size:=by omega
   have hB5:Blk W5 gy 26 #[.int .i64 me',.int .i64 many',.int .i64 clock',.slice A5 n5 c5,.slice A6 n6 c6]:=by rw[hW5,hy];exact((((((((hbk.set_ 0 _).set_ 1 _).set_ 2 _).set_ 3 _).set_ 4 _).far hne12 _).far hne12 _).far hne12 _)
   have hM5:Blk W5 gz 28 #[.int .i64 src,.slice M5 N5 C5,.slice M6 N6 C6]:=by rw[hW5,hz];exact((((((((hbm.far hne12.symm _).far hne12.symm _).far hne12.symm _).far hne12.symm _).far hne12.symm _).set_ 0 _).set_ 1 _).set_ 2 _)
   have hb5:Below W.heap.size W W5:=by rw[hW5];exact((((((((hbW4.setCell (p:=⟨W0.heap.size+1,0,none⟩) (show W.heap.size<=W0.heap.size+1 by omega) _).setCell (p:=⟨W0.heap.size+1,1,none⟩) (show W.heap.size<=W0.heap.size+1 by omega) _).setCell (p:=⟨W0.heap.size+1,2,none⟩) (show W.heap.size<=W0.heap.size+1 by omega) _).setCell (p:=⟨W0.heap.size+1,3,none⟩) (show W.heap.size<=W0.heap.size+1 by omega) _).setCell (p:=⟨W0.heap.size+1,4,none⟩) (show W.heap.size<=W0.heap.size+1 by omega) _).setCell (p:=⟨W0.heap.size,0,none⟩) (show W.heap.size<=W0.heap.size by omega) _).setCell (p:=⟨W0.heap.size,1,none⟩) (show W.heap.size<=W0.heap.size by omega) _).setCell (p:=⟨W0.heap.size,2,none⟩) (show W.heap.size<=W0.heap.size by omega) _)
   have hb05:Below W0.heap.size W0 W5:=by rw[hW5];exact((((((((B4.setCell (p:=⟨W0.heap.size+1,0,none⟩) (show W0.heap.size<=W0.heap.size+1 by omega) _).setCell (p:=⟨W0.heap.size+1,1,none⟩) (show W0.heap.size<=W0.heap.size+1 by omega) _).setCell (p:=⟨W0.heap.size+1,2,none⟩) (show W0.heap.size<=W0.heap.size+1 by omega) _).setCell (p:=⟨W0.heap.size+1,3,none⟩) (show W0.heap.size<=W0.heap.size+1 by omega) _).setCell (p:=⟨W0.heap.size+1,4,none⟩) (show W0.heap.size<=W0.heap.size+1 by omega) _).setCell (p:=⟨W0.heap.size,0,none⟩) (Nat.le_refl _) _).setCell (p:=⟨W0.heap.size,1,none⟩) (Nat.le_refl _) _).setCell (p:=⟨W0.heap.size,2,none⟩) (Nat.le_refl _) _)
   have hR5:RepR W5 W5.heap.size ⟨me',many',clock',posts',heard'⟩ A5 n5 A6 n6:=by
    rw[hW5];simp only[size_setCell,World.size_alloc]
    repeat(refine RepR.far0 ?_ (λhk a e h=>by have h1:=hR4.posts.lt hk a e;have h2:=hF5 a e;simp at h2 h;omega) (λhk a e h=>by have h1:=hR4.heard.lt hk a e;have h2:=hF6 a e;simp at h2 h;omega) _)
    exact hR4
   have hQ5:MsgR W5 W5.heap.size ⟨src,mposts,mheard⟩ M5 N5 M6 N6:=by
    rw[hW5];simp only[size_setCell,World.size_alloc]
    repeat(refine MsgR.far0 ?_ (λhk a e h=>by have h1:=hM4.posts.lt hk a e;have h2:=hF7 a e;simp at h2 h;omega) (λhk a e h=>by have h1:=hM4.heard.lt hk a e;have h2:=hF8 a e;simp at h2 h;omega) _)
    exact hM4
   rw[<- hW5,<- hy,<- hz];clear hne12 hW5
   rotate_left
   all_goals
    have hgG:g≠gy:=by omega
    have hgH:g≠gz:=by omega
    have hxG:x≠gz:=by omega
    have hzW:W.heap.size<=gz:=by omega
    clear hy hz;have hA5:Apart A5 n5 x (.slice (some ⟨g,0,none⟩) rl.length cap) (.slice Ab ml.length cb):=Fresh.apart HR.out (λa e=>by have:=hF5 a e;simp at this;omega);have hA6:Apart A6 n6 x (.slice (some ⟨g,0,none⟩) rl.length cap) (.slice Ab ml.length cb):=Fresh.apart HR.out (λa e=>by have:=hF6 a e;simp at this;omega);have hA7:Apart M5 N5 x (.slice (some ⟨g,0,none⟩) rl.length cap) (.slice Ab ml.length cb):=Fresh.apart HR.out (λa e=>by have:=hF7 a e;simp at this;omega);have hA8:Apart M6 N6 x (.slice (some ⟨g,0,none⟩) rl.length cap) (.slice Ab ml.length cb):=Fresh.apart HR.out (λa e=>by have:=hF8 a e;simp at this;omega);have hs5:=hb5.size;have HR5:=hid (HR.out.keep hb5);have HSet:=hid (HR5.out.setRep hl ⟨⟨me',many',clock',posts',heard'⟩,A5,n5,c5,A6,n6,c6⟩ hR5 hA5 hA6 hcv);have x5:=(hb05.cell (p:=⟨x,0,none⟩) hxl0).trans x0;have d5:=(hb05.cell (p:=⟨W.heap.size,1,none⟩) hWl0).trans d1;obtain⟨v0,v1,v2,v3,v4⟩:=hB5.cells5;have hgx:g≠x:=λe=>own_ne_blk HR5.out.reps HR5.out.blk (by decide) (by simp[Value.ownBlock,e])
    have hgW:g≠W.heap.size:=by omega
    have hgx':=hgx.symm;have hgW':=hgW.symm;have hgG':=hgG.symm;have t0:=HR5.out.reps.frozenAt (who*5);have t1:=HR5.out.reps.frozenAt (who*5+1);have t2:=HR5.out.reps.frozenAt (who*5+2);have t3:=HR5.out.reps.frozenAt (who*5+3);have t4:=HR5.out.reps.frozenAt (who*5+4);obtain⟨p0,p1,p2,p3,p4⟩:=HR5.out.repCells HV.out;simp only at p0 p1 p2 p3 p4;have HM5:=hid hM5;have HQ5:=hid hQ5;have HA7:=hid hA7;have HA8:=hid hA8;have HB5:=hid hb5;clear hM5 hQ5 hA7 hA8;clear k0 k1 q0 q1 q2 q3 q4 n0 n1 n2 hb4 hR4 hM4 hF5 hF6 hF7 hF8 c0 c1 c2 c3 c4 hA5 hA6 hR5 x0 d1 m0 m1 m2 hB5 hb05 B4 hbW4;go_wp2
    go_region_held3 (λw'=>w'.cell? ⟨x,0,none⟩=some (.slice (some ⟨g,0,none⟩) rl.length cap)/\w'.cell? ⟨W.heap.size,1,none⟩=some (.int .i64 who) /\
     w'.cell? ⟨gy,0,none⟩=some (.int .i64 me')/\w'.cell? ⟨gy,1,none⟩=some (.int .i64 many')/\w'.cell? ⟨gy,2,none⟩=some (.int .i64 clock') /\
     w'.cell? ⟨gy,3,none⟩=some (.slice A5 n5 c5)/\w'.cell? ⟨gy,4,none⟩=some (.slice A6 n6 c6))
     (go_keep)
     (fail)
    obtain⟨W6,hW6⟩:∃W6,W6=(((((W5.setCell ⟨g,who*5,none⟩ (.int .i64 me')).setCell ⟨g,who*5+1,none⟩ (.int .i64 many')).setCell ⟨g,who*5+2,none⟩ (.int .i64 clock')).setCell ⟨g,who*5+3,none⟩ (.slice A5 n5 c5)).setCell ⟨g,who*5+4,none⟩ (.slice A6 n6 c6)).drew:=⟨_,rfl⟩;rw[<- hW6];have hs6:W6.heap.size=W5.heap.size:=by rw[hW6];show(World.setCell ..).heap.size=_;simp only[size_setCell]
    have HS6:Hid (RunR B W6 x (.slice (some ⟨g,0,none⟩) rl.length cap) (rl.set who ⟨⟨me',many',clock',posts',heard'⟩,A5,n5,c5,A6,n6,c6⟩) (.slice Ab ml.length cb) ml):=hid (by rw[hW6];exact HSet.out.drew);have hM6:Blk W6 (gz) 28 #[.int .i64 src,.slice M5 N5 C5,.slice M6 N6 C6]:=by rw[hW6];exact(((((HM5.out.far hgH.symm _).far hgH.symm _).far hgH.symm _).far hgH.symm _).far hgH.symm _).drew
    have HQ6:Hid (MsgR W6 W6.heap.size ⟨src,mposts,mheard⟩ M5 N5 M6 N6):=hid (by
     rw[hs6,hW6];refine MsgR.below ?_ (Below.refl _ _).drew
     repeat(refine MsgR.far0 ?_ HA7.out.ne HA8.out.ne _)
     exact HQ5.out)
    have HB6:Hid (Below B W W6):=hid (by
     rw[hW6];refine Below.drew ?_
     repeat(refine Below.setCell ?_ hg _)
     exact HB5.out.mono hBW)
    clear hW6 hs6 t0 t1 t2 t3 t4 p0 p1 p2 p3 p4 v0 v1 v2 v3 v4 x5 d5 hs5 hb5;obtain⟨w0,w1,w2⟩:=hM6.cells3;have x6:=HS6.out.blk.cell 1;simp only[List.getElem?_toArray,List.getElem?_cons_zero,List.getElem?_cons_succ]at x6;have xf:=HS6.out.blk.frozen 1;have x6a:∀o,(W6.alloc o).cell? ⟨x,1,none⟩=some (.slice Ab ml.length cb):=λo=>(World.cell?_alloc_some W6 _ o (by rw[x6];rfl)).trans x6
    have hxG':=hxG.symm;have hx6:x<W6.heap.size:=HS6.out.blk.lt;have hG26:gz<W6.heap.size:=hM6.lt;have hB6s:B<=W6.heap.size:=Nat.le_trans hBW HB6.out.size;have N1:Hid (some x≠(Value.slice Ab ml.length cb).ownBlock):=hid (λe=>own_ne_blk HS6.out.msgs HS6.out.blk (by decide) e.symm);have N2:Hid (some (gz)≠(Value.slice Ab ml.length cb).ownBlock):=hid (λe=>by have:=(HR.out.msgs.lt _ e.symm).2;omega);go_wp2
    go_region_law (first
     | (refine step_append_lies _ (by rfl) _ _ _ (by rfl) B 28 i0 _ 3 56 underlying39 hi0 hz0 hz1 hz2 rfl (by omega) (.slice Ab ml.length cb) ml.length (encMs ml) (by rfl) ((HS6.out.msgs.alloc _).drew)
         ⟨W6.heap.size,0,none⟩ 1 1 [.int .i64 src,.slice M5 N5 C5,.slice M6 N6 C6] (by rfl) (by rfl)
         (World.news_of_block (cs:=#[.int .i64 src,.slice M5 N5 C5,.slice M6 N6 C6]) (t:=28) (fr:=(0,0)) (heap_alloc_new W6 _)) (by simp[Value.oneCell'])
         (by omega) (by simp only[maxLen];omega) (by omega) (by simp;omega) (W6.heap.size+1) (by simp) ?_
        intro g' cap' w7 hown7 hgrow hat hlt7;have hb7:=(Below.refl W6.heap.size W6).alloc (Nat.le_refl _) (.cells #[.int .i64 src,.slice M5 N5 C5,.slice M6 N6 C6] 28);have j0:=(hgrow.cell_far ⟨gz,0,none⟩ (by simp;omega) N2.out).trans ((hb7.cell (p:=⟨gz,0,none⟩) hG26).trans w0);have j1:=(hgrow.cell_far ⟨gz,1,none⟩ (by simp;omega) N2.out).trans ((hb7.cell (p:=⟨gz,1,none⟩) hG26).trans w1);have j2:=(hgrow.cell_far ⟨gz,2,none⟩ (by simp;omega) N2.out).trans ((hb7.cell (p:=⟨gz,2,none⟩) hG26).trans w2);have jx:=(hgrow.cell_far ⟨x,1,none⟩ (by simp;omega) N1.out).trans ((hb7.cell (p:=⟨x,1,none⟩) hx6).trans x6);have jf:=(hgrow.frozen_far ⟨x,1,none⟩ (by simp;omega) N1.out).trans ((hb7.frozen (p:=⟨x,1,none⟩) hx6).trans xf)))
    all_goals
     have HPush:=hid (HS6.out.push ⟨⟨src,mposts,mheard⟩,M5,N5,C5,M6,N6,C6⟩ HQ6.out hNC HA7.out HA8.out (((Below.refl W6.heap.size W6).alloc (Nat.le_refl _) (.cells #[.int .i64 src,.slice M5 N5 C5,.slice M6 N6 C6] 28)).drew) hgrow hown7 (hat.imp id (λh=>by simp at h ⊢;omega)));have hfin:Below B W (w7.setCell ⟨x,1,none⟩ (.slice (some ⟨g',0,none⟩) (ml.length+1) cap')) :=
      ((((HB6.out).alloc hB6s (.cells #[.int .i64 src,.slice M5 N5 C5,.slice M6 N6 C6] 28)).drew).grown hgrow (by simp;omega) (λj hj=>(HS6.out.msgs.lt j hj).1)).setCell (p:=⟨x,1,none⟩) HS6.out.at_ _
     have HFin:=hid hfin;clear hfin hown7 hgrow hat;go_wp2;go_end0;exact⟨⟨_,rfl⟩,HFin.out,_,_,_,HPush.out,map_set_r _ _ _,by simp⟩
end
end Go.Proofs.YtnehgpeelgjjhaaGreatDoor.Tw
