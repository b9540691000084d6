/- Contracts of functions of the program, and plain laws, towards the laws of replicas. Joined of the texts: V16, L5q, L4q, R2, R3, R29, R4. -/
import Derived.Test.YtnehgpeelgjjhaaGreatDoorW22
import Derived.Test.YtnehgpeelgjjhaaGreatDoorW12
import Derived.Test.YtnehgpeelgjjhaaGreatDoorW00
import Derived.Test.YtnehgpeelgjjhaaGreatDoorW15
import Derived.Test.YtnehgpeelgjjhaaGreatDoorW04
import Derived.Test.YtnehgpeelgjjhaaGreatDoorW21
set_option linter.all false
set_option maxRecDepth 100000
set_option maxHeartbeats 12800000
open Go.Lib (hid)
namespace Go.Proofs.YtnehgpeelgjjhaaGreatDoor.Tw
open Go.Proofs.Tryz
section
open Go.RowKit Go.Shelf
attribute [local irreducible] rootF rr trust0 digG RepAt MsgAt
abbrev z26 :Array Value:=#[.int .i64 0,.int .i64 0,.int .i64 0,.slice none 0 0,.slice none 0 0]
abbrev z28 :Array Value:=#[.int .i64 0,.slice none 0 0,.slice none 0 0]
theorem sane_any (w:World)(tab:Array Value)(hT:Tab w tab):Calls prog 6 #[] w λe w'=>e=.returned (.bool true)/\Below w.heap.size w w':=by
 have HT:=hid hT;have ht0:=hT.1.lt;clear hT;refine calls_of_wp func6 rfl ?_;simp only[ntmps6,List.size_toArray,List.length_cons,List.length_nil,Nat.reduceAdd,Nat.reduceSub,Array.replicate_succ,Array.replicate_zero,List.push_toArray,List.append_toArray,List.nil_append,List.cons_append];have HW:Hid (Below w.heap.size w w):=hid (Below.refl _ _)
 go_wp2_with fail
 refine(newC w 0 2 sn1).mono ?_;rintro e w1 ⟨VA,rfl,hrep,hb⟩;have zVA:(prog.info? 26).map (·.size)=some VA.size:=by rw[hrep.size];exact size26
 have oneVA:VA.all (·.oneCell')=true:=hrep.one;have szVA:VA.size=5:=hrep.size;have hz_w1:=hb.size;replace HW:=hid (show Below w.heap.size w w1 from HW.out.trans (hb.mono HW.out.size));have RVA:=hid (show RepAt w1 VA rA0 w.heap.size w1.heap.size from hrep);clear hrep hb;have hal1:Below w1.heap.size w1 (w1.alloc (.cells VA 26)):=(Below.refl _ _).alloc (Nat.le_refl _) _;replace HW:=hid (show Below w.heap.size w (w1.alloc (.cells VA 26))from HW.out.trans (hal1.mono HW.out.size));replace RVA:=hid (show RepAt (w1.alloc (.cells VA 26)) VA rA0 w.heap.size w1.heap.size from RVA.out.below hal1 (by first|omega|(simp only[World.size_alloc,setRow_size];omega)));clear hal1;have PA:=hid (show Blk (w1.alloc (.cells VA 26)) w1.heap.size 26 VA from Blk.new w1 26 VA);have oldVA:z26.size=VA.size:=by rw[szVA];rfl
 have hsz_W1:w1.heap.size+1<=(w1.alloc (.cells VA 26)).heap.size:=Nat.le_of_eq (by first|rfl|simp only[World.size_alloc,setRow_size,Nat.add_zero])
 go_upto_region 2 with (first
  | (with_reducible refine wpList_store_last rfl 26 (.tmp 1) (.tmp 33) rfl VA _ rfl rfl rfl zVA oldVA oneVA ?_))
 generalize w1.alloc (.cells VA 26)=W1 at *
 go_wp2_with fail
 refine(newC W1 1 2 sn2).mono ?_;rintro e w2 ⟨VB,rfl,hrep,hb⟩;have zVB:(prog.info? 26).map (·.size)=some VB.size:=by rw[hrep.size];exact size26
 have oneVB:VB.all (·.oneCell')=true:=hrep.one;have szVB:VB.size=5:=hrep.size;have hz_w2:=hb.size;replace HW:=hid (show Below w.heap.size w w2 from HW.out.trans (hb.mono HW.out.size));replace RVA:=hid (show RepAt w2 VA rA0 w.heap.size w1.heap.size from RVA.out.below hb (by omega));replace PA:=hid (show Blk w2 w1.heap.size 26 VA from PA.out.below hb PA.out.lt);have RVB:=hid (show RepAt w2 VB rB0 W1.heap.size w2.heap.size from hrep);clear hrep hb;have hal2:Below w2.heap.size w2 (w2.alloc (.cells VB 26)):=(Below.refl _ _).alloc (Nat.le_refl _) _;replace HW:=hid (show Below w.heap.size w (w2.alloc (.cells VB 26))from HW.out.trans (hal2.mono HW.out.size));replace RVA:=hid (show RepAt (w2.alloc (.cells VB 26)) VA rA0 w.heap.size w1.heap.size from RVA.out.below hal2 (by first|omega|(simp only[World.size_alloc,setRow_size];omega)));replace PA:=hid (show Blk (w2.alloc (.cells VB 26)) w1.heap.size 26 VA from PA.out.alloc _);replace RVB:=hid (show RepAt (w2.alloc (.cells VB 26)) VB rB0 W1.heap.size w2.heap.size from RVB.out.below hal2 (by first|omega|(simp only[World.size_alloc,setRow_size];omega)));clear hal2;have PB:=hid (show Blk (w2.alloc (.cells VB 26)) w2.heap.size 26 VB from Blk.new w2 26 VB);have oldVB:z26.size=VB.size:=by rw[szVB];rfl
 have hsz_W2:w2.heap.size+1<=(w2.alloc (.cells VB 26)).heap.size:=Nat.le_of_eq (by first|rfl|simp only[World.size_alloc,setRow_size,Nat.add_zero])
 go_upto_region 3 with (first
  | (with_reducible refine wpList_store_last rfl 26 (.tmp 3) (.tmp 37) rfl VB _ rfl rfl rfl zVB oldVB oneVB ?_))
 generalize w2.alloc (.cells VB 26)=W2 at *
 go_wp2_with (with_reducible refine ldB 26 (.tmp 1) w1.heap.size VA PA underlying26 rfl zVA rfl rfl rfl ?_)
 refine(writeC W2 ⟨#[97]⟩ RVA.out (by omega) sn3).mono ?_;rintro e w3 ⟨VA1,rfl,hrep,hb⟩;have zVA1:(prog.info? 26).map (·.size)=some VA1.size:=by rw[hrep.size];exact size26
 have oneVA1:VA1.all (·.oneCell')=true:=hrep.one;have szVA1:VA1.size=5:=hrep.size;have hz_w3:=hb.size;replace HW:=hid (show Below w.heap.size w w3 from HW.out.trans (hb.mono HW.out.size));replace RVA:=hid (show RepAt w3 VA rA0 w.heap.size w1.heap.size from RVA.out.below hb (by omega));replace PA:=hid (show Blk w3 w1.heap.size 26 VA from PA.out.below hb PA.out.lt);replace RVB:=hid (show RepAt w3 VB rB0 W1.heap.size w2.heap.size from RVB.out.below hb (by omega));replace PB:=hid (show Blk w3 w2.heap.size 26 VB from PB.out.below hb PB.out.lt);have RVA1:=hid (show RepAt w3 VA1 rA1 W2.heap.size w3.heap.size from hrep);clear hrep hb;have oldVA1:VA.size=VA1.size:=by rw[szVA1,szVA]
 have PA0:=PA;replace HW:=hid (show Below w.heap.size w (w3.setRow w1.heap.size VA1)from below_setRow HW.out (by omega) _);replace RVA:=hid (show RepAt (w3.setRow w1.heap.size VA1) VA rA0 w.heap.size w1.heap.size from RVA.out.row _ (by omega));replace PA:=hid (show Blk (w3.setRow w1.heap.size VA1) w1.heap.size 26 VA1 from PA.out.setRow_same _);replace RVB:=hid (show RepAt (w3.setRow w1.heap.size VA1) VB rB0 W1.heap.size w2.heap.size from RVB.out.row _ (by omega));replace PB:=hid (show Blk (w3.setRow w1.heap.size VA1) w2.heap.size 26 VB from PB.out.setRow (by omega) _);replace RVA1:=hid (show RepAt (w3.setRow w1.heap.size VA1) VA1 rA1 W2.heap.size w3.heap.size from RVA1.out.row _ (by omega));have hsz_W3:w3.heap.size+0<=(w3.setRow w1.heap.size VA1).heap.size:=Nat.le_of_eq (by first|rfl|simp only[World.size_alloc,setRow_size,Nat.add_zero])
 go_upto_region 4 with (first
  | (with_reducible refine stB 26 (.tmp 1) (.tmp 42) w1.heap.size VA1 _ PA0 zVA1 oldVA1 oneVA1 rfl rfl rfl rfl ?_))
 generalize w3.setRow w1.heap.size VA1=W3 at *;clear PA0;clear RVA
 go_wp2_with (with_reducible refine ldB 26 (.tmp 1) w1.heap.size VA1 PA underlying26 rfl zVA1 rfl rfl rfl ?_)
 refine(tellC W3 RVA1.out (by omega) sn4).mono ?_;rintro e w4 ⟨VA2,MM,rfl,hrep,hmsg,hb⟩;have zVA2:(prog.info? 26).map (·.size)=some VA2.size:=by rw[hrep.size];exact size26
 have oneVA2:VA2.all (·.oneCell')=true:=hrep.one;have szVA2:VA2.size=5:=hrep.size;have zMM:(prog.info? 28).map (·.size)=some MM.size:=by rw[hmsg.size];exact size28
 have oneMM:MM.all (·.oneCell')=true:=hmsg.one;have szMM:MM.size=3:=hmsg.size;have hz_w4:=hb.size;replace HW:=hid (show Below w.heap.size w w4 from HW.out.trans (hb.mono HW.out.size));replace PA:=hid (show Blk w4 w1.heap.size 26 VA1 from PA.out.below hb PA.out.lt);replace RVB:=hid (show RepAt w4 VB rB0 W1.heap.size w2.heap.size from RVB.out.below hb (by omega));replace PB:=hid (show Blk w4 w2.heap.size 26 VB from PB.out.below hb PB.out.lt);replace RVA1:=hid (show RepAt w4 VA1 rA1 W2.heap.size w3.heap.size from RVA1.out.below hb (by omega));have RVA2:=hid (show RepAt w4 VA2 rA2 W3.heap.size w4.heap.size from hrep);have RMM:=hid (show MsgAt w4 MM mM W3.heap.size w4.heap.size from hmsg);clear hrep hmsg hb;have oldVA2:VA1.size=VA2.size:=by rw[szVA2,szVA1]
 have oldMM:z28.size=MM.size:=by rw[szMM];rfl
 have hal3:Below w4.heap.size w4 (w4.alloc (.cells z28 28)):=(Below.refl _ _).alloc (Nat.le_refl _) _;replace HW:=hid (show Below w.heap.size w (w4.alloc (.cells z28 28))from HW.out.trans (hal3.mono HW.out.size));replace PA:=hid (show Blk (w4.alloc (.cells z28 28)) w1.heap.size 26 VA1 from PA.out.alloc _);replace RVB:=hid (show RepAt (w4.alloc (.cells z28 28)) VB rB0 W1.heap.size w2.heap.size from RVB.out.below hal3 (by first|omega|(simp only[World.size_alloc,setRow_size];omega)));replace PB:=hid (show Blk (w4.alloc (.cells z28 28)) w2.heap.size 26 VB from PB.out.alloc _);replace RVA1:=hid (show RepAt (w4.alloc (.cells z28 28)) VA1 rA1 W2.heap.size w3.heap.size from RVA1.out.below hal3 (by first|omega|(simp only[World.size_alloc,setRow_size];omega)));replace RVA2:=hid (show RepAt (w4.alloc (.cells z28 28)) VA2 rA2 W3.heap.size w4.heap.size from RVA2.out.below hal3 (by first|omega|(simp only[World.size_alloc,setRow_size];omega)));replace RMM:=hid (show MsgAt (w4.alloc (.cells z28 28)) MM mM W3.heap.size w4.heap.size from RMM.out.below hal3 (by first|omega|(simp only[World.size_alloc,setRow_size];omega)));clear hal3;have PM:=hid (show Blk (w4.alloc (.cells z28 28)) w4.heap.size 28 z28 from Blk.new w4 28 z28);have PA0:=PA;replace HW:=hid (show Below w.heap.size w ((w4.alloc (.cells z28 28)).setRow w1.heap.size VA2)from below_setRow HW.out (by omega) _);replace PA:=hid (show Blk ((w4.alloc (.cells z28 28)).setRow w1.heap.size VA2) w1.heap.size 26 VA2 from PA.out.setRow_same _);replace RVB:=hid (show RepAt ((w4.alloc (.cells z28 28)).setRow w1.heap.size VA2) VB rB0 W1.heap.size w2.heap.size from RVB.out.row _ (by omega));replace PB:=hid (show Blk ((w4.alloc (.cells z28 28)).setRow w1.heap.size VA2) w2.heap.size 26 VB from PB.out.setRow (by omega) _);replace RVA1:=hid (show RepAt ((w4.alloc (.cells z28 28)).setRow w1.heap.size VA2) VA1 rA1 W2.heap.size w3.heap.size from RVA1.out.row _ (by omega));replace RVA2:=hid (show RepAt ((w4.alloc (.cells z28 28)).setRow w1.heap.size VA2) VA2 rA2 W3.heap.size w4.heap.size from RVA2.out.row _ (by omega));replace RMM:=hid (show MsgAt ((w4.alloc (.cells z28 28)).setRow w1.heap.size VA2) MM mM W3.heap.size w4.heap.size from RMM.out.row _ (by omega));replace PM:=hid (show Blk ((w4.alloc (.cells z28 28)).setRow w1.heap.size VA2) w4.heap.size 28 z28 from PM.out.setRow (by omega) _);have PM0:=PM;replace HW:=hid (show Below w.heap.size w (((w4.alloc (.cells z28 28)).setRow w1.heap.size VA2).setRow w4.heap.size MM)from below_setRow HW.out (by omega) _);replace PA:=hid (show Blk (((w4.alloc (.cells z28 28)).setRow w1.heap.size VA2).setRow w4.heap.size MM) w1.heap.size 26 VA2 from PA.out.setRow (by omega) _);replace RVB:=hid (show RepAt (((w4.alloc (.cells z28 28)).setRow w1.heap.size VA2).setRow w4.heap.size MM) VB rB0 W1.heap.size w2.heap.size from RVB.out.row _ (by omega));replace PB:=hid (show Blk (((w4.alloc (.cells z28 28)).setRow w1.heap.size VA2).setRow w4.heap.size MM) w2.heap.size 26 VB from PB.out.setRow (by omega) _);replace RVA1:=hid (show RepAt (((w4.alloc (.cells z28 28)).setRow w1.heap.size VA2).setRow w4.heap.size MM) VA1 rA1 W2.heap.size w3.heap.size from RVA1.out.row _ (by omega));replace RVA2:=hid (show RepAt (((w4.alloc (.cells z28 28)).setRow w1.heap.size VA2).setRow w4.heap.size MM) VA2 rA2 W3.heap.size w4.heap.size from RVA2.out.row _ (by omega));replace RMM:=hid (show MsgAt (((w4.alloc (.cells z28 28)).setRow w1.heap.size VA2).setRow w4.heap.size MM) MM mM W3.heap.size w4.heap.size from RMM.out.row _ (by omega));replace PM:=hid (show Blk (((w4.alloc (.cells z28 28)).setRow w1.heap.size VA2).setRow w4.heap.size MM) w4.heap.size 28 MM from PM.out.setRow_same _);have hsz_W4:w4.heap.size+1<=(((w4.alloc (.cells z28 28)).setRow w1.heap.size VA2).setRow w4.heap.size MM).heap.size:=Nat.le_of_eq (by first|rfl|simp only[World.size_alloc,setRow_size,Nat.add_zero])
 go_upto_region 5 with (first
  | (with_reducible refine stB 26 (.tmp 1) (.tmp 47) w1.heap.size VA2 _ PA0 zVA2 oldVA2 oneVA2 rfl rfl rfl rfl ?_)
  | (with_reducible refine stB 28 (.tmp 6) (.tmp 48) w4.heap.size MM _ PM0 zMM oldMM oneMM rfl rfl rfl rfl ?_))
 generalize ((w4.alloc (.cells z28 28)).setRow w1.heap.size VA2).setRow w4.heap.size MM=W4 at *;clear PA0 PM0;clear RVA1
 go_wp2_with (with_reducible refine ldB 26 (.tmp 1) w1.heap.size VA2 PA underlying26 rfl zVA2 rfl rfl rfl ?_)
 refine(writeC W4 ⟨#[98]⟩ RVA2.out (by omega) sn5).mono ?_;rintro e w5 ⟨VA3,rfl,hrep,hb⟩;have zVA3:(prog.info? 26).map (·.size)=some VA3.size:=by rw[hrep.size];exact size26
 have oneVA3:VA3.all (·.oneCell')=true:=hrep.one;have szVA3:VA3.size=5:=hrep.size;have hz_w5:=hb.size;replace HW:=hid (show Below w.heap.size w w5 from HW.out.trans (hb.mono HW.out.size));replace PA:=hid (show Blk w5 w1.heap.size 26 VA2 from PA.out.below hb PA.out.lt);replace RVB:=hid (show RepAt w5 VB rB0 W1.heap.size w2.heap.size from RVB.out.below hb (by omega));replace PB:=hid (show Blk w5 w2.heap.size 26 VB from PB.out.below hb PB.out.lt);replace RVA2:=hid (show RepAt w5 VA2 rA2 W3.heap.size w4.heap.size from RVA2.out.below hb (by omega));replace RMM:=hid (show MsgAt w5 MM mM W3.heap.size w4.heap.size from RMM.out.below hb (by omega));replace PM:=hid (show Blk w5 w4.heap.size 28 MM from PM.out.below hb PM.out.lt);have RVA3:=hid (show RepAt w5 VA3 rA3 W4.heap.size w5.heap.size from hrep);clear hrep hb;have oldVA3:VA2.size=VA3.size:=by rw[szVA3,szVA2]
 have PA0:=PA;replace HW:=hid (show Below w.heap.size w (w5.setRow w1.heap.size VA3)from below_setRow HW.out (by omega) _);replace PA:=hid (show Blk (w5.setRow w1.heap.size VA3) w1.heap.size 26 VA3 from PA.out.setRow_same _);replace RVB:=hid (show RepAt (w5.setRow w1.heap.size VA3) VB rB0 W1.heap.size w2.heap.size from RVB.out.row _ (by omega));replace PB:=hid (show Blk (w5.setRow w1.heap.size VA3) w2.heap.size 26 VB from PB.out.setRow (by omega) _);replace RVA2:=hid (show RepAt (w5.setRow w1.heap.size VA3) VA2 rA2 W3.heap.size w4.heap.size from RVA2.out.row _ (by omega));replace RMM:=hid (show MsgAt (w5.setRow w1.heap.size VA3) MM mM W3.heap.size w4.heap.size from RMM.out.row _ (by omega));replace PM:=hid (show Blk (w5.setRow w1.heap.size VA3) w4.heap.size 28 MM from PM.out.setRow (by omega) _);replace RVA3:=hid (show RepAt (w5.setRow w1.heap.size VA3) VA3 rA3 W4.heap.size w5.heap.size from RVA3.out.row _ (by omega));have hsz_W5:w5.heap.size+0<=(w5.setRow w1.heap.size VA3).heap.size:=Nat.le_of_eq (by first|rfl|simp only[World.size_alloc,setRow_size,Nat.add_zero])
 go_upto_region 6 with (first
  | (with_reducible refine stB 26 (.tmp 1) (.tmp 53) w1.heap.size VA3 _ PA0 zVA3 oldVA3 oneVA3 rfl rfl rfl rfl ?_))
 generalize w5.setRow w1.heap.size VA3=W5 at *;clear PA0;clear RVA2
 go_wp2_with (with_reducible refine ldB 26 (.tmp 3) w2.heap.size VB PB underlying26 rfl zVB rfl rfl rfl ?_)
 refine(writeC W5 ⟨#[99]⟩ RVB.out (by omega) sn6).mono ?_;rintro e w6 ⟨VB1,rfl,hrep,hb⟩;have zVB1:(prog.info? 26).map (·.size)=some VB1.size:=by rw[hrep.size];exact size26
 have oneVB1:VB1.all (·.oneCell')=true:=hrep.one;have szVB1:VB1.size=5:=hrep.size;have hz_w6:=hb.size;replace HW:=hid (show Below w.heap.size w w6 from HW.out.trans (hb.mono HW.out.size));replace PA:=hid (show Blk w6 w1.heap.size 26 VA3 from PA.out.below hb PA.out.lt);replace RVB:=hid (show RepAt w6 VB rB0 W1.heap.size w2.heap.size from RVB.out.below hb (by omega));replace PB:=hid (show Blk w6 w2.heap.size 26 VB from PB.out.below hb PB.out.lt);replace RMM:=hid (show MsgAt w6 MM mM W3.heap.size w4.heap.size from RMM.out.below hb (by omega));replace PM:=hid (show Blk w6 w4.heap.size 28 MM from PM.out.below hb PM.out.lt);replace RVA3:=hid (show RepAt w6 VA3 rA3 W4.heap.size w5.heap.size from RVA3.out.below hb (by omega));have RVB1:=hid (show RepAt w6 VB1 rB1 W5.heap.size w6.heap.size from hrep);clear hrep hb;have oldVB1:VB.size=VB1.size:=by rw[szVB1,szVB]
 have PB0:=PB;replace HW:=hid (show Below w.heap.size w (w6.setRow w2.heap.size VB1)from below_setRow HW.out (by omega) _);replace PA:=hid (show Blk (w6.setRow w2.heap.size VB1) w1.heap.size 26 VA3 from PA.out.setRow (by omega) _);replace RVB:=hid (show RepAt (w6.setRow w2.heap.size VB1) VB rB0 W1.heap.size w2.heap.size from RVB.out.row _ (by omega));replace PB:=hid (show Blk (w6.setRow w2.heap.size VB1) w2.heap.size 26 VB1 from PB.out.setRow_same _);replace RMM:=hid (show MsgAt (w6.setRow w2.heap.size VB1) MM mM W3.heap.size w4.heap.size from RMM.out.row _ (by omega));replace PM:=hid (show Blk (w6.setRow w2.heap.size VB1) w4.heap.size 28 MM from PM.out.setRow (by omega) _);replace RVA3:=hid (show RepAt (w6.setRow w2.heap.size VB1) VA3 rA3 W4.heap.size w5.heap.size from RVA3.out.row _ (by omega));replace RVB1:=hid (show RepAt (w6.setRow w2.heap.size VB1) VB1 rB1 W5.heap.size w6.heap.size from RVB1.out.row _ (by omega));have hsz_W6:w6.heap.size+0<=(w6.setRow w2.heap.size VB1).heap.size:=Nat.le_of_eq (by first|rfl|simp only[World.size_alloc,setRow_size,Nat.add_zero])
 go_upto_region 7 with (first
  | (with_reducible refine stB 26 (.tmp 3) (.tmp 58) w2.heap.size VB1 _ PB0 zVB1 oldVB1 oneVB1 rfl rfl rfl rfl ?_))
 generalize w6.setRow w2.heap.size VB1=W6 at *;clear PB0;clear RVB
 go_wp2_with (first
  | (with_reducible refine ldB 26 (.tmp 3) w2.heap.size VB1 PB underlying26 rfl zVB1 rfl rfl rfl ?_)
  | (with_reducible refine ldB 28 (.tmp 6) w4.heap.size MM PM underlying28 rfl zMM rfl rfl rfl ?_))
 refine(hearC W6 RVB1.out (by omega) RMM.out (by omega) sn7).mono ?_;rintro e w7 ⟨VB2,rfl,hrep,hb⟩;have zVB2:(prog.info? 26).map (·.size)=some VB2.size:=by rw[hrep.size];exact size26
 have oneVB2:VB2.all (·.oneCell')=true:=hrep.one;have szVB2:VB2.size=5:=hrep.size;have hz_w7:=hb.size;replace HW:=hid (show Below w.heap.size w w7 from HW.out.trans (hb.mono HW.out.size));replace PA:=hid (show Blk w7 w1.heap.size 26 VA3 from PA.out.below hb PA.out.lt);replace PB:=hid (show Blk w7 w2.heap.size 26 VB1 from PB.out.below hb PB.out.lt);replace RMM:=hid (show MsgAt w7 MM mM W3.heap.size w4.heap.size from RMM.out.below hb (by omega));replace PM:=hid (show Blk w7 w4.heap.size 28 MM from PM.out.below hb PM.out.lt);replace RVA3:=hid (show RepAt w7 VA3 rA3 W4.heap.size w5.heap.size from RVA3.out.below hb (by omega));replace RVB1:=hid (show RepAt w7 VB1 rB1 W5.heap.size w6.heap.size from RVB1.out.below hb (by omega));have RVB2:=hid (show RepAt w7 VB2 rB2 W6.heap.size w7.heap.size from hrep);clear hrep hb;have oldVB2:VB1.size=VB2.size:=by rw[szVB2,szVB1]
 have PB0:=PB;replace HW:=hid (show Below w.heap.size w (w7.setRow w2.heap.size VB2)from below_setRow HW.out (by omega) _);replace PA:=hid (show Blk (w7.setRow w2.heap.size VB2) w1.heap.size 26 VA3 from PA.out.setRow (by omega) _);replace PB:=hid (show Blk (w7.setRow w2.heap.size VB2) w2.heap.size 26 VB2 from PB.out.setRow_same _);replace RMM:=hid (show MsgAt (w7.setRow w2.heap.size VB2) MM mM W3.heap.size w4.heap.size from RMM.out.row _ (by omega));replace PM:=hid (show Blk (w7.setRow w2.heap.size VB2) w4.heap.size 28 MM from PM.out.setRow (by omega) _);replace RVA3:=hid (show RepAt (w7.setRow w2.heap.size VB2) VA3 rA3 W4.heap.size w5.heap.size from RVA3.out.row _ (by omega));replace RVB1:=hid (show RepAt (w7.setRow w2.heap.size VB2) VB1 rB1 W5.heap.size w6.heap.size from RVB1.out.row _ (by omega));replace RVB2:=hid (show RepAt (w7.setRow w2.heap.size VB2) VB2 rB2 W6.heap.size w7.heap.size from RVB2.out.row _ (by omega));have hsz_W7:w7.heap.size+0<=(w7.setRow w2.heap.size VB2).heap.size:=Nat.le_of_eq (by first|rfl|simp only[World.size_alloc,setRow_size,Nat.add_zero])
 go_upto_region 8 with (first
  | (with_reducible refine stB 26 (.tmp 3) (.tmp 64) w2.heap.size VB2 _ PB0 zVB2 oldVB2 oneVB2 rfl rfl rfl rfl ?_))
 generalize w7.setRow w2.heap.size VB2=W7 at *;clear PB0;clear RVB1;clear RMM;clear PM
 go_wp2_with (with_reducible refine ldB 26 (.tmp 3) w2.heap.size VB2 PB underlying26 rfl zVB2 rfl rfl rfl ?_)
 refine(tellC W7 RVB2.out (by omega) sn8).mono ?_;rintro e w8 ⟨VB3,MN,rfl,hrep,hmsg,hb⟩;have zVB3:(prog.info? 26).map (·.size)=some VB3.size:=by rw[hrep.size];exact size26
 have oneVB3:VB3.all (·.oneCell')=true:=hrep.one;have szVB3:VB3.size=5:=hrep.size;have zMN:(prog.info? 28).map (·.size)=some MN.size:=by rw[hmsg.size];exact size28
 have oneMN:MN.all (·.oneCell')=true:=hmsg.one;have szMN:MN.size=3:=hmsg.size;have hz_w8:=hb.size;replace HW:=hid (show Below w.heap.size w w8 from HW.out.trans (hb.mono HW.out.size));replace PA:=hid (show Blk w8 w1.heap.size 26 VA3 from PA.out.below hb PA.out.lt);replace PB:=hid (show Blk w8 w2.heap.size 26 VB2 from PB.out.below hb PB.out.lt);replace RVA3:=hid (show RepAt w8 VA3 rA3 W4.heap.size w5.heap.size from RVA3.out.below hb (by omega));replace RVB2:=hid (show RepAt w8 VB2 rB2 W6.heap.size w7.heap.size from RVB2.out.below hb (by omega));have RVB3:=hid (show RepAt w8 VB3 rB3 W7.heap.size w8.heap.size from hrep);have RMN:=hid (show MsgAt w8 MN mN W7.heap.size w8.heap.size from hmsg);clear hrep hmsg hb;have oldVB3:VB2.size=VB3.size:=by rw[szVB3,szVB2]
 have oldMN:z28.size=MN.size:=by rw[szMN];rfl
 have hal4:Below w8.heap.size w8 (w8.alloc (.cells z28 28)):=(Below.refl _ _).alloc (Nat.le_refl _) _;replace HW:=hid (show Below w.heap.size w (w8.alloc (.cells z28 28))from HW.out.trans (hal4.mono HW.out.size));replace PA:=hid (show Blk (w8.alloc (.cells z28 28)) w1.heap.size 26 VA3 from PA.out.alloc _);replace PB:=hid (show Blk (w8.alloc (.cells z28 28)) w2.heap.size 26 VB2 from PB.out.alloc _);replace RVA3:=hid (show RepAt (w8.alloc (.cells z28 28)) VA3 rA3 W4.heap.size w5.heap.size from RVA3.out.below hal4 (by first|omega|(simp only[World.size_alloc,setRow_size];omega)));replace RVB2:=hid (show RepAt (w8.alloc (.cells z28 28)) VB2 rB2 W6.heap.size w7.heap.size from RVB2.out.below hal4 (by first|omega|(simp only[World.size_alloc,setRow_size];omega)));replace RVB3:=hid (show RepAt (w8.alloc (.cells z28 28)) VB3 rB3 W7.heap.size w8.heap.size from RVB3.out.below hal4 (by first|omega|(simp only[World.size_alloc,setRow_size];omega)));replace RMN:=hid (show MsgAt (w8.alloc (.cells z28 28)) MN mN W7.heap.size w8.heap.size from RMN.out.below hal4 (by first|omega|(simp only[World.size_alloc,setRow_size];omega)));clear hal4;have PN:=hid (show Blk (w8.alloc (.cells z28 28)) w8.heap.size 28 z28 from Blk.new w8 28 z28);have PB0:=PB;replace HW:=hid (show Below w.heap.size w ((w8.alloc (.cells z28 28)).setRow w2.heap.size VB3)from below_setRow HW.out (by omega) _);replace PA:=hid (show Blk ((w8.alloc (.cells z28 28)).setRow w2.heap.size VB3) w1.heap.size 26 VA3 from PA.out.setRow (by omega) _);replace PB:=hid (show Blk ((w8.alloc (.cells z28 28)).setRow w2.heap.size VB3) w2.heap.size 26 VB3 from PB.out.setRow_same _);replace RVA3:=hid (show RepAt ((w8.alloc (.cells z28 28)).setRow w2.heap.size VB3) VA3 rA3 W4.heap.size w5.heap.size from RVA3.out.row _ (by omega));replace RVB2:=hid (show RepAt ((w8.alloc (.cells z28 28)).setRow w2.heap.size VB3) VB2 rB2 W6.heap.size w7.heap.size from RVB2.out.row _ (by omega));replace RVB3:=hid (show RepAt ((w8.alloc (.cells z28 28)).setRow w2.heap.size VB3) VB3 rB3 W7.heap.size w8.heap.size from RVB3.out.row _ (by omega));replace RMN:=hid (show MsgAt ((w8.alloc (.cells z28 28)).setRow w2.heap.size VB3) MN mN W7.heap.size w8.heap.size from RMN.out.row _ (by omega));replace PN:=hid (show Blk ((w8.alloc (.cells z28 28)).setRow w2.heap.size VB3) w8.heap.size 28 z28 from PN.out.setRow (by omega) _);have PN0:=PN;replace HW:=hid (show Below w.heap.size w (((w8.alloc (.cells z28 28)).setRow w2.heap.size VB3).setRow w8.heap.size MN)from below_setRow HW.out (by omega) _);replace PA:=hid (show Blk (((w8.alloc (.cells z28 28)).setRow w2.heap.size VB3).setRow w8.heap.size MN) w1.heap.size 26 VA3 from PA.out.setRow (by omega) _);replace PB:=hid (show Blk (((w8.alloc (.cells z28 28)).setRow w2.heap.size VB3).setRow w8.heap.size MN) w2.heap.size 26 VB3 from PB.out.setRow (by omega) _);replace RVA3:=hid (show RepAt (((w8.alloc (.cells z28 28)).setRow w2.heap.size VB3).setRow w8.heap.size MN) VA3 rA3 W4.heap.size w5.heap.size from RVA3.out.row _ (by omega));replace RVB2:=hid (show RepAt (((w8.alloc (.cells z28 28)).setRow w2.heap.size VB3).setRow w8.heap.size MN) VB2 rB2 W6.heap.size w7.heap.size from RVB2.out.row _ (by omega));replace RVB3:=hid (show RepAt (((w8.alloc (.cells z28 28)).setRow w2.heap.size VB3).setRow w8.heap.size MN) VB3 rB3 W7.heap.size w8.heap.size from RVB3.out.row _ (by omega));replace RMN:=hid (show MsgAt (((w8.alloc (.cells z28 28)).setRow w2.heap.size VB3).setRow w8.heap.size MN) MN mN W7.heap.size w8.heap.size from RMN.out.row _ (by omega));replace PN:=hid (show Blk (((w8.alloc (.cells z28 28)).setRow w2.heap.size VB3).setRow w8.heap.size MN) w8.heap.size 28 MN from PN.out.setRow_same _);have hsz_W8:w8.heap.size+1<=(((w8.alloc (.cells z28 28)).setRow w2.heap.size VB3).setRow w8.heap.size MN).heap.size:=Nat.le_of_eq (by first|rfl|simp only[World.size_alloc,setRow_size,Nat.add_zero])
 go_upto_region 9 with (first
  | (with_reducible refine stB 26 (.tmp 3) (.tmp 69) w2.heap.size VB3 _ PB0 zVB3 oldVB3 oneVB3 rfl rfl rfl rfl ?_)
  | (with_reducible refine stB 28 (.tmp 11) (.tmp 70) w8.heap.size MN _ PN0 zMN oldMN oneMN rfl rfl rfl rfl ?_))
 generalize ((w8.alloc (.cells z28 28)).setRow w2.heap.size VB3).setRow w8.heap.size MN=W8 at *;clear PB0 PN0;clear RVB2
 go_wp2_with (first
  | (with_reducible refine ldB 26 (.tmp 1) w1.heap.size VA3 PA underlying26 rfl zVA3 rfl rfl rfl ?_)
  | (with_reducible refine ldB 28 (.tmp 11) w8.heap.size MN PN underlying28 rfl zMN rfl rfl rfl ?_))
 refine(hearC W8 RVA3.out (by omega) RMN.out (by omega) sn9).mono ?_;rintro e w9 ⟨VC,rfl,hrep,hb⟩;have zVC:(prog.info? 26).map (·.size)=some VC.size:=by rw[hrep.size];exact size26
 have oneVC:VC.all (·.oneCell')=true:=hrep.one;have szVC:VC.size=5:=hrep.size;have hz_w9:=hb.size;replace HW:=hid (show Below w.heap.size w w9 from HW.out.trans (hb.mono HW.out.size));replace PA:=hid (show Blk w9 w1.heap.size 26 VA3 from PA.out.below hb PA.out.lt);replace PB:=hid (show Blk w9 w2.heap.size 26 VB3 from PB.out.below hb PB.out.lt);replace RVA3:=hid (show RepAt w9 VA3 rA3 W4.heap.size w5.heap.size from RVA3.out.below hb (by omega));replace RVB3:=hid (show RepAt w9 VB3 rB3 W7.heap.size w8.heap.size from RVB3.out.below hb (by omega));replace RMN:=hid (show MsgAt w9 MN mN W7.heap.size w8.heap.size from RMN.out.below hb (by omega));replace PN:=hid (show Blk w9 w8.heap.size 28 MN from PN.out.below hb PN.out.lt);have RVC:=hid (show RepAt w9 VC rC W8.heap.size w9.heap.size from hrep);clear hrep hb;have hal5:Below w9.heap.size w9 (w9.alloc (.cells VC 26)):=(Below.refl _ _).alloc (Nat.le_refl _) _;replace HW:=hid (show Below w.heap.size w (w9.alloc (.cells VC 26))from HW.out.trans (hal5.mono HW.out.size));replace PA:=hid (show Blk (w9.alloc (.cells VC 26)) w1.heap.size 26 VA3 from PA.out.alloc _);replace PB:=hid (show Blk (w9.alloc (.cells VC 26)) w2.heap.size 26 VB3 from PB.out.alloc _);replace RVA3:=hid (show RepAt (w9.alloc (.cells VC 26)) VA3 rA3 W4.heap.size w5.heap.size from RVA3.out.below hal5 (by first|omega|(simp only[World.size_alloc,setRow_size];omega)));replace RVB3:=hid (show RepAt (w9.alloc (.cells VC 26)) VB3 rB3 W7.heap.size w8.heap.size from RVB3.out.below hal5 (by first|omega|(simp only[World.size_alloc,setRow_size];omega)));replace RMN:=hid (show MsgAt (w9.alloc (.cells VC 26)) MN mN W7.heap.size w8.heap.size from RMN.out.below hal5 (by first|omega|(simp only[World.size_alloc,setRow_size];omega)));replace PN:=hid (show Blk (w9.alloc (.cells VC 26)) w8.heap.size 28 MN from PN.out.alloc _);replace RVC:=hid (show RepAt (w9.alloc (.cells VC 26)) VC rC W8.heap.size w9.heap.size from RVC.out.below hal5 (by first|omega|(simp only[World.size_alloc,setRow_size];omega)));clear hal5;have PC:=hid (show Blk (w9.alloc (.cells VC 26)) w9.heap.size 26 VC from Blk.new w9 26 VC);have oldVC:z26.size=VC.size:=by rw[szVC];rfl
 have hsz_W9:w9.heap.size+1<=(w9.alloc (.cells VC 26)).heap.size:=Nat.le_of_eq (by first|rfl|simp only[World.size_alloc,setRow_size,Nat.add_zero])
 go_upto_region 10 with (first
  | (with_reducible refine wpList_store_last rfl 26 (.tmp 13) (.tmp 76) rfl VC _ rfl rfl rfl zVC oldVC oneVC ?_))
 generalize w9.alloc (.cells VC 26)=W9 at *;clear RMN;clear PN
 go_upto_region 12 with (fail)
 have hal6:Below W9.heap.size W9 (W9.alloc (.cells #[.int .i64 1,.int .i64 0,.int .i64 0,.string ⟨#[97]⟩,.int .i64 1,.int .i64 1,.int .i64 0,.string ⟨#[99]⟩,.int .i64 2,.int .i64 0,.int .i64 1,.string ⟨#[98]⟩] 57)):=(Below.refl _ _).alloc (Nat.le_refl _) _;replace HW:=hid (show Below w.heap.size w (W9.alloc (.cells #[.int .i64 1,.int .i64 0,.int .i64 0,.string ⟨#[97]⟩,.int .i64 1,.int .i64 1,.int .i64 0,.string ⟨#[99]⟩,.int .i64 2,.int .i64 0,.int .i64 1,.string ⟨#[98]⟩] 57))from HW.out.trans (hal6.mono HW.out.size));replace PA:=hid (show Blk (W9.alloc (.cells #[.int .i64 1,.int .i64 0,.int .i64 0,.string ⟨#[97]⟩,.int .i64 1,.int .i64 1,.int .i64 0,.string ⟨#[99]⟩,.int .i64 2,.int .i64 0,.int .i64 1,.string ⟨#[98]⟩] 57)) w1.heap.size 26 VA3 from PA.out.alloc _);replace PB:=hid (show Blk (W9.alloc (.cells #[.int .i64 1,.int .i64 0,.int .i64 0,.string ⟨#[97]⟩,.int .i64 1,.int .i64 1,.int .i64 0,.string ⟨#[99]⟩,.int .i64 2,.int .i64 0,.int .i64 1,.string ⟨#[98]⟩] 57)) w2.heap.size 26 VB3 from PB.out.alloc _);replace RVA3:=hid (show RepAt (W9.alloc (.cells #[.int .i64 1,.int .i64 0,.int .i64 0,.string ⟨#[97]⟩,.int .i64 1,.int .i64 1,.int .i64 0,.string ⟨#[99]⟩,.int .i64 2,.int .i64 0,.int .i64 1,.string ⟨#[98]⟩] 57)) VA3 rA3 W4.heap.size w5.heap.size from RVA3.out.below hal6 (by first|omega|(simp only[World.size_alloc,setRow_size];omega)));replace RVB3:=hid (show RepAt (W9.alloc (.cells #[.int .i64 1,.int .i64 0,.int .i64 0,.string ⟨#[97]⟩,.int .i64 1,.int .i64 1,.int .i64 0,.string ⟨#[99]⟩,.int .i64 2,.int .i64 0,.int .i64 1,.string ⟨#[98]⟩] 57)) VB3 rB3 W7.heap.size w8.heap.size from RVB3.out.below hal6 (by first|omega|(simp only[World.size_alloc,setRow_size];omega)));replace RVC:=hid (show RepAt (W9.alloc (.cells #[.int .i64 1,.int .i64 0,.int .i64 0,.string ⟨#[97]⟩,.int .i64 1,.int .i64 1,.int .i64 0,.string ⟨#[99]⟩,.int .i64 2,.int .i64 0,.int .i64 1,.string ⟨#[98]⟩] 57)) VC rC W8.heap.size w9.heap.size from RVC.out.below hal6 (by first|omega|(simp only[World.size_alloc,setRow_size];omega)));replace PC:=hid (show Blk (W9.alloc (.cells #[.int .i64 1,.int .i64 0,.int .i64 0,.string ⟨#[97]⟩,.int .i64 1,.int .i64 1,.int .i64 0,.string ⟨#[99]⟩,.int .i64 2,.int .i64 0,.int .i64 1,.string ⟨#[98]⟩] 57)) w9.heap.size 26 VC from PC.out.alloc _);clear hal6;have PW:=hid (show Blk (W9.alloc (.cells #[.int .i64 1,.int .i64 0,.int .i64 0,.string ⟨#[97]⟩,.int .i64 1,.int .i64 1,.int .i64 0,.string ⟨#[99]⟩,.int .i64 2,.int .i64 0,.int .i64 1,.string ⟨#[98]⟩] 57)) W9.heap.size 57 #[.int .i64 1,.int .i64 0,.int .i64 0,.string ⟨#[97]⟩,.int .i64 1,.int .i64 1,.int .i64 0,.string ⟨#[99]⟩,.int .i64 2,.int .i64 0,.int .i64 1,.string ⟨#[98]⟩]from Blk.new W9 57 _);have hsz_W10:W9.heap.size+1<=(W9.alloc (.cells #[.int .i64 1,.int .i64 0,.int .i64 0,.string ⟨#[97]⟩,.int .i64 1,.int .i64 1,.int .i64 0,.string ⟨#[99]⟩,.int .i64 2,.int .i64 0,.int .i64 1,.string ⟨#[98]⟩] 57)).heap.size:=Nat.le_of_eq (by first|rfl|simp only[World.size_alloc,setRow_size,Nat.add_zero])
 go_upto_region 13 with (fail)
 generalize W9.alloc (.cells #[.int .i64 1,.int .i64 0,.int .i64 0,.string ⟨#[97]⟩,.int .i64 1,.int .i64 1,.int .i64 0,.string ⟨#[99]⟩,.int .i64 2,.int .i64 0,.int .i64 1,.string ⟨#[98]⟩] 57)=W10 at *
 go_wp2_with (with_reducible refine ldB 26 (.tmp 13) w9.heap.size VC PC underlying26 rfl zVC rfl rfl rfl ?_)
 refine(stableC W10 RVC.out (by omega) sn10).mono ?_;rw[sn11];rintro e W11 ⟨rfl,hb⟩;have hz_W11:=hb.size;replace HW:=hid (show Below w.heap.size w W11 from HW.out.trans (hb.mono HW.out.size));replace PA:=hid (show Blk W11 w1.heap.size 26 VA3 from PA.out.below hb PA.out.lt);replace PB:=hid (show Blk W11 w2.heap.size 26 VB3 from PB.out.below hb PB.out.lt);replace RVA3:=hid (show RepAt W11 VA3 rA3 W4.heap.size w5.heap.size from RVA3.out.below hb (by omega));replace RVB3:=hid (show RepAt W11 VB3 rB3 W7.heap.size w8.heap.size from RVB3.out.below hb (by omega));replace RVC:=hid (show RepAt W11 VC rC W8.heap.size w9.heap.size from RVC.out.below hb (by omega));replace PC:=hid (show Blk W11 w9.heap.size 26 VC from PC.out.below hb PC.out.lt);replace PW:=hid (show Blk W11 W9.heap.size 57 #[.int .i64 1,.int .i64 0,.int .i64 0,.string ⟨#[97]⟩,.int .i64 1,.int .i64 1,.int .i64 0,.string ⟨#[99]⟩,.int .i64 2,.int .i64 0,.int .i64 1,.string ⟨#[98]⟩]from PW.out.below hb PW.out.lt);clear hb
 go_upto_region 14 with (fail)
 go_wp2_with (with_reducible refine ldB 26 (.tmp 13) w9.heap.size VC PC underlying26 rfl zVC rfl rfl rfl ?_)
 refine(digestC W11 tab (HT.out.below HW.out ht0) RVC.out (by omega) sn10 (by decide) (by decide) small_rC).mono ?_;rintro e W12 ⟨dd,rfl,hdd,hb⟩;have HDD:=hid hdd;clear hdd;have hz_W12:=hb.size;replace HW:=hid (show Below w.heap.size w W12 from HW.out.trans (hb.mono HW.out.size));replace PA:=hid (show Blk W12 w1.heap.size 26 VA3 from PA.out.below hb PA.out.lt);replace PB:=hid (show Blk W12 w2.heap.size 26 VB3 from PB.out.below hb PB.out.lt);replace RVA3:=hid (show RepAt W12 VA3 rA3 W4.heap.size w5.heap.size from RVA3.out.below hb (by omega));replace RVB3:=hid (show RepAt W12 VB3 rB3 W7.heap.size w8.heap.size from RVB3.out.below hb (by omega));replace RVC:=hid (show RepAt W12 VC rC W8.heap.size w9.heap.size from RVC.out.below hb (by omega));replace PC:=hid (show Blk W12 w9.heap.size 26 VC from PC.out.below hb PC.out.lt);replace PW:=hid (show Blk W12 W9.heap.size 57 #[.int .i64 1,.int .i64 0,.int .i64 0,.string ⟨#[97]⟩,.int .i64 1,.int .i64 1,.int .i64 0,.string ⟨#[99]⟩,.int .i64 2,.int .i64 0,.int .i64 1,.string ⟨#[98]⟩]from PW.out.below hb PW.out.lt);clear hb
 go_upto_region 15 with (fail)
 have hal7:Below W12.heap.size W12 (W12.alloc (.cells #[.int .i64 3,.int .i64 0,.int .i64 0,.string ⟨#[]⟩] 64)):=(Below.refl _ _).alloc (Nat.le_refl _) _;replace HW:=hid (show Below w.heap.size w (W12.alloc (.cells #[.int .i64 3,.int .i64 0,.int .i64 0,.string ⟨#[]⟩] 64))from HW.out.trans (hal7.mono HW.out.size));replace PA:=hid (show Blk (W12.alloc (.cells #[.int .i64 3,.int .i64 0,.int .i64 0,.string ⟨#[]⟩] 64)) w1.heap.size 26 VA3 from PA.out.alloc _);replace PB:=hid (show Blk (W12.alloc (.cells #[.int .i64 3,.int .i64 0,.int .i64 0,.string ⟨#[]⟩] 64)) w2.heap.size 26 VB3 from PB.out.alloc _);replace RVA3:=hid (show RepAt (W12.alloc (.cells #[.int .i64 3,.int .i64 0,.int .i64 0,.string ⟨#[]⟩] 64)) VA3 rA3 W4.heap.size w5.heap.size from RVA3.out.below hal7 (by first|omega|(simp only[World.size_alloc,setRow_size];omega)));replace RVB3:=hid (show RepAt (W12.alloc (.cells #[.int .i64 3,.int .i64 0,.int .i64 0,.string ⟨#[]⟩] 64)) VB3 rB3 W7.heap.size w8.heap.size from RVB3.out.below hal7 (by first|omega|(simp only[World.size_alloc,setRow_size];omega)));replace RVC:=hid (show RepAt (W12.alloc (.cells #[.int .i64 3,.int .i64 0,.int .i64 0,.string ⟨#[]⟩] 64)) VC rC W8.heap.size w9.heap.size from RVC.out.below hal7 (by first|omega|(simp only[World.size_alloc,setRow_size];omega)));replace PC:=hid (show Blk (W12.alloc (.cells #[.int .i64 3,.int .i64 0,.int .i64 0,.string ⟨#[]⟩] 64)) w9.heap.size 26 VC from PC.out.alloc _);replace PW:=hid (show Blk (W12.alloc (.cells #[.int .i64 3,.int .i64 0,.int .i64 0,.string ⟨#[]⟩] 64)) W9.heap.size 57 #[.int .i64 1,.int .i64 0,.int .i64 0,.string ⟨#[97]⟩,.int .i64 1,.int .i64 1,.int .i64 0,.string ⟨#[99]⟩,.int .i64 2,.int .i64 0,.int .i64 1,.string ⟨#[98]⟩]from PW.out.alloc _);clear hal7;have PBad:=hid (show Blk (W12.alloc (.cells #[.int .i64 3,.int .i64 0,.int .i64 0,.string ⟨#[]⟩] 64)) W12.heap.size 64 #[.int .i64 3,.int .i64 0,.int .i64 0,.string ⟨#[]⟩]from Blk.new W12 64 _)
 go_wp2_with fail
 have hsz_X15:W12.heap.size+1<=(W12.alloc (.cells #[.int .i64 3,.int .i64 0,.int .i64 0,.string ⟨#[]⟩] 64)).heap.size:=Nat.le_of_eq (by first|rfl|simp only[World.size_alloc,setRow_size,Nat.add_zero]);generalize W12.alloc (.cells #[.int .i64 3,.int .i64 0,.int .i64 0,.string ⟨#[]⟩] 64)=X15 at *;refine(runBad X15 _ _ (PBad.out.cell 0) (PBad.out.cell 1) (PBad.out.cell 2) (PBad.out.cell 3)).mono ?_;rintro e W13 ⟨rfl,hb⟩;clear PBad;have hz_W13:=hb.size;replace HW:=hid (show Below w.heap.size w W13 from HW.out.trans (hb.mono HW.out.size));replace PA:=hid (show Blk W13 w1.heap.size 26 VA3 from PA.out.below hb PA.out.lt);replace PB:=hid (show Blk W13 w2.heap.size 26 VB3 from PB.out.below hb PB.out.lt);replace RVA3:=hid (show RepAt W13 VA3 rA3 W4.heap.size w5.heap.size from RVA3.out.below hb (by omega));replace RVB3:=hid (show RepAt W13 VB3 rB3 W7.heap.size w8.heap.size from RVB3.out.below hb (by omega));replace RVC:=hid (show RepAt W13 VC rC W8.heap.size w9.heap.size from RVC.out.below hb (by omega));replace PC:=hid (show Blk W13 w9.heap.size 26 VC from PC.out.below hb PC.out.lt);replace PW:=hid (show Blk W13 W9.heap.size 57 #[.int .i64 1,.int .i64 0,.int .i64 0,.string ⟨#[97]⟩,.int .i64 1,.int .i64 1,.int .i64 0,.string ⟨#[99]⟩,.int .i64 2,.int .i64 0,.int .i64 1,.string ⟨#[98]⟩]from PW.out.below hb PW.out.lt);clear hb
 go_upto_region 16 with (fail)
 have hal8:Below W13.heap.size W13 (W13.alloc (.cells #[.int .i64 1,.int .i64 0,.int .i64 0,.string ⟨#[97]⟩,.int .i64 2,.int .i64 0,.int .i64 0,.string ⟨#[]⟩,.int .i64 3,.int .i64 1,.int .i64 0,.string ⟨#[]⟩] 64)):=(Below.refl _ _).alloc (Nat.le_refl _) _;replace HW:=hid (show Below w.heap.size w (W13.alloc (.cells #[.int .i64 1,.int .i64 0,.int .i64 0,.string ⟨#[97]⟩,.int .i64 2,.int .i64 0,.int .i64 0,.string ⟨#[]⟩,.int .i64 3,.int .i64 1,.int .i64 0,.string ⟨#[]⟩] 64))from HW.out.trans (hal8.mono HW.out.size));replace PA:=hid (show Blk (W13.alloc (.cells #[.int .i64 1,.int .i64 0,.int .i64 0,.string ⟨#[97]⟩,.int .i64 2,.int .i64 0,.int .i64 0,.string ⟨#[]⟩,.int .i64 3,.int .i64 1,.int .i64 0,.string ⟨#[]⟩] 64)) w1.heap.size 26 VA3 from PA.out.alloc _);replace PB:=hid (show Blk (W13.alloc (.cells #[.int .i64 1,.int .i64 0,.int .i64 0,.string ⟨#[97]⟩,.int .i64 2,.int .i64 0,.int .i64 0,.string ⟨#[]⟩,.int .i64 3,.int .i64 1,.int .i64 0,.string ⟨#[]⟩] 64)) w2.heap.size 26 VB3 from PB.out.alloc _);replace RVA3:=hid (show RepAt (W13.alloc (.cells #[.int .i64 1,.int .i64 0,.int .i64 0,.string ⟨#[97]⟩,.int .i64 2,.int .i64 0,.int .i64 0,.string ⟨#[]⟩,.int .i64 3,.int .i64 1,.int .i64 0,.string ⟨#[]⟩] 64)) VA3 rA3 W4.heap.size w5.heap.size from RVA3.out.below hal8 (by first|omega|(simp only[World.size_alloc,setRow_size];omega)));replace RVB3:=hid (show RepAt (W13.alloc (.cells #[.int .i64 1,.int .i64 0,.int .i64 0,.string ⟨#[97]⟩,.int .i64 2,.int .i64 0,.int .i64 0,.string ⟨#[]⟩,.int .i64 3,.int .i64 1,.int .i64 0,.string ⟨#[]⟩] 64)) VB3 rB3 W7.heap.size w8.heap.size from RVB3.out.below hal8 (by first|omega|(simp only[World.size_alloc,setRow_size];omega)));replace RVC:=hid (show RepAt (W13.alloc (.cells #[.int .i64 1,.int .i64 0,.int .i64 0,.string ⟨#[97]⟩,.int .i64 2,.int .i64 0,.int .i64 0,.string ⟨#[]⟩,.int .i64 3,.int .i64 1,.int .i64 0,.string ⟨#[]⟩] 64)) VC rC W8.heap.size w9.heap.size from RVC.out.below hal8 (by first|omega|(simp only[World.size_alloc,setRow_size];omega)));replace PC:=hid (show Blk (W13.alloc (.cells #[.int .i64 1,.int .i64 0,.int .i64 0,.string ⟨#[97]⟩,.int .i64 2,.int .i64 0,.int .i64 0,.string ⟨#[]⟩,.int .i64 3,.int .i64 1,.int .i64 0,.string ⟨#[]⟩] 64)) w9.heap.size 26 VC from PC.out.alloc _);replace PW:=hid (show Blk (W13.alloc (.cells #[.int .i64 1,.int .i64 0,.int .i64 0,.string ⟨#[97]⟩,.int .i64 2,.int .i64 0,.int .i64 0,.string ⟨#[]⟩,.int .i64 3,.int .i64 1,.int .i64 0,.string ⟨#[]⟩] 64)) W9.heap.size 57 #[.int .i64 1,.int .i64 0,.int .i64 0,.string ⟨#[97]⟩,.int .i64 1,.int .i64 1,.int .i64 0,.string ⟨#[99]⟩,.int .i64 2,.int .i64 0,.int .i64 1,.string ⟨#[98]⟩]from PW.out.alloc _);clear hal8;have PMo:=hid (show Blk (W13.alloc (.cells #[.int .i64 1,.int .i64 0,.int .i64 0,.string ⟨#[97]⟩,.int .i64 2,.int .i64 0,.int .i64 0,.string ⟨#[]⟩,.int .i64 3,.int .i64 1,.int .i64 0,.string ⟨#[]⟩] 64)) W13.heap.size 64 #[.int .i64 1,.int .i64 0,.int .i64 0,.string ⟨#[97]⟩,.int .i64 2,.int .i64 0,.int .i64 0,.string ⟨#[]⟩,.int .i64 3,.int .i64 1,.int .i64 0,.string ⟨#[]⟩]from Blk.new W13 64 _)
 go_wp2_with fail
 have hsz_X16:W13.heap.size+1<=(W13.alloc (.cells #[.int .i64 1,.int .i64 0,.int .i64 0,.string ⟨#[97]⟩,.int .i64 2,.int .i64 0,.int .i64 0,.string ⟨#[]⟩,.int .i64 3,.int .i64 1,.int .i64 0,.string ⟨#[]⟩] 64)).heap.size:=Nat.le_of_eq (by first|rfl|simp only[World.size_alloc,setRow_size,Nat.add_zero]);generalize W13.alloc (.cells #[.int .i64 1,.int .i64 0,.int .i64 0,.string ⟨#[97]⟩,.int .i64 2,.int .i64 0,.int .i64 0,.string ⟨#[]⟩,.int .i64 3,.int .i64 1,.int .i64 0,.string ⟨#[]⟩] 64)=X16 at *;refine(run_any X16 (some ⟨W13.heap.size,0,none⟩) 3 3 2 moL (PMo.out.reads 4 3 rfl) rfl (by omega) (by omega) (by omega) sn16 (by rw[sn17];omega)).mono ?_;rintro e W14 ⟨va,rl,vb,ml,rfl,hR,hreps,hb⟩;clear PMo;have hz_W14:=hb.size;replace HW:=hid (show Below w.heap.size w W14 from HW.out.trans (hb.mono HW.out.size));replace PA:=hid (show Blk W14 w1.heap.size 26 VA3 from PA.out.below hb PA.out.lt);replace PB:=hid (show Blk W14 w2.heap.size 26 VB3 from PB.out.below hb PB.out.lt);replace RVA3:=hid (show RepAt W14 VA3 rA3 W4.heap.size w5.heap.size from RVA3.out.below hb (by omega));replace RVB3:=hid (show RepAt W14 VB3 rB3 W7.heap.size w8.heap.size from RVB3.out.below hb (by omega));replace RVC:=hid (show RepAt W14 VC rC W8.heap.size w9.heap.size from RVC.out.below hb (by omega));replace PC:=hid (show Blk W14 w9.heap.size 26 VC from PC.out.below hb PC.out.lt);replace PW:=hid (show Blk W14 W9.heap.size 57 #[.int .i64 1,.int .i64 0,.int .i64 0,.string ⟨#[97]⟩,.int .i64 1,.int .i64 1,.int .i64 0,.string ⟨#[99]⟩,.int .i64 2,.int .i64 0,.int .i64 1,.string ⟨#[98]⟩]from PW.out.below hb PW.out.lt);have RN:=hid (show RunF W14 va from RunF.of hR (sn18.symm.trans hreps));clear hb hR hreps
 go_upto_region 17 with (fail)
 go_wp2_with fail
 refine(newC0 W14 2 2 sn12).mono ?_;unfold zeroRep;rintro e w15 ⟨rfl,hb⟩;have hz_w15:=hb.size;replace HW:=hid (show Below w.heap.size w w15 from HW.out.trans (hb.mono HW.out.size));replace PA:=hid (show Blk w15 w1.heap.size 26 VA3 from PA.out.below hb PA.out.lt);replace PB:=hid (show Blk w15 w2.heap.size 26 VB3 from PB.out.below hb PB.out.lt);replace RVA3:=hid (show RepAt w15 VA3 rA3 W4.heap.size w5.heap.size from RVA3.out.below hb (by omega));replace RVB3:=hid (show RepAt w15 VB3 rB3 W7.heap.size w8.heap.size from RVB3.out.below hb (by omega));replace RVC:=hid (show RepAt w15 VC rC W8.heap.size w9.heap.size from RVC.out.below hb (by omega));replace PC:=hid (show Blk w15 w9.heap.size 26 VC from PC.out.below hb PC.out.lt);replace PW:=hid (show Blk w15 W9.heap.size 57 #[.int .i64 1,.int .i64 0,.int .i64 0,.string ⟨#[97]⟩,.int .i64 1,.int .i64 1,.int .i64 0,.string ⟨#[99]⟩,.int .i64 2,.int .i64 0,.int .i64 1,.string ⟨#[98]⟩]from PW.out.below hb PW.out.lt);replace RN:=hid (show RunF w15 va from RN.out.below hb);clear hb;have hal9:Below w15.heap.size w15 (w15.alloc (.cells #[.int .i64 0,.int .i64 0,.int .i64 0,.slice none 0 0,.slice none 0 0] 26)):=(Below.refl _ _).alloc (Nat.le_refl _) _;replace HW:=hid (show Below w.heap.size w (w15.alloc (.cells #[.int .i64 0,.int .i64 0,.int .i64 0,.slice none 0 0,.slice none 0 0] 26))from HW.out.trans (hal9.mono HW.out.size));replace PA:=hid (show Blk (w15.alloc (.cells #[.int .i64 0,.int .i64 0,.int .i64 0,.slice none 0 0,.slice none 0 0] 26)) w1.heap.size 26 VA3 from PA.out.alloc _);replace PB:=hid (show Blk (w15.alloc (.cells #[.int .i64 0,.int .i64 0,.int .i64 0,.slice none 0 0,.slice none 0 0] 26)) w2.heap.size 26 VB3 from PB.out.alloc _);replace RVA3:=hid (show RepAt (w15.alloc (.cells #[.int .i64 0,.int .i64 0,.int .i64 0,.slice none 0 0,.slice none 0 0] 26)) VA3 rA3 W4.heap.size w5.heap.size from RVA3.out.below hal9 (by first|omega|(simp only[World.size_alloc,setRow_size];omega)));replace RVB3:=hid (show RepAt (w15.alloc (.cells #[.int .i64 0,.int .i64 0,.int .i64 0,.slice none 0 0,.slice none 0 0] 26)) VB3 rB3 W7.heap.size w8.heap.size from RVB3.out.below hal9 (by first|omega|(simp only[World.size_alloc,setRow_size];omega)));replace RVC:=hid (show RepAt (w15.alloc (.cells #[.int .i64 0,.int .i64 0,.int .i64 0,.slice none 0 0,.slice none 0 0] 26)) VC rC W8.heap.size w9.heap.size from RVC.out.below hal9 (by first|omega|(simp only[World.size_alloc,setRow_size];omega)));replace PC:=hid (show Blk (w15.alloc (.cells #[.int .i64 0,.int .i64 0,.int .i64 0,.slice none 0 0,.slice none 0 0] 26)) w9.heap.size 26 VC from PC.out.alloc _);replace PW:=hid (show Blk (w15.alloc (.cells #[.int .i64 0,.int .i64 0,.int .i64 0,.slice none 0 0,.slice none 0 0] 26)) W9.heap.size 57 #[.int .i64 1,.int .i64 0,.int .i64 0,.string ⟨#[97]⟩,.int .i64 1,.int .i64 1,.int .i64 0,.string ⟨#[99]⟩,.int .i64 2,.int .i64 0,.int .i64 1,.string ⟨#[98]⟩]from PW.out.alloc _);replace RN:=hid (show RunF (w15.alloc (.cells #[.int .i64 0,.int .i64 0,.int .i64 0,.slice none 0 0,.slice none 0 0] 26)) va from RN.out.below hal9);clear hal9;have hsz_W15:w15.heap.size+1<=(w15.alloc (.cells #[.int .i64 0,.int .i64 0,.int .i64 0,.slice none 0 0,.slice none 0 0] 26)).heap.size:=Nat.le_of_eq (by first|rfl|simp only[World.size_alloc,setRow_size,Nat.add_zero])
 go_upto_region 18 with (first
  | (with_reducible refine wpList_store_last rfl 26 (.tmp 24) (.tmp 142) rfl #[.int .i64 0,.int .i64 0,.int .i64 0,.slice none 0 0,.slice none 0 0] _ rfl rfl rfl size26 rfl one26 ?_))
 generalize w15.alloc (.cells #[.int .i64 0,.int .i64 0,.int .i64 0,.slice none 0 0,.slice none 0 0] 26)=W15 at *
 go_wp2_with (with_reducible refine ldB 26 (.tmp 3) w2.heap.size VB3 PB underlying26 rfl zVB3 rfl rfl rfl ?_)
 refine(stateC W15 tab (HT.out.below HW.out ht0) RVB3.out (by omega) sn13 nocmd_rB3).mono ?_;have hl2:rB3.posts.length=2:=rfl;rw[hl2];clear hl2;rintro e w16 ⟨⟨ea,eb,ed,D,cD,rfl,hE,hV⟩,hb⟩;obtain⟨gD,rfl,hD⟩:=vs_two hV;clear hV;have hz_w16:=hb.size;replace HW:=hid (show Below w.heap.size w w16 from HW.out.trans (hb.mono HW.out.size));replace PA:=hid (show Blk w16 w1.heap.size 26 VA3 from PA.out.below hb PA.out.lt);replace PB:=hid (show Blk w16 w2.heap.size 26 VB3 from PB.out.below hb PB.out.lt);replace RVA3:=hid (show RepAt w16 VA3 rA3 W4.heap.size w5.heap.size from RVA3.out.below hb (by omega));replace RVB3:=hid (show RepAt w16 VB3 rB3 W7.heap.size w8.heap.size from RVB3.out.below hb (by omega));replace RVC:=hid (show RepAt w16 VC rC W8.heap.size w9.heap.size from RVC.out.below hb (by omega));replace PC:=hid (show Blk w16 w9.heap.size 26 VC from PC.out.below hb PC.out.lt);replace PW:=hid (show Blk w16 W9.heap.size 57 #[.int .i64 1,.int .i64 0,.int .i64 0,.string ⟨#[97]⟩,.int .i64 1,.int .i64 1,.int .i64 0,.string ⟨#[99]⟩,.int .i64 2,.int .i64 0,.int .i64 1,.string ⟨#[98]⟩]from PW.out.below hb PW.out.lt);replace RN:=hid (show RunF w16 va from RN.out.below hb);have EE:=hid (show EngAt w16 tab ea eb ed from hE);have DD:=hid (show DoneF w16 gD from hD);clear hE hD hb;have hal10:Below w16.heap.size w16 (w16.alloc (.cells (eng0 ea eb ed) 72)):=(Below.refl _ _).alloc (Nat.le_refl _) _;replace HW:=hid (show Below w.heap.size w (w16.alloc (.cells (eng0 ea eb ed) 72))from HW.out.trans (hal10.mono HW.out.size));replace PA:=hid (show Blk (w16.alloc (.cells (eng0 ea eb ed) 72)) w1.heap.size 26 VA3 from PA.out.alloc _);replace PB:=hid (show Blk (w16.alloc (.cells (eng0 ea eb ed) 72)) w2.heap.size 26 VB3 from PB.out.alloc _);replace RVA3:=hid (show RepAt (w16.alloc (.cells (eng0 ea eb ed) 72)) VA3 rA3 W4.heap.size w5.heap.size from RVA3.out.below hal10 (by first|omega|(simp only[World.size_alloc,setRow_size];omega)));replace RVB3:=hid (show RepAt (w16.alloc (.cells (eng0 ea eb ed) 72)) VB3 rB3 W7.heap.size w8.heap.size from RVB3.out.below hal10 (by first|omega|(simp only[World.size_alloc,setRow_size];omega)));replace RVC:=hid (show RepAt (w16.alloc (.cells (eng0 ea eb ed) 72)) VC rC W8.heap.size w9.heap.size from RVC.out.below hal10 (by first|omega|(simp only[World.size_alloc,setRow_size];omega)));replace PC:=hid (show Blk (w16.alloc (.cells (eng0 ea eb ed) 72)) w9.heap.size 26 VC from PC.out.alloc _);replace PW:=hid (show Blk (w16.alloc (.cells (eng0 ea eb ed) 72)) W9.heap.size 57 #[.int .i64 1,.int .i64 0,.int .i64 0,.string ⟨#[97]⟩,.int .i64 1,.int .i64 1,.int .i64 0,.string ⟨#[99]⟩,.int .i64 2,.int .i64 0,.int .i64 1,.string ⟨#[98]⟩]from PW.out.alloc _);replace RN:=hid (show RunF (w16.alloc (.cells (eng0 ea eb ed) 72)) va from RN.out.below hal10);replace EE:=hid (show EngAt (w16.alloc (.cells (eng0 ea eb ed) 72)) tab ea eb ed from EE.out.below hal10 (Nat.le_refl _));replace DD:=hid (show DoneF (w16.alloc (.cells (eng0 ea eb ed) 72)) gD from DD.out.below hal10);clear hal10;have PE:=hid (show Blk (w16.alloc (.cells (eng0 ea eb ed) 72)) w16.heap.size 72 (eng0 ea eb ed)from Blk.new w16 72 _);have hsz_W16:w16.heap.size+1<=(w16.alloc (.cells (eng0 ea eb ed) 72)).heap.size:=Nat.le_of_eq (by first|rfl|simp only[World.size_alloc,setRow_size,Nat.add_zero])
 go_upto_region 19 with (first
  | (with_reducible refine wpList_store_last rfl 72 (.tmp 26) (.tmp 148) rfl (eng0 ea eb ed) _ rfl rfl rfl (zz72 ea eb ed) rfl (one72 ea eb ed) ?_))
 generalize w16.alloc (.cells (eng0 ea eb ed) 72)=W16 at *
 go_wp2_with fail
 refine(engNew0 W16 tab (HT.out.below HW.out ht0)).mono ?_;rintro e w17 ⟨⟨fa,fb,fd,rfl,hE,_,_,_⟩,hb⟩;have hz_w17:=hb.size;replace HW:=hid (show Below w.heap.size w w17 from HW.out.trans (hb.mono HW.out.size));replace PA:=hid (show Blk w17 w1.heap.size 26 VA3 from PA.out.below hb PA.out.lt);replace PB:=hid (show Blk w17 w2.heap.size 26 VB3 from PB.out.below hb PB.out.lt);replace RVA3:=hid (show RepAt w17 VA3 rA3 W4.heap.size w5.heap.size from RVA3.out.below hb (by omega));replace RVB3:=hid (show RepAt w17 VB3 rB3 W7.heap.size w8.heap.size from RVB3.out.below hb (by omega));replace RVC:=hid (show RepAt w17 VC rC W8.heap.size w9.heap.size from RVC.out.below hb (by omega));replace PC:=hid (show Blk w17 w9.heap.size 26 VC from PC.out.below hb PC.out.lt);replace PW:=hid (show Blk w17 W9.heap.size 57 #[.int .i64 1,.int .i64 0,.int .i64 0,.string ⟨#[97]⟩,.int .i64 1,.int .i64 1,.int .i64 0,.string ⟨#[99]⟩,.int .i64 2,.int .i64 0,.int .i64 1,.string ⟨#[98]⟩]from PW.out.below hb PW.out.lt);replace RN:=hid (show RunF w17 va from RN.out.below hb);replace EE:=hid (show EngAt w17 tab ea eb ed from EE.out.below hb (Nat.le_refl _));replace DD:=hid (show DoneF w17 gD from DD.out.below hb);replace PE:=hid (show Blk w17 w16.heap.size 72 (eng0 ea eb ed)from PE.out.below hb PE.out.lt);have EF:=hid (show EngAt w17 tab fa fb fd from hE);clear hE hb;have hal11:Below w17.heap.size w17 (w17.alloc (.cells (eng0 fa fb fd) 72)):=(Below.refl _ _).alloc (Nat.le_refl _) _;replace HW:=hid (show Below w.heap.size w (w17.alloc (.cells (eng0 fa fb fd) 72))from HW.out.trans (hal11.mono HW.out.size));replace PA:=hid (show Blk (w17.alloc (.cells (eng0 fa fb fd) 72)) w1.heap.size 26 VA3 from PA.out.alloc _);replace PB:=hid (show Blk (w17.alloc (.cells (eng0 fa fb fd) 72)) w2.heap.size 26 VB3 from PB.out.alloc _);replace RVA3:=hid (show RepAt (w17.alloc (.cells (eng0 fa fb fd) 72)) VA3 rA3 W4.heap.size w5.heap.size from RVA3.out.below hal11 (by first|omega|(simp only[World.size_alloc,setRow_size];omega)));replace RVB3:=hid (show RepAt (w17.alloc (.cells (eng0 fa fb fd) 72)) VB3 rB3 W7.heap.size w8.heap.size from RVB3.out.below hal11 (by first|omega|(simp only[World.size_alloc,setRow_size];omega)));replace RVC:=hid (show RepAt (w17.alloc (.cells (eng0 fa fb fd) 72)) VC rC W8.heap.size w9.heap.size from RVC.out.below hal11 (by first|omega|(simp only[World.size_alloc,setRow_size];omega)));replace PC:=hid (show Blk (w17.alloc (.cells (eng0 fa fb fd) 72)) w9.heap.size 26 VC from PC.out.alloc _);replace PW:=hid (show Blk (w17.alloc (.cells (eng0 fa fb fd) 72)) W9.heap.size 57 #[.int .i64 1,.int .i64 0,.int .i64 0,.string ⟨#[97]⟩,.int .i64 1,.int .i64 1,.int .i64 0,.string ⟨#[99]⟩,.int .i64 2,.int .i64 0,.int .i64 1,.string ⟨#[98]⟩]from PW.out.alloc _);replace RN:=hid (show RunF (w17.alloc (.cells (eng0 fa fb fd) 72)) va from RN.out.below hal11);replace EE:=hid (show EngAt (w17.alloc (.cells (eng0 fa fb fd) 72)) tab ea eb ed from EE.out.below hal11 (Nat.le_refl _));replace DD:=hid (show DoneF (w17.alloc (.cells (eng0 fa fb fd) 72)) gD from DD.out.below hal11);replace PE:=hid (show Blk (w17.alloc (.cells (eng0 fa fb fd) 72)) w16.heap.size 72 (eng0 ea eb ed)from PE.out.alloc _);replace EF:=hid (show EngAt (w17.alloc (.cells (eng0 fa fb fd) 72)) tab fa fb fd from EF.out.below hal11 (Nat.le_refl _));clear hal11;have PF:=hid (show Blk (w17.alloc (.cells (eng0 fa fb fd) 72)) w17.heap.size 72 (eng0 fa fb fd)from Blk.new w17 72 _);have hsz_W17:w17.heap.size+1<=(w17.alloc (.cells (eng0 fa fb fd) 72)).heap.size:=Nat.le_of_eq (by first|rfl|simp only[World.size_alloc,setRow_size,Nat.add_zero])
 go_upto_region 20 with (first
  | (with_reducible refine wpList_store_last rfl 72 (.tmp 29) (.tmp 154) rfl (eng0 fa fb fd) _ rfl rfl rfl (zz72 fa fb fd) rfl (one72 fa fb fd) ?_))
 generalize w17.alloc (.cells (eng0 fa fb fd) 72)=W17 at *;have d0:=DD.out.1;have d1:=DD.out.2;obtain⟨gR,cR,CR,AR,rfl,hRl,r8⟩:=RN.out;obtain⟨x0,x1,x2⟩:=PE.out.three;obtain⟨y0,y1,y2⟩:=PF.out.three
 go_wp2_with fail
 refine(engSame0 W17 tab ea eb ed fa fb fd EE.out EF.out).mono ?_;rintro e W18 ⟨rfl,hb⟩;clear PE;clear PF;clear DD;clear EE;clear EF;clear x0 x1 x2 y0 y1 y2 d0 d1;have R8:=hid r8;clear r8 RN;have hz_W18:=hb.size;replace HW:=hid (show Below w.heap.size w W18 from HW.out.trans (hb.mono HW.out.size));replace PA:=hid (show Blk W18 w1.heap.size 26 VA3 from PA.out.below hb PA.out.lt);replace PB:=hid (show Blk W18 w2.heap.size 26 VB3 from PB.out.below hb PB.out.lt);replace RVA3:=hid (show RepAt W18 VA3 rA3 W4.heap.size w5.heap.size from RVA3.out.below hb (by omega));replace RVB3:=hid (show RepAt W18 VB3 rB3 W7.heap.size w8.heap.size from RVB3.out.below hb (by omega));replace RVC:=hid (show RepAt W18 VC rC W8.heap.size w9.heap.size from RVC.out.below hb (by omega));replace PC:=hid (show Blk W18 w9.heap.size 26 VC from PC.out.below hb PC.out.lt);replace PW:=hid (show Blk W18 W9.heap.size 57 #[.int .i64 1,.int .i64 0,.int .i64 0,.string ⟨#[97]⟩,.int .i64 1,.int .i64 1,.int .i64 0,.string ⟨#[99]⟩,.int .i64 2,.int .i64 0,.int .i64 1,.string ⟨#[98]⟩]from PW.out.below hb PW.out.lt);replace R8:=hid (show W18.cell? ⟨gR,8,none⟩=some (.slice AR 1 CR)from(hb.cell (lt_of_cell R8.out)).trans R8.out);clear hb
 go_upto_region 22 with (fail)
 clear PB;clear RVB3;obtain⟨AC,cC,hA,hO,cC',rfl,hRd,k0,k1⟩:=rep_rC RVC.out;obtain⟨f0,f1,f2,f3,f4,rfl⟩:=rep_five RVA3.out;have K0:=hid k0;have K1:=hid k1;have RD:=hid hRd;clear k0 k1 hRd;obtain⟨c0,c1,c2,c3,c4⟩:=PC.out.cells5
 go_wp2_with fail
 refine(samePosts_any W18 AC 3 cC [pA,pC,pB] _ 3 3 [pA,pC,pB] (RD.out.more (by omega)) rfl (wantR PW.out) rfl (by omega) (by omega)).mono ?_;rw[sn21];rintro e W19 ⟨rfl,hb⟩;clear c0 c1 c2 c3 c4;clear PW;clear RD;have hz_W19:=hb.size;replace HW:=hid (show Below w.heap.size w W19 from HW.out.trans (hb.mono HW.out.size));replace PA:=hid (show Blk W19 w1.heap.size 26 #[f0,f1,f2,f3,f4]from PA.out.below hb PA.out.lt);replace RVA3:=hid (show RepAt W19 #[f0,f1,f2,f3,f4] rA3 W4.heap.size w5.heap.size from RVA3.out.below hb (by omega));replace RVC:=hid (show RepAt W19 #[.int .i64 0,.int .i64 2,.int .i64 2,.slice AC 3 cC,.slice (some ⟨hA,hO,none⟩) 2 cC'] rC W8.heap.size w9.heap.size from RVC.out.below hb (by omega));replace PC:=hid (show Blk W19 w9.heap.size 26 #[.int .i64 0,.int .i64 2,.int .i64 2,.slice AC 3 cC,.slice (some ⟨hA,hO,none⟩) 2 cC']from PC.out.below hb PC.out.lt);replace R8:=hid (show W19.cell? ⟨gR,8,none⟩=some (.slice AR 1 CR)from(hb.cell (lt_of_cell R8.out)).trans R8.out);replace K0:=hid (show W19.cell? ⟨hA,hO,none⟩=some (.int .i64 1)from(hb.cell (lt_of_cell K0.out)).trans K0.out);replace K1:=hid (show W19.cell? ⟨hA,hO+1,none⟩=some (.int .i64 1)from(hb.cell (lt_of_cell K1.out)).trans K1.out);clear hb;obtain⟨c0,c1,c2,c3,c4⟩:=PC.out.cells5
 go_wp2_with fail
 clear c0 c1 c2 c3 c4;have hal12:Below W19.heap.size W19 (W19.alloc (.cells #[.int .i64 1,.int .i64 1] 3)):=(Below.refl _ _).alloc (Nat.le_refl _) _;replace HW:=hid (show Below w.heap.size w (W19.alloc (.cells #[.int .i64 1,.int .i64 1] 3))from HW.out.trans (hal12.mono HW.out.size));replace PA:=hid (show Blk (W19.alloc (.cells #[.int .i64 1,.int .i64 1] 3)) w1.heap.size 26 #[f0,f1,f2,f3,f4]from PA.out.alloc _);replace RVA3:=hid (show RepAt (W19.alloc (.cells #[.int .i64 1,.int .i64 1] 3)) #[f0,f1,f2,f3,f4] rA3 W4.heap.size w5.heap.size from RVA3.out.below hal12 (by first|omega|(simp only[World.size_alloc,setRow_size];omega)));replace RVC:=hid (show RepAt (W19.alloc (.cells #[.int .i64 1,.int .i64 1] 3)) #[.int .i64 0,.int .i64 2,.int .i64 2,.slice AC 3 cC,.slice (some ⟨hA,hO,none⟩) 2 cC'] rC W8.heap.size w9.heap.size from RVC.out.below hal12 (by first|omega|(simp only[World.size_alloc,setRow_size];omega)));replace PC:=hid (show Blk (W19.alloc (.cells #[.int .i64 1,.int .i64 1] 3)) w9.heap.size 26 #[.int .i64 0,.int .i64 2,.int .i64 2,.slice AC 3 cC,.slice (some ⟨hA,hO,none⟩) 2 cC']from PC.out.alloc _);replace R8:=hid (show(W19.alloc (.cells #[.int .i64 1,.int .i64 1] 3)).cell? ⟨gR,8,none⟩=some (.slice AR 1 CR)from(hal12.cell (lt_of_cell R8.out)).trans R8.out);replace K0:=hid (show(W19.alloc (.cells #[.int .i64 1,.int .i64 1] 3)).cell? ⟨hA,hO,none⟩=some (.int .i64 1)from(hal12.cell (lt_of_cell K0.out)).trans K0.out);replace K1:=hid (show(W19.alloc (.cells #[.int .i64 1,.int .i64 1] 3)).cell? ⟨hA,hO+1,none⟩=some (.int .i64 1)from(hal12.cell (lt_of_cell K1.out)).trans K1.out);clear hal12;have PI:=hid (show Blk (W19.alloc (.cells #[.int .i64 1,.int .i64 1] 3)) W19.heap.size 3 #[.int .i64 1,.int .i64 1]from Blk.new W19 3 _);have hsz_X19:W19.heap.size+1<=(W19.alloc (.cells #[.int .i64 1,.int .i64 1] 3)).heap.size:=Nat.le_of_eq (by first|rfl|simp only[World.size_alloc,setRow_size,Nat.add_zero]);generalize W19.alloc (.cells #[.int .i64 1,.int .i64 1] 3)=X19 at *;have hI:X19.cell? ⟨W19.heap.size,0+1,none⟩=some (.int .i64 1):=PI.out.cell 1;refine(ints2 X19 hA hO cC' W19.heap.size 0 2 1 1 K0.out K1.out (PI.out.cell 0) hI).mono ?_;clear hI;rintro e W20 ⟨rfl,hb⟩;clear PI;clear K0;clear K1;have hz_W20:=hb.size;replace HW:=hid (show Below w.heap.size w W20 from HW.out.trans (hb.mono HW.out.size));replace PA:=hid (show Blk W20 w1.heap.size 26 #[f0,f1,f2,f3,f4]from PA.out.below hb PA.out.lt);replace RVA3:=hid (show RepAt W20 #[f0,f1,f2,f3,f4] rA3 W4.heap.size w5.heap.size from RVA3.out.below hb (by omega));replace RVC:=hid (show RepAt W20 #[.int .i64 0,.int .i64 2,.int .i64 2,.slice AC 3 cC,.slice (some ⟨hA,hO,none⟩) 2 cC'] rC W8.heap.size w9.heap.size from RVC.out.below hb (by omega));replace PC:=hid (show Blk W20 w9.heap.size 26 #[.int .i64 0,.int .i64 2,.int .i64 2,.slice AC 3 cC,.slice (some ⟨hA,hO,none⟩) 2 cC']from PC.out.below hb PC.out.lt);replace R8:=hid (show W20.cell? ⟨gR,8,none⟩=some (.slice AR 1 CR)from(hb.cell (lt_of_cell R8.out)).trans R8.out);clear hb;obtain⟨c0,c1,c2,c3,c4⟩:=PC.out.cells5;obtain⟨a0,a1,a2,a3,a4⟩:=PA.out.cells5;have r8:=R8.out;have hdd:=HDD.out
 go_wp2_with fail
 refine(validC W20 RVC.out (by omega)).mono ?_;rw[sn10];rintro e W21 ⟨rfl,hb⟩;clear r8 hdd;clear c0 c1 c2 c3 c4;clear a0 a1 a2 a3 a4;clear R8;have hz_W21:=hb.size;replace HW:=hid (show Below w.heap.size w W21 from HW.out.trans (hb.mono HW.out.size));replace PA:=hid (show Blk W21 w1.heap.size 26 #[f0,f1,f2,f3,f4]from PA.out.below hb PA.out.lt);replace RVA3:=hid (show RepAt W21 #[f0,f1,f2,f3,f4] rA3 W4.heap.size w5.heap.size from RVA3.out.below hb (by omega));replace RVC:=hid (show RepAt W21 #[.int .i64 0,.int .i64 2,.int .i64 2,.slice AC 3 cC,.slice (some ⟨hA,hO,none⟩) 2 cC'] rC W8.heap.size w9.heap.size from RVC.out.below hb (by omega));replace PC:=hid (show Blk W21 w9.heap.size 26 #[.int .i64 0,.int .i64 2,.int .i64 2,.slice AC 3 cC,.slice (some ⟨hA,hO,none⟩) 2 cC']from PC.out.below hb PC.out.lt);clear hb;obtain⟨c0,c1,c2,c3,c4⟩:=PC.out.cells5;obtain⟨a0,a1,a2,a3,a4⟩:=PA.out.cells5
 go_wp2_with fail
 refine(sameC W21 RVC.out (by omega) RVC.out (by omega)).mono ?_;rw[sn19];rintro e W22 ⟨rfl,hb⟩;clear c0 c1 c2 c3 c4;clear a0 a1 a2 a3 a4;have hz_W22:=hb.size;replace HW:=hid (show Below w.heap.size w W22 from HW.out.trans (hb.mono HW.out.size));replace PA:=hid (show Blk W22 w1.heap.size 26 #[f0,f1,f2,f3,f4]from PA.out.below hb PA.out.lt);replace RVA3:=hid (show RepAt W22 #[f0,f1,f2,f3,f4] rA3 W4.heap.size w5.heap.size from RVA3.out.below hb (by omega));replace RVC:=hid (show RepAt W22 #[.int .i64 0,.int .i64 2,.int .i64 2,.slice AC 3 cC,.slice (some ⟨hA,hO,none⟩) 2 cC'] rC W8.heap.size w9.heap.size from RVC.out.below hb (by omega));replace PC:=hid (show Blk W22 w9.heap.size 26 #[.int .i64 0,.int .i64 2,.int .i64 2,.slice AC 3 cC,.slice (some ⟨hA,hO,none⟩) 2 cC']from PC.out.below hb PC.out.lt);clear hb;obtain⟨c0,c1,c2,c3,c4⟩:=PC.out.cells5;obtain⟨a0,a1,a2,a3,a4⟩:=PA.out.cells5
 go_wp2_with fail
 refine(sameC W22 RVA3.out (by omega) RVC.out (by omega)).mono ?_;rw[sn20];rintro e W23 ⟨rfl,hb⟩;clear c0 c1 c2 c3 c4;clear a0 a1 a2 a3 a4;have hz_W23:=hb.size;replace HW:=hid (show Below w.heap.size w W23 from HW.out.trans (hb.mono HW.out.size));replace PA:=hid (show Blk W23 w1.heap.size 26 #[f0,f1,f2,f3,f4]from PA.out.below hb PA.out.lt);replace RVA3:=hid (show RepAt W23 #[f0,f1,f2,f3,f4] rA3 W4.heap.size w5.heap.size from RVA3.out.below hb (by omega));replace RVC:=hid (show RepAt W23 #[.int .i64 0,.int .i64 2,.int .i64 2,.slice AC 3 cC,.slice (some ⟨hA,hO,none⟩) 2 cC'] rC W8.heap.size w9.heap.size from RVC.out.below hb (by omega));replace PC:=hid (show Blk W23 w9.heap.size 26 #[.int .i64 0,.int .i64 2,.int .i64 2,.slice AC 3 cC,.slice (some ⟨hA,hO,none⟩) 2 cC']from PC.out.below hb PC.out.lt);clear hb
 go_wp2_with fail
 refine(valid_nil W23).mono ?_;rintro e W24 ⟨rfl,hb⟩
 go_wp2_with fail
 go_ret;exact⟨rfl,HW.out.trans (hb.mono HW.out.size)⟩
end
section
open Go.RowKit Go.Shelf
def RepsAt (W:World)(g K:Nat)(s:Rp.Sys):Prop:=∀i,i<K->∃v:RV,v.r=s.rep i/\(W.cell? ⟨g,i*5,none⟩=some (.int .i64 v.r.me)/\W.cell? ⟨g,i*5+1,none⟩=some (.int .i64 v.r.many)/\W.cell? ⟨g,i*5+2,none⟩=some (.int .i64 v.r.clock) /\
 W.cell? ⟨g,i*5+3,none⟩=some (.slice v.A v.n v.c)/\W.cell? ⟨g,i*5+4,none⟩=some (.slice v.A' v.n' v.c'))/\RepR W W.heap.size v.r v.A v.n v.A' v.n'/\v.n<=v.c
theorem RepsAt.below {W W':World}{g K:Nat}{s:Rp.Sys}(h:RepsAt W g K s)(hb:Below W.heap.size W W'):RepsAt W' g K s:=λi hi=>by
 obtain⟨v,e,⟨c0,c1,c2,c3,c4⟩,hr,hcv⟩:=h i hi;have hk:∀o u,W.cell? ⟨g,o,none⟩=some u->W'.cell? ⟨g,o,none⟩=some u:=λo u hu=>(hb.cell (p:=⟨g,o,none⟩) (lt_of_cell hu)).trans hu
 exact⟨v,e,⟨hk _ _ c0,hk _ _ c1,hk _ _ c2,hk _ _ c3,hk _ _ c4⟩,(hr.below hb).more hb.size,hcv⟩
theorem RepsAt.of {B x K:Nat}{W:World}{va vb:Value}{rl:List RV}{ml:List MV}{s:Rp.Sys}(h:RunR B W x va rl vb ml)(hr:s.reps=rl.map (·.r))(hl:s.reps.length=K)(hK:1<=K) :
 ∃g c,va=.slice (some ⟨g,0,none⟩) K c/\K<=c/\RepsAt W g K s:=by
 have hrl:rl.length=K:=by rw[<- hl,hr,List.length_map]
 rcases h.reps.2 with ⟨_,h0⟩|⟨g,cap,cur,rfl,_,_,hnc,_⟩
 ·omega
 ·refine⟨g,cap,by rw[hrl],by omega,λi hi=>?_⟩
  have hv:rl[i]?=some (rl[i]'(by omega)):=List.getElem?_eq_getElem _;refine⟨rl[i]'(by omega),?_,h.repCells hv,(h.rep _ (List.getElem_mem _)).1,h.caps _ (List.getElem_mem _)⟩;show _=s.reps.getD i default;rw[hr,List.getD_eq_getElem?_getD,List.getElem?_map,hv];rfl
end
section
open Go.RowKit Go.Shelf
theorem Reads.ps_take {w:World}{B n:Nat}{A:Option Addr}{l:List Rp.Post}(h:Reads w B 4 A n (encPs l))(hl:l.length=n)(k:Nat)(hk:k<=n):Reads w B 4 A k (encPs (l.take k)):=by
 refine⟨by rw[encPs_length,List.length_take];omega,λh0=>?_⟩;obtain⟨b,off,e,hb,hc⟩:=h.2 (by omega);refine⟨b,off,e,hb,λj u hu=>hc j u ?_⟩;have e2:encPs l=encPs (l.take k)++encPs (l.drop k):=by
  show l.flatMap encP=_
  conv=>lhs;rw[<- List.take_append_drop k l]
  rw[List.flatMap_append];rfl
 rw[e2,List.getElem?_append_left (List.getElem?_eq_some_iff.1 hu).1];exact hu
def minF (l:List Int)(j:Nat):Int:=(l.take j).foldl min (l.getD 0 0)
theorem minF_succ {l:List Int}{j:Nat}{x:Int}(h:l[j]?=some x):minF l (j+1)=min (minF l j) x:=by
 unfold minF;rw[List.take_add_one,h,List.foldl_append];rfl
theorem minF_all {l:List Int}{n:Nat}(h:l.length=n)(hn:0<n):minF l n=Rp.least l:=by
 unfold minF;rw[List.take_of_length_le (by omega)];cases l with
 | nil=>simp at h;omega
 | cons x l=>simp[Rp.least]
end
section
open Go.RowKit
theorem rlog_any (w:World)(A:Option Addr)(n c:Nat)(l:List Rp.Post)(many:Int)(hx:Reads w w.heap.size 4 A n (encPs l))(hl:l.length=n)(hn:n<=16777216)(hcap:n<=c)(hm:1<=many/\many<=5) :
 Calls prog 59 #[.slice A n c,.int .i64 many] w λe w'=>e=.returned (.bool (Rp.isLog l many))/\Below w.heap.size w w':=by
 obtain⟨hm1,hm5⟩:=hm;have HX:=hid hx;have HL:=hid hl;obtain⟨res,hres⟩:∃res,res=Rp.isLog l many:=⟨_,rfl⟩;rw[<- hres];have HR:=hid hres;clear hx hl hres
 go_enter func59,ntmps59
 by_cases h200:200<n
 ·have hno:res=false:=by
   rw[HR.out];unfold Rp.isLog;have:¬l.length<=200:=by rw[HL.out];omega
   rw[decide_eq_false this];rfl
  subst hno
  go_wp2_with fail
  exact bodyPost_ret (v:=.bool false) (by simp[results,results59,go_sem]) rfl ⟨rfl,Below.refl _ _⟩
 go_wp2_with fail
 go_loopw [5] (λq wr=>∃i:Nat,i<=n/\q=.int .i64 i/\Hid (Rp.logGo many [] (l.take i)=true)/\Hid (Below w.heap.size w wr)) (λq _=>n - (intOf q).toNat)
 case atStart=>exact⟨0,by omega,rfl,hid rfl,hid (Below.refl _ _)⟩
 case round =>
  obtain⟨i,hi,rfl,hG,hW⟩:=hrel
  by_cases hli:i<n
  ·obtain⟨b,off,p,rfl,hbl,hq,h0,h1,h2,h3⟩:=((HX.out.below hW.out).more hW.out.size).post HL.out hli
   have HQ:=hid hq;have HSt:=hid (Rp.logGo_step (many:=many) hq);have HEq:=hid (Rp.stepOk_eq (p:=p) hG.out);have hbs:=hW.out.size;clear hq
   go_wp2_with fail
   obtain⟨W1,hW1⟩:∃W1,W1=wr.alloc (.cells #[.int .i64 p.epoch,.int .i64 p.origin,.int .i64 p.number,.string p.text] 57):=⟨_,rfl⟩;rw[<- hW1];have hB1:Below wr.heap.size wr W1:=by rw[hW1];exact(Below.refl _ _).alloc (Nat.le_refl _) _
   have hK1:Blk W1 wr.heap.size 57 #[.int .i64 p.epoch,.int .i64 p.origin,.int .i64 p.number,.string p.text]:=by rw[hW1];exact Blk.new _ _ _
   have hb1:=hid (hW.out.trans (hB1.mono hbs));have HX1:=hid ((HX.out.below hb1.out).more hb1.out.size);have HK1:=hid hK1;obtain⟨p0,p1,p2,p3⟩:=hK1.cells4;have hlt1:=hK1.lt;have L0:=Later.of p0;have L1:=Later.of p1;have L2:=Later.of p2;have L3:=Later.of p3;clear hW1 hB1 hK1 h0 h1 h2 h3;have HI1:Hid (∀y:Later W1,Calls prog 38 #[.int .i64 p.epoch,.int .i64 1,.int .i64 1000000] y.W λe w'=>e=.returned (.bool (Rp.inr p.epoch 1 1000000))/\y.W=w'):=hid λy=>rin_any _ _ _ _
   have HI2:Hid (∀y:Later W1,Calls prog 38 #[.int .i64 p.origin,.int .i64 0,.int .i64 (many - 1)] y.W λe w'=>e=.returned (.bool (Rp.inr p.origin 0 (many - 1)))/\y.W=w'):=hid λy=>rin_any _ _ _ _
   have HCt:Hid (∀y:Later W1,Calls prog 45 #[.slice (some ⟨b,off,none⟩) i c,.int .i64 p.origin] y.W λe w'=>e=.returned (.int .i64 (Rp.count (l.take i) p.origin))/\y.W=w'):=hid λy =>
    rcount_any y.W (some ⟨b,off,none⟩) i c (l.take i) p.origin ((((HX1.out.below y.is).more y.is.size)).ps_take HL.out i (by omega)) (by rw[List.length_take,HL.out];exact Nat.min_eq_left (by omega)) (by omega)
   have HBad:Hid (Rp.stepOk many (l.take i) p=false->res=false):=hid λh=>by
    rw[HR.out];exact Rp.logGo_bad (i+1) (by rw[HSt.out,h,Bool.and_false])
   have hsub:many - 1=many - 1:=rfl;cases he1:Rp.inr p.epoch 1 1000000
   ·rw[he1]at HI1
    have hf:Rp.formed many p=false:=by unfold Rp.formed;rw[he1];rfl
    clear he1
    go_wp2_with fail
    refine wp_region_later (by kernel_rfl) (by kernel_rfl) ?_
    repeat(go_big_quiet_step (first
     | (go_at_call 38;first|with_reducible exact later_same (HI1.out _)|with_reducible exact later_same (HI2.out _))
     | (go_at_call 88;with_reducible exact later_of (HBf.out _))
     | (go_at_call 45;with_reducible exact later_same (HCt.out _))))
    refine wpQuiet_nil ?_;rintro W2 ⟨⟨_,hb2⟩,rfl⟩;have hno:res=false:=HBad.out (by rw[HEq.out];rw[hf];rfl);subst hno;have hbe:=hb1.out.trans (hb2.mono hb1.out.size);clear L0 L1 L2 L3
    go_wp2_with fail
    exact bodyPost_ret (v:=.bool false) (by simp[results,results59,go_sem]) rfl ⟨rfl,hbe⟩
   rw[he1]at HI1;cases he2:Rp.inr p.origin 0 (many - 1)
   ·rw[he2]at HI2
    have hf:Rp.formed many p=false:=by unfold Rp.formed;rw[he2];simp
    clear he1 he2
    go_wp2_with fail
    refine wp_region_later (by kernel_rfl) (by kernel_rfl) ?_
    repeat(go_big_quiet_step (first
     | (go_at_call 38;first|with_reducible exact later_same (HI1.out _)|with_reducible exact later_same (HI2.out _))
     | (go_at_call 88;with_reducible exact later_of (HBf.out _))
     | (go_at_call 45;with_reducible exact later_same (HCt.out _))))
    refine wpQuiet_nil ?_;rintro W2 ⟨⟨_,hb2⟩,rfl⟩;have hno:res=false:=HBad.out (by rw[HEq.out];rw[hf];rfl);subst hno;have hbe:=hb1.out.trans (hb2.mono hb1.out.size);clear L0 L1 L2 L3
    go_wp2_with fail
    exact bodyPost_ret (v:=.bool false) (by simp[results,results59,go_sem]) rfl ⟨rfl,hbe⟩
   rw[he2]at HI2
   by_cases he3:20000<(p.text.size:Int)
   ·have hf:Rp.formed many p=false:=by
     unfold Rp.formed;have:¬p.text.size<=20000:=by omega
     rw[decide_eq_false this];simp
    clear he1 he2
    go_wp2_with fail
    refine wp_region_later (by kernel_rfl) (by kernel_rfl) ?_
    repeat(go_big_quiet_step (first
     | (go_at_call 38;first|with_reducible exact later_same (HI1.out _)|with_reducible exact later_same (HI2.out _))
     | (go_at_call 88;with_reducible exact later_of (HBf.out _))
     | (go_at_call 45;with_reducible exact later_same (HCt.out _))))
    refine wpQuiet_nil ?_;rintro W2 ⟨⟨_,hb2⟩,rfl⟩;have hno:res=false:=HBad.out (by rw[HEq.out];rw[hf];rfl);subst hno;have hbe:=hb1.out.trans (hb2.mono hb1.out.size);clear L0 L1 L2 L3
    go_wp2_with fail
    exact bodyPost_ret (v:=.bool false) (by simp[results,results59,go_sem]) rfl ⟨rfl,hbe⟩
   have HF:Hid (Rp.formed many p=true):=hid (by
    unfold Rp.formed;have:p.text.size<=20000:=by omega
    rw[he1,he2,decide_eq_true this];rfl)
   clear he1 he2;have hsz:decide ((20000:Int)<(p.text.size:Int))=false:=decide_eq_false he3;rcases i with _|m
   ·have HLk:Hid (Rp.linked (l.take 0) p=true):=hid (Rp.linked_zero l p)
    obtain⟨cv,hcv'⟩:∃cv,cv=Rp.count (l.take 0) p.origin:=⟨_,rfl⟩;have hcv:=hid hcv';rw[<- hcv']at HCt;clear hcv'
    by_cases hnum:p.number=cv
    ·have HNum:Hid (decide (p.number=Rp.count (l.take 0) p.origin)=true):=hid (by rw[<- hcv.out];exact decide_eq_true hnum)
     have HNu:=hid hnum;clear hnum
     go_wp2_with fail
     refine wp_region_later (by kernel_rfl) (by kernel_rfl) ?_
     repeat(go_big_quiet_step (first
      | (go_at_call 38;first|with_reducible exact later_same (HI1.out _)|with_reducible exact later_same (HI2.out _))
      | (go_at_call 88;with_reducible exact later_of (HBf.out _))
      | (go_at_call 45;with_reducible exact later_same (HCt.out _))))
     refine wpQuiet_nil ?_;rintro W2 ⟨⟨_,hb2⟩,rfl⟩;obtain⟨k0,k1,k2,k3⟩:=(HK1.out.below hb2 hlt1).cells4;have hb3:=hid (hb1.out.trans (hb2.mono hb1.out.size));have HX3:=hid ((HX1.out.below hb2).more hb2.size);have hlt2:=Nat.lt_of_lt_of_le hlt1 hb2.size;clear L0 L1 L2 L3 hb2 hsz he3;have hnum:=HNu.out
     go_wp2_with fail
     clear hnum
     go_loopw [7] (λq wx=>∃k:Nat,k<=0/\q=.int .i64 k/\Hid (Rp.fresh (l.take k) p=true)/\Hid (Below W2.heap.size W2 wx)) (λq _=>0 - (intOf q).toNat)
     case atStart=>exact⟨0,by omega,rfl,hid rfl,hid (Below.refl _ _)⟩
     case round =>
      obtain⟨k,hk,rfl,hFr,hWk⟩:=hrel;have j0:=Eq.trans (hWk.out.cell (by exact lt_of_cell k0)) k0;have j1:=Eq.trans (hWk.out.cell (by exact lt_of_cell k1)) k1
      by_cases hlk:k<0
      ·exact absurd hlk (by omega)
      ·have hki:k=0:=by omega
       have HGo:=hid (show Rp.logGo many [] (l.take (0+1))=true by
        have h1:=hFr.out;rw[hki]at h1;rw[HSt.out,hG.out,HEq.out,HF.out,HLk.out,HNum.out,h1];rfl)
       have hbe:=hid (hb3.out.trans (hWk.out.mono hb3.out.size));have hge:¬((k:Int)<((0:Nat):Int)):=by omega
       go_wp2_with fail
       go_roundw
       case rel=>exact⟨0+1,by omega,by go_num,HGo,hbe⟩
       case measure=>simp[intOf];omega
    ·have hnf:decide (p.number=Rp.count (l.take 0) p.origin)=false:=by rw[<- hcv.out];exact decide_eq_false hnum
     go_wp2_with fail
     refine wp_region_later (by kernel_rfl) (by kernel_rfl) ?_
     repeat(go_big_quiet_step (first
      | (go_at_call 38;first|with_reducible exact later_same (HI1.out _)|with_reducible exact later_same (HI2.out _))
      | (go_at_call 88;with_reducible exact later_of (HBf.out _))
      | (go_at_call 45;with_reducible exact later_same (HCt.out _))))
     refine wpQuiet_nil ?_;rintro W2 ⟨⟨_,hb2⟩,rfl⟩;have hno:res=false:=HBad.out (by rw[HEq.out];rw[hnf];simp);subst hno;have hbe:=hb1.out.trans (hb2.mono hb1.out.size);clear L0 L1 L2 L3
     go_wp2_with fail
     exact bodyPost_ret (v:=.bool false) (by simp[results,results59,go_sem]) rfl ⟨rfl,hbe⟩
   ·obtain⟨b',off',q,he,hbl',hqq,g0,g1,g2,g3⟩:=HX1.out.post HL.out (j:=m) (by omega)
    cases he;have HLq:=hid (Rp.linked_succ hqq p);clear hqq;have G0:=Later.of g0;have G1:=Later.of g1;have G2:=Later.of g2;have G3:=Later.of g3;have HBf:Hid (∀y:Later W1,Calls prog 88 #[.agg #[.int .i64 q.epoch,.int .i64 q.origin,.int .i64 q.number,.string q.text],.agg #[.int .i64 p.epoch,.int .i64 p.origin,.int .i64 p.number,.string p.text]] y.W λe w'=>e=.returned (.bool (Rp.before q p))/\Below y.W.heap.size y.W w'):=hid λy=>rbefore_any q p y.W
    cases hbf:Rp.before q p
    ·rw[hbf]at HBf HLq
     have hlf:=HLq.out
     go_wp2_with fail
     refine wp_region_later (by kernel_rfl) (by kernel_rfl) ?_
     repeat(go_big_quiet_step (first
      | (go_at_call 38;first|with_reducible exact later_same (HI1.out _)|with_reducible exact later_same (HI2.out _))
      | (go_at_call 88;with_reducible exact later_of (HBf.out _))
      | (go_at_call 45;with_reducible exact later_same (HCt.out _))))
     refine wpQuiet_nil ?_;rintro W2 ⟨⟨_,hb2⟩,rfl⟩;have hno:res=false:=HBad.out (by rw[HEq.out];rw[hlf];simp);subst hno;have hbe:=hb1.out.trans (hb2.mono hb1.out.size);clear L0 L1 L2 L3
     go_wp2_with fail
     exact bodyPost_ret (v:=.bool false) (by simp[results,results59,go_sem]) rfl ⟨rfl,hbe⟩
    rw[hbf]at HBf HLq;have HLk:=HLq;obtain⟨cv,hcv'⟩:∃cv,cv=Rp.count (l.take (m+1)) p.origin:=⟨_,rfl⟩;have hcv:=hid hcv';rw[<- hcv']at HCt;clear hcv' hbf
    by_cases hnum:p.number=cv
    ·have HNum:Hid (decide (p.number=Rp.count (l.take (m+1)) p.origin)=true):=hid (by rw[<- hcv.out];exact decide_eq_true hnum)
     have HNu:=hid hnum;clear hnum
     go_wp2_with fail
     refine wp_region_later (by kernel_rfl) (by kernel_rfl) ?_
     repeat(go_big_quiet_step (first
      | (go_at_call 38;first|with_reducible exact later_same (HI1.out _)|with_reducible exact later_same (HI2.out _))
      | (go_at_call 88;with_reducible exact later_of (HBf.out _))
      | (go_at_call 45;with_reducible exact later_same (HCt.out _))))
     refine wpQuiet_nil ?_;rintro W2 ⟨⟨_,hb2⟩,rfl⟩;obtain⟨k0,k1,k2,k3⟩:=(HK1.out.below hb2 hlt1).cells4;have hb3:=hid (hb1.out.trans (hb2.mono hb1.out.size));have HX3:=hid ((HX1.out.below hb2).more hb2.size);have hlt2:=Nat.lt_of_lt_of_le hlt1 hb2.size;clear L0 L1 L2 L3 hb2 hsz he3;have hnum:=HNu.out
     go_wp2_with fail
     clear hnum
     go_loopw [7] (λq wx=>∃k:Nat,k<=(m+1)/\q=.int .i64 k/\Hid (Rp.fresh (l.take k) p=true)/\Hid (Below W2.heap.size W2 wx)) (λq _=>(m+1) - (intOf q).toNat)
     case atStart=>exact⟨0,by omega,rfl,hid rfl,hid (Below.refl _ _)⟩
     case round =>
      obtain⟨k,hk,rfl,hFr,hWk⟩:=hrel;have j0:=Eq.trans (hWk.out.cell (by exact lt_of_cell k0)) k0;have j1:=Eq.trans (hWk.out.cell (by exact lt_of_cell k1)) k1
      by_cases hlk:k<(m+1)
      ·obtain⟨b'',off'',y,he,hbl'',hqy,y0,y1,y2,y3⟩:=((HX3.out.below hWk.out).more hWk.out.size).post HL.out (j:=k) (by omega)
       cases he;have HT:=hid (Rp.fresh_take (p:=p) hqy);clear hqy;have M0:=Later.of j0;have M1:=Later.of j1;have N0:=Later.of y0;have N1:=Later.of y1
       by_cases ho:y.origin=p.origin
       ·by_cases hep:y.epoch=p.epoch
        ·have hno:res=false:=HBad.out (by
          rw[HEq.out];have h1:Rp.fresh (l.take (k+1)) p=false:=by rw[HT.out];simp[ho,hep]
          rw[Rp.fresh_bad (i:=(m+1)) (by omega) h1];simp)
         subst hno
         go_wp2_with fail
         refine wp_region_later (by kernel_rfl) (by kernel_rfl) ?_
         repeat(go_big_quiet_step (fail))
         refine wpQuiet_nil ?_;rintro W5 ⟨⟨_,hb5⟩,rfl⟩;have hbe:=hb3.out.trans ((hWk.out.mono hb3.out.size).trans (hb5.mono (Nat.le_trans hb3.out.size hWk.out.size)));clear M0 M1 N0 N1
         go_wp2_with fail
         exact bodyPost_ret (v:=.bool false) (by simp[results,results59,go_sem]) rfl ⟨rfl,hbe⟩
        ·have HN:=hid (show Rp.fresh (l.take (k+1)) p=true by rw[HT.out,hFr.out];simp[hep])
         go_wp2_with fail
         refine wp_region_later (by kernel_rfl) (by kernel_rfl) ?_
         repeat(go_big_quiet_step (fail))
         refine wpQuiet_nil ?_;rintro W5 ⟨⟨_,hb5⟩,rfl⟩;have hbe:=hid (hWk.out.trans (hb5.mono hWk.out.size));clear M0 M1 N0 N1 hb5
         go_wp2_with fail
         go_roundw
         case rel=>exact⟨k+1,by omega,by go_num,HN,hbe⟩
         case measure=>simp[intOf];omega
       ·have HN:=hid (show Rp.fresh (l.take (k+1)) p=true by rw[HT.out,hFr.out];simp[ho])
        have hof:(y.origin==p.origin)=false:=beq_eq_false_iff_ne.2 ho
        go_wp2_with fail
        refine wp_region_later (by kernel_rfl) (by kernel_rfl) ?_
        repeat(go_big_quiet_step (fail))
        refine wpQuiet_nil ?_;rintro W5 ⟨⟨_,hb5⟩,rfl⟩;have hbe:=hid (hWk.out.trans (hb5.mono hWk.out.size));clear M0 M1 N0 N1 hb5
        go_wp2_with fail
        clear hof;go_roundw
        case rel=>exact⟨k+1,by omega,by go_num,HN,hbe⟩
        case measure=>simp[intOf];omega
      ·have hki:k=(m+1):=by omega
       have HGo:=hid (show Rp.logGo many [] (l.take ((m+1)+1))=true by
        have h1:=hFr.out;rw[hki]at h1;rw[HSt.out,hG.out,HEq.out,HF.out,HLk.out,HNum.out,h1];rfl)
       have hbe:=hid (hb3.out.trans (hWk.out.mono hb3.out.size));have hge:¬((k:Int)<(((m+1):Nat):Int)):=by omega
       go_wp2_with fail
       go_roundw
       case rel=>exact⟨(m+1)+1,by omega,by go_num,HGo,hbe⟩
       case measure=>simp[intOf];omega
    ·have hnf:decide (p.number=Rp.count (l.take (m+1)) p.origin)=false:=by rw[<- hcv.out];exact decide_eq_false hnum
     go_wp2_with fail
     refine wp_region_later (by kernel_rfl) (by kernel_rfl) ?_
     repeat(go_big_quiet_step (first
      | (go_at_call 38;first|with_reducible exact later_same (HI1.out _)|with_reducible exact later_same (HI2.out _))
      | (go_at_call 88;with_reducible exact later_of (HBf.out _))
      | (go_at_call 45;with_reducible exact later_same (HCt.out _))))
     refine wpQuiet_nil ?_;rintro W2 ⟨⟨_,hb2⟩,rfl⟩;have hno:res=false:=HBad.out (by rw[HEq.out];rw[hnf];simp);subst hno;have hbe:=hb1.out.trans (hb2.mono hb1.out.size);clear L0 L1 L2 L3
     go_wp2_with fail
     exact bodyPost_ret (v:=.bool false) (by simp[results,results59,go_sem]) rfl ⟨rfl,hbe⟩
  ·have hin:i=n:=by omega
   subst hin;have hyes:res=true:=by
    rw[HR.out];unfold Rp.isLog;have h1:=hG.out;rw[List.take_of_length_le (by rw[HL.out];omega)]at h1;rw[h1,HL.out,decide_eq_true (by omega)];rfl
   subst hyes;have hbe:=hW.out
   go_wp2_with fail
   exact bodyPost_ret (v:=.bool true) (by simp[results,results59,go_sem]) rfl ⟨rfl,hbe⟩
end
section
open Go.RowKit
theorem rvalid_any (w:World)(r:Rp.Rep)(A:Option Addr)(n c:Nat)(A':Option Addr)(n' c':Nat)(h:RepR w w.heap.size r A n A' n')(hcap:n<=c) :
 Calls prog 23 #[repV r A n c A' n' c'] w λe w'=>e=.returned (.bool (Rp.valid r))/\Below w.heap.size w w':=by
 obtain⟨me,many,clock,posts,heard⟩:=r;unfold repV;simp only;obtain⟨W0,hW0⟩:∃W0,W0=w.alloc (.cells #[.int .i64 me,.int .i64 many,.int .i64 clock,.slice A n c,.slice A' n' c'] 26):=⟨_,rfl⟩;have hs0:W0.heap.size=w.heap.size+1:=by rw[hW0];simp
 have hbW:Below w.heap.size w W0:=by rw[hW0];exact(Below.refl _ _).alloc (Nat.le_refl _) _
 have hBW:Blk W0 w.heap.size 26 #[.int .i64 me,.int .i64 many,.int .i64 clock,.slice A n c,.slice A' n' c']:=by rw[hW0];exact Blk.new _ _ _
 have hR:=h.below hbW;have hR0:=hR.more (show w.heap.size<=W0.heap.size by omega);have H60:=hid (λw1 (hb:Below W0.heap.size W0 w1)=>rheard_any w1 A' n' c' heard many clock ((hR0.heard.below hb).more hb.size) h.few');have H59:=hid (fun(h1:1<=many) (h5:many<=5)=>rlog_any W0 A n c posts many hR0.posts h.len h.few hcap ⟨h1,h5⟩);have HR0:=hid hR0;have HLen:=hid h.len;have hfew:=h.few;simp only at HLen;have HB:=hid hbW;have HBW:=hid hBW;have hv:Rp.valid ⟨me,many,clock,posts,heard⟩=(Rp.inr many 1 5&&(Rp.inr me 0 (many - 1)&&(Rp.inr clock 0 1000000&&(Rp.isHeard heard many clock&&(Rp.isLog posts many&&posts.all λp=>decide (p.epoch<=clock)))))):=rfl;have HV:=hid hv;obtain⟨res,hres⟩:∃res,res=Rp.valid ⟨me,many,clock,posts,heard⟩:=⟨_,rfl⟩;rw[<- hres]at HV ⊢;obtain⟨g0,g1,g2,g3,g4⟩:=hBW.cells5;have hlt0:=hBW.lt;clear hv hbW hR hR0 h hBW hres hs0
 go_enter func23,ntmps23
 go_wp2_with fail
 rw[<- hW0];clear hW0;cases e1:Rp.inr many 1 5
 ·have E1:=hid e1
  have hno:res=false:=by rw[HV.out,e1];rfl
  subst hno;clear e1
  go_wp2_with (go_at_call 38;first|(with_reducible refine(rin_any many 1 5 _).mono ?_;rw[E1.out];rintro e w' ⟨rfl,rfl⟩))
  exact bodyPost_ret (v:=.bool false) (by simp[results,results23,go_sem]) rfl ⟨rfl,HB.out⟩
 obtain⟨hm1,hm5⟩:=Rp.inr_iff.1 e1;have E1:=hid e1;clear e1;cases e2:Rp.inr me 0 (many - 1)
 ·have E2:=hid e2
  have hno:res=false:=by rw[HV.out,e2,E1.out];rfl
  subst hno;clear e2
  go_wp2_with (go_at_call 38;first|(with_reducible refine(rin_any many 1 5 _).mono ?_;rw[E1.out];rintro e w' ⟨rfl,rfl⟩)|(with_reducible refine(rin_any me 0 (many - 1) _).mono ?_;rw[E2.out];rintro e w' ⟨rfl,rfl⟩))
  exact bodyPost_ret (v:=.bool false) (by simp[results,results23,go_sem]) rfl ⟨rfl,HB.out⟩
 have E2:=hid e2;clear e2;cases e3:Rp.inr clock 0 1000000
 ·have E3:=hid e3
  have hno:res=false:=by rw[HV.out,e3,E1.out,E2.out];rfl
  subst hno;clear e3
  go_wp2_with (go_at_call 38;first|(with_reducible refine(rin_any many 1 5 _).mono ?_;rw[E1.out];rintro e w' ⟨rfl,rfl⟩)|(with_reducible refine(rin_any me 0 (many - 1) _).mono ?_;rw[E2.out];rintro e w' ⟨rfl,rfl⟩)|(with_reducible refine(rin_any clock 0 1000000 _).mono ?_;rw[E3.out];rintro e w' ⟨rfl,rfl⟩))
  exact bodyPost_ret (v:=.bool false) (by simp[results,results23,go_sem]) rfl ⟨rfl,HB.out⟩
 have E3:=hid e3;clear e3;have H59':=hid (H59.out hm1 hm5);cases e5:Rp.isLog posts many
 ·have E5:=hid e5
  have hno:res=false:=by rw[HV.out,e5];simp
  subst hno;clear e5
  go_wp2_with (first
   | (go_at_call 38;first|(with_reducible refine(rin_any many 1 5 _).mono ?_;rw[E1.out];rintro e w' ⟨rfl,rfl⟩)|(with_reducible refine(rin_any me 0 (many - 1) _).mono ?_;rw[E2.out];rintro e w' ⟨rfl,rfl⟩)|(with_reducible refine(rin_any clock 0 1000000 _).mono ?_;rw[E3.out];rintro e w' ⟨rfl,rfl⟩))
   | (go_at_call 59;refine H59'.out.mono ?_;rw[E5.out];rintro e w1 ⟨rfl,hb1⟩))
  exact bodyPost_ret (v:=.bool false) (by simp[results,results23,go_sem]) rfl ⟨rfl,HB.out.trans (hb1.mono HB.out.size)⟩
 have E5:=hid e5;clear e5;cases e4:Rp.isHeard heard many clock
 ·have E4:=hid e4
  have hno:res=false:=by rw[HV.out,e4];simp
  subst hno;clear e4
  go_wp2_with (first
   | (go_at_call 38;first|(with_reducible refine(rin_any many 1 5 _).mono ?_;rw[E1.out];rintro e w' ⟨rfl,rfl⟩)|(with_reducible refine(rin_any me 0 (many - 1) _).mono ?_;rw[E2.out];rintro e w' ⟨rfl,rfl⟩)|(with_reducible refine(rin_any clock 0 1000000 _).mono ?_;rw[E3.out];rintro e w' ⟨rfl,rfl⟩))
   | (go_at_call 59;refine H59'.out.mono ?_;rw[E5.out];rintro e w1 ⟨rfl,hb1⟩;have k1:=(hb1.cell (p:=⟨w.heap.size,1,none⟩) hlt0).trans g1;have k2:=(hb1.cell (p:=⟨w.heap.size,2,none⟩) hlt0).trans g2;have k4:=(hb1.cell (p:=⟨w.heap.size,4,none⟩) hlt0).trans g4)
   | (go_at_call 60;refine(H60.out _ hb1).mono ?_;rw[E4.out];rintro e w2 ⟨rfl,rfl⟩))
  exact bodyPost_ret (v:=.bool false) (by simp[results,results23,go_sem]) rfl ⟨rfl,HB.out.trans (hb1.mono HB.out.size)⟩
 have E4:=hid e4;clear e4
 go_upto_region 3 with (first
  | (go_at_call 38;first|(with_reducible refine(rin_any many 1 5 _).mono ?_;rw[E1.out];rintro e w' ⟨rfl,rfl⟩)|(with_reducible refine(rin_any me 0 (many - 1) _).mono ?_;rw[E2.out];rintro e w' ⟨rfl,rfl⟩)|(with_reducible refine(rin_any clock 0 1000000 _).mono ?_;rw[E3.out];rintro e w' ⟨rfl,rfl⟩))
  | (go_at_call 59;refine H59'.out.mono ?_;rw[E5.out];rintro e w1 ⟨rfl,hb1⟩;have k1:=(hb1.cell (p:=⟨w.heap.size,1,none⟩) hlt0).trans g1;have k2:=(hb1.cell (p:=⟨w.heap.size,2,none⟩) hlt0).trans g2;have k3:=(hb1.cell (p:=⟨w.heap.size,3,none⟩) hlt0).trans g3;have k4:=(hb1.cell (p:=⟨w.heap.size,4,none⟩) hlt0).trans g4)
  | (go_at_call 60;refine(H60.out _ hb1).mono ?_;rw[E4.out];rintro e w2 ⟨rfl,rfl⟩))
 have HB1:=hid hb1;have hfin:res=posts.all λp=>decide (p.epoch<=clock):=by rw[HV.out,E1.out,E2.out,E3.out,E4.out,E5.out];rfl
 have HP:=hid ((HR0.out.posts.below hb1).more hb1.size);have K2:=Later.of k2;have K3:=Later.of k3;clear hb1 g0 g1 g2 g3 g4 k1 k4;rcases n with _|m
 ·have hyes:res=true:=by rw[hfin,List.eq_nil_of_length_eq_zero HLen.out];rfl
  subst hyes;clear hfin
  go_wp2_with fail
  refine wp_region_later (by kernel_rfl) (by kernel_rfl) ?_
  repeat(go_big_quiet_step (fail))
  refine wpQuiet_nil ?_;rintro W5 ⟨⟨_,hb5⟩,rfl⟩;clear K2 K3 k2 k3
  go_wp2_with fail
  exact bodyPost_ret (v:=.bool true) (by simp[results,results23,go_sem]) rfl ⟨rfl,HB.out.trans ((HB1.out.trans (hb5.mono HB1.out.size)).mono HB.out.size)⟩
 ·obtain⟨b,off,q,rfl,hbl,hq,q0,q1,q2,q3⟩:=HP.out.post HLen.out (j:=m) (by omega)
  have hlast:=Rp.all_last (c:=clock) E5.out HLen.out hq;rw[<- hfin]at hlast;subst hlast;have Q0:=Later.of q0;have hz:((m:Int)+1==0)=false:=beq_eq_false_iff_ne.2 (by omega);clear hfin hq
  go_wp2_with fail
  refine wp_region_later (by kernel_rfl) (by kernel_rfl) ?_
  repeat(go_big_quiet_step (fail))
  refine wpQuiet_nil ?_;rintro W5 ⟨⟨_,hb5⟩,rfl⟩;clear K2 K3 k2 k3 Q0
  go_wp2_with fail
  exact bodyPost_ret (v:=.bool (decide (q.epoch<=clock))) (by simp[results,results23,go_sem]) rfl ⟨rfl,HB.out.trans ((HB1.out.trans (hb5.mono HB1.out.size)).mono HB.out.size)⟩
end
section
open Go.RowKit Go.Shelf
attribute [local irreducible] encI rootX encRp sumF
theorem text_rp (w:World)(p:Rp.Post)(h:MidP p):Calls prog 52 #[.agg #[.int .i64 p.epoch,.int .i64 p.origin,.int .i64 p.number,.string p.text]] w λe w'=>e=.returned (.string (encRp p))/\Below w.heap.size w w':=by
 obtain⟨ep,og,nu,tx⟩:=p;obtain⟨⟨p1,p2⟩,⟨p3,p4⟩,⟨p5,p6⟩,p7⟩:=h;simp only at p1 p2 p3 p4 p5 p6 p7;obtain⟨ne,rfl⟩:=Int.eq_ofNat_of_zero_le p1;obtain⟨no,rfl⟩:=Int.eq_ofNat_of_zero_le p3;obtain⟨nn,rfl⟩:=Int.eq_ofNat_of_zero_le p5;rw[encRp_eq];exact text_any w ne no nn tx (by omega) (by omega) (by omega) (by omega)
theorem blk_grown {w w':World}{B g:Nat}{v:Value}{xs:List Value}{t:TypeId}{cs:Array Value}(hV:Vs w B v xs)(hg:w.grownBy w' v.ownBlock)(hB:Blk w g t cs)(hne:v.ownBlock≠some g):Blk w' g t cs :=
 (hg.block g hB.lt (λe=>hne e.symm)).trans hB
theorem rrootAll (w:World)(B n c:Nat)(A:Option Addr)(xs:List ByteArray)(hV:Vs w B (.slice A n c) (strs xs))(hn:n<=1000)(hn':xs.length=n)(hs:∀x∈xs,x.size<=90000) :
 Calls prog 53 #[.slice A n c] w λe w'=>e=.returned (.string (rootX tabC xs))/\Below w.heap.size w w':=by
 by_cases h0:0<n
 ·obtain⟨g,rfl⟩:=hV.sm h0
  exact rroot_any n n w g 0 c xs (Nat.le_refl _) h0 hn (by have:=hV.cap;simpa[strs,hn']using this) hn' (hV.own g rfl).2 (λj x hx=>by
   have hj:j<xs.length:=(List.getElem?_eq_some_iff.1 hx).1;have:=hV.at_ j (by simpa[strs]using hj);rw[Nat.zero_add,this];have e:=(List.getElem?_eq_some_iff.1 hx).2;simp[strs,e]) hs
 ·obtain rfl:n=0:=by omega
  obtain rfl:xs=[]:=List.length_eq_zero_iff.1 hn';exact rroot0_any w A c
theorem rdigest_rep (w:World)(r:Rp.Rep)(A:Option Addr)(n c:Nat)(A':Option Addr)(n' c':Nat)(h:RepR w w.heap.size r A n A' n')(hcap:n<=c)(hv:Rp.valid r=true) :
 Calls prog 19 #[repV r A n c A' n' c'] w λe w'=>e=.returned (.tuple #[.string (digF tabC r),.int .i64 0])/\Below w.heap.size w w':=by
 have HR:=hid h;have HV:=hid hv;have HP:=hid (midP_of hv);have hn200:n<=1000:=by
  have h5:=(Rp.valid_iff.1 hv).2.2.2.2.1;simp only[Rp.isLog,Bool.and_eq_true,decide_eq_true_eq]at h5;have:=h.len;omega
 clear h hv;obtain⟨me,many,clock,posts,heard⟩:=r;unfold repV;simp only;have hX:=hid (Blk.new w 26 #[.int .i64 me,.int .i64 many,.int .i64 clock,.slice A n c,.slice A' n' c']);have hW:=hid ((Below.refl w.heap.size w).alloc (Nat.le_refl _) (.cells #[.int .i64 me,.int .i64 many,.int .i64 clock,.slice A n c,.slice A' n' c'] 26));obtain⟨d0,d1,d2,d3,d4⟩:=hX.out.cells5
 go_enter func19,ntmps19
 go_wp2_with fail
 refine(rvalid_any _ ⟨me,many,clock,posts,heard⟩ A n c A' n' c' ((HR.out.below hW.out).more hW.out.size) hcap).mono ?_;rw[HV.out];rintro e w1 ⟨rfl,h1⟩;have hX1:=hid (hX.out.below h1 hX.out.lt);have hW1:=hid (hW.out.trans (h1.mono hW.out.size));clear d0 d1 d2 d3 d4 h1 hX hW
 go_wp2_with fail
 go_loopw [4,5] (λv i wr=>∃(k:Nat) (xs:List ByteArray) (B:Option Addr) (cc:Nat),k<=n/\i=.int .i64 k/\v=.slice B k cc/\Hid (xs.length=k/\xs=(posts.take k).map encRp)/\Hid (Vs wr (w.heap.size+1) (.slice B k cc) (strs xs))/\Hid (Blk wr w.heap.size 26 #[.int .i64 me,.int .i64 many,.int .i64 clock,.slice A n c,.slice A' n' c'])/\Hid (Below w.heap.size w wr)) (λ_ i _=>n - (intOf i).toNat)
 case atStart=>exact⟨0,[],none,0,by omega,rfl,rfl,hid ⟨rfl,rfl⟩,hid (Vs.nil _ _),hX1,hW1⟩
 case round =>
  clear hW1 hX1;obtain⟨k,xs,B,cc,hk,rfl,rfl,hxs,hV,hX,hW⟩:=hrel;have d3:wr.cell? ⟨w.heap.size,3,none⟩=some (.slice A n c):=hX.out.cell 3
  by_cases hlt:k<n
  ·obtain⟨g,off,x,rfl,hbl,hq,e0,e1,e2,e3⟩:=(HR.out.posts.below hW.out).post HR.out.len hlt
   have HT:=hid (λW=>text_rp W x (HP.out x (List.mem_of_getElem? hq)));have HQX:=hid hq;have hsz:=hid (encRp_size (HP.out x (List.mem_of_getElem? hq)));clear hq;obtain⟨Q,hQ⟩:∃Q,Q=encRp x:=⟨_,rfl⟩;have HQ:=hid hQ;rw[<- hQ]at HT;clear hQ;have hlx:(strs xs).length+1<=1099511627776:=by simp[strs,hxs.out.1];omega
   have hlx':(strs xs).length=k:=by simp[strs,hxs.out.1]
   have HLx:=hid hlx';clear hlx'
   go_wp2_with (first
    | (go_at_call 52
       refine(HT.out wr).mono ?_;rintro e w4 ⟨rfl,hb4⟩;have HX4:=hid (hX.out.below hb4 (by have:=hX.out.lt;exact this));have HW4:=hid (hW.out.trans (hb4.mono hW.out.size));have HV4:=hid ((hV.out.below hb4).below ((Below.refl _ w4).alloc (Nat.le_refl _) (.cells #[.string Q] 9)));have hk0:(w4.alloc (.cells #[.string Q] 9)).cell? ⟨w4.heap.size,0,none⟩=some (.string Q):=(Blk.new w4 9 #[.string Q]).cell 0;have hzx:w.heap.size+1<=(w4.alloc (.cells #[.string Q] 9)).heap.size:=by have:=HX4.out.lt;simp;omega
       clear hb4)
    | (at_builtin;refine wpList_appendV underlying86 info9 rfl (by decide) rfl (.tmp 16) (.tmp 23) rfl (w.heap.size+1) (.slice B k cc) (strs xs) rfl HV4.out hzx hlx ⟨w4.heap.size,0,none⟩ (.string Q) rfl 1 rfl hk0 ?_;intro v5 w5 hV5 hg5 ho5;obtain⟨A5,c5,rfl⟩:=hV5.len (n:=k+1) (by simp[HLx.out]);have HV5:=hid hV5;have HB5:=hid ((HW4.out.alloc HW4.out.size (.cells #[.string Q] 9)).trans ((grown_base HV4.out hg5 hzx).mono (by omega)));have HX5:=hid (blk_grown HV4.out hg5 (HX4.out.alloc (.cells #[.string Q] 9)) (λe=>by have:=(HV4.out.own _ e).1;omega));clear hV5 hg5 ho5))
   go_roundw
   case rel=>exact⟨k+1,xs++[Q],A5,c5,by omega,by go_num,rfl,hid ⟨by simp[hxs.out.1],by rw[hxs.out.2,HQ.out,List.take_add_one,HQX.out,List.map_append];rfl⟩,hid (by simpa[strs]using HV5.out),HX5,HB5⟩
   case measure=>simp[intOf];omega
  ·obtain rfl:k=n:=by omega
   have HRt:=hid (rrootAll wr (w.heap.size+1) k cc B xs hV.out hn200 hxs.out.1 (λx hx=>by
    rw[hxs.out.2]at hx;obtain⟨q,hq,rfl⟩:=List.mem_map.1 hx;have:=encRp_size (HP.out q (List.mem_of_mem_take hq));omega))
   have hfin:Hid (rootX tabC xs=digF tabC ⟨me,many,clock,posts,heard⟩):=hid (by
    unfold digF;rw[hxs.out.2,List.take_of_length_le (by have:=HR.out.len;simp only at this;omega)])
   rw[hfin.out]at HRt;have hsW:=hW.out.size
   go_wp2_with fail
   refine HRt.out.mono ?_;rintro e w2 ⟨rfl,h2⟩
   go_wp2_with fail
   go_ret2;exact⟨rfl,hW.out.trans (h2.mono hsW)⟩
theorem rdigest_bad (w:World)(r:Rp.Rep)(A:Option Addr)(n c:Nat)(A':Option Addr)(n' c':Nat)(h:RepR w w.heap.size r A n A' n')(hcap:n<=c)(hv:Rp.valid r=false) :
 Calls prog 19 #[repV r A n c A' n' c'] w λe w'=>e=.returned (.tuple #[.string ⟨#[]⟩,.int .i64 310])/\Below w.heap.size w w':=by
 have HR:=hid h;have HV:=hid hv;clear h hv;obtain⟨me,many,clock,posts,heard⟩:=r;unfold repV;simp only;have hX:=hid (Blk.new w 26 #[.int .i64 me,.int .i64 many,.int .i64 clock,.slice A n c,.slice A' n' c']);have hW:=hid ((Below.refl w.heap.size w).alloc (Nat.le_refl _) (.cells #[.int .i64 me,.int .i64 many,.int .i64 clock,.slice A n c,.slice A' n' c'] 26));obtain⟨d0,d1,d2,d3,d4⟩:=hX.out.cells5
 go_enter func19,ntmps19
 go_wp2_with fail
 refine(rvalid_any _ ⟨me,many,clock,posts,heard⟩ A n c A' n' c' ((HR.out.below hW.out).more hW.out.size) hcap).mono ?_;rw[HV.out];rintro e w1 ⟨rfl,h1⟩;have hW1:=hid (hW.out.trans (h1.mono hW.out.size))
 go_wp2_with fail
 go_ret2;exact⟨rfl,hW1.out⟩
theorem digest_bad (w:World)(r:Rp.Rep)(A:Option Addr)(n c:Nat)(A':Option Addr)(n' c':Nat)(h:RepR w w.heap.size r A n A' n')(hv:Rp.valid r=false) :
 Calls prog 18 #[repV r A n c A' n' c'] w λe w'=>e=.returned (.tuple #[.string ⟨#[]⟩,.int .i64 310])/\Below w.heap.size w w':=by
 have HR:=hid h;have HV:=hid hv;clear h hv;obtain⟨me,many,clock,posts,heard⟩:=r;unfold repV;simp only;have hX:=hid (Blk.new w 26 #[.int .i64 me,.int .i64 many,.int .i64 clock,.slice A n c,.slice A' n' c']);have hW:=hid ((Below.refl w.heap.size w).alloc (Nat.le_refl _) (.cells #[.int .i64 me,.int .i64 many,.int .i64 clock,.slice A n c,.slice A' n' c'] 26));obtain⟨d0,d1,d2,d3,d4⟩:=hX.out.cells5
 go_enter func18,ntmps18
 go_wp2_with fail
 refine(valid_any _ ⟨me,many,clock,posts,heard⟩ A n c A' n' c' ((HR.out.below hW.out).more hW.out.size)).mono ?_;rw[HV.out];rintro e w1 ⟨rfl,h1⟩;have hW1:=hid (hW.out.trans (h1.mono hW.out.size))
 go_wp2_with fail
 go_ret2;exact⟨rfl,hW1.out⟩
def digP (r:Rp.Rep):ByteArray:=if Rp.valid r then digF tabC r else ⟨#[]⟩
def digE (r:Rp.Rep):Int:=if Rp.valid r then 0 else 310
theorem rdigest_any (w:World)(r:Rp.Rep)(A:Option Addr)(n c:Nat)(A':Option Addr)(n' c':Nat)(h:RepR w w.heap.size r A n A' n')(hcap:n<=c) :
 Calls prog 19 #[repV r A n c A' n' c'] w λe w'=>e=.returned (.tuple #[.string (digP r),.int .i64 (digE r)])/\Below w.heap.size w w':=by
 unfold digP digE;cases hv:Rp.valid r
 ·exact rdigest_bad w r A n c A' n' c' h hcap hv
 ·exact rdigest_rep w r A n c A' n' c' h hcap hv
theorem digest_any' (w:World)(hT:Tab w tabC)(r:Rp.Rep)(A:Option Addr)(n c:Nat)(A':Option Addr)(n' c':Nat)(h:RepR w w.heap.size r A n A' n') :
 Calls prog 18 #[repV r A n c A' n' c'] w λe w'=>e=.returned (.tuple #[.string (digP r),.int .i64 (digE r)])/\Below w.heap.size w w':=by
 unfold digP digE;cases hv:Rp.valid r
 ·exact digest_bad w r A n c A' n' c' h hv
 ·exact digest_rep w tabC hT r A n c A' n' c' h hv
end
section
open Go.RowKit
theorem rcopied_any (w:World)(r:Rp.Rep)(A:Option Addr)(n c:Nat)(A':Option Addr)(n' c':Nat)(h:RepR w w.heap.size r A n A' n') :
 Calls prog 41 #[repV r A n c A' n' c'] w λe w'=>∃A1 c1 A2 c2,e=.returned (repV r A1 n c1 A2 n' c2)/\w'.ownsRow w.heap.size 57 4 (.slice A1 n c1) n (encPs r.posts) /\
  w'.ownsRow w.heap.size 3 1 (.slice A2 n' c2) n' (r.heard.map (Value.int .i64))/\n<=c1/\n'<=c2/\Below w.heap.size w w':=by
 obtain⟨i0,hi0,hz0,hz1,hz2⟩:=info_parts info57;obtain⟨j0,hj0,jz0,jz1,jz2⟩:=info_parts info3;obtain⟨me,many,clock,posts,heard⟩:=r;unfold repV;simp only;obtain⟨h1,h2,h3,h4,h5,h6⟩:=h;simp only at h1 h2 h3 h4;obtain⟨W0,hW0⟩:∃W0,W0=(w.alloc (.cells #[.int .i64 me,.int .i64 many,.int .i64 clock,.slice A n c,.slice A' n' c'] 26)).alloc (.cells #[.int .i64 0,.int .i64 0,.int .i64 0,.slice none 0 0,.slice none 0 0] 26):=⟨_,rfl⟩;have hs0:w.heap.size+2<=W0.heap.size:=by rw[hW0];simp
 have hbW:Below w.heap.size w W0:=by rw[hW0];exact((Below.refl _ _).alloc (Nat.le_refl _) _).alloc (by simp) _
 have hBW:Blk W0 w.heap.size 26 #[.int .i64 me,.int .i64 many,.int .i64 clock,.slice A n c,.slice A' n' c']:=by rw[hW0];exact(Blk.new _ _ _).alloc _
 have hRW:Blk W0 (w.heap.size+1) 26 #[.int .i64 0,.int .i64 0,.int .i64 0,.slice none 0 0,.slice none 0 0]:=by
  rw[hW0];have hbn:=Blk.new (w.alloc (.cells #[.int .i64 me,.int .i64 many,.int .i64 clock,.slice A n c,.slice A' n' c'] 26)) 26 #[.int .i64 0,.int .i64 0,.int .i64 0,.slice none 0 0,.slice none 0 0];simp only[World.size_alloc]at hbn;exact hbn
 have HX:=hid ((h1.below hbW).more (show w.heap.size<=W0.heap.size by omega));have H3:=hid h3;clear h1 h3;have HBW:=hid hBW;have HRW:=hid hRW;have HbW:=hid hbW
 go_enter func41,ntmps41
 go_upto_region 1 with (fail)
 rw[<- hW0];clear hW0;have hb1:Below W0.heap.size W0 (W0.alloc (.cells #[] 57)):=(Below.refl _ _).alloc (Nat.le_refl _) _;have HO:=hid (own_empty W0 57 4);have c3:=hBW.cell 3;simp only[List.getElem?_toArray,List.getElem?_cons_zero,List.getElem?_cons_succ]at c3;have c3a:∀o,(W0.alloc o).cell? ⟨w.heap.size,3,none⟩=some (.slice A n c):=λo=>(World.cell?_alloc_some W0 _ o (by rw[c3];rfl)).trans c3
 have HX1:=hid (HX.out.below hb1);have HB1:=hid hb1;clear hBW hRW hbW hb1
 go_upto_region 2 with (first
  | (at_builtin
     refine wpList_append_any _ rfl (.tmp 3) (.tmp 5) 23 rfl W0.heap.size 57 i0 _ 4 40 underlying23 hi0 hz0 hz1 hz2 rfl (by omega) (.slice (some ⟨W0.heap.size,0,none⟩) 0 0) 0 [] rfl
      HO.out W0.heap.size A n c (encPs posts) rfl HX1.out (one_posts posts) (by simp only[maxLen];omega) (by omega) (by simp) ?_
     intro v1 W2 hown1 hg1 hat1;obtain⟨A1,c1,rfl,hc1⟩:=own_slice hown1;have hb2:Below W0.heap.size W0 W2:=HB1.out.grown hg1 (by simp) (λk hk=>by simp[Value.ownBlock]at hk;omega);have e3:=(HBW.out.below hb2 (by omega)).frozen 3;have k3:=(HBW.out.below hb2 (by omega)).cell 3))
 have hown1':W2.ownsRow W0.heap.size 57 4 (.slice A1 (0+n) c1) (0+n) (encPs posts):=by simpa using hown1
 rw[Nat.zero_add]at hown1' hc1
 try rw[Nat.zero_add]
 clear hown1;obtain⟨W3,hW3⟩:∃W3,W3=W2.setCell ⟨w.heap.size,3,none⟩ (.slice A1 n c1):=⟨_,rfl⟩;have hs2:=hb2.size;have hs3:W2.heap.size=W3.heap.size:=by rw[hW3,size_setCell]
 have HB3:Blk W3 w.heap.size 26 #[.int .i64 me,.int .i64 many,.int .i64 clock,.slice A1 n c1,.slice A' n' c']:=by
  rw[hW3];exact Blk.set_ (HBW.out.below hb2 (by omega)) 3 _
 have HR3:Blk W3 (w.heap.size+1) 26 #[.int .i64 0,.int .i64 0,.int .i64 0,.slice none 0 0,.slice none 0 0]:=by
  rw[hW3];exact(HRW.out.below hb2 (by omega)).far (by simp) _
 have HO3:=hid (show W3.ownsRow w.heap.size 57 4 (.slice A1 n c1) n (encPs posts) by
  rw[hW3];exact own_base (ownsRow_setCell_below hown1' (by simp;omega) _) (by omega))
 have HN3:=hid (show W3.ownsRow W0.heap.size 57 4 (.slice A1 n c1) n (encPs posts) by
  rw[hW3];exact ownsRow_setCell_below hown1' (by simp;omega) _)
 have hbel3:Below w.heap.size w W3:=by
  rw[hW3];exact(HbW.out.trans (hb2.mono (by omega))).setCell (by simp) _
 have hX3:=(H3.out.below hbel3).more hbel3.size;have hW3':W2.setCell ⟨w.heap.size,3,none⟩ (.slice A1 n c1)=W3:=hW3.symm;rw[hW3'];clear hW3 hW3' HO HX1 HB1 HBW HRW hg1 hat1 e3 k3 c3 c3a hb2 hown1' HX;have HB3':=hid HB3;have HR3':=hid HR3;have HL3:=hid hbel3;have hb1:Below W3.heap.size W3 (W3.alloc (.cells #[] 3)):=(Below.refl _ _).alloc (Nat.le_refl _) _;have HO:=hid (own_empty W3 3 1);have c4:=HB3.cell 4;simp only[List.getElem?_toArray,List.getElem?_cons_zero,List.getElem?_cons_succ]at c4;have c4a:∀o,(W3.alloc o).cell? ⟨w.heap.size,4,none⟩=some (.slice A' n' c'):=λo=>(World.cell?_alloc_some W3 _ o (by rw[c4];rfl)).trans c4
 have HX1:=hid (hX3.below hb1);have HB1:=hid hb1;have hlw:=hbel3.size;have hlt3:=HB3.lt;have hlt3':=HR3.lt;clear hb1 hX3 HB3 HR3 hbel3
 go_upto_region 3 with (first
  | (at_builtin
     refine wpList_append_any _ rfl (.tmp 8) (.tmp 10) 24 rfl W3.heap.size 3 j0 _ 1 8 underlying24 hj0 jz0 jz1 jz2 rfl (by omega) (.slice (some ⟨W3.heap.size,0,none⟩) 0 0) 0 [] rfl
      HO.out W3.heap.size A' n' c' (heard.map (Value.int .i64)) rfl HX1.out (one_ints heard) (by simp only[maxLen];omega) (by omega) (by simp) ?_
     intro v1 W4 hown1 hg1 hat1;obtain⟨A2,c2,rfl,hc2⟩:=own_slice hown1;have hb4:Below W3.heap.size W3 W4:=HB1.out.grown hg1 (by simp) (λk hk=>by simp[Value.ownBlock]at hk;omega);have e4:=(HB3'.out.below hb4 (by omega)).frozen 4;have k4:=(HB3'.out.below hb4 (by omega)).cell 4))
 have hown4:W4.ownsRow W3.heap.size 3 1 (.slice A2 (0+n') c2) (0+n') (heard.map (Value.int .i64)):=by simpa using hown1
 rw[Nat.zero_add]at hown4 hc2
 try rw[Nat.zero_add]
 clear hown1;obtain⟨W5,hW5⟩:∃W5,W5=W4.setCell ⟨w.heap.size,4,none⟩ (.slice A2 n' c2):=⟨_,rfl⟩;have hs4:=hb4.size;have hs5:W4.heap.size=W5.heap.size:=by rw[hW5,size_setCell]
 have HB5:Blk W5 w.heap.size 26 #[.int .i64 me,.int .i64 many,.int .i64 clock,.slice A1 n c1,.slice A2 n' c2]:=by
  rw[hW5];exact Blk.set_ (HB3'.out.below hb4 (by omega)) 4 _
 have HR5:Blk W5 (w.heap.size+1) 26 #[.int .i64 0,.int .i64 0,.int .i64 0,.slice none 0 0,.slice none 0 0]:=by
  rw[hW5];exact(HR3'.out.below hb4 (by omega)).far (by simp) _
 have HP5:=hid (show W5.ownsRow W0.heap.size 57 4 (.slice A1 n c1) n (encPs posts) by
  rw[hW5];exact ownsRow_setCell_below (own_below HN3.out hb4) (by simp;omega) _)
 have HH5:=hid (show W5.ownsRow W3.heap.size 3 1 (.slice A2 n' c2) n' (heard.map (Value.int .i64)) by
  rw[hW5];exact ownsRow_setCell_below hown4 (by simp;omega) _)
 have hbel5:=hid (show Below w.heap.size w W5 by
  rw[hW5];exact(HL3.out.trans (hb4.mono hlw)).setCell (by simp) _)
 have hW5':W4.setCell ⟨w.heap.size,4,none⟩ (.slice A2 n' c2)=W5:=hW5.symm;rw[hW5'];clear hW5 hW5' HO HX1 HB1 hg1 hat1 e4 k4 c4 c4a hb4 hown4 HB3' HR3' HL3;obtain⟨b0,b1,b2,b3,b4⟩:=HB5.cells5;obtain⟨r0,r1,r2,r3,r4⟩:=HR5.cells5;obtain⟨s0,s1,s2,s3,s4⟩:=HR5.soft5
 go_wp2_with fail
 refine bodyPost_ret (v:=.agg #[.int .i64 me,.int .i64 many,.int .i64 clock,.slice A1 n c1,.slice A2 n' c2]) (by simp[results,results41,go_sem,r0,r1,r2,r3,r4]) rfl ⟨A1,c1,A2,c2,rfl,?_,?_,hc1,hc2,?_⟩
 ·refine own_base (B:=W0.heap.size) ?_ (by omega)
  repeat(refine ownsRow_setCell_below ?_ (by simp;omega) _)
  exact HP5.out
 ·refine own_base (B:=W3.heap.size) ?_ (by omega)
  repeat(refine ownsRow_setCell_below ?_ (by simp;omega) _)
  exact HH5.out
 ·repeat(refine Below.setCell ?_ (by simp) _)
  exact hbel5.out
end
end Go.Proofs.YtnehgpeelgjjhaaGreatDoor.Tw
