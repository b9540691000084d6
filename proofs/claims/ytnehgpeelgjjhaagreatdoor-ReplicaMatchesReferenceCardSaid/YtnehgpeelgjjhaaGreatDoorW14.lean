/- Contracts of functions of the program, and plain laws, towards the laws of replicas. Joined of the texts: Tab1. -/
import Derived.Test.YtnehgpeelgjjhaaGreatDoorProg
import Derived.Test.YtnehgpeelgjjhaaGreatDoorW03
set_option linter.all false
set_option maxRecDepth 100000
set_option maxHeartbeats 12800000
namespace Go.Proofs.YtnehgpeelgjjhaaGreatDoor.Tw
open Go.Proofs.Tryz
section
open Go.Reach
theorem still_0 :(List.range' 0 25).all (still prog)=true:=by kernel_rfl
theorem still_1 :(List.range' 25 25).all (still prog)=true:=by kernel_rfl
theorem still_2 :(List.range' 50 25).all (still prog)=true:=by kernel_rfl
theorem still_3 :(List.range' 75 25).all (still prog)=true:=by kernel_rfl
theorem still_4 :(List.range' 100 25).all (still prog)=true:=by kernel_rfl
theorem still_5 :(List.range' 125 25).all (still prog)=true:=by kernel_rfl
theorem still_6 :(List.range' 150 25).all (still prog)=true:=by kernel_rfl
theorem still_7 :(List.range' 175 25).all (still prog)=true:=by kernel_rfl
theorem still_8 :(List.range' 200 25).all (still prog)=true:=by kernel_rfl
theorem still_9 :(List.range' 225 25).all (still prog)=true:=by kernel_rfl
theorem still_10 :(List.range' 250 25).all (still prog)=true:=by kernel_rfl
theorem still_11 :(List.range' 275 25).all (still prog)=true:=by kernel_rfl
theorem still_12 :(List.range' 300 25).all (still prog)=true:=by kernel_rfl
theorem still_13 :(List.range' 325 25).all (still prog)=true:=by kernel_rfl
theorem still_14 :(List.range' 350 25).all (still prog)=true:=by kernel_rfl
theorem still_15 :(List.range' 375 25).all (still prog)=true:=by kernel_rfl
theorem still_16 :(List.range' 400 25).all (still prog)=true:=by kernel_rfl
theorem still_17 :(List.range' 425 25).all (still prog)=true:=by kernel_rfl
theorem still_18 :(List.range' 450 25).all (still prog)=true:=by kernel_rfl
theorem still_19 :(List.range' 475 25).all (still prog)=true:=by kernel_rfl
theorem still_20 :(List.range' 500 25).all (still prog)=true:=by kernel_rfl
theorem still_21 :(List.range' 525 25).all (still prog)=true:=by kernel_rfl
theorem still_22 :(List.range' 550 25).all (still prog)=true:=by kernel_rfl
theorem still_23 :(List.range' 575 25).all (still prog)=true:=by kernel_rfl
theorem still_24 :(List.range' 600 25).all (still prog)=true:=by kernel_rfl
theorem still_25 :(List.range' 625 25).all (still prog)=true:=by kernel_rfl
theorem still_26 :(List.range' 650 25).all (still prog)=true:=by kernel_rfl
theorem still_27 :(List.range' 675 24).all (still prog)=true:=by kernel_rfl
theorem still_all :(List.range' 0 699).all (still prog)=true:=(all_cut (F:=still prog) 0 675 24 (all_cut (F:=still prog) 0 650 25 (all_cut (F:=still prog) 0 625 25 (all_cut (F:=still prog) 0 600 25 (all_cut (F:=still prog) 0 575 25 (all_cut (F:=still prog) 0 550 25 (all_cut (F:=still prog) 0 525 25 (all_cut (F:=still prog) 0 500 25 (all_cut (F:=still prog) 0 475 25 (all_cut (F:=still prog) 0 450 25 (all_cut (F:=still prog) 0 425 25 (all_cut (F:=still prog) 0 400 25 (all_cut (F:=still prog) 0 375 25 (all_cut (F:=still prog) 0 350 25 (all_cut (F:=still prog) 0 325 25 (all_cut (F:=still prog) 0 300 25 (all_cut (F:=still prog) 0 275 25 (all_cut (F:=still prog) 0 250 25 (all_cut (F:=still prog) 0 225 25 (all_cut (F:=still prog) 0 200 25 (all_cut (F:=still prog) 0 175 25 (all_cut (F:=still prog) 0 150 25 (all_cut (F:=still prog) 0 125 25 (all_cut (F:=still prog) 0 100 25 (all_cut (F:=still prog) 0 75 25 (all_cut (F:=still prog) 0 50 25 (all_cut (F:=still prog) 0 25 25 still_0 still_1) still_2) still_3) still_4) still_5) still_6) still_7) still_8) still_9) still_10) still_11) still_12) still_13) still_14) still_15) still_16) still_17) still_18) still_19) still_20) still_21) still_22) still_23) still_24) still_25) still_26) still_27)
theorem size_prog :prog.funcs.size=699:=by kernel_rfl
theorem goes_no (f:Nat):prog.goes f=false:=goes_false size_prog still_all f
theorem looks_yes :prog.looks []=true:=looks_true 186 (by rw[size_prog];decide) (by rw[func186];kernel_rfl)
end
end Go.Proofs.YtnehgpeelgjjhaaGreatDoor.Tw
