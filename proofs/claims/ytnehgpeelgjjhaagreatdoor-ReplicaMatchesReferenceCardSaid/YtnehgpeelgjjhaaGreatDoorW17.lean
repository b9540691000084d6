/- Contracts of functions of the program, and plain laws, towards the laws of replicas. Joined of the texts: H1, H2, O2. -/
import Derived.Test.YtnehgpeelgjjhaaGreatDoorW15
import Derived.Test.YtnehgpeelgjjhaaGreatDoorW16
import Derived.ProofKit
import Derived.OpenShut
import Derived.LaidMore
set_option linter.all false
set_option maxRecDepth 100000
set_option maxHeartbeats 12800000
open Go.Lib (hid)
namespace Go.Proofs.YtnehgpeelgjjhaaGreatDoor.Tw
open Go.Proofs.Tryz
section
open Go.RowKit
abbrev nf24 :Array Value:=#[.nilFunc,.nilFunc,.nilFunc,.nilFunc,.nilFunc,.nilFunc,.nilFunc,.nilFunc,.nilFunc,.nilFunc,.nilFunc,.nilFunc,.nilFunc,.nilFunc,.nilFunc,.nilFunc,.nilFunc,.nilFunc,.nilFunc,.nilFunc,.nilFunc,.nilFunc,.nilFunc,.nilFunc]
def stC :Array Value:=#[.nilFunc,.nilFunc,.nilFunc,.func (.func 300) #[] #[],.func (.func 301) #[] #[],.func (.func 302) #[] #[],.func (.func 303) #[] #[],.func (.func 304) #[] #[],.func (.func 305) #[] #[],.func (.func 306) #[] #[],.func (.func 307) #[] #[],.func (.func 308) #[] #[],.func (.func 309) #[] #[],.func (.func 310) #[] #[],.func (.func 311) #[] #[],.func (.func 312) #[] #[],.func (.func 313) #[] #[],.func (.func 314) #[] #[],.func (.func 315) #[] #[],.func (.func 316) #[] #[],.func (.func 317) #[] #[],.func (.func 318) #[] #[],.func (.func 319) #[] #[],.func (.func 320) #[] #[]]
theorem st_build :∀w,(Instr.build 371 #[(1,.agg #[.func (.func 300) #[] #[],.func (.func 301) #[] #[],.func (.func 302) #[] #[]]),(2,.agg #[.func (.func 303) #[] #[],.func (.func 304) #[] #[],.func (.func 305) #[] #[]]),(3,.agg #[.func (.func 306) #[] #[],.func (.func 307) #[] #[],.func (.func 308) #[] #[]]),(4,.agg #[.func (.func 309) #[] #[],.func (.func 310) #[] #[],.func (.func 311) #[] #[]]),(5,.agg #[.func (.func 312) #[] #[],.func (.func 313) #[] #[],.func (.func 314) #[] #[]]),(6,.agg #[.func (.func 315) #[] #[],.func (.func 316) #[] #[],.func (.func 317) #[] #[]]),(7,.agg #[.func (.func 318) #[] #[],.func (.func 319) #[] #[],.func (.func 320) #[] #[]])]).run prog w=.ok (.agg stC) w:=λ_=>by kernel_rfl
theorem st_size :(prog.info? 371).map (·.size)=some stC.size:=by kernel_rfl
theorem st_old :nf24.size=stC.size:=by kernel_rfl
theorem size297 :(prog.info? 297).map (·.size)=some 3:=by kernel_rfl
theorem st_one :stC.all (·.oneCell')=true:=by kernel_rfl
theorem structures0 (w:World):Calls prog 252 #[] w λe w'=>e=.returned (.agg stC)/\Below w.heap.size w w':=by
 have hb:=st_build
 go_enter func252,ntmps252
 go_wp2_with (with_reducible refine wpList_store_last rfl 371 (.tmp 0) (.tmp 8) rfl stC _ rfl rfl rfl st_size st_old st_one ?_)
 have HS:=Blk.new w 371 stC;exact bodyPost_ret (results_cell_row rfl _ _ w.heap.size 371 stC (0,0) _ rfl HS.heap underlying371 rfl st_size) rfl ⟨rfl,(Below.refl _ _).alloc (Nat.le_refl _) _⟩
theorem st_index1 :∀w,(Instr.index 371 (.agg stC) (.int .i64 1)).run prog w=.ok (.agg #[.func (.func 300) #[] #[],.func (.func 301) #[] #[],.func (.func 302) #[] #[]]) w:=λ_=>by kernel_rfl
theorem of1 (w:World):Calls prog 198 #[.int .i64 1] w λe w'=>e=.returned (.tuple #[.agg #[.func (.func 300) #[] #[],.func (.func 301) #[] #[],.func (.func 302) #[] #[]],.bool true])/\Below w.heap.size w w':=by
 have hi:=st_index1
 go_enter func198,ntmps198
 go_wp2_with fail
 refine(structures0 _).mono ?_;rintro e w1 ⟨rfl,h1⟩;have hb:=(Blk.new w 297 #[.nilFunc,.nilFunc,.nilFunc]).below h1 (by simp);have hB:=hid (((Below.refl w.heap.size w).alloc (Nat.le_refl _) (.cells #[.nilFunc,.nilFunc,.nilFunc] 297)).trans (h1.mono (by simp)));have HH:=hid hb;have HS:=hid (hb.setRow_same #[.func (.func 300) #[] #[],.func (.func 301) #[] #[],.func (.func 302) #[] #[]]);have HW:=hid (below_setRow hB.out (g:=w.heap.size) (Nat.le_refl _) #[.func (.func 300) #[] #[],.func (.func 301) #[] #[],.func (.func 302) #[] #[]]);clear h1 hb;have z1:(prog.info? 297).map (·.size)=some (#[.func (.func 300) #[] #[],.func (.func 301) #[] #[],.func (.func 302) #[] #[]]:Array Value).size:=size297;have z2:(#[.nilFunc,.nilFunc,.nilFunc]:Array Value).size=(#[.func (.func 300) #[] #[],.func (.func 301) #[] #[],.func (.func 302) #[] #[]]:Array Value).size:=rfl;have z3:(#[.func (.func 300) #[] #[],.func (.func 301) #[] #[],.func (.func 302) #[] #[]]:Array Value).all (·.oneCell')=true:=by kernel_rfl
 go_wp2_with (with_reducible refine stB 297 (.tmp 2) (.tmp 13) w.heap.size #[.func (.func 300) #[] #[],.func (.func 301) #[] #[],.func (.func 302) #[] #[]] _ HH z1 z2 z3 rfl rfl rfl rfl ?_)
 exact bodyPost_ret (results_cell2 rfl _ _ w.heap.size 297 _ _ rfl HS.out underlying297 rfl z1) rfl ⟨rfl,HW.out⟩
theorem labels1 (w:World):Calls prog 142 #[.int .i64 1,g0] w λe w'=>e=.returned (.tuple #[nilS,.int .i64 0])/\Below w.heap.size w w':=by
 go_enter func142,ntmps142
 go_wp2_with fail
 refine(of1 _).mono ?_;rintro e w1 ⟨rfl,h1⟩;have hb:=(Blk.new w 79 #[nilS,nilS,nilS]).below h1 (by simp);have hB:=hid (((Below.refl w.heap.size w).alloc (Nat.le_refl _) (.cells #[nilS,nilS,nilS] 79)).trans (h1.mono (by simp)));have hs1:=hB.out.size;have hb1:=hb.alloc (.cells #[.func (.func 300) #[] #[],.func (.func 301) #[] #[],.func (.func 302) #[] #[]] 297);obtain⟨c1,c2,c3⟩:=hb1.three;clear h1 hb hb1
 go_wp2_with fail
 refine(forest0 _).mono ?_;rintro e w2 ⟨rfl,h2⟩
 go_wp2_with fail
 go_ret2;exact⟨rfl,(hB.out.alloc (by omega) _).trans (h2.mono (by simp;omega))⟩
theorem st_index2 :∀w,(Instr.index 371 (.agg stC) (.int .i64 2)).run prog w=.ok (.agg #[.func (.func 303) #[] #[],.func (.func 304) #[] #[],.func (.func 305) #[] #[]]) w:=λ_=>by kernel_rfl
theorem of2 (w:World):Calls prog 198 #[.int .i64 2] w λe w'=>e=.returned (.tuple #[.agg #[.func (.func 303) #[] #[],.func (.func 304) #[] #[],.func (.func 305) #[] #[]],.bool true])/\Below w.heap.size w w':=by
 have hi:=st_index2
 go_enter func198,ntmps198
 go_wp2_with fail
 refine(structures0 _).mono ?_;rintro e w1 ⟨rfl,h1⟩;have hb:=(Blk.new w 297 #[.nilFunc,.nilFunc,.nilFunc]).below h1 (by simp);have hB:=hid (((Below.refl w.heap.size w).alloc (Nat.le_refl _) (.cells #[.nilFunc,.nilFunc,.nilFunc] 297)).trans (h1.mono (by simp)));have HH:=hid hb;have HS:=hid (hb.setRow_same #[.func (.func 303) #[] #[],.func (.func 304) #[] #[],.func (.func 305) #[] #[]]);have HW:=hid (below_setRow hB.out (g:=w.heap.size) (Nat.le_refl _) #[.func (.func 303) #[] #[],.func (.func 304) #[] #[],.func (.func 305) #[] #[]]);clear h1 hb;have z1:(prog.info? 297).map (·.size)=some (#[.func (.func 303) #[] #[],.func (.func 304) #[] #[],.func (.func 305) #[] #[]]:Array Value).size:=size297;have z2:(#[.nilFunc,.nilFunc,.nilFunc]:Array Value).size=(#[.func (.func 303) #[] #[],.func (.func 304) #[] #[],.func (.func 305) #[] #[]]:Array Value).size:=rfl;have z3:(#[.func (.func 303) #[] #[],.func (.func 304) #[] #[],.func (.func 305) #[] #[]]:Array Value).all (·.oneCell')=true:=by kernel_rfl
 go_wp2_with (with_reducible refine stB 297 (.tmp 2) (.tmp 13) w.heap.size #[.func (.func 303) #[] #[],.func (.func 304) #[] #[],.func (.func 305) #[] #[]] _ HH z1 z2 z3 rfl rfl rfl rfl ?_)
 exact bodyPost_ret (results_cell2 rfl _ _ w.heap.size 297 _ _ rfl HS.out underlying297 rfl z1) rfl ⟨rfl,HW.out⟩
theorem labels2 (w:World):Calls prog 142 #[.int .i64 2,g0] w λe w'=>e=.returned (.tuple #[nilS,.int .i64 0])/\Below w.heap.size w w':=by
 go_enter func142,ntmps142
 go_wp2_with fail
 refine(of2 _).mono ?_;rintro e w1 ⟨rfl,h1⟩;have hb:=(Blk.new w 79 #[nilS,nilS,nilS]).below h1 (by simp);have hB:=hid (((Below.refl w.heap.size w).alloc (Nat.le_refl _) (.cells #[nilS,nilS,nilS] 79)).trans (h1.mono (by simp)));have hs1:=hB.out.size;have hb1:=hb.alloc (.cells #[.func (.func 303) #[] #[],.func (.func 304) #[] #[],.func (.func 305) #[] #[]] 297);obtain⟨c1,c2,c3⟩:=hb1.three;clear h1 hb hb1
 go_wp2_with fail
 refine(strong0 _).mono ?_;rintro e w2 ⟨rfl,h2⟩
 go_wp2_with fail
 go_ret2;exact⟨rfl,(hB.out.alloc (by omega) _).trans (h2.mono (by simp;omega))⟩
theorem st_index3 :∀w,(Instr.index 371 (.agg stC) (.int .i64 3)).run prog w=.ok (.agg #[.func (.func 306) #[] #[],.func (.func 307) #[] #[],.func (.func 308) #[] #[]]) w:=λ_=>by kernel_rfl
theorem of3 (w:World):Calls prog 198 #[.int .i64 3] w λe w'=>e=.returned (.tuple #[.agg #[.func (.func 306) #[] #[],.func (.func 307) #[] #[],.func (.func 308) #[] #[]],.bool true])/\Below w.heap.size w w':=by
 have hi:=st_index3
 go_enter func198,ntmps198
 go_wp2_with fail
 refine(structures0 _).mono ?_;rintro e w1 ⟨rfl,h1⟩;have hb:=(Blk.new w 297 #[.nilFunc,.nilFunc,.nilFunc]).below h1 (by simp);have hB:=hid (((Below.refl w.heap.size w).alloc (Nat.le_refl _) (.cells #[.nilFunc,.nilFunc,.nilFunc] 297)).trans (h1.mono (by simp)));have HH:=hid hb;have HS:=hid (hb.setRow_same #[.func (.func 306) #[] #[],.func (.func 307) #[] #[],.func (.func 308) #[] #[]]);have HW:=hid (below_setRow hB.out (g:=w.heap.size) (Nat.le_refl _) #[.func (.func 306) #[] #[],.func (.func 307) #[] #[],.func (.func 308) #[] #[]]);clear h1 hb;have z1:(prog.info? 297).map (·.size)=some (#[.func (.func 306) #[] #[],.func (.func 307) #[] #[],.func (.func 308) #[] #[]]:Array Value).size:=size297;have z2:(#[.nilFunc,.nilFunc,.nilFunc]:Array Value).size=(#[.func (.func 306) #[] #[],.func (.func 307) #[] #[],.func (.func 308) #[] #[]]:Array Value).size:=rfl;have z3:(#[.func (.func 306) #[] #[],.func (.func 307) #[] #[],.func (.func 308) #[] #[]]:Array Value).all (·.oneCell')=true:=by kernel_rfl
 go_wp2_with (with_reducible refine stB 297 (.tmp 2) (.tmp 13) w.heap.size #[.func (.func 306) #[] #[],.func (.func 307) #[] #[],.func (.func 308) #[] #[]] _ HH z1 z2 z3 rfl rfl rfl rfl ?_)
 exact bodyPost_ret (results_cell2 rfl _ _ w.heap.size 297 _ _ rfl HS.out underlying297 rfl z1) rfl ⟨rfl,HW.out⟩
theorem labels3 (w:World):Calls prog 142 #[.int .i64 3,g0] w λe w'=>e=.returned (.tuple #[nilS,.int .i64 0])/\Below w.heap.size w w':=by
 go_enter func142,ntmps142
 go_wp2_with fail
 refine(of3 _).mono ?_;rintro e w1 ⟨rfl,h1⟩;have hb:=(Blk.new w 79 #[nilS,nilS,nilS]).below h1 (by simp);have hB:=hid (((Below.refl w.heap.size w).alloc (Nat.le_refl _) (.cells #[nilS,nilS,nilS] 79)).trans (h1.mono (by simp)));have hs1:=hB.out.size;have hb1:=hb.alloc (.cells #[.func (.func 306) #[] #[],.func (.func 307) #[] #[],.func (.func 308) #[] #[]] 297);obtain⟨c1,c2,c3⟩:=hb1.three;clear h1 hb hb1
 go_wp2_with fail
 refine(dist0 _).mono ?_;rintro e w2 ⟨rfl,h2⟩
 go_wp2_with fail
 go_ret2;exact⟨rfl,(hB.out.alloc (by omega) _).trans (h2.mono (by simp;omega))⟩
theorem st_index4 :∀w,(Instr.index 371 (.agg stC) (.int .i64 4)).run prog w=.ok (.agg #[.func (.func 309) #[] #[],.func (.func 310) #[] #[],.func (.func 311) #[] #[]]) w:=λ_=>by kernel_rfl
theorem of4 (w:World):Calls prog 198 #[.int .i64 4] w λe w'=>e=.returned (.tuple #[.agg #[.func (.func 309) #[] #[],.func (.func 310) #[] #[],.func (.func 311) #[] #[]],.bool true])/\Below w.heap.size w w':=by
 have hi:=st_index4
 go_enter func198,ntmps198
 go_wp2_with fail
 refine(structures0 _).mono ?_;rintro e w1 ⟨rfl,h1⟩;have hb:=(Blk.new w 297 #[.nilFunc,.nilFunc,.nilFunc]).below h1 (by simp);have hB:=hid (((Below.refl w.heap.size w).alloc (Nat.le_refl _) (.cells #[.nilFunc,.nilFunc,.nilFunc] 297)).trans (h1.mono (by simp)));have HH:=hid hb;have HS:=hid (hb.setRow_same #[.func (.func 309) #[] #[],.func (.func 310) #[] #[],.func (.func 311) #[] #[]]);have HW:=hid (below_setRow hB.out (g:=w.heap.size) (Nat.le_refl _) #[.func (.func 309) #[] #[],.func (.func 310) #[] #[],.func (.func 311) #[] #[]]);clear h1 hb;have z1:(prog.info? 297).map (·.size)=some (#[.func (.func 309) #[] #[],.func (.func 310) #[] #[],.func (.func 311) #[] #[]]:Array Value).size:=size297;have z2:(#[.nilFunc,.nilFunc,.nilFunc]:Array Value).size=(#[.func (.func 309) #[] #[],.func (.func 310) #[] #[],.func (.func 311) #[] #[]]:Array Value).size:=rfl;have z3:(#[.func (.func 309) #[] #[],.func (.func 310) #[] #[],.func (.func 311) #[] #[]]:Array Value).all (·.oneCell')=true:=by kernel_rfl
 go_wp2_with (with_reducible refine stB 297 (.tmp 2) (.tmp 13) w.heap.size #[.func (.func 309) #[] #[],.func (.func 310) #[] #[],.func (.func 311) #[] #[]] _ HH z1 z2 z3 rfl rfl rfl rfl ?_)
 exact bodyPost_ret (results_cell2 rfl _ _ w.heap.size 297 _ _ rfl HS.out underlying297 rfl z1) rfl ⟨rfl,HW.out⟩
theorem labels4 (w:World):Calls prog 142 #[.int .i64 4,g0] w λe w'=>e=.returned (.tuple #[nilS,.int .i64 0])/\Below w.heap.size w w':=by
 go_enter func142,ntmps142
 go_wp2_with fail
 refine(of4 _).mono ?_;rintro e w1 ⟨rfl,h1⟩;have hb:=(Blk.new w 79 #[nilS,nilS,nilS]).below h1 (by simp);have hB:=hid (((Below.refl w.heap.size w).alloc (Nat.le_refl _) (.cells #[nilS,nilS,nilS] 79)).trans (h1.mono (by simp)));have hs1:=hB.out.size;have hb1:=hb.alloc (.cells #[.func (.func 309) #[] #[],.func (.func 310) #[] #[],.func (.func 311) #[] #[]] 297);obtain⟨c1,c2,c3⟩:=hb1.three;clear h1 hb hb1
 go_wp2_with fail
 refine(span0 _).mono ?_;rintro e w2 ⟨rfl,h2⟩
 go_wp2_with fail
 go_ret2;exact⟨rfl,(hB.out.alloc (by omega) _).trans (h2.mono (by simp;omega))⟩
theorem st_index5 :∀w,(Instr.index 371 (.agg stC) (.int .i64 5)).run prog w=.ok (.agg #[.func (.func 312) #[] #[],.func (.func 313) #[] #[],.func (.func 314) #[] #[]]) w:=λ_=>by kernel_rfl
theorem of5 (w:World):Calls prog 198 #[.int .i64 5] w λe w'=>e=.returned (.tuple #[.agg #[.func (.func 312) #[] #[],.func (.func 313) #[] #[],.func (.func 314) #[] #[]],.bool true])/\Below w.heap.size w w':=by
 have hi:=st_index5
 go_enter func198,ntmps198
 go_wp2_with fail
 refine(structures0 _).mono ?_;rintro e w1 ⟨rfl,h1⟩;have hb:=(Blk.new w 297 #[.nilFunc,.nilFunc,.nilFunc]).below h1 (by simp);have hB:=hid (((Below.refl w.heap.size w).alloc (Nat.le_refl _) (.cells #[.nilFunc,.nilFunc,.nilFunc] 297)).trans (h1.mono (by simp)));have HH:=hid hb;have HS:=hid (hb.setRow_same #[.func (.func 312) #[] #[],.func (.func 313) #[] #[],.func (.func 314) #[] #[]]);have HW:=hid (below_setRow hB.out (g:=w.heap.size) (Nat.le_refl _) #[.func (.func 312) #[] #[],.func (.func 313) #[] #[],.func (.func 314) #[] #[]]);clear h1 hb;have z1:(prog.info? 297).map (·.size)=some (#[.func (.func 312) #[] #[],.func (.func 313) #[] #[],.func (.func 314) #[] #[]]:Array Value).size:=size297;have z2:(#[.nilFunc,.nilFunc,.nilFunc]:Array Value).size=(#[.func (.func 312) #[] #[],.func (.func 313) #[] #[],.func (.func 314) #[] #[]]:Array Value).size:=rfl;have z3:(#[.func (.func 312) #[] #[],.func (.func 313) #[] #[],.func (.func 314) #[] #[]]:Array Value).all (·.oneCell')=true:=by kernel_rfl
 go_wp2_with (with_reducible refine stB 297 (.tmp 2) (.tmp 13) w.heap.size #[.func (.func 312) #[] #[],.func (.func 313) #[] #[],.func (.func 314) #[] #[]] _ HH z1 z2 z3 rfl rfl rfl rfl ?_)
 exact bodyPost_ret (results_cell2 rfl _ _ w.heap.size 297 _ _ rfl HS.out underlying297 rfl z1) rfl ⟨rfl,HW.out⟩
theorem labels5 (w:World):Calls prog 142 #[.int .i64 5,g0] w λe w'=>e=.returned (.tuple #[nilS,.int .i64 0])/\Below w.heap.size w w':=by
 go_enter func142,ntmps142
 go_wp2_with fail
 refine(of5 _).mono ?_;rintro e w1 ⟨rfl,h1⟩;have hb:=(Blk.new w 79 #[nilS,nilS,nilS]).below h1 (by simp);have hB:=hid (((Below.refl w.heap.size w).alloc (Nat.le_refl _) (.cells #[nilS,nilS,nilS] 79)).trans (h1.mono (by simp)));have hs1:=hB.out.size;have hb1:=hb.alloc (.cells #[.func (.func 312) #[] #[],.func (.func 313) #[] #[],.func (.func 314) #[] #[]] 297);obtain⟨c1,c2,c3⟩:=hb1.three;clear h1 hb hb1
 go_wp2_with fail
 refine(pair0 _).mono ?_;rintro e w2 ⟨rfl,h2⟩
 go_wp2_with fail
 go_ret2;exact⟨rfl,(hB.out.alloc (by omega) _).trans (h2.mono (by simp;omega))⟩
theorem st_index6 :∀w,(Instr.index 371 (.agg stC) (.int .i64 6)).run prog w=.ok (.agg #[.func (.func 315) #[] #[],.func (.func 316) #[] #[],.func (.func 317) #[] #[]]) w:=λ_=>by kernel_rfl
theorem of6 (w:World):Calls prog 198 #[.int .i64 6] w λe w'=>e=.returned (.tuple #[.agg #[.func (.func 315) #[] #[],.func (.func 316) #[] #[],.func (.func 317) #[] #[]],.bool true])/\Below w.heap.size w w':=by
 have hi:=st_index6
 go_enter func198,ntmps198
 go_wp2_with fail
 refine(structures0 _).mono ?_;rintro e w1 ⟨rfl,h1⟩;have hb:=(Blk.new w 297 #[.nilFunc,.nilFunc,.nilFunc]).below h1 (by simp);have hB:=hid (((Below.refl w.heap.size w).alloc (Nat.le_refl _) (.cells #[.nilFunc,.nilFunc,.nilFunc] 297)).trans (h1.mono (by simp)));have HH:=hid hb;have HS:=hid (hb.setRow_same #[.func (.func 315) #[] #[],.func (.func 316) #[] #[],.func (.func 317) #[] #[]]);have HW:=hid (below_setRow hB.out (g:=w.heap.size) (Nat.le_refl _) #[.func (.func 315) #[] #[],.func (.func 316) #[] #[],.func (.func 317) #[] #[]]);clear h1 hb;have z1:(prog.info? 297).map (·.size)=some (#[.func (.func 315) #[] #[],.func (.func 316) #[] #[],.func (.func 317) #[] #[]]:Array Value).size:=size297;have z2:(#[.nilFunc,.nilFunc,.nilFunc]:Array Value).size=(#[.func (.func 315) #[] #[],.func (.func 316) #[] #[],.func (.func 317) #[] #[]]:Array Value).size:=rfl;have z3:(#[.func (.func 315) #[] #[],.func (.func 316) #[] #[],.func (.func 317) #[] #[]]:Array Value).all (·.oneCell')=true:=by kernel_rfl
 go_wp2_with (with_reducible refine stB 297 (.tmp 2) (.tmp 13) w.heap.size #[.func (.func 315) #[] #[],.func (.func 316) #[] #[],.func (.func 317) #[] #[]] _ HH z1 z2 z3 rfl rfl rfl rfl ?_)
 exact bodyPost_ret (results_cell2 rfl _ _ w.heap.size 297 _ _ rfl HS.out underlying297 rfl z1) rfl ⟨rfl,HW.out⟩
theorem labels6 (w:World):Calls prog 142 #[.int .i64 6,g0] w λe w'=>e=.returned (.tuple #[nilS,.int .i64 0])/\Below w.heap.size w w':=by
 go_enter func142,ntmps142
 go_wp2_with fail
 refine(of6 _).mono ?_;rintro e w1 ⟨rfl,h1⟩;have hb:=(Blk.new w 79 #[nilS,nilS,nilS]).below h1 (by simp);have hB:=hid (((Below.refl w.heap.size w).alloc (Nat.le_refl _) (.cells #[nilS,nilS,nilS] 79)).trans (h1.mono (by simp)));have hs1:=hB.out.size;have hb1:=hb.alloc (.cells #[.func (.func 315) #[] #[],.func (.func 316) #[] #[],.func (.func 317) #[] #[]] 297);obtain⟨c1,c2,c3⟩:=hb1.three;clear h1 hb hb1
 go_wp2_with fail
 refine(blossom0 _).mono ?_;rintro e w2 ⟨rfl,h2⟩
 go_wp2_with fail
 go_ret2;exact⟨rfl,(hB.out.alloc (by omega) _).trans (h2.mono (by simp;omega))⟩
theorem st_index7 :∀w,(Instr.index 371 (.agg stC) (.int .i64 7)).run prog w=.ok (.agg #[.func (.func 318) #[] #[],.func (.func 319) #[] #[],.func (.func 320) #[] #[]]) w:=λ_=>by kernel_rfl
theorem of7 (w:World):Calls prog 198 #[.int .i64 7] w λe w'=>e=.returned (.tuple #[.agg #[.func (.func 318) #[] #[],.func (.func 319) #[] #[],.func (.func 320) #[] #[]],.bool true])/\Below w.heap.size w w':=by
 have hi:=st_index7
 go_enter func198,ntmps198
 go_wp2_with fail
 refine(structures0 _).mono ?_;rintro e w1 ⟨rfl,h1⟩;have hb:=(Blk.new w 297 #[.nilFunc,.nilFunc,.nilFunc]).below h1 (by simp);have hB:=hid (((Below.refl w.heap.size w).alloc (Nat.le_refl _) (.cells #[.nilFunc,.nilFunc,.nilFunc] 297)).trans (h1.mono (by simp)));have HH:=hid hb;have HS:=hid (hb.setRow_same #[.func (.func 318) #[] #[],.func (.func 319) #[] #[],.func (.func 320) #[] #[]]);have HW:=hid (below_setRow hB.out (g:=w.heap.size) (Nat.le_refl _) #[.func (.func 318) #[] #[],.func (.func 319) #[] #[],.func (.func 320) #[] #[]]);clear h1 hb;have z1:(prog.info? 297).map (·.size)=some (#[.func (.func 318) #[] #[],.func (.func 319) #[] #[],.func (.func 320) #[] #[]]:Array Value).size:=size297;have z2:(#[.nilFunc,.nilFunc,.nilFunc]:Array Value).size=(#[.func (.func 318) #[] #[],.func (.func 319) #[] #[],.func (.func 320) #[] #[]]:Array Value).size:=rfl;have z3:(#[.func (.func 318) #[] #[],.func (.func 319) #[] #[],.func (.func 320) #[] #[]]:Array Value).all (·.oneCell')=true:=by kernel_rfl
 go_wp2_with (with_reducible refine stB 297 (.tmp 2) (.tmp 13) w.heap.size #[.func (.func 318) #[] #[],.func (.func 319) #[] #[],.func (.func 320) #[] #[]] _ HH z1 z2 z3 rfl rfl rfl rfl ?_)
 exact bodyPost_ret (results_cell2 rfl _ _ w.heap.size 297 _ _ rfl HS.out underlying297 rfl z1) rfl ⟨rfl,HW.out⟩
theorem labels7 (w:World):Calls prog 142 #[.int .i64 7,g0] w λe w'=>e=.returned (.tuple #[nilS,.int .i64 0])/\Below w.heap.size w w':=by
 go_enter func142,ntmps142
 go_wp2_with fail
 refine(of7 _).mono ?_;rintro e w1 ⟨rfl,h1⟩;have hb:=(Blk.new w 79 #[nilS,nilS,nilS]).below h1 (by simp);have hB:=hid (((Below.refl w.heap.size w).alloc (Nat.le_refl _) (.cells #[nilS,nilS,nilS] 79)).trans (h1.mono (by simp)));have hs1:=hB.out.size;have hb1:=hb.alloc (.cells #[.func (.func 318) #[] #[],.func (.func 319) #[] #[],.func (.func 320) #[] #[]] 297);obtain⟨c1,c2,c3⟩:=hb1.three;clear h1 hb hb1
 go_wp2_with fail
 refine(trade0 _).mono ?_;rintro e w2 ⟨rfl,h2⟩
 go_wp2_with fail
 go_ret2;exact⟨rfl,(hB.out.alloc (by omega) _).trans (h2.mono (by simp;omega))⟩
theorem labels_any (w:World)(k:Nat)(h1:1<=k)(h7:k<=7):Calls prog 142 #[.int .i64 k,g0] w λe w'=>e=.returned (.tuple #[nilS,.int .i64 0])/\Below w.heap.size w w':=by
 match k,h1,h7 with
 | 1,_,_=>exact labels1 w
 | 2,_,_=>exact labels2 w
 | 3,_,_=>exact labels3 w
 | 4,_,_=>exact labels4 w
 | 5,_,_=>exact labels5 w
 | 6,_,_=>exact labels6 w
 | 7,_,_=>exact labels7 w
end
section
open Go.RowKit
theorem nil8_set (k:Nat)(h:k<7):nil8.setIfInBounds (k+1) nilS=nil8:=by
 match k,h with
 | 0,_=>rfl
 | 1,_=>rfl
 | 2,_=>rfl
 | 3,_=>rfl
 | 4,_=>rfl
 | 5,_=>rfl
 | 6,_=>rfl
theorem make0 (w:World):Calls prog 100 #[g0] w λe w'=>e=.returned (.tuple #[cert0,.int .i64 0])/\Below w.heap.size w w':=by
 go_enter func100,ntmps100
 go_wp2_with fail
 have hA:Hid (Blk (((w.alloc (.cells #[nilS,nilS,nilS] 79)).alloc (.cells nil8 167)).alloc (.cells nil8 167)) w.heap.size 79 #[nilS,nilS,nilS]):=hid (((Blk.new w 79 _).alloc _).alloc _);have hB:Hid (Blk (((w.alloc (.cells #[nilS,nilS,nilS] 79)).alloc (.cells nil8 167)).alloc (.cells nil8 167)) (w.heap.size+1) 167 nil8):=hid ((Blk.new' _ 167 nil8 (by simp)).alloc _);have hC:Hid (Blk (((w.alloc (.cells #[nilS,nilS,nilS] 79)).alloc (.cells nil8 167)).alloc (.cells nil8 167)) (w.heap.size+2) 167 nil8):=hid (Blk.new' _ 167 nil8 (by simp));have hW:Hid (Below w.heap.size w (((w.alloc (.cells #[nilS,nilS,nilS] 79)).alloc (.cells nil8 167)).alloc (.cells nil8 167))):=hid ((((Below.refl _ w).alloc (Nat.le_refl _) _).alloc (by simp) _).alloc (by simp;omega) _);have z8:(prog.info? 167).map (·.size)=some nil8.size:=by kernel_rfl
 have o8:nil8.all (·.oneCell')=true:=by kernel_rfl
 have e8:nil8.size=nil8.size:=rfl
 go_loopw [11] (λi wr=>∃k:Nat,k<=7/\i=.int .i64 k/\Hid (Blk wr w.heap.size 79 #[nilS,nilS,nilS])/\Hid (Blk wr (w.heap.size+1) 167 nil8)/\Hid (Blk wr (w.heap.size+2) 167 nil8)/\Hid (Below w.heap.size w wr)) (λi _=>7 - (intOf i).toNat)
 case atStart=>exact⟨0,by omega,rfl,hA,hB,hC,hW⟩
 case round =>
  clear hA hB hC hW;obtain⟨k,hk,rfl,hA,hB,hC,hW⟩:=hrel;obtain⟨a1,a2,a3⟩:=hA.out.three
  by_cases hlt:k<7
  ·go_wp2_with fail
   have he:(k:Int)+1=((k+1:Nat):Int):=by omega
   rw[he];clear he;refine(labels_any wr (k+1) (by omega) (by omega)).mono ?_;rintro e w1 ⟨rfl,h1⟩;have hlA:=hA.out.lt;have hlB:=hB.out.lt;have hlC:=hC.out.lt;have HA:=hid (hA.out.below h1 hlA);have HB:=hid (hB.out.below h1 hlB);have HC:=hid (hC.out.below h1 hlC);have HW:=hid (hW.out.trans (h1.mono hW.out.size));have ck:=(HC.out.cell (k+1)).trans (nil8_at (k+1) (by omega));have fz:=HC.out.frozen (k+1);have S1:=hid (HC.out.set_ (k+1) nilS);have S2:=hid (HW.out.setCell (p:=⟨w.heap.size+2,k+1,none⟩) (by show w.heap.size<=w.heap.size+2;omega) nilS);clear h1 hA hB hC hW a1 a2 a3
   go_wp2_with fail
   go_roundw
   case rel=>exact⟨k+1,by omega,by go_num,hid (HA.out.far (by show w.heap.size≠w.heap.size+1+1;omega) _),hid (HB.out.far (by show w.heap.size+1≠w.heap.size+1+1;omega) _),hid (by have:=S1.out;rw[nil8_set k hlt]at this;exact this),S2⟩
   case measure=>simp[intOf];omega
  ·go_wp2_with (first
    | (with_reducible refine ldB 167 (.tmp 4) (w.heap.size+2) nil8 hC underlying167 rfl z8 rfl rfl rfl ?_)
    | (with_reducible refine stB 167 (.tmp 2) (.tmp 30) (w.heap.size+1) nil8 _ hB z8 e8 o8 rfl rfl rfl rfl ?_))
   have HS:=hB.out.setRow_same nil8;have HW:=below_setRow hW.out (g:=w.heap.size+1) (by omega) nil8;exact bodyPost_ret (results_cell2 rfl _ _ (w.heap.size+1) 167 _ _ rfl HS underlying167 rfl z8) rfl ⟨rfl,HW⟩
end
section
open Go.RowKit Go.ChangeShapes
theorem cells242 :prog.cellsOf 242=64:=by kernel_rfl
theorem nums_of {W:World}{sp:Nat->Bool}{held:Bool}{fuel:Nat}{cs:Array Value}{x:DataW Unit×List MemPlace}{e:TypeId}(he:prog.underlying 242=some (.array 64 e))(hi:prog.underlying e=some (.int .u32))(hc:prog.cellsOf e=1)
 (h:DataW.trod (λ_=>()) prog W 0 sp held fuel 242 cs.toList=some x):Nums 64 cs:=by
 obtain⟨xs,m,rfl,_,hlen,hn,hel⟩:=DataW.trod_array he h;rw[cells242]at hlen;have key:∀i,i<64->∃k,cs[i]?=some (.int .u32 k):=λi hi'=>by
  have h1:=hel i hi';rw[hc,Nat.mul_one,List.getElem?_eq_getElem (by omega)]at h1;obtain⟨k,e1,_,_⟩:=DataW.trod_int hi h1;refine⟨k,?_⟩;have h2:(List.take 1 (List.drop i cs.toList))[0]?=some (.int .u32 k):=by rw[e1];rfl
  rw[List.getElem?_take_of_lt (by omega),List.getElem?_drop,Nat.add_zero,Array.getElem?_toList]at h2;exact h2
 have hsz:cs.size=64:=by simpa using hlen
 refine⟨hsz,?_,λi hi'=>?_⟩
 ·rw[Array.all_eq_true]
  intro i hi';obtain⟨k,hk⟩:=key i (by omega);have:cs[i]=.int .u32 k:=by
   have:=(Array.getElem?_eq_some_iff.1 hk).2;exact this
  rw[this];rfl
 ·obtain⟨k,hk⟩:=key i hi'
  have:num cs i=k:=by
   unfold num;rw[Array.getD_eq_getD_getElem?,hk];rfl
  rw[this];exact hk
theorem gRound :prog.globalNamed "clearway/digest.round" = some 0:=by kernel_rfl
theorem tRound :(prog.globals[0]?).map (·.type)=some 242:=by kernel_rfl
end
end Go.Proofs.YtnehgpeelgjjhaaGreatDoor.Tw
