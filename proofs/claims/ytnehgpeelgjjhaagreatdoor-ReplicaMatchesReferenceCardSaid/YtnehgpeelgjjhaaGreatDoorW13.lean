/- Contracts of functions of the program, and plain laws, towards the laws of replicas. Joined of the texts: TieS. -/
import Derived.Test.YtnehgpeelgjjhaaGreatDoorRows
import Derived.LaidByTextLater
import Derived.SevenTiedAt
import Derived.LaidOnce
set_option linter.all false
set_option maxRecDepth 100000
set_option maxHeartbeats 12800000
namespace Go.Proofs.YtnehgpeelgjjhaaGreatDoor
open Go
abbrev LS :List (String×DataW Unit):=[("math/bits.deBruijn32tab",Rows.laid_math_bits_deBruijn32tab),("clearway/digest.round",Rows.laid_clearway_digest_round),("clearway/dist.checks",Rows.laid_clearway_dist_checks)]
theorem tie_word :Tryz.prog.worded (varsWordLater true)=true:=by kernel_rfl
theorem tie_word2 :Tryz.prog.worded (varsWordLater !true)=false:=by kernel_rfl
theorem tie_root :Tryz.prog.worded rootWordLater=true:=by kernel_rfl
theorem tie_kinds :LS.map (λx=>Tryz.prog.kindOfLater x.1)=[LaidKind.data,.data,.funcs].map some:=by kernel_rfl
theorem tie_cut :(Tryz.prog.funcNamed "gosem.cut.vars").isSome=true:=by kernel_rfl
theorem tie_named :varsNamedLaterB Tryz.prog (varsId Tryz.prog) LS=true:=by kernel_rfl
theorem tie_run :∀os tape,doorLeaves Tryz.prog 24 8 65 LS os tape=some (LS.filter λx=>x.2.handleName?.isNone,(funcsListed LS).map (·.2.funcsOut)):=λ_ _=>by kernel_rfl
theorem seat_tie :Tryz.prog.laidByTextLater LS [.data,.data,.funcs] true :=
 Program.laidByTextLater_by_one 24 8 65 tie_word tie_word2 tie_root tie_kinds tie_cut tie_named tie_run
theorem own_unsafe :Tryz.pinned.checked.prog.headLifts.contains "ownunsafe" = false:=by kernel_rfl
theorem matches_row_tie :Rows.replicaMatchesReferenceRow.laidByTextAt .later Tryz.pinned [.data,.data,.funcs] true :=
 OpenClaim.laidByTextAt_later rfl rfl seat_tie own_unsafe
end Go.Proofs.YtnehgpeelgjjhaaGreatDoor
