/- a part -/
import Derived.Test.YtgocnchjpecafaaSortStable
namespace Go.Proofs.Ytgocnchjpecafaa.Srt
open Go.Shelf Go.RowKit Go.Lib Go.Sort
set_option linter.unusedVariables false
set_option linter.unusedSimpArgs false
theorem nil_ins (g:Nat) (cb:Array Value) (w:World):Calls Try.prog 104 #[.slice none 0 0,.int .i64 0,.int .i64 0,.func (.func g) #[] cb] w fun e w'=>e = .returned (.tuple #[])∧w'=w:=by
 go_enter Try.func104,Try.ntmps104
 go_wp2
 refine wp_loop_rounds 1 ?_
 rw [rounds_succ]
 go_wp2
 go_end0
 exact ⟨rfl,rfl⟩
theorem nil_stable (g:Nat) (cb:Array Value) (w:World):Calls Try.prog 89 #[.slice none 0 0,.int .i64 0,.func (.func g) #[] cb] w fun e w'=>e = .returned (.tuple #[])∧w'=w:=by
 go_enter Try.func89,Try.ntmps89
 go_wp2
 refine wp_loop_rounds 1 ?_
 rw [rounds_succ]
 go_wp2_with (go_at_call 104;refine(nil_ins g cb _).mono ?_;rintro e w' ⟨rfl,rfl⟩)
 refine wp_loop_rounds 1 ?_
 rw [rounds_succ]
 go_wp2
 go_end0
 exact ⟨rfl,rfl⟩
theorem nil_sort (g:Nat) (cb:Array Value) (w:World):Calls Try.prog 60 #[.slice none 0 0,.func (.func g) #[] cb] w fun e w'=>e = .returned (.tuple #[])∧w'=w:=by
 go_enter Try.func60,Try.ntmps60
 go_wp2_with (go_at_call 89;refine(nil_stable g cb _).mono ?_;rintro e w' ⟨rfl,rfl⟩)
 go_end0
 exact ⟨rfl,rfl⟩
end Go.Proofs.Ytgocnchjpecafaa.Srt
