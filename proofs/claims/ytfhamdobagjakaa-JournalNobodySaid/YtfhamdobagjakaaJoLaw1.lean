/- a part -/
import Derived.Test.YtfhamdobagjakaaJoAwake
namespace Go.Proofs.Ytfhamdobagjakaa.Dsk
open Go.RowKit Go.Proofs.YtfhamdobagjakaaW.PrintWords Go.Proofs.YtfhamdobagjakaaW.PrintLast Go.Proofs.YtfhamdobagjakaaW.PrintMore Go.Proofs.Ytfhamdobagjakaa.Hand Go.Proofs.Ytfhamdobagjakaa.Cards Go.Proofs.Ytfhamdobagjakaa.PJo
set_option linter.unusedVariables false
set_option linter.unusedSimpArgs false
section
set_option maxHeartbeats 16000000 in
set_option maxRecDepth 100000 in
theorem jnobody_calls (A:Option Addr) (n c:Nat) (W:World):Calls Try.prog 5 #[.slice A n c] W λe w'=>e = .returned (.bool true)/\Below W.heap.size W w':=by
 have AW:=Aside0.mk (jawake_calls W)
 by_cases z:(n:Int) > 20
 case pos =>
  have z1:decide ((n:Int) > 20)=true:=decide_eq_true z
  have z2:decide (20<(n:Int))=true:=z1
  clear z
  go_enter Try.func5,Try.ntmps5
  go_wp2_with (first|(go_at_call 11;(with_reducible refine Calls.mono AW.out ?_);rintro e w1 ⟨rfl,hb⟩;have HB:=Aside0.mk hb;clear hb))
  go_ret
  exact ⟨rfl,HB.out⟩
 have z1:decide ((n:Int) > 20)=false:=decide_eq_false z
 have z2:decide (20<(n:Int))=false:=z1
 have HB:=Aside0.mk (Below.refl W.heap.size W)
 have NB:=Aside0.mk (show Nobody W none from .inl rfl)
 clear z AW
 go_enter Try.func5,Try.ntmps5
 go_upto_region 3 with (fail)
 go_wp2
 refine wp_loop_rounds 3 ?_
 rw [rounds_succ]
 go_wp2_with (first|(go_at_call 26;(with_reducible refine Calls.mono (put_nobody NB.out _) ?_);rintro e w_ ⟨rfl,hb⟩;have q_:=NB.out.on hb;have qb_:=below_step HB.out hb;clear NB HB hb;have NB:=Aside0.mk q_;have HB:=Aside0.mk qb_;clear q_ qb_)|(go_at_call 27;(with_reducible refine Calls.mono (sync_nobody NB.out) ?_);rintro e w_ ⟨rfl,hb⟩;have q_:=NB.out.on hb;have qb_:=below_step HB.out hb;clear NB HB hb;have NB:=Aside0.mk q_;have HB:=Aside0.mk qb_;clear q_ qb_)|(go_at_call 28;(with_reducible refine Calls.mono (renew_nobody NB.out _) ?_);rintro e w_ ⟨rfl,hb⟩;have q_:=NB.out.on hb;have qb_:=below_step HB.out hb;clear NB HB hb;have NB:=Aside0.mk q_;have HB:=Aside0.mk qb_;clear q_ qb_)|(go_at_call 29;(with_reducible refine Calls.mono (turn_nobody NB.out) ?_);rintro e w_ ⟨rfl,hb⟩;have q_:=NB.out.on hb;have qb_:=below_step HB.out hb;clear NB HB hb;have NB:=Aside0.mk q_;have HB:=Aside0.mk qb_;clear q_ qb_)|(go_at_call 30;(with_reducible refine Calls.mono (size_nobody NB.out) ?_);rintro e w_ ⟨rfl,hb⟩;have q_:=NB.out.on hb;have qb_:=below_step HB.out hb;clear NB HB hb;have NB:=Aside0.mk q_;have HB:=Aside0.mk qb_;clear q_ qb_)|(go_at_call 14;(with_reducible refine Calls.mono (broken_nobody NB.out) ?_);rintro e w_ ⟨rfl,hb⟩;have q_:=NB.out.on hb;have qb_:=below_step HB.out hb;clear NB HB hb;have NB:=Aside0.mk q_;have HB:=Aside0.mk qb_;clear q_ qb_))
 rw [rounds_succ]
 go_upto_region 9 with (fail)
 have hb:=below_alloc (Below.refl w_.heap.size w_) (.cells #[.pointer none,.int .i64 0,.int .u64 0,.bool false] 64)
 have qb_:=below_step HB.out hb
 have q_:Nobody (w_.alloc (.cells #[.pointer none,.int .i64 0,.int .u64 0,.bool false] 64)) (some ⟨w_.heap.size,0,none⟩):=.inr ⟨_,rfl,heap_alloc_new w_ _⟩
 clear hb NB HB
 have NB:=Aside0.mk q_
 have HB:=Aside0.mk qb_
 clear q_ qb_
 generalize w_.heap.size=bz at NB ⊢
 generalize w_.alloc (.cells #[.pointer none,.int .i64 0,.int .u64 0,.bool false] 64)=w1 at NB HB ⊢
 go_wp2_with (first|(go_at_call 26;(with_reducible refine Calls.mono (put_nobody NB.out _) ?_);rintro e w_ ⟨rfl,hb⟩;have q_:=NB.out.on hb;have qb_:=below_step HB.out hb;clear NB HB hb;have NB:=Aside0.mk q_;have HB:=Aside0.mk qb_;clear q_ qb_)|(go_at_call 27;(with_reducible refine Calls.mono (sync_nobody NB.out) ?_);rintro e w_ ⟨rfl,hb⟩;have q_:=NB.out.on hb;have qb_:=below_step HB.out hb;clear NB HB hb;have NB:=Aside0.mk q_;have HB:=Aside0.mk qb_;clear q_ qb_)|(go_at_call 28;(with_reducible refine Calls.mono (renew_nobody NB.out _) ?_);rintro e w_ ⟨rfl,hb⟩;have q_:=NB.out.on hb;have qb_:=below_step HB.out hb;clear NB HB hb;have NB:=Aside0.mk q_;have HB:=Aside0.mk qb_;clear q_ qb_)|(go_at_call 29;(with_reducible refine Calls.mono (turn_nobody NB.out) ?_);rintro e w_ ⟨rfl,hb⟩;have q_:=NB.out.on hb;have qb_:=below_step HB.out hb;clear NB HB hb;have NB:=Aside0.mk q_;have HB:=Aside0.mk qb_;clear q_ qb_)|(go_at_call 30;(with_reducible refine Calls.mono (size_nobody NB.out) ?_);rintro e w_ ⟨rfl,hb⟩;have q_:=NB.out.on hb;have qb_:=below_step HB.out hb;clear NB HB hb;have NB:=Aside0.mk q_;have HB:=Aside0.mk qb_;clear q_ qb_)|(go_at_call 14;(with_reducible refine Calls.mono (broken_nobody NB.out) ?_);rintro e w_ ⟨rfl,hb⟩;have q_:=NB.out.on hb;have qb_:=below_step HB.out hb;clear NB HB hb;have NB:=Aside0.mk q_;have HB:=Aside0.mk qb_;clear q_ qb_))
 rw [rounds_succ]
 clear NB
 go_upto_region 12 with (first|(go_at_call 18;(with_reducible refine Calls.mono (open_nil _) ?_);rintro e w2 ⟨rfl,hb⟩;have qb_:=below_step HB.out hb;clear HB hb;have HB:=Aside0.mk qb_;clear qb_))
 have hb:=below_alloc (Below.refl w2.heap.size w2) (.cells #[.slice none 0 0,.int .i64 0,.slice none 0 0,.int .i64 0,.int .i64 0,.int .i64 0,.bool false,.bool false] 71)
 have UM:=Aside0.mk (show Unmade (w2.alloc (.cells #[.slice none 0 0,.int .i64 0,.slice none 0 0,.int .i64 0,.int .i64 0,.int .i64 0,.bool false,.bool false] 71)) w2.heap.size from heap_alloc_new w2 _)
 have HB3:=Aside0.mk (below_step HB.out hb)
 clear hb HB
 go_wp2_with (first|(go_at_call 18;(with_reducible refine Calls.mono (open_unmade UM.out) ?_);rintro e w3 ⟨rfl,hb⟩;have HB4:=Aside0.mk (below_step HB3.out hb);clear hb)|(go_at_call 11;(with_reducible refine Calls.mono (jawake_calls w3) ?_);rintro e w4 ⟨rfl,hb⟩;have HB5:=Aside0.mk (below_step HB4.out hb);clear hb))
 go_ret
 exact ⟨rfl,HB5.out⟩
end
end Go.Proofs.Ytfhamdobagjakaa.Dsk
