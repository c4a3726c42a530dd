/- a part -/
import Derived.Test.YtfhamdobagjakaaDkHere
import Derived.Test.YtfhamdobagjakaaDkPath
import Derived.RegionTactic
import Derived.StillTailTactics
import Derived.Test.YtfhamdobagjakaaPJox0
namespace Go.Proofs.Ytfhamdobagjakaa.Dsk
open Go.RowKit Go.Proofs.YtfhamdobagjakaaW.PrintWords Go.Proofs.YtfhamdobagjakaaW.PrintLast Go.Proofs.YtfhamdobagjakaaW.PrintMore Go.Proofs.Ytfhamdobagjakaa.Hand Go.Proofs.Ytfhamdobagjakaa.Cards Go.Proofs.Ytfhamdobagjakaa.PJo
theorem max2_name (k k':IntKind) (x y:Int):Builtin.max2 (.int k x) (.int k' y)=pure (.int k (hi x y)):=max2_int k k' x y
theorem min2_name (k k':IntKind) (x y:Int):Builtin.min2 (.int k x) (.int k' y)=pure (.int k (lo x y)):=min2_int k k' x y
attribute [local go_sem] max2_name min2_name max_two min_two
set_option linter.unusedVariables false
set_option linter.unusedSimpArgs false
section
variable {w0 W : World} {g : Nat} {v0 v1 : Value} {D : Nat -> Prop} {d : Dk}
set_option maxHeartbeats 4000000 in
set_option maxRecDepth 100000 in
theorem off_calls (h:Raw w0 W g v0 v1 D d) :
  Calls Try.prog 106 #[.pointer (some ⟨g,0,none⟩)] W λe w'=>e = .returned (.bool d.dead)/\Below W.heap.size W w':=by
 have c6:=(blk_cell h.blk 6).trans (rfl:_=some (Value.bool d.dead))
 have c7:=(blk_cell h.blk 7).trans (rfl:_=some (Value.bool true))
 clear h
 go_enter Try.func106,Try.ntmps106
 go_wp2
 go_ret
 exact ⟨rfl,Below.refl _ _⟩
set_option maxHeartbeats 4000000 in
set_option maxRecDepth 100000 in
theorem at_calls (h:Raw w0 W g v0 v1 D d) (i:Int) :
  Calls Try.prog 81 #[.pointer (some ⟨g,0,none⟩),.int .i64 i] W λe w'=>e = .returned (.int .i64 (d.why i))/\Below W.heap.size W w':=by
 have H:=Aside0.mk (off_calls h)
 clear h
 go_enter Try.func81,Try.ntmps81
 go_wp2_with (first|(go_at_call 106;with_reducible refine Calls.mono H.out ?_;rintro e w1 ⟨rfl,hb⟩;have HB:=Aside0.mk hb;clear hb H))
 all_goals
  go_ret
  exact ⟨by first|(rw [Dk.why_dead ‹d.dead=true›];rfl)|(rw [Dk.why_out ‹d.dead=false› (by omega)];rfl)|(rw [Dk.why_ok ‹d.dead=false› (by omega)];rfl),HB.out⟩
set_option maxHeartbeats 4000000 in
set_option maxRecDepth 100000 in
theorem act_calls (h:Raw w0 W g v0 v1 D d) :
  Calls Try.prog 102 #[.pointer (some ⟨g,0,none⟩)] W λe w'=>(d.stop=0/\e = .returned (.int .i64 9)/\Raw w0 w' g v0 v1 D d.die/\Step W w' D D)\/(d.stop≠0/\e = .returned (.int .i64 0)/\Raw w0 w' g v0 v1 D d.tick/\Step W w' D D):=by
 have c5:=(blk_cell h.blk 5).trans (rfl:_=some (Value.int .i64 d.stop))
 have c6:=(blk_cell h.blk 6).trans (rfl:_=some (Value.bool d.dead))
 have f5:=blk_frozen h.blk 5
 have f6:=blk_frozen h.blk 6
 have n1:=Aside0.mk h.die
 have n2:=Aside0.mk (h.stop (wrap64 (d.stop - 1)))
 have HH:=Aside0.mk h
 clear h
 by_cases z:d.stop=0
 ·have Z:=Aside0.mk z
  have z1:(d.stop == 0)=true:=beq_iff_eq.2 z
  clear z
  go_enter Try.func102,Try.ntmps102
  go_wp2
  go_ret
  exact .inl ⟨Z.out,rfl,n1.out.1,n1.out.2⟩
 ·have Z:=Aside0.mk z
  have z1:(d.stop == 0)=false:=beq_eq_false_iff_ne.2 z
  clear z
  by_cases p:0<d.stop
  ·have P:=Aside0.mk p
   have p1:decide (d.stop > 0)=true:=decide_eq_true p
   have p2:decide (0<d.stop)=true:=decide_eq_true p
   clear p
   go_enter Try.func102,Try.ntmps102
   go_wp2
   go_ret
   exact .inr ⟨Z.out,rfl,by rw [Dk.tick_pos P.out];exact n2.out.1,n2.out.2⟩
  ·have P:=Aside0.mk p
   have p1:decide (d.stop > 0)=false:=decide_eq_false p
   have p2:decide (0<d.stop)=false:=decide_eq_false p
   clear p
   go_enter Try.func102,Try.ntmps102
   go_wp2
   go_ret
   exact .inr ⟨Z.out,rfl,by rw [Dk.tick_neg (by have:=P.out;omega)];exact HH.out,Step.refl _ _⟩
set_option maxHeartbeats 4000000 in
set_option maxRecDepth 100000 in
theorem left_calls (h:Raw w0 W g v0 v1 D d) (hg:d.Good) :
  Calls Try.prog 16 #[.pointer (some ⟨g,0,none⟩)] W λe w'=>e = .returned (.int .i64 d.left)/\Below W.heap.size W w':=by
 obtain ⟨A0,c0_,rfl⟩:=Kd.R_slice h.r0
 obtain ⟨A1,c1_,rfl⟩:=Kd.R_slice h.r1
 have c0:=h.c0;have c1:=h.c1;have c2:=h.c2;have c3:=h.c3;have c4:=h.c4
 have HG:=Aside0.mk hg
 have hi0:∀ W:World,(Instr.index 69 (.agg #[.slice A0 d.b0.length c0_,.int .i64 d.s0,.slice A1 d.b1.length c1_,.int .i64 d.s1]) (.int .i64 0)).run Try.prog W = .ok (.agg #[.slice A0 d.b0.length c0_,.int .i64 d.s0]) W:=λ_=>by kernel_rfl
 have hi1:∀ W:World,(Instr.index 69 (.agg #[.slice A0 d.b0.length c0_,.int .i64 d.s0,.slice A1 d.b1.length c1_,.int .i64 d.s1]) (.int .i64 1)).run Try.prog W = .ok (.agg #[.slice A1 d.b1.length c1_,.int .i64 d.s1]) W:=λ_=>by kernel_rfl
 clear h hg
 go_enter Try.func16,Try.ntmps16
 go_wp2
 refine wp_loop_rounds 3 ?_
 repeat any_goals (rw [rounds_succ];go_wp2)
 go_ret
 have e1:wrap64 (wrap64 (d.room - (d.b0.length:Int)) - (d.b1.length:Int))=d.left:=by
  have:=HG.out.l0;have:=HG.out.r1
  unfold Dk.left wrap64 at *
  omega
 refine ⟨by first|rw [<-e1];rfl|(show Ending.returned (Value.int .i64 _)=_;rw [<-e1]),?_⟩
 repeat' (first|(with_reducible exact Below.refl _ _)|(with_reducible refine below_alloc ?_ _))
theorem act_dead (h:Raw w0 W g v0 v1 D d) (z:d.stop=0):Calls Try.prog 102 #[.pointer (some ⟨g,0,none⟩)] W λe w'=>e = .returned (.int .i64 9)/\Raw w0 w' g v0 v1 D d.die/\Step W w' D D :=
 (act_calls h).mono λe w' q=>by
  rcases q with q|q
  ·exact q.2
  ·exact absurd z q.1
theorem act_live (h:Raw w0 W g v0 v1 D d) (z:d.stop≠0):Calls Try.prog 102 #[.pointer (some ⟨g,0,none⟩)] W λe w'=>e = .returned (.int .i64 0)/\Raw w0 w' g v0 v1 D d.tick/\Step W w' D D :=
 (act_calls h).mono λe w' q=>by
  rcases q with q|q
  ·exact absurd q.1 z
  ·exact q.2
set_option maxHeartbeats 4000000 in
set_option maxRecDepth 100000 in
theorem clear_calls (h:Raw w0 W g v0 v1 D d) (i:Int) :
  Calls Try.prog 69 #[.pointer (some ⟨g,0,none⟩),.int .i64 i] W λe w'=>e = .returned (.int .i64 (d.clr i).2)/\∃ D',At w0 w' g D' (d.clr i).1/\Step W w' D D':=by
 have H1:=Aside0.mk (at_calls h i)
 have HH:=Aside0.mk h
 clear h
 obtain ⟨y,hy⟩:∃ y,y=d.why i:=⟨_,rfl⟩
 rw [<-hy] at H1
 have HY:=Aside0.mk hy
 clear hy
 by_cases y0:y=0
 case neg =>
  have Y0:=Aside0.mk y0
  have y1:(y != 0)=true:=by simp [y0]
  have e:d.clr i=(d,y):=by unfold Dk.clr;rw [<-HY.out,if_pos Y0.out]
  rw [e]
  clear y0 e
  go_enter Try.func69,Try.ntmps69
  go_wp2_with (first|(go_at_call 81;with_reducible refine Calls.mono H1.out ?_;rintro e w1 ⟨rfl,hb⟩;have HH1:=Aside0.mk (HH.out.on hb);have HS1:=Aside0.mk (Step.of_below (D:=D) hb);clear hb H1))
  go_ret
  exact ⟨rfl,D,⟨_,_,HH1.out⟩,HS1.out⟩
 have y1:(y != 0)=false:=by simp [y0]
 have hin:=Dk.why_in (d:=d) (i:=i) (by rw [<-HY.out];omega)
 have HIN:=Aside0.mk hin
 have ec:d.clr i=d.did i [] 0:=by unfold Dk.clr;rw [if_neg (by rw [<-HY.out];omega)]
 rw [ec]
 clear y0 hin ec
 by_cases z:d.stop=0
 ·have e:d.did i [] 0=(d.die,9):=by unfold Dk.did;rw [if_pos z]
  rw [e]
  have Z:=Aside0.mk z
  clear z e
  go_enter Try.func69,Try.ntmps69
  go_upto_region 4 with (first|(go_at_call 81;with_reducible refine Calls.mono H1.out ?_;rintro e w1 ⟨rfl,hb⟩;have HH1:=Aside0.mk (HH.out.on hb);have HS1:=Aside0.mk (Step.of_below (D:=D) hb);clear hb H1))
  have H2:=Aside0.mk (act_dead HH1.out Z.out)
  go_wp2_with (first|(go_at_call 102;with_reducible refine Calls.mono H2.out ?_;rintro e w3 ⟨rfl,hr,hs⟩;have HR3:=Aside0.mk hr;have HS3:=Aside0.mk (HS1.out.trans hs);clear hr hs H2))
  go_ret
  exact ⟨rfl,D,⟨_,_,HR3.out⟩,HS3.out⟩
 ·have e:d.did i [] 0=(d.tick.put i [] 0,0):=by unfold Dk.did;rw [if_neg z]
  rw [e]
  have Z:=Aside0.mk z
  clear z e
  go_enter Try.func69,Try.ntmps69
  go_upto_region 4 with (first|(go_at_call 81;with_reducible refine Calls.mono H1.out ?_;rintro e w1 ⟨rfl,hb⟩;have HH1:=Aside0.mk (HH.out.on hb);have HS1:=Aside0.mk (Step.of_below (D:=D) hb);clear hb H1))
  have H2:=Aside0.mk (act_live HH1.out Z.out)
  go_upto_region 7 with (first|(go_at_call 102;with_reducible refine Calls.mono H2.out ?_;rintro e w3 ⟨rfl,hr,hs⟩;have HR3:=Aside0.mk hr;have HS3:=Aside0.mk (HS1.out.trans hs);clear hr hs H2))
  clear HH1 HS1 HH
  rcases HIN.out with rfl|rfl
  ·have c0:=HR3.out.c0;have c1:=HR3.out.c1;have f0:=HR3.out.fz 0;have f1:=HR3.out.fz 1
   have q1:=HR3.out.row0 (Kd.R_nil U8 5 w3 w0.heap.size _) HR3.out.below (World.grownBy.refl _ _)
   have q2:=q1.1.safe0 0
   have Q1:=Aside0.mk q1
   have Q2:=Aside0.mk q2
   clear q1 q2
   go_wp2
   go_ret
   exact ⟨rfl,_,⟨_,_,Q2.out.1⟩,(HS3.out.trans Q1.out.2).trans Q2.out.2⟩
  ·have c0:=HR3.out.c2;have c1:=HR3.out.c3;have f0:=HR3.out.fz 2;have f1:=HR3.out.fz 3
   have q1:=HR3.out.row1 (Kd.R_nil U8 5 w3 w0.heap.size _) HR3.out.below (World.grownBy.refl _ _)
   have q2:=q1.1.safe1 0
   have Q1:=Aside0.mk q1
   have Q2:=Aside0.mk q2
   clear q1 q2
   go_wp2
   go_ret
   exact ⟨rfl,_,⟨_,_,Q2.out.1⟩,(HS3.out.trans Q1.out.2).trans Q2.out.2⟩
set_option maxHeartbeats 4000000 in
set_option maxRecDepth 100000 in
theorem sync_calls (h:Raw w0 W g v0 v1 D d) (i:Int) :
  Calls Try.prog 64 #[.pointer (some ⟨g,0,none⟩),.int .i64 i] W λe w'=>e = .returned (.int .i64 (d.syn i).2)/\∃ D',At w0 w' g D' (d.syn i).1/\Step W w' D D':=by
 have H1:=Aside0.mk (at_calls h i)
 have HH:=Aside0.mk h
 clear h
 obtain ⟨y,hy⟩:∃ y,y=d.why i:=⟨_,rfl⟩
 rw [<-hy] at H1
 have HY:=Aside0.mk hy
 clear hy
 by_cases y0:y=0
 case neg =>
  have Y0:=Aside0.mk y0
  have y1:(y != 0)=true:=by simp [y0]
  have e:d.syn i=(d,y):=by unfold Dk.syn;rw [<-HY.out,if_pos Y0.out]
  rw [e]
  clear y0 e
  go_enter Try.func64,Try.ntmps64
  go_wp2_with (first|(go_at_call 81;with_reducible refine Calls.mono H1.out ?_;rintro e w1 ⟨rfl,hb⟩;have HH1:=Aside0.mk (HH.out.on hb);have HS1:=Aside0.mk (Step.of_below (D:=D) hb);clear hb H1))
  go_ret
  exact ⟨rfl,D,⟨_,_,HH1.out⟩,HS1.out⟩
 have y1:(y != 0)=false:=by simp [y0]
 have hin:=Dk.why_in (d:=d) (i:=i) (by rw [<-HY.out];omega)
 have HIN:=Aside0.mk hin
 have ec:d.syn i=d.did i (d.row i) ((d.row i).length:Int):=by unfold Dk.syn;rw [if_neg (by rw [<-HY.out];omega)]
 rw [ec]
 clear y0 hin ec
 by_cases z:d.stop=0
 ·have e:d.did i (d.row i) ((d.row i).length:Int)=(d.die,9):=by unfold Dk.did;rw [if_pos z]
  rw [e]
  have Z:=Aside0.mk z
  clear z e
  go_enter Try.func64,Try.ntmps64
  go_upto_region 4 with (first|(go_at_call 81;with_reducible refine Calls.mono H1.out ?_;rintro e w1 ⟨rfl,hb⟩;have HH1:=Aside0.mk (HH.out.on hb);have HS1:=Aside0.mk (Step.of_below (D:=D) hb);clear hb H1))
  have H2:=Aside0.mk (act_dead HH1.out Z.out)
  go_wp2_with (first|(go_at_call 102;with_reducible refine Calls.mono H2.out ?_;rintro e w3 ⟨rfl,hr,hs⟩;have HR3:=Aside0.mk hr;have HS3:=Aside0.mk (HS1.out.trans hs);clear hr hs H2))
  go_ret
  exact ⟨rfl,D,⟨_,_,HR3.out⟩,HS3.out⟩
 ·have e:d.did i (d.row i) ((d.row i).length:Int)=(d.tick.put i (d.row i) ((d.row i).length:Int),0):=by unfold Dk.did;rw [if_neg z]
  rw [e]
  have Z:=Aside0.mk z
  clear z e
  go_enter Try.func64,Try.ntmps64
  go_upto_region 4 with (first|(go_at_call 81;with_reducible refine Calls.mono H1.out ?_;rintro e w1 ⟨rfl,hb⟩;have HH1:=Aside0.mk (HH.out.on hb);have HS1:=Aside0.mk (Step.of_below (D:=D) hb);clear hb H1))
  have H2:=Aside0.mk (act_live HH1.out Z.out)
  go_upto_region 7 with (first|(go_at_call 102;with_reducible refine Calls.mono H2.out ?_;rintro e w3 ⟨rfl,hr,hs⟩;have HR3:=Aside0.mk hr;have HS3:=Aside0.mk (HS1.out.trans hs);clear hr hs H2))
  clear HH1 HS1 HH
  rcases HIN.out with rfl|rfl
  ·obtain ⟨Ar,cr,er⟩:=Kd.R_slice HR3.out.r0
   subst er
   have c0:=HR3.out.c0;have c1:=HR3.out.c1;have f1:=HR3.out.fz 1
   have hr4:=HR3.out.on (below_drew (Below.refl _ _))
   have hs4:=HS3.out.trans (Step.of_below (below_drew (Below.refl _ _)))
   have HR4:=Aside0.mk hr4
   have HS4:=Aside0.mk hs4
   clear hr4 hs4
   go_still_tail 14,(by kernel_rfl)
   change wpList _ _ _ _ _ w3.drew
   clear c0 c1 f1 HR3 HS3
   generalize w3.drew=w4 at HR4 HS4 ⊢
   have c0:=HR4.out.c0;have c1:=HR4.out.c1;have f1:=HR4.out.fz 1
   have q2:=HR4.out.safe0 ((d.tick.b0.length:Nat):Int)
   have Q2:=Aside0.mk q2
   clear q2
   go_wp2
   go_ret
   exact ⟨rfl,_,⟨_,_,Q2.out.1⟩,HS4.out.trans Q2.out.2⟩
  ·obtain ⟨Ar,cr,er⟩:=Kd.R_slice HR3.out.r1
   subst er
   have c0:=HR3.out.c2;have c1:=HR3.out.c3;have f1:=HR3.out.fz 3
   have hr4:=HR3.out.on (below_drew (Below.refl _ _))
   have hs4:=HS3.out.trans (Step.of_below (below_drew (Below.refl _ _)))
   have HR4:=Aside0.mk hr4
   have HS4:=Aside0.mk hs4
   clear hr4 hs4
   go_still_tail 14,(by kernel_rfl)
   change wpList _ _ _ _ _ w3.drew
   clear c0 c1 f1 HR3 HS3
   generalize w3.drew=w4 at HR4 HS4 ⊢
   have c0:=HR4.out.c2;have c1:=HR4.out.c3;have f1:=HR4.out.fz 3
   have q2:=HR4.out.safe1 ((d.tick.b1.length:Nat):Int)
   have Q2:=Aside0.mk q2
   clear q2
   go_wp2
   go_ret
   exact ⟨rfl,_,⟨_,_,Q2.out.1⟩,HS4.out.trans Q2.out.2⟩
set_option maxHeartbeats 4000000 in
set_option maxRecDepth 100000 in
theorem append_calls (h:Raw w0 W g v0 v1 D d) (i:Int) (A:Option Addr) (m c:Nat) (b:List Int) (hm:m=b.length) (hA:Kd.F U8 W (λk=>¬ D k) A m b) (hmax:m<=140737488355328) (hg:d.Good) :
  Calls Try.prog 63 #[.pointer (some ⟨g,0,none⟩),.int .i64 i,.slice A m c] W λe w'=>e = .returned (.int .i64 (d.app i b).2)/\∃ D',At w0 w' g D' (d.app i b).1/\Step W w' D D':=by
 have H1:=Aside0.mk (at_calls h i)
 have HH:=Aside0.mk h
 have HA:=Aside0.mk hA
 have HG:=Aside0.mk hg
 have HM:=Aside0.mk hm
 clear hA hg hm
 clear h
 obtain ⟨y,hy⟩:∃ y,y=d.why i:=⟨_,rfl⟩
 rw [<-hy] at H1
 have HY:=Aside0.mk hy
 clear hy
 by_cases y0:y=0
 case neg =>
  have Y0:=Aside0.mk y0
  have y1:(y != 0)=true:=by simp [y0]
  have e:d.app i b=(d,y):=by unfold Dk.app;rw [<-HY.out,if_pos Y0.out]
  rw [e]
  clear y0 e
  go_enter Try.func63,Try.ntmps63
  go_wp2_with (first|(go_at_call 81;with_reducible refine Calls.mono H1.out ?_;rintro e w1 ⟨rfl,hb⟩;have HH1:=Aside0.mk (HH.out.on hb);have HS1:=Aside0.mk (Step.of_below (D:=D) hb);clear hb H1)|(go_at_call 16;with_reducible refine Calls.mono (left_calls HH1.out HG.out) ?_;rintro e w2 ⟨rfl,hb⟩;have hh2:=HH1.out.on hb;have hs2:=HS1.out.trans (Step.of_below hb);clear HH1 HS1;have HH1:=Aside0.mk hh2;have HS1:=Aside0.mk hs2;clear hh2 hs2 hb))
  go_ret
  exact ⟨rfl,D,⟨_,_,HH1.out⟩,HS1.out⟩
 have y1:(y != 0)=false:=by simp [y0]
 have hin:=Dk.why_in (d:=d) (i:=i) (by rw [<-HY.out];omega)
 have HIN:=Aside0.mk hin
 by_cases f0:d.left<(b.length:Int)
 ·have e:d.app i b=(d,6):=by unfold Dk.app;rw [if_neg (by rw [<-HY.out];omega),if_pos f0]
  rw [e]
  have f1:decide ((m:Int) > d.left)=true:=decide_eq_true (by have:=HM.out;omega)
  have f2:decide (d.left<(m:Int))=true:=decide_eq_true (by have:=HM.out;omega)
  clear f0 e hin y0
  go_enter Try.func63,Try.ntmps63
  go_wp2_with (first|(go_at_call 81;with_reducible refine Calls.mono H1.out ?_;rintro e w1 ⟨rfl,hb⟩;have HH1:=Aside0.mk (HH.out.on hb);have HS1:=Aside0.mk (Step.of_below (D:=D) hb);clear hb H1)|(go_at_call 16;with_reducible refine Calls.mono (left_calls HH1.out HG.out) ?_;rintro e w2 ⟨rfl,hb⟩;have hh2:=HH1.out.on hb;have hs2:=HS1.out.trans (Step.of_below hb);clear HH1 HS1;have HH1:=Aside0.mk hh2;have HS1:=Aside0.mk hs2;clear hh2 hs2 hb))
  go_ret
  exact ⟨rfl,D,⟨_,_,HH1.out⟩,HS1.out⟩
 have f1:decide ((m:Int) > d.left)=false:=decide_eq_false (by have:=HM.out;omega)
 have f2:decide (d.left<(m:Int))=false:=decide_eq_false (by have:=HM.out;omega)
 have F0:=Aside0.mk f0
 clear f0
 have ec:d.app i b=d.did i (d.row i++b) (d.safe i):=by unfold Dk.app;rw [if_neg (by rw [<-HY.out];omega),if_neg F0.out]
 rw [ec]
 clear y0 hin ec
 by_cases z:d.stop=0
 ·have e:d.did i (d.row i++b) (d.safe i)=(d.die,9):=by unfold Dk.did;rw [if_pos z]
  rw [e]
  have Z:=Aside0.mk z
  clear z e
  go_enter Try.func63,Try.ntmps63
  go_upto_region 6 with (first|(go_at_call 81;with_reducible refine Calls.mono H1.out ?_;rintro e w1 ⟨rfl,hb⟩;have HH1:=Aside0.mk (HH.out.on hb);have HS1:=Aside0.mk (Step.of_below (D:=D) hb);clear hb H1)|(go_at_call 16;with_reducible refine Calls.mono (left_calls HH1.out HG.out) ?_;rintro e w2 ⟨rfl,hb⟩;have hh2:=HH1.out.on hb;have hs2:=HS1.out.trans (Step.of_below hb);clear HH1 HS1;have HH1:=Aside0.mk hh2;have HS1:=Aside0.mk hs2;clear hh2 hs2 hb))
  have H2:=Aside0.mk (act_dead HH1.out Z.out)
  go_wp2_with (first|(go_at_call 102;with_reducible refine Calls.mono H2.out ?_;rintro e w3 ⟨rfl,hr,hs⟩;have HR3:=Aside0.mk hr;have HS3:=Aside0.mk (HS1.out.trans hs);clear hr hs H2))
  go_ret
  exact ⟨rfl,D,⟨_,_,HR3.out⟩,HS3.out⟩
 ·have e:d.did i (d.row i++b) (d.safe i)=(d.tick.put i (d.row i++b) (d.safe i),0):=by unfold Dk.did;rw [if_neg z]
  rw [e]
  have Z:=Aside0.mk z
  clear z e
  go_enter Try.func63,Try.ntmps63
  go_upto_region 6 with (first|(go_at_call 81;with_reducible refine Calls.mono H1.out ?_;rintro e w1 ⟨rfl,hb⟩;have HH1:=Aside0.mk (HH.out.on hb);have HS1:=Aside0.mk (Step.of_below (D:=D) hb);clear hb H1)|(go_at_call 16;with_reducible refine Calls.mono (left_calls HH1.out HG.out) ?_;rintro e w2 ⟨rfl,hb⟩;have hh2:=HH1.out.on hb;have hs2:=HS1.out.trans (Step.of_below hb);clear HH1 HS1;have HH1:=Aside0.mk hh2;have HS1:=Aside0.mk hs2;clear hh2 hs2 hb))
  have H2:=Aside0.mk (act_live HH1.out Z.out)
  go_upto_region 9 with (first|(go_at_call 102;with_reducible refine Calls.mono H2.out ?_;rintro e w3 ⟨rfl,hr,hs⟩;have HR3:=Aside0.mk hr;have HS3:=Aside0.mk (HS1.out.trans hs);clear hr hs H2))
  clear HH1 HS1 HH
  rcases HIN.out with rfl|rfl
  ·have hr4:=HR3.out.on (below_drew (Below.refl _ _))
   have hs4:=HS3.out.trans (Step.of_below (below_drew (Below.refl _ _)))
   have HR4:=Aside0.mk hr4
   have HS4:=Aside0.mk hs4
   clear hr4 hs4
   refine wp_region_any (by kernel_rfl) ?_
   change wpAny _ _ _ _ _ _ _ w3.drew
   generalize w3.drew=w4 at HR4 HS4 ⊢
   clear HR3 HS3
   refine take_pre (i:=0) (N:=some 25) (v:=.pointer (some ⟨g,0,none⟩)) rfl rfl (by kernel_rfl) (by kernel_rfl) (by kernel_rfl) (λ_ _ _ h=>h) (by rfl) ?_ ?_
   ·intro w_
    first|(go_simp;done)|(go_simp;rfl)
   refine take_pre (i:=1) (N:=some 26) (v:=.int .i64 0) rfl rfl (by kernel_rfl) (by kernel_rfl) (by kernel_rfl) (λ_ _ _ h=>h) (by rfl) ?_ ?_
   ·intro w_
    first|(go_simp;done)|(go_simp;rfl)
   refine take_pre (i:=2) (N:=some 27) (v:=.pointer (some ⟨g,0,none⟩)) rfl rfl (by kernel_rfl) (by kernel_rfl) (by kernel_rfl) (λ_ _ _ h=>h) (by rfl) ?_ ?_
   ·intro w_
    first|(go_simp;done)|(go_simp;rfl)
   refine take_pre (i:=3) (N:=some 28) (v:=.int .i64 0) rfl rfl (by kernel_rfl) (by kernel_rfl) (by kernel_rfl) (λ_ _ _ h=>h) (by rfl) ?_ ?_
   ·intro w_
    first|(go_simp;done)|(go_simp;rfl)
   refine take_pre (i:=4) (N:=some 29) (v:=.pointer (some ⟨g,0,none⟩)) rfl rfl (by kernel_rfl) (by kernel_rfl) (by kernel_rfl) (λ_ _ _ h=>h) (by rfl) ?_ ?_
   ·intro w_
    first|(go_simp;done)|(go_simp;rfl)
   refine take_pre (i:=5) (N:=some 30) (v:=.pointer (some ⟨g,0,none⟩)) rfl rfl (by kernel_rfl) (by kernel_rfl) (by kernel_rfl) (λ_ _ _ h=>h) (by rfl) ?_ ?_
   ·intro w_
    first|(go_simp;done)|(go_simp;rfl)
   refine take_pre (i:=6) (N:=some 31) (v:=.pointer (some ⟨g,0,none⟩)) rfl rfl (by kernel_rfl) (by kernel_rfl) (by kernel_rfl) (λ_ _ _ h=>h) (by rfl) ?_ ?_
   ·intro w_
    first|(go_simp;done)|(go_simp;rfl)
   refine take_pre (i:=7) (N:=some 32) (v:=.pointer (some ⟨g,0,none⟩)) rfl rfl (by kernel_rfl) (by kernel_rfl) (by kernel_rfl) (λ_ _ _ h=>h) (by rfl) ?_ ?_
   ·intro w_
    first|(go_simp;done)|(go_simp;rfl)
   refine take_pre (i:=9) (N:=some 34) (v:=.slice A m c) rfl rfl (by kernel_rfl) (by kernel_rfl) (by kernel_rfl) (λ_ _ _ h=>h) (by rfl) ?_ ?_
   ·intro w_
    first|(go_simp;done)|(go_simp;rfl)
   refine take_pre (i:=11) (N:=some 36) (v:=.pointer (some ⟨g,0,none⟩)) rfl rfl (by kernel_rfl) (by kernel_rfl) (by kernel_rfl) (λ_ _ _ h=>h) (by rfl) ?_ ?_
   ·intro w_
    first|(go_simp;done)|(go_simp;rfl)
   refine take_pre (i:=12) (N:=some 37) (v:=.pointer (some ⟨g,0,none⟩)) rfl rfl (by kernel_rfl) (by kernel_rfl) (by kernel_rfl) (λ_ _ _ h=>h) (by rfl) ?_ ?_
   ·intro w_
    first|(go_simp;done)|(go_simp;rfl)
   (try simp only [Act.put,List.setIfInBounds_toArray,List.set_cons_zero,List.set_cons_succ])
   refine wpAny_of_path [8,10,13,14,15] (_ :: _ :: _ :: _ :: _ :: []) _ _ _ rfl (by kernel_rfl) ?_
   simp only [List.getElem_toArray,List.getElem_cons_succ,List.getElem_cons_zero]
   have c0:=HR4.out.c0
   have f0:=HR4.out.fz 0
   have A4:=Aside0.mk (Kd.F_now (HS4.out.foot HA.out))
   have l4:=Aside0.mk (show(d.tick.b0.length+m)*1<=140737488355328 by have h_:(d.b0.length:Int)<=1048576:=HG.out.len0;have e_:d.tick.b0.length=d.b0.length:=rfl;have h1_:=F0.out;have h2_:=HM.out;have h3_:=HG.out.r1;unfold Dk.left at h1_;omega)
   go_wp2_with (first|((with_reducible refine gate_builtin (b:=.append) (xs:=#[.tmp 33,.tmp 34]) rfl ?_);at_builtin;refine Kd.R_append_rows U8 (w0:=w0) w0.heap.size rfl (.tmp 33) (.tmp 34) 38 5 (.int .u8 0) 1 rfl Try.underlying38 info5 rfl (by decide) (by omega) _ d.tick.b0 b _ _ _ _ (λ_=>False) rfl rfl HR4.out.wide0 (by have a_:=A4.out;rw [HM.out] at a_ ⊢;exact a_) (λ_ _ h=>h) (λ_ h=>h.elim) HR4.out.fresh0 HR4.out.below (below_size HR4.out.below) l4.out ?_;intro v5 w5 ho hb hg hat;obtain ⟨bb,hbb⟩:∃ bb,bb=d.tick.b0++b:=⟨_,rfl⟩;rw [<-hbb] at ho;have BB:=Aside0.mk hbb;clear hbb;obtain ⟨A5,c5,e5⟩:=Kd.R_slice ho;subst e5;have Q5:=Aside0.mk (HR4.out.row0 ho hb hg);have cb:=Aside0.mk ((World.cell?_of_block (a:=⟨g,0,none⟩) (hg.block g (HR4.out.lt g HR4.out.gD) (λe=>(HR4.out.r0.1 g e.symm).2.1 rfl))).trans c0);have fb:=Aside0.mk ((World.frozen?_of_block (a:=⟨g,0,none⟩) (hg.block g (HR4.out.lt g HR4.out.gD) (λe=>(HR4.out.r0.1 g e.symm).2.1 rfl))).trans f0);clear ho hb hg hat c0 f0;have c0:=cb.out;have f0:=fb.out;clear cb fb))
   go_ret
   have q5:=Q5.out
   clear Q5
   obtain rfl:=BB.out
   exact ⟨rfl,_,⟨_,_,q5.1⟩,HS4.out.trans q5.2⟩
  ·have hr4:=HR3.out.on (below_drew (Below.refl _ _))
   have hs4:=HS3.out.trans (Step.of_below (below_drew (Below.refl _ _)))
   have HR4:=Aside0.mk hr4
   have HS4:=Aside0.mk hs4
   clear hr4 hs4
   refine wp_region_any (by kernel_rfl) ?_
   change wpAny _ _ _ _ _ _ _ w3.drew
   generalize w3.drew=w4 at HR4 HS4 ⊢
   clear HR3 HS3
   refine take_pre (i:=0) (N:=some 25) (v:=.pointer (some ⟨g,0,none⟩)) rfl rfl (by kernel_rfl) (by kernel_rfl) (by kernel_rfl) (λ_ _ _ h=>h) (by rfl) ?_ ?_
   ·intro w_
    first|(go_simp;done)|(go_simp;rfl)
   refine take_pre (i:=1) (N:=some 26) (v:=.int .i64 1) rfl rfl (by kernel_rfl) (by kernel_rfl) (by kernel_rfl) (λ_ _ _ h=>h) (by rfl) ?_ ?_
   ·intro w_
    first|(go_simp;done)|(go_simp;rfl)
   refine take_pre (i:=2) (N:=some 27) (v:=.pointer (some ⟨g,0,none⟩)) rfl rfl (by kernel_rfl) (by kernel_rfl) (by kernel_rfl) (λ_ _ _ h=>h) (by rfl) ?_ ?_
   ·intro w_
    first|(go_simp;done)|(go_simp;rfl)
   refine take_pre (i:=3) (N:=some 28) (v:=.int .i64 1) rfl rfl (by kernel_rfl) (by kernel_rfl) (by kernel_rfl) (λ_ _ _ h=>h) (by rfl) ?_ ?_
   ·intro w_
    first|(go_simp;done)|(go_simp;rfl)
   refine take_pre (i:=4) (N:=some 29) (v:=.pointer (some ⟨g,0,none⟩)) rfl rfl (by kernel_rfl) (by kernel_rfl) (by kernel_rfl) (λ_ _ _ h=>h) (by rfl) ?_ ?_
   ·intro w_
    first|(go_simp;done)|(go_simp;rfl)
   refine take_pre (i:=5) (N:=some 30) (v:=.pointer (some ⟨g,0,none⟩)) rfl rfl (by kernel_rfl) (by kernel_rfl) (by kernel_rfl) (λ_ _ _ h=>h) (by rfl) ?_ ?_
   ·intro w_
    first|(go_simp;done)|(go_simp;rfl)
   refine take_pre (i:=6) (N:=some 31) (v:=.pointer (some ⟨g,2,none⟩)) rfl rfl (by kernel_rfl) (by kernel_rfl) (by kernel_rfl) (λ_ _ _ h=>h) (by rfl) ?_ ?_
   ·intro w_
    first|(go_simp;done)|(go_simp;rfl)
   refine take_pre (i:=7) (N:=some 32) (v:=.pointer (some ⟨g,2,none⟩)) rfl rfl (by kernel_rfl) (by kernel_rfl) (by kernel_rfl) (λ_ _ _ h=>h) (by rfl) ?_ ?_
   ·intro w_
    first|(go_simp;done)|(go_simp;rfl)
   refine take_pre (i:=9) (N:=some 34) (v:=.slice A m c) rfl rfl (by kernel_rfl) (by kernel_rfl) (by kernel_rfl) (λ_ _ _ h=>h) (by rfl) ?_ ?_
   ·intro w_
    first|(go_simp;done)|(go_simp;rfl)
   refine take_pre (i:=11) (N:=some 36) (v:=.pointer (some ⟨g,0,none⟩)) rfl rfl (by kernel_rfl) (by kernel_rfl) (by kernel_rfl) (λ_ _ _ h=>h) (by rfl) ?_ ?_
   ·intro w_
    first|(go_simp;done)|(go_simp;rfl)
   refine take_pre (i:=12) (N:=some 37) (v:=.pointer (some ⟨g,0,none⟩)) rfl rfl (by kernel_rfl) (by kernel_rfl) (by kernel_rfl) (λ_ _ _ h=>h) (by rfl) ?_ ?_
   ·intro w_
    first|(go_simp;done)|(go_simp;rfl)
   (try simp only [Act.put,List.setIfInBounds_toArray,List.set_cons_zero,List.set_cons_succ])
   refine wpAny_of_path [8,10,13,14,15] (_ :: _ :: _ :: _ :: _ :: []) _ _ _ rfl (by kernel_rfl) ?_
   simp only [List.getElem_toArray,List.getElem_cons_succ,List.getElem_cons_zero]
   have c0:=HR4.out.c2
   have f0:=HR4.out.fz 2
   have A4:=Aside0.mk (Kd.F_now (HS4.out.foot HA.out))
   have l4:=Aside0.mk (show(d.tick.b1.length+m)*1<=140737488355328 by have h_:(d.b1.length:Int)<=1048576:=HG.out.len1;have e_:d.tick.b1.length=d.b1.length:=rfl;have h1_:=F0.out;have h2_:=HM.out;have h3_:=HG.out.r1;unfold Dk.left at h1_;omega)
   go_wp2_with (first|((with_reducible refine gate_builtin (b:=.append) (xs:=#[.tmp 33,.tmp 34]) rfl ?_);at_builtin;refine Kd.R_append_rows U8 (w0:=w0) w0.heap.size rfl (.tmp 33) (.tmp 34) 38 5 (.int .u8 0) 1 rfl Try.underlying38 info5 rfl (by decide) (by omega) _ d.tick.b1 b _ _ _ _ (λ_=>False) rfl rfl HR4.out.wide1 (by have a_:=A4.out;rw [HM.out] at a_ ⊢;exact a_) (λ_ _ h=>h) (λ_ h=>h.elim) HR4.out.fresh1 HR4.out.below (below_size HR4.out.below) l4.out ?_;intro v5 w5 ho hb hg hat;obtain ⟨bb,hbb⟩:∃ bb,bb=d.tick.b1++b:=⟨_,rfl⟩;rw [<-hbb] at ho;have BB:=Aside0.mk hbb;clear hbb;obtain ⟨A5,c5,e5⟩:=Kd.R_slice ho;subst e5;have Q5:=Aside0.mk (HR4.out.row1 ho hb hg);have cb:=Aside0.mk ((World.cell?_of_block (a:=⟨g,2,none⟩) (hg.block g (HR4.out.lt g HR4.out.gD) (λe=>(HR4.out.r1.1 g e.symm).2.1 rfl))).trans c0);have fb:=Aside0.mk ((World.frozen?_of_block (a:=⟨g,2,none⟩) (hg.block g (HR4.out.lt g HR4.out.gD) (λe=>(HR4.out.r1.1 g e.symm).2.1 rfl))).trans f0);clear ho hb hg hat c0 f0;have c0:=cb.out;have f0:=fb.out;clear cb fb))
   go_ret
   have q5:=Q5.out
   clear Q5
   obtain rfl:=BB.out
   exact ⟨rfl,_,⟨_,_,q5.1⟩,HS4.out.trans q5.2⟩
end
end Go.Proofs.Ytfhamdobagjakaa.Dsk
