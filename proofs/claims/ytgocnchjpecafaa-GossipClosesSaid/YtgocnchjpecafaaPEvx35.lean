import Derived.Test.YtgocnchjpecafaaPEvx2
/- a part -/
namespace Go.Proofs.Ytgocnchjpecafaa.PEv
open Go.RowKit Go.Proofs.YtgocnchjpecafaaW.PrintWords Go.Proofs.YtgocnchjpecafaaW.PrintLast Go.Proofs.YtgocnchjpecafaaW.PrintMore
attribute [local go_sem] max2_int min2_int max_two min_two max_three min_three max_four min_four
set_option linter.unusedVariables false
set_option linter.unusedSimpArgs false
attribute [local go_sem high] eqA25
set_option maxHeartbeats 8000000
set_option maxRecDepth 100000
theorem z35_0 {P:Prop} (h:P:=by repeat(first|(with_reducible first|exact HB.out|apply below_alloc|apply pw_below_drewN|apply below_drew1)|exact HB.out)):P:=h
theorem z35_1 {P:Prop} (h:P:=by repeat(first|(with_reducible first|exact HB.out|apply below_alloc|apply pw_below_drewN|apply below_drew1|refine below_set ?_ GE759.out)|exact HB.out)):P:=h
theorem z35_2 {P:Prop} (h:P:=by first|(with_reducible assumption)|assumption):P:=h
theorem z35_3 {P:Prop} (h:P:=by(with_reducible repeat(first|refine blk_drewN ?_ _|refine blk_drew ?_|refine blk_alloc ?_ _));exact BK759.out):P:=h
def r05_find.l0:Nat->List (S30)->Int->Int->Int->Option (Bool)
 | 0,_,_,_,_=>none
 | k+1,x0,x5,x760000,x760001=>if x5<(x0.length:Int) then(if 0<=x5 then(if (((rd_T30 x0 x5).f0.f0) == x760000 && (((rd_T30 x0 x5).f0.f1) == x760001))=true then(some true) else(r05_find.l0 k x0 (wrap64 (x5+1)) x760000 x760001)) else(none)) else(some false)
def r05_find.f (k:Nat) (l0:List (S30)) (a1_0:Int) (a1_1:Int):Option (Bool):=r05_find.l0 k l0 0 a1_0 a1_1
theorem r05_find.calls (k:Nat) (A0:Option Addr) (c0:Nat) (l0:List (S30)) (a1_0:Int) (a1_1:Int) (r:Bool) (w:World) (hr0:Kd.C k30 w A0 l0.length l0) (hc0:l0.length<=c0) (h:r05_find.f k l0 a1_0 a1_1=some r) :
  Calls Try.prog 81 #[.slice A0 l0.length c0,.agg #[.int .i64 a1_0,.int .i64 a1_1]] w λe w'=>e = .returned (.bool r)/\Below w.heap.size w w':=by
 have hu25:=Try.underlying25
 have HR0:=Aside0.mk hr0
 have HC0:=Aside0.mk hc0
 clear hr0 hc0
 have HB:=U (Below.refl w.heap.size w)
 have H:(r05_find.l0 k l0 0 a1_0 a1_1)=some r:=h
 clear h
 have H':=Aside0.mk H
 clear H
 go_enter Try.func81,Try.ntmps81
 go_wp2_with (first|((with_reducible refine gate_dst (N:=3) rfl ?_);refine box_event ?hg (N:=3) ?hd (cs:=#[.int .i64 a1_0,.int .i64 a1_1]) (t:=25) ?hr ?_;(case hd=>rfl);(case hg=>rfl);(case hr=>first|(go_simp;done)|(go_simp;rfl));intro gb759 hg w3 hbox hb;have BK759:=U (hbox);have GW759:=U ((by rw [hg];exact(below_size z35_0):w.heap.size<=gb759));have GE759:=U ((by rw [hg];exact(below_size z35_0):w.heap.size<=gb759));replace HB:=U (below_step z35_0 hb);clear hb hbox hg))
 repeat(go_quiet (first|((with_reducible refine gate_dst (N:=3) rfl ?_);refine box_event ?hg (N:=3) ?hd (cs:=#[.int .i64 a1_0,.int .i64 a1_1]) (t:=25) ?hr ?_;(case hd=>rfl);(case hg=>rfl);(case hr=>first|(go_simp;done)|(go_simp;rfl));intro gb759 hg w3 hbox hb;have BK759:=U (hbox);have GW759:=U ((by rw [hg];exact(below_size z35_0):w.heap.size<=gb759));have GE759:=U ((by rw [hg];exact(below_size z35_0):w.heap.size<=gb759));replace HB:=U (below_step z35_0 hb);clear hb hbox hg));try go_wp2_with (first|((with_reducible refine gate_dst (N:=3) rfl ?_);refine box_event ?hg (N:=3) ?hd (cs:=#[.int .i64 a1_0,.int .i64 a1_1]) (t:=25) ?hr ?_;(case hd=>rfl);(case hg=>rfl);(case hr=>first|(go_simp;done)|(go_simp;rfl));intro gb759 hg w3 hbox hb;have BK759:=U (hbox);have GW759:=U ((by rw [hg];exact(below_size z35_0):w.heap.size<=gb759));have GE759:=U ((by rw [hg];exact(below_size z35_0):w.heap.size<=gb759));replace HB:=U (below_step z35_0 hb);clear hb hbox hg)))
 go_loopg [5] k (λkq v5 w'=>∃ (x5_1:Int),v5 = .int .i64 x5_1/\Aside0 (r05_find.l0 kq l0 x5_1 a1_0 a1_1=some r)/\Aside0 (kq<=k)/\Aside0 (w'.heap[gb759]? = some (.cells #[.int .i64 a1_0,.int .i64 a1_1] 25 (0,0)))/\Aside0 (Below w.heap.size w w'))
 case atStart=>exact ⟨(0),(by first|rfl|(simp;done)|(simp [*];done)),H',⟨Nat.le_refl _⟩,⟨z35_3⟩,⟨z35_1⟩⟩
 case round =>
 clear H'
 try clear p2
 obtain ⟨x5_1,rfl,HA,HK1,BK759,HB⟩:=hrel
 cases gk with
 | zero=>exact absurd HA.out (by simp [r05_find.l0])
 | succ k1 =>
 have H:=HA.out
 clear HA
 simp only [r05_find.l0] at H
 by_cases c4:x5_1<(l0.length:Int)
 rotate_left
 ·rw [if_neg c4] at H
  have c4b0:decide (x5_1<(l0.length:Int))=false:=dF_ c4
  clear c4
  obtain rfl:=sI_ H
  go_wp2
  repeat(go_quiet (fail);try go_wp2)
  go_ret
  exact ⟨(by first|rfl|(simp [errW_none,errW_some]<;>rfl)|(simp [*,errW_none,errW_some]<;>rfl)),z35_1⟩
 rw [if_pos c4] at H
 have c4b0:decide (x5_1<(l0.length:Int))=true:=dT_ c4
 clear c4
 by_cases c5:0<=x5_1
 rotate_left
 ·rw [if_neg c5] at H
  exact absurd H (by simp)
 rw [if_pos c5] at H
 have c5b0:decide (0<=x5_1)=true:=dT_ c5
 clear c5
 by_cases c6:(((rd_T30 l0 x5_1).f0.f0) == a1_0 && (((rd_T30 l0 x5_1).f0.f1) == a1_1))=true
 ·rw [if_pos c6] at H
  have c6b0:(((rd_T30 l0 x5_1).f0.f0) == a1_0 && (((rd_T30 l0 x5_1).f0.f1) == a1_1))=true:=c6
  (try(have c6b1:decide (((rd_T30 l0 x5_1).f0.f0)=a1_0 && (((rd_T30 l0 x5_1).f0.f1) == a1_1))=true:=by simpa using c6))
  (try(have c6b2:(((rd_T30 l0 x5_1).f0.f0) == a1_0 && (((rd_T30 l0 x5_1).f0.f1) == a1_1))=true:=by simpa using c6))
  clear c6
  obtain rfl:=sI_ H
  have p760:0<=(x5_1:Int):=oD_ z35_2
  have q760:x5_1<(l0.length:Int):=oD_ z35_2
  obtain ⟨ad760,A760_2,c760_2,A760_3,c760_3,e760,hx760_0,hx760_1,hx760_2,hx760_3,hl760_2,hi760_2,hl760_3,hi760_3⟩:=at_T30 HR0.out x5_1 p760 q760
  cases e760
  replace hx760_0:=(HB.out.cell (World.block_lt_of_cell? w _ hx760_0)).trans hx760_0
  replace hx760_1:=(HB.out.cell (World.block_lt_of_cell? w _ hx760_1)).trans hx760_1
  replace hx760_2:=(HB.out.cell (World.block_lt_of_cell? w _ hx760_2)).trans hx760_2
  replace hx760_3:=(HB.out.cell (World.block_lt_of_cell? w _ hx760_3)).trans hx760_3
  have HR760_2:=Aside0.mk hi760_2
  have HC760_2:=Aside0.mk hl760_2
  clear hi760_2 hl760_2
  have HR760_3:=Aside0.mk hi760_3
  have HC760_3:=Aside0.mk hl760_3
  clear hi760_3 hl760_3
  replace p760:=eq_true p760
  replace q760:=eq_true q760
  obtain ⟨hcz7_0,hcz7_1,hfz7_0,hfz7_1⟩:=cz2_ BK759.out
  go_wp2
  repeat(go_quiet (fail);try go_wp2)
  go_ret
  exact ⟨(by first|rfl|(simp [errW_none,errW_some]<;>rfl)|(simp [*,errW_none,errW_some]<;>rfl)),z35_1⟩
 rw [if_neg c6] at H
 have c6b0:(((rd_T30 l0 x5_1).f0.f0) == a1_0 && (((rd_T30 l0 x5_1).f0.f1) == a1_1))=false:=by simpa using c6
 (try(have c6b1:decide (((rd_T30 l0 x5_1).f0.f0)=a1_0 && (((rd_T30 l0 x5_1).f0.f1) == a1_1))=false:=by simpa using c6))
 (try(have c6b2:(((rd_T30 l0 x5_1).f0.f0) == a1_0 && (((rd_T30 l0 x5_1).f0.f1) == a1_1))=false:=by simpa using c6))
 (try(have c6b3:¬ (((rd_T30 l0 x5_1).f0.f0)=a1_0 && (((rd_T30 l0 x5_1).f0.f1) == a1_1)):=by simpa using c6))
 clear c6
 have H':=Aside0.mk H
 clear H
 have p760:0<=(x5_1:Int):=oD_ z35_2
 have q760:x5_1<(l0.length:Int):=oD_ z35_2
 obtain ⟨ad760,A760_2,c760_2,A760_3,c760_3,e760,hx760_0,hx760_1,hx760_2,hx760_3,hl760_2,hi760_2,hl760_3,hi760_3⟩:=at_T30 HR0.out x5_1 p760 q760
 cases e760
 replace hx760_0:=(HB.out.cell (World.block_lt_of_cell? w _ hx760_0)).trans hx760_0
 replace hx760_1:=(HB.out.cell (World.block_lt_of_cell? w _ hx760_1)).trans hx760_1
 replace hx760_2:=(HB.out.cell (World.block_lt_of_cell? w _ hx760_2)).trans hx760_2
 replace hx760_3:=(HB.out.cell (World.block_lt_of_cell? w _ hx760_3)).trans hx760_3
 have HR760_2:=Aside0.mk hi760_2
 have HC760_2:=Aside0.mk hl760_2
 clear hi760_2 hl760_2
 have HR760_3:=Aside0.mk hi760_3
 have HC760_3:=Aside0.mk hl760_3
 clear hi760_3 hl760_3
 replace p760:=eq_true p760
 replace q760:=eq_true q760
 obtain ⟨hcz8_0,hcz8_1,hfz8_0,hfz8_1⟩:=cz2_ BK759.out
 go_wp2
 repeat(go_quiet (fail);try go_wp2)
 go_roundg k1
 case measure=>have:=HK1.out;omega
 case rel=>exact ⟨(wrap64 (x5_1+1)),(by first|rfl|(simp;done)|(simp [*];done)),H',⟨(by have:=HK1.out;omega)⟩,⟨z35_3⟩,⟨z35_1⟩⟩
end Go.Proofs.Ytgocnchjpecafaa.PEv
