/- a part -/
import Derived.Test.YtfhamdobagjakaaPJox3
namespace Go.Proofs.Ytfhamdobagjakaa.PJo
open Go.RowKit Go.Proofs.YtfhamdobagjakaaW.PrintWords Go.Proofs.YtfhamdobagjakaaW.PrintLast Go.Proofs.YtfhamdobagjakaaW.PrintMore
attribute [local go_sem] max2_int min2_int max_two min_two max_three min_three max_four min_four
set_option linter.unusedVariables false
set_option linter.unusedSimpArgs false
set_option maxHeartbeats 8000000
set_option maxRecDepth 100000
theorem z4_0 {P:Prop} (h:P:=by repeat(first|(with_reducible first|exact HB.out|apply below_alloc|apply pw_below_drewN|apply below_drew1|refine below_set ?_ GE187.out|refine below_set ?_ GE197.out)|exact HB.out)):P:=h
theorem z4_1 {P:Prop} (h:P:=by(with_reducible repeat(first|refine blk_drewN ?_ _|refine blk_drew ?_|refine blk_alloc ?_ _));exact BK187.out):P:=h
theorem z4_2 {P:Prop} (h:P:=by repeat(first|(with_reducible first|exact HB.out|apply below_alloc|apply pw_below_drewN|apply below_drew1|refine below_set ?_ GE187.out)|exact HB.out)):P:=h
theorem z4_3 {P:Prop} (h:P:=by(with_reducible repeat(first|refine blk_drewN ?_ _|refine blk_drew ?_|refine blk_alloc ?_ _));exact BK197.out):P:=h
theorem z4_5 {P:Prop} (h:P:=by(with_reducible repeat(first|apply Kd.S_alloc|apply Kd.S_drewN|apply Kd.S_drew));exact Kd.S_mono HO_198001.out (λ_ hk=>trivial)):P:=h
theorem z4_6 {P:Prop} (h:P:=by first|exact Kd.S_nil _ _ _ _ _|exact Kd.N_nil _ _ _ _ _|exact Kd.V_nil _ _ _ _ _|exact Kd.Q_nil _ _ _ _ _|exact Kd.R_nil _ _ _ _ _):P:=h
theorem z4_7 {P:Prop} (h:P:=by(with_reducible repeat(first|apply Kd.S_alloc|apply Kd.S_drewN|apply Kd.S_drew));exact Kd.S_mono HO_198001.out (λ_ hk=>hk.2)):P:=h
theorem z4_9 {P:Prop} (h:P:=by have:=HJ3.out;have:=HK2.out;have:=HJ20.out;first|omega|exact Nat.le_refl _):P:=h
theorem z4_10 {P:Prop} (h:P:=by(with_reducible repeat(first|apply Kd.R_alloc|apply Kd.R_drewN|apply Kd.R_drew));exact HO202.out):P:=h
theorem z4_14 {P:Prop} (h:P:=by have:=HJ3.out;have:=HK2.out;first|omega|exact Nat.le_refl _):P:=h
mutual
def journal_scan.j0:Nat->List Int->Int->Int->Bool->Option (Int×(List (S92))×Int×Int)
 | 0,_,_,_,_=>none
 | k+1,x0,x5,x7,x52=>if x52=true then(some (0,([]:List (S92)),0,0)) else(journal_scan.l0 k x0 false x7 ([]:List (S92)) x5 (x0.length:Int))
def journal_scan.l0:Nat->List Int->Bool->Int->List (S92)->Int->Int->Option (Int×(List (S92))×Int×Int)
 | 0,_,_,_,_,_,_=>none
 | k+1,x0,x11,x198000,x198001,x198002,x198003=>if 0<=x198002 then(if x198002<=(x0.length:Int) then((wire_GetRecord.f k (x0.drop (x198002:Int).toNat)).bind λbt199=>(if bt199.2.2.2=0 then(if bt199.1>=10 then(journal_scan.j2 k x0 x11 bt199.1 bt199.2.1 bt199.2.2.1 bt199.2.2.2 (decide (bt199.1<=200)) x198000 x198001 x198002 x198003) else(journal_scan.j2 k x0 x11 bt199.1 bt199.2.1 bt199.2.2.1 bt199.2.2.2 false x198000 x198001 x198002 x198003)) else(journal_scan.j2 k x0 x11 bt199.1 bt199.2.1 bt199.2.2.1 bt199.2.2.2 false x198000 x198001 x198002 x198003))) else(none)) else(none)
def journal_scan.j2:Nat->List Int->Bool->Int->List Int->Int->Int->Bool->Int->List (S92)->Int->Int->Option (Int×(List (S92))×Int×Int)
 | 0,_,_,_,_,_,_,_,_,_,_,_=>none
 | k+1,x0,x11,x12,x13,x14,x15,x70,x198000,x198001,x198002,x198003=>if x70=true then(if x198001.length<4398046511104 then(journal_scan.l0 k x0 x11 x198000 (x198001++[(⟨x12,x13⟩:S92)]) (wrap64 (x198002+x14)) x198003) else(none)) else(if x15=0 then(if x12=2 then(if (x13.length:Int)=0 then(journal_scan.j3 k x0 x11 x14 (!x11) x198000 x198001 x198002 x198003) else(journal_scan.j3 k x0 x11 x14 false x198000 x198001 x198002 x198003)) else(journal_scan.j3 k x0 x11 x14 false x198000 x198001 x198002 x198003)) else(journal_scan.j3 k x0 x11 x14 false x198000 x198001 x198002 x198003))
def journal_scan.j3:Nat->List Int->Bool->Int->Bool->Int->List (S92)->Int->Int->Option (Int×(List (S92))×Int×Int)
 | 0,_,_,_,_,_,_,_,_=>none
 | k+1,x0,x11,x14,x89,x198000,x198001,x198002,x198003=>if x89=true then(journal_scan.l0 k x0 true x198000 x198001 (wrap64 (x198002+x14)) x198003) else(if x11=true then(some (x198000,x198001,x198002,x198003)) else(some (0,([]:List (S92)),0,0)))
end
def journal_scan.f (k:Nat) (l0:List Int):Option (Int×(List (S92))×Int×Int):=(wire_GetRecord.f k l0).bind λbt188=>((wire_GetNum.f k bt188.2.1).bind λbt194=>(if bt188.2.2.2=0 then(if bt188.1=1 then(if bt194.2.2=0 then(if bt194.2.1=(bt188.2.1.length:Int) then(if bt194.1=0 then(journal_scan.j0 k l0 bt188.2.2.1 bt194.1 true) else(journal_scan.j0 k l0 bt188.2.2.1 bt194.1 (decide (bt194.1 > 1099511627776)))) else(journal_scan.j0 k l0 bt188.2.2.1 bt194.1 true)) else(journal_scan.j0 k l0 bt188.2.2.1 bt194.1 true)) else(journal_scan.j0 k l0 bt188.2.2.1 bt194.1 true)) else(journal_scan.j0 k l0 bt188.2.2.1 bt194.1 true)))
theorem journal_scan.calls (k:Nat) (A0:Option Addr) (c0:Nat) (l0:List Int) (r1:Int) (r2:List (S92)) (r3:Int) (r4:Int) (w:World) (hr0:Kd.C (Kd.int .u8) w A0 l0.length l0) (hc0:l0.length<=c0) (h:journal_scan.f k l0=some (r1,r2,r3,r4)) :
  Calls Try.prog 50 #[.slice A0 l0.length c0] w λe w'=>∃ v1_:Value,e = .returned (.agg #[.int .u64 r1,v1_,.int .i64 r3,.int .i64 r4])/\Kd.S k92 92 w' w.heap.size (λ_=>True) v1_ r2/\Below w.heap.size w w':=by
 have hu100:=Try.underlying100
 have hu92:=Try.underlying92
 have HR0:=Aside0.mk hr0
 have HC0:=Aside0.mk hc0
 clear hr0 hc0
 have HB:=U (Below.refl w.heap.size w)
 have H:((wire_GetRecord.f k l0).bind λbt188=>((wire_GetNum.f k bt188.2.1).bind λbt194=>(if bt188.2.2.2=0 then(if bt188.1=1 then(if bt194.2.2=0 then(if bt194.2.1=(bt188.2.1.length:Int) then(if bt194.1=0 then(journal_scan.j0 k l0 bt188.2.2.1 bt194.1 true) else(journal_scan.j0 k l0 bt188.2.2.1 bt194.1 (decide (bt194.1 > 1099511627776)))) else(journal_scan.j0 k l0 bt188.2.2.1 bt194.1 true)) else(journal_scan.j0 k l0 bt188.2.2.1 bt194.1 true)) else(journal_scan.j0 k l0 bt188.2.2.1 bt194.1 true)) else(journal_scan.j0 k l0 bt188.2.2.1 bt194.1 true))))=some (r1,r2,r3,r4):=h
 clear h
 replace H:=oB_ H
 obtain ⟨⟨t188,t189,t192,t193⟩,A20,H⟩:=H
 replace H:((wire_GetNum.f k t189).bind λbt194=>(if t193=0 then(if t188=1 then(if bt194.2.2=0 then(if bt194.2.1=(t189.length:Int) then(if bt194.1=0 then(journal_scan.j0 k l0 t192 bt194.1 true) else(journal_scan.j0 k l0 t192 bt194.1 (decide (bt194.1 > 1099511627776)))) else(journal_scan.j0 k l0 t192 bt194.1 true)) else(journal_scan.j0 k l0 t192 bt194.1 true)) else(journal_scan.j0 k l0 t192 bt194.1 true)) else(journal_scan.j0 k l0 t192 bt194.1 true)))=some (r1,r2,r3,r4):=H
 have A2:=Aside0.mk A20
 clear A20
 replace H:=oB_ H
 obtain ⟨⟨t194,t195,t196⟩,A30,H⟩:=H
 replace H:(if t193=0 then(if t188=1 then(if t196=0 then(if t195=(t189.length:Int) then(if t194=0 then(journal_scan.j0 k l0 t192 t194 true) else(journal_scan.j0 k l0 t192 t194 (decide (t194 > 1099511627776)))) else(journal_scan.j0 k l0 t192 t194 true)) else(journal_scan.j0 k l0 t192 t194 true)) else(journal_scan.j0 k l0 t192 t194 true)) else(journal_scan.j0 k l0 t192 t194 true))=some (r1,r2,r3,r4):=H
 have A3:=Aside0.mk A30
 clear A30
 have HC4:=Aside0.mk H
 clear H
 go_enter Try.func50,Try.ntmps50
 go_upto_region 3 with (first|((with_reducible refine gate_dst (N:=2) rfl ?_);(try(refine gate_guard (by rfl) ?_;dsimp only));refine box_event ?hg (N:=2) ?hd (cs:=#[.int .u64 0,.slice none 0 0,.int .i64 0,.int .i64 0]) (t:=100) ?hr ?_;(case hd=>rfl);(case hg=>rfl);(case hr=>first|(go_simp;done)|(go_simp;rfl));intro gb187 hg w5 hbox hb;have BK187:=U (hbox);have GW187:=U ((by rw [hg];exact(below_size z1_0):w.heap.size<=gb187));have GE187:=U ((by rw [hg];exact(below_size z1_0):w.heap.size<=gb187));replace HB:=U (below_step z1_0 hb);clear hb hbox hg)|((with_reducible refine gate_callee (f:=82) rfl ?_);refine goesL_ (some 18) rfl rfl Try.func82 (by kernel_rfl) rfl #[.slice A0 l0.length c0] rfl z1_4 ?_;(with_reducible refine(wire_GetRecord.calls k (λk_=>k_<w.heap.size) _ _ l0 t188 t189 t192 t193 _ ?side1 A2.out).mono ?_);(case side1=>exact Kd.V_mk HC0.out (Kd.F_below (Kd.C_F (Kd.heap_int .u8) HR0.out) z4_2));rintro e w6 ⟨v190,rfl,ho0,hb⟩;refine ⟨_,rfl,?_⟩;have HO191:=U (Kd.R_lower (Kd.R_mono (ok':=λk_=>True) ho0 (λ_ hk_=>trivial)) (below_size z4_2));replace BK187:=U (blk_below (g:=gb187) (o:=.cells #[.int .u64 0,.slice none 0 0,.int .i64 0,.int .i64 0] 100 (0,0)) z4_1 hb);replace HB:=U (below_step z4_2 hb);(try clear hb);(try clear hb2);(try clear hk);(try clear hi);(try clear ho0);obtain ⟨Ao7,co7,eo7⟩:=Kd.R_slice HO191.out;subst eo7)|((with_reducible refine gate_callee (f:=83) rfl ?_);refine goesL_ (some 25) rfl rfl Try.func83 (by kernel_rfl) rfl #[.slice Ao7 t189.length co7] rfl z1_4 ?_;(with_reducible refine(wire_GetNum.calls k _ _ t189 t194 t195 t196 _ ?side1 ?side2 A3.out).mono ?_);(case side1=>repeat(first|exact(Kd.R_reads' HO191.out).2.2|(with_reducible refine Kd.C_alloc ?_ _)|(with_reducible refine Kd.C_drewN ?_ _)|(with_reducible refine Kd.C_drew ?_)));(case side2=>exact(Kd.R_reads' HO191.out).2.1);rintro e w' ⟨rfl,⟨nd,rfl⟩⟩;refine ⟨_,rfl,?_⟩))
 (try simp only [Act.put,List.setIfInBounds_toArray,List.set_cons_zero,List.set_cons_succ])
 go_cut [52] (λv52 wc=>∃ (kq:Nat) (x52_3:Bool),v52 = .bool x52_3/\Aside0 (journal_scan.j0 kq l0 t192 t194 x52_3=some (r1,r2,r3,r4))/\Aside0 (kq<=k)/\Aside0 (wc.heap[gb187]? = some (.cells #[.int .u64 0,(.slice none 0 0),.int .i64 0,.int .i64 0] 100 (0,0)))/\Aside0 (Below w.heap.size w wc))
 case first =>
  have H:=HC4.out
  clear HC4
  by_cases c8:t193=0
  rotate_left
  ·rw [if_neg c8] at H
   have c8b0:(t193 == 0)=false:=beq_eq_false_iff_ne.mpr c8
   have c8b1:(t193 != 0)=true:=bne_iff_ne.mpr c8
   (first|rw [c8b0]|(simp only [i64_w,i32_w];rw [c8b0])|skip)
   have H':=Aside0.mk H
   clear H
   go_wp2
   go_meet
   case rel=>exact ⟨_,(true),z2_1,H',⟨z2_3⟩,⟨z4_1⟩,⟨z4_2⟩⟩
  rw [if_pos c8] at H
  have c8b0:(t193 == 0)=true:=beq_iff_eq.mpr c8
  have c8b1:(t193 != 0)=false:=bne_eq_false_iff_eq.mpr c8
  clear c8
  (first|rw [c8b0]|(simp only [i64_w,i32_w];rw [c8b0])|skip)
  by_cases c9:t188=1
  rotate_left
  ·rw [if_neg c9] at H
   have c9b0:(t188 == 1)=false:=beq_eq_false_iff_ne.mpr c9
   have c9b1:(t188 != 1)=true:=bne_iff_ne.mpr c9
   have H':=Aside0.mk H
   clear H
   go_wp2
   go_meet
   case rel=>exact ⟨_,(true),z2_1,H',⟨z2_3⟩,⟨z4_1⟩,⟨z4_2⟩⟩
  rw [if_pos c9] at H
  have c9b0:(t188 == 1)=true:=beq_iff_eq.mpr c9
  have c9b1:(t188 != 1)=false:=bne_eq_false_iff_eq.mpr c9
  clear c9
  by_cases c10:t196=0
  rotate_left
  ·rw [if_neg c10] at H
   have c10b0:(t196 == 0)=false:=beq_eq_false_iff_ne.mpr c10
   have c10b1:(t196 != 0)=true:=bne_iff_ne.mpr c10
   have H':=Aside0.mk H
   clear H
   go_wp2
   go_meet
   case rel=>exact ⟨_,(true),z2_1,H',⟨z2_3⟩,⟨z4_1⟩,⟨z4_2⟩⟩
  rw [if_pos c10] at H
  have c10b0:(t196 == 0)=true:=beq_iff_eq.mpr c10
  have c10b1:(t196 != 0)=false:=bne_eq_false_iff_eq.mpr c10
  clear c10
  by_cases c11:t195=(t189.length:Int)
  rotate_left
  ·rw [if_neg c11] at H
   have c11b0:(t195 == (t189.length:Int))=false:=beq_eq_false_iff_ne.mpr c11
   have c11b1:(t195 != (t189.length:Int))=true:=bne_iff_ne.mpr c11
   have H':=Aside0.mk H
   clear H
   go_wp2
   go_meet
   case rel=>exact ⟨_,(true),z2_1,H',⟨z2_3⟩,⟨z4_1⟩,⟨z4_2⟩⟩
  rw [if_pos c11] at H
  have c11b0:(t195 == (t189.length:Int))=true:=beq_iff_eq.mpr c11
  have c11b1:(t195 != (t189.length:Int))=false:=bne_eq_false_iff_eq.mpr c11
  clear c11
  by_cases c12:t194=0
  rotate_left
  ·rw [if_neg c12] at H
   have c12b0:(t194 == 0)=false:=beq_eq_false_iff_ne.mpr c12
   have c12b1:(t194 != 0)=true:=bne_iff_ne.mpr c12
   have H':=Aside0.mk H
   clear H
   go_wp2
   go_meet
   case rel=>exact ⟨_,(decide (t194 > 1099511627776)),z2_1,H',⟨z2_3⟩,⟨z4_1⟩,⟨z4_2⟩⟩
  rw [if_pos c12] at H
  have c12b0:(t194 == 0)=true:=beq_iff_eq.mpr c12
  have c12b1:(t194 != 0)=false:=bne_eq_false_iff_eq.mpr c12
  clear c12
  have H':=Aside0.mk H
  clear H
  go_wp2
  go_meet
  case rel=>exact ⟨_,(true),z2_1,H',⟨z2_3⟩,⟨z4_1⟩,⟨z4_2⟩⟩
 case rest =>
 clear HC4
 try clear c1
 try clear p2
 try clear c5
 try clear c8
 try clear c8b0
 try clear c8b1
 try clear c9
 try clear c9b0
 try clear c9b1
 try clear c10
 try clear c10b0
 try clear c10b1
 try clear c11
 try clear c11b0
 try clear c11b1
 try clear c12
 try clear c12b0
 try clear c12b1
 obtain ⟨kq,x52_3,rfl,HA,HJ3,BK187,HB⟩:=hcut
 cases kq with
 | zero=>exact absurd HA.out (by simp [journal_scan.j0])
 | succ kj3 =>
 have H:=HA.out
 clear HA
 simp only [journal_scan.j0] at H
 by_cases c13:x52_3=true
 ·subst c13
  have H1:(some (0,([]:List (S92)),0,0))=some (r1,r2,r3,r4):=by rw [if_pos rfl] at H;exact H
  clear H
  have H:=H1
  clear H1
  simp only [Option.some.injEq,Prod.mk.injEq] at H
  obtain ⟨rfl,rfl,rfl,rfl⟩:=H
  obtain ⟨hcz14_0,hcz14_1,hcz14_2,hcz14_3,hfz14_0,hfz14_1,hfz14_2,hfz14_3⟩:=cz4_ BK187.out
  go_wp2
  refine bodyPost_ret (results_cell_row rfl _ _ gb187 100 #[.int .u64 0,.slice none 0 0,.int .i64 0,.int .i64 0] (0,0) _ rfl (by(with_reducible repeat(first|refine blk_drewN ?_ _|refine blk_drew ?_|refine blk_alloc ?_ _));refine blk_put (cs:=#[.int .u64 0,.slice none 0 0,.int .i64 0,.int .i64 0]) ?_ 3 _ rfl;(with_reducible repeat(first|refine blk_drewN ?_ _|refine blk_drew ?_|refine blk_alloc ?_ _));refine blk_put (cs:=#[.int .u64 0,.slice none 0 0,.int .i64 0,.int .i64 0]) ?_ 2 _ rfl;(with_reducible repeat(first|refine blk_drewN ?_ _|refine blk_drew ?_|refine blk_alloc ?_ _));refine blk_put (cs:=#[.int .u64 0,.slice none 0 0,.int .i64 0,.int .i64 0]) ?_ 1 _ rfl;(with_reducible repeat(first|refine blk_drewN ?_ _|refine blk_drew ?_|refine blk_alloc ?_ _));refine blk_put (cs:=#[.int .u64 0,.slice none 0 0,.int .i64 0,.int .i64 0]) ?_ 0 _ rfl;(with_reducible repeat(first|refine blk_drewN ?_ _|refine blk_drew ?_|refine blk_alloc ?_ _));exact BK187.out) Try.underlying100 rfl (by kernel_rfl)) rfl ?_
  exact ⟨_,z1_10,z4_6,z4_2⟩
 replace c13:=Bool.eq_false_iff.mpr c13
 subst c13
 have H1:(journal_scan.l0 kj3 l0 false t194 ([]:List (S92)) t192 (l0.length:Int))=some (r1,r2,r3,r4):=by rw [if_neg (show ¬ (false=true) by decide)] at H;exact H
 clear H
 have H:=H1
 clear H1
 have H':=Aside0.mk H
 clear H
 go_wp2_with (first|((with_reducible refine gate_dst (N:=10) rfl ?_);(try(refine gate_guard (by rfl) ?_;dsimp only));refine box_event ?hg (N:=10) ?hd (cs:=#[.int .u64 0,.slice none 0 0,.int .i64 0,.int .i64 0]) (t:=100) ?hr ?_;(case hd=>rfl);(case hg=>rfl);(case hr=>first|(go_simp;done)|(go_simp;rfl));intro gb197 hg w15 hbox hb;have BK197:=U (hbox);have GW197:=U ((by rw [hg];exact(below_size z4_2):w.heap.size<=gb197));have GE197:=U ((by rw [hg];exact(below_size z4_2):w.heap.size<=gb197));replace HB:=U (below_step z4_2 hb);have NB187_197:=U ((by rw [hg];exact Nat.ne_of_lt (blk_lt (g:=gb187) (o:=.cells #[.int .u64 0,.slice none 0 0,.int .i64 0,.int .i64 0] 100 (0,0)) z4_1):gb187≠gb197));have NB197_187:=U ((by rw [hg];exact Nat.ne_of_gt (blk_lt (g:=gb187) (o:=.cells #[.int .u64 0,.slice none 0 0,.int .i64 0,.int .i64 0] 100 (0,0)) z4_1):gb197≠gb187));replace BK187:=U (blk_below (g:=gb187) (o:=.cells #[.int .u64 0,.slice none 0 0,.int .i64 0,.int .i64 0] 100 (0,0)) z4_1 hb);clear hb hbox hg;have hnb16:=NB197_187.out;have hnc16:=NB187_197.out;obtain ⟨hcz17_0,hcz17_1,hcz17_2,hcz17_3,hfz17_0,hfz17_1,hfz17_2,hfz17_3⟩:=cz4_ BK197.out))
 go_loopg [11] kj3 (λkq v11 w'=>∃ (x11_2:Bool) (x188000_2:Int) (x188002_2:Int) (x188003_2:Int) (x198001_2:List (S92)) (x198002_2:Int) (u198001:Value),v11 = .bool x11_2/\Aside0 (journal_scan.l0 kq l0 x11_2 t194 x198001_2 x198002_2 (l0.length:Int)=some (r1,r2,r3,r4))/\Aside0 (kq<=kj3)/\Aside0 (Kd.S k92 92 w' w.heap.size (λ_=>True) u198001 x198001_2)/\Aside0 (w'.heap[gb187]? = some (.cells #[.int .u64 x188000_2,(.slice none 0 0),.int .i64 x188002_2,.int .i64 x188003_2] 100 (0,0)))/\Aside0 (w'.heap[gb197]? = some (.cells #[.int .u64 t194,u198001,.int .i64 x198002_2,.int .i64 (l0.length:Int)] 100 (0,0)))/\Aside0 (Below w.heap.size w w'))
 case atStart=>exact ⟨(false),(0),(0),(0),(([]:List (S92))),(t192),(.slice none 0 0),z2_1,H',⟨Nat.le_refl _⟩,⟨z4_6⟩,⟨(by(with_reducible repeat(first|refine blk_drewN ?_ _|refine blk_drew ?_|refine blk_alloc ?_ _));refine blk_far ?_ NB187_197.out _;(with_reducible repeat(first|refine blk_drewN ?_ _|refine blk_drew ?_|refine blk_alloc ?_ _));refine blk_far ?_ NB187_197.out _;(with_reducible repeat(first|refine blk_drewN ?_ _|refine blk_drew ?_|refine blk_alloc ?_ _));refine blk_far ?_ NB187_197.out _;(with_reducible repeat(first|refine blk_drewN ?_ _|refine blk_drew ?_|refine blk_alloc ?_ _));refine blk_far ?_ NB187_197.out _;(with_reducible repeat(first|refine blk_drewN ?_ _|refine blk_drew ?_|refine blk_alloc ?_ _));exact BK187.out)⟩,⟨(by(with_reducible repeat(first|refine blk_drewN ?_ _|refine blk_drew ?_|refine blk_alloc ?_ _));refine blk_put (cs:=#[.int .u64 t194,.slice none 0 0,.int .i64 t192,.int .i64 0]) ?_ 3 _ rfl;(with_reducible repeat(first|refine blk_drewN ?_ _|refine blk_drew ?_|refine blk_alloc ?_ _));refine blk_put (cs:=#[.int .u64 t194,.slice none 0 0,.int .i64 0,.int .i64 0]) ?_ 2 _ rfl;(with_reducible repeat(first|refine blk_drewN ?_ _|refine blk_drew ?_|refine blk_alloc ?_ _));refine blk_put (cs:=#[.int .u64 t194,.slice none 0 0,.int .i64 0,.int .i64 0]) ?_ 1 _ rfl;(with_reducible repeat(first|refine blk_drewN ?_ _|refine blk_drew ?_|refine blk_alloc ?_ _));refine blk_put (cs:=#[.int .u64 0,.slice none 0 0,.int .i64 0,.int .i64 0]) ?_ 0 _ rfl;(with_reducible repeat(first|refine blk_drewN ?_ _|refine blk_drew ?_|refine blk_alloc ?_ _));exact BK197.out)⟩,⟨z4_0⟩⟩
 case round =>
 clear H'
 try clear c1
 try clear p2
 try clear c5
 try clear c8
 try clear c8b0
 try clear c8b1
 try clear c9
 try clear c9b0
 try clear c9b1
 try clear c10
 try clear c10b0
 try clear c10b1
 try clear c11
 try clear c11b0
 try clear c11b1
 try clear c12
 try clear c12b0
 try clear c12b1
 try clear c13
 try clear c16
 try clear hcz14_0 hcz14_1 hcz14_2 hcz14_3
 try clear hcz17_0 hcz17_1 hcz17_2 hcz17_3
 try clear hfz14_0 hfz14_1 hfz14_2 hfz14_3
 try clear hfz17_0 hfz17_1 hfz17_2 hfz17_3
 try clear p2
 obtain ⟨x11_2,x188000_2,x188002_2,x188003_2,x198001_2,x198002_2,u198001,rfl,HA,HK2,HO_198001,BK187,BK197,HB⟩:=hrel
 cases gk with
 | zero=>exact absurd HA.out (by simp [journal_scan.l0])
 | succ k2 =>
 have H:=HA.out
 clear HA
 simp only [journal_scan.l0] at H
 by_cases c18:0<=x198002_2
 rotate_left
 ·rw [if_neg c18] at H
  exact absurd H (by simp)
 rw [if_pos c18] at H
 have c18b0:=eq_true c18
 have c18b1:decide (0<=x198002_2)=true:=dT_ c18
 clear c18
 by_cases c19:x198002_2<=(l0.length:Int)
 rotate_left
 ·rw [if_neg c19] at H
  exact absurd H (by simp)
 rw [if_pos c19] at H
 have c19b0:=eq_true c19
 have c19b1:decide (x198002_2<=(l0.length:Int))=true:=dT_ c19
 clear c19
 replace H:=oB_ H
 obtain ⟨⟨t199,t200,t203,t204⟩,A200,H⟩:=H
 replace H:(if t204=0 then(if t199>=10 then(journal_scan.j2 k2 l0 x11_2 t199 t200 t203 t204 (decide (t199<=200)) t194 x198001_2 x198002_2 (l0.length:Int)) else(journal_scan.j2 k2 l0 x11_2 t199 t200 t203 t204 false t194 x198001_2 x198002_2 (l0.length:Int))) else(journal_scan.j2 k2 l0 x11_2 t199 t200 t203 t204 false t194 x198001_2 x198002_2 (l0.length:Int)))=some (r1,r2,r3,r4):=H
 have A20:=Aside0.mk A200
 clear A200
 have HC21:=Aside0.mk H
 clear H
 have hnb22:=NB197_187.out
 have hnc22:=NB187_197.out
 obtain ⟨hcz23_0,hcz23_1,hcz23_2,hcz23_3,hfz23_0,hfz23_1,hfz23_2,hfz23_3⟩:=cz4_ BK197.out
 obtain ⟨i024,hi024,_,hsz24,_⟩:=info_parts info5
 obtain ⟨A24,hcut24,hA24,hC24⟩:=print_drop_of (P:=Try.prog) (Value.int .u8) 0 38 5 .i64 Try.underlying38 hi024 hsz24 A0 c0 l0 x198002_2 (oD_ (by first|(with_reducible assumption)|assumption)) (oD_ (by first|(with_reducible assumption)|assumption)) HC0.out
 have HR198:=U (Kd.C_of_reads (h1:=λ_=>rfl) (hA24 _ (Kd.reads_of_C HR0.out)))
 have HC198:=Aside0.mk hC24
 clear hA24 hC24 hi024 hsz24
 go_upto_region 9 with (first|((with_reducible refine gate_callee (f:=82) rfl ?_);refine goesL_ (some 64) rfl rfl Try.func82 (by kernel_rfl) rfl #[.slice A24 (l0.drop (x198002_2:Int).toNat).length (c0 - x198002_2.toNat)] rfl (by(try simp only [List.map_toArray,List.map_cons,List.map_nil]);first|done|(rw [show(l0.drop (x198002_2:Int).toNat).length=(l0.length - x198002_2.toNat) from List.length_drop]<;>rfl)|rfl|(simp only [List.length_drop,List.length_take];rfl)) ?_;(with_reducible refine(wire_GetRecord.calls k2 (λk_=>k_<w.heap.size) _ _ (l0.drop (x198002_2:Int).toNat) t199 t200 t203 t204 _ ?side1 A20.out).mono ?_);(case side1=>exact Kd.V_mk HC198.out (Kd.F_below (Kd.C_F (Kd.heap_int .u8) HR198.out) z4_0));rintro e w25 ⟨v201,rfl,ho0,hb⟩;refine ⟨_,rfl,?_⟩;replace HO_198001:=U (Kd.S_elder' (by(with_reducible repeat(first|apply Kd.S_alloc|apply Kd.S_drewN|apply Kd.S_drew));exact HO_198001.out) (Kd.R_base ho0) hb);have HO202:=U (Kd.R_lower (Kd.R_mono (ok':=λk_=>True) ho0 (λ_ hk_=>trivial)) (below_size z4_0));replace BK187:=U (blk_below (g:=gb187) (o:=.cells #[.int .u64 x188000_2,.slice none 0 0,.int .i64 x188002_2,.int .i64 x188003_2] 100 (0,0)) z4_1 hb);replace BK197:=U (blk_below (g:=gb197) (o:=.cells #[.int .u64 t194,u198001,.int .i64 x198002_2,.int .i64 (l0.length:Int)] 100 (0,0)) z4_3 hb);replace HB:=U (below_step z4_0 hb);(try clear hb);(try clear hb2);(try clear hk);(try clear hi);(try clear ho0)))
 (try simp only [Act.put,List.setIfInBounds_toArray,List.set_cons_zero,List.set_cons_succ])
 go_cut [70] (λv70 wc=>∃ (kq:Nat) (x70_20:Bool),v70 = .bool x70_20/\Aside0 (journal_scan.j2 kq l0 x11_2 t199 t200 t203 t204 x70_20 t194 x198001_2 x198002_2 (l0.length:Int)=some (r1,r2,r3,r4))/\Aside0 (kq<=k2)/\Aside0 (Kd.R (Kd.int .u8) 5 wc w.heap.size (λ_=>True) v201 t200)/\Aside0 (Kd.S k92 92 wc w.heap.size (λk_=>some k_≠(v201:Value).ownBlock) u198001 x198001_2)/\Aside0 (wc.heap[gb187]? = some (.cells #[.int .u64 x188000_2,(.slice none 0 0),.int .i64 x188002_2,.int .i64 x188003_2] 100 (0,0)))/\Aside0 (wc.heap[gb197]? = some (.cells #[.int .u64 t194,u198001,.int .i64 x198002_2,.int .i64 (l0.length:Int)] 100 (0,0)))/\Aside0 (Below w.heap.size w wc))
 case first =>
  have H:=HC21.out
  clear HC21
  by_cases c26:t204=0
  rotate_left
  ·rw [if_neg c26] at H
   have c26b0:(t204 == 0)=false:=beq_eq_false_iff_ne.mpr c26
   have c26b1:(t204 != 0)=true:=bne_iff_ne.mpr c26
   (first|rw [c26b0]|(simp only [i64_w,i32_w];rw [c26b0])|skip)
   have H':=Aside0.mk H
   clear H
   go_wp2
   go_meet
   case rel=>exact ⟨_,(false),z2_1,H',⟨z4_14⟩,⟨z4_10⟩,⟨z4_7⟩,⟨z4_1⟩,⟨z4_3⟩,⟨z4_0⟩⟩
  rw [if_pos c26] at H
  have c26b0:(t204 == 0)=true:=beq_iff_eq.mpr c26
  have c26b1:(t204 != 0)=false:=bne_eq_false_iff_eq.mpr c26
  clear c26
  (first|rw [c26b0]|(simp only [i64_w,i32_w];rw [c26b0])|skip)
  by_cases c27:t199>=10
  ·rw [if_pos c27] at H
   have c27b0:decide (10<=t199)=true:=dT_ c27
   clear c27
   have H':=Aside0.mk H
   clear H
   go_wp2
   go_meet
   case rel=>exact ⟨_,(decide (t199<=200)),z2_1,H',⟨z4_14⟩,⟨z4_10⟩,⟨z4_7⟩,⟨z4_1⟩,⟨z4_3⟩,⟨z4_0⟩⟩
  rw [if_neg c27] at H
  have c27b0:decide (10<=t199)=false:=dF_ c27
  clear c27
  have H':=Aside0.mk H
  clear H
  go_wp2
  go_meet
  case rel=>exact ⟨_,(false),z2_1,H',⟨z4_14⟩,⟨z4_10⟩,⟨z4_7⟩,⟨z4_1⟩,⟨z4_3⟩,⟨z4_0⟩⟩
 case rest =>
 clear HC21
 try clear c1
 try clear c2
 try clear p2
 try clear c5
 try clear c8
 try clear c8b0
 try clear c8b1
 try clear c9
 try clear c9b0
 try clear c9b1
 try clear c10
 try clear c10b0
 try clear c10b1
 try clear c11
 try clear c11b0
 try clear c11b1
 try clear c12
 try clear c12b0
 try clear c12b1
 try clear c13
 try clear c16
 try clear c18
 try clear c18b0
 try clear c18b1
 try clear c19
 try clear c19b0
 try clear c19b1
 try clear c22
 try clear c26
 try clear c26b0
 try clear c26b1
 try clear c27
 try clear c27b0
 try clear hcz14_0 hcz14_1 hcz14_2 hcz14_3
 try clear hcz17_0 hcz17_1 hcz17_2 hcz17_3
 try clear hcz23_0 hcz23_1 hcz23_2 hcz23_3
 try clear hfz14_0 hfz14_1 hfz14_2 hfz14_3
 try clear hfz17_0 hfz17_1 hfz17_2 hfz17_3
 try clear hfz23_0 hfz23_1 hfz23_2 hfz23_3
 try clear p2
 obtain ⟨kq,x70_20,rfl,HA,HJ20,HO_13,HO_198001,BK187,BK197,HB⟩:=hcut
 cases kq with
 | zero=>exact absurd HA.out (by simp [journal_scan.j2])
 | succ kj20 =>
 have H:=HA.out
 clear HA
 simp only [journal_scan.j2] at H
 by_cases c28:x70_20=true
 ·subst c28
  have H1:(if x198001_2.length<4398046511104 then(journal_scan.l0 kj20 l0 x11_2 t194 (x198001_2++[(⟨t199,t200⟩:S92)]) (wrap64 (x198002_2+t203)) (l0.length:Int)) else(none))=some (r1,r2,r3,r4):=by rw [if_pos rfl] at H;exact H
  clear H
  have H:=H1
  clear H1
  by_cases c29:x198001_2.length<4398046511104
  rotate_left
  ·rw [if_neg c29] at H
   exact absurd H (by simp)
  rw [if_pos c29] at H
  have LMc29:=Aside0.mk c29
  clear c29
  obtain ⟨y205,hy205⟩:∃ y_:List (S92),y_=(x198001_2++[(⟨t199,t200⟩:S92)]):=⟨_,rfl⟩
  replace H:(journal_scan.l0 kj20 l0 x11_2 t194 y205 (wrap64 (x198002_2+t203)) (l0.length:Int))=some (r1,r2,r3,r4):=by first|(rw [hy205];with_reducible exact H)|(have H2_:=(Option.bind_some _ _).symm.trans H;rw [hy205];with_reducible exact H2_)|(have H2_:=(Option.bind_some _ _).symm.trans H;with_reducible exact H2_)|with_reducible exact H|(rw [hy205];exact H)|exact H
  have Ny205:=Aside0.mk hy205
  clear hy205
  have H':=Aside0.mk H
  clear H
  have hnb30:=NB197_187.out
  have hnc30:=NB187_197.out
  obtain ⟨hcz31_0,hcz31_1,hcz31_2,hcz31_3,hfz31_0,hfz31_1,hfz31_2,hfz31_3⟩:=cz4_ BK197.out
  obtain ⟨Ao32,co32,eo32⟩:=Kd.R_slice HO_13.out
  subst eo32
  go_wp2_with (first|((with_reducible refine gate_builtin (b:=.append) (xs:=#[.tmp 82,.tmp 86]) rfl ?_);(try(refine gate_guard (by rfl) ?_;dsimp only));at_builtin;refine Kd.S_append k92 (w0:=w) w.heap.size rfl (.tmp 82) (.tmp 86) 30 92 (.agg #[(.int .i64 0),(.slice none 0 0)]) 32 rfl Try.underlying30 info92 rfl (by decide) (by omega) u198001 x198001_2 (⟨t199,t200⟩:S92) [.int .i64 t199,.slice Ao32 t200.length co32] (λ_=>True) (λk_=>some k_=(.slice Ao32 t200.length co32:Value).ownBlock) rfl rfl ?aP (λk_ hk_=>((Kd.R_mono (ok':=λk_=>((λ_=>True)) k_/\some k_≠(u198001:Value).ownBlock) (Kd.R_apart' (HO_13.out) (Kd.S_typed HO_198001.out) (by decide)) (λk_ hk=>⟨trivial,hk.2⟩))).1 k_ hk_.symm) ?aF ?aO ?aB ?aS ?aL ?_;(case aP=>exact k92_mkM _ _ _ (⟨t199,t200⟩:S92) (Kd.R_mono (Kd.R_tight rfl (Kd.R_mono (ok':=λk_=>((λ_=>True)) k_/\some k_≠(u198001:Value).ownBlock) (Kd.R_apart' (HO_13.out) (Kd.S_typed HO_198001.out) (by decide)) (λk_ hk=>⟨trivial,hk.2⟩))) (λ_ h_=>h_)));(case aB=>exact z4_0);(case aF=>exact(λ_ _=>trivial));(case aO=>exact(by(with_reducible repeat(first|apply Kd.S_alloc|apply Kd.S_drewN|apply Kd.S_drew));exact Kd.S_mono HO_198001.out (λk_ hk=>⟨trivial,λe_=>hk e_⟩)));(case aS=>exact(below_size z4_0));(case aL=>have:=LMc29.out;omega);intro v206 w33 ho hb hg hat;rw [<-Ny205.out] at ho;replace BK187:=U (blk_grown (g:=gb187) (o:=.cells #[.int .u64 x188000_2,.slice none 0 0,.int .i64 x188002_2,.int .i64 x188003_2] 100 (0,0)) z4_1 hg (Kd.S_ne HO_198001.out BK187.out (by decide)));replace BK197:=U (blk_grown (g:=gb197) (o:=.cells #[.int .u64 t194,u198001,.int .i64 x198002_2,.int .i64 (l0.length:Int)] 100 (0,0)) z4_3 hg (Kd.S_ne HO_198001.out BK197.out (by decide)));replace HB:=U (hb);have HO207:=U (ho);clear HO_198001 HO_13;clear ho hb hg hat;obtain ⟨Ao34,co34,eo34⟩:=Kd.S_slice HO207.out;subst eo34;obtain ⟨hcz35_0,hcz35_1,hcz35_2,hcz35_3,hfz35_0,hfz35_1,hfz35_2,hfz35_3⟩:=cz4_ BK197.out))
  go_roundg kj20
  case measure=>have:=HJ3.out;have:=HK2.out;have:=HJ20.out;omega
  case rel=>exact ⟨(x11_2),(x188000_2),(x188002_2),(x188003_2),(y205),(wrap64 (x198002_2+t203)),(.slice Ao34 y205.length co34),z2_1,H',⟨(by have:=HJ3.out;have:=HK2.out;have:=HJ20.out;omega)⟩,⟨(by(with_reducible repeat(first|apply Kd.S_alloc|apply Kd.S_drewN|apply Kd.S_drew));exact Kd.S_mono (Kd.S_far (p:=⟨gb197,2,none⟩) (Kd.S_far (p:=⟨gb197,1,none⟩) (Kd.S_types HO207.out BK197.out (by decide)) (λ_ hk=>hk.2) (.slice Ao34 y205.length co34)) (λ_ hk=>hk.2) (.int .i64 (wrap64 (x198002_2+t203)))) (λ_ hk=>trivial))⟩,⟨(by(with_reducible repeat(first|refine blk_drewN ?_ _|refine blk_drew ?_|refine blk_alloc ?_ _));refine blk_far ?_ NB187_197.out _;(with_reducible repeat(first|refine blk_drewN ?_ _|refine blk_drew ?_|refine blk_alloc ?_ _));refine blk_far ?_ NB187_197.out _;(with_reducible repeat(first|refine blk_drewN ?_ _|refine blk_drew ?_|refine blk_alloc ?_ _));exact BK187.out)⟩,⟨(by(with_reducible repeat(first|refine blk_drewN ?_ _|refine blk_drew ?_|refine blk_alloc ?_ _));refine blk_put (cs:=#[.int .u64 t194,.slice Ao34 y205.length co34,.int .i64 x198002_2,.int .i64 (l0.length:Int)]) ?_ 2 _ rfl;(with_reducible repeat(first|refine blk_drewN ?_ _|refine blk_drew ?_|refine blk_alloc ?_ _));refine blk_put (cs:=#[.int .u64 t194,u198001,.int .i64 x198002_2,.int .i64 (l0.length:Int)]) ?_ 1 _ rfl;(with_reducible repeat(first|refine blk_drewN ?_ _|refine blk_drew ?_|refine blk_alloc ?_ _));exact BK197.out)⟩,⟨z4_0⟩⟩
 replace c28:=Bool.eq_false_iff.mpr c28
 subst c28
 have H1:(if t204=0 then(if t199=2 then(if (t200.length:Int)=0 then(journal_scan.j3 kj20 l0 x11_2 t203 (!x11_2) t194 x198001_2 x198002_2 (l0.length:Int)) else(journal_scan.j3 kj20 l0 x11_2 t203 false t194 x198001_2 x198002_2 (l0.length:Int))) else(journal_scan.j3 kj20 l0 x11_2 t203 false t194 x198001_2 x198002_2 (l0.length:Int))) else(journal_scan.j3 kj20 l0 x11_2 t203 false t194 x198001_2 x198002_2 (l0.length:Int)))=some (r1,r2,r3,r4):=by rw [if_neg (show ¬ (false=true) by decide)] at H;exact H
 clear H
 have H:=H1
 clear H1
 have HC36:=Aside0.mk H
 clear H
 go_upto_region 11 with (fail)
 go_cut [89] (λv89 wc=>∃ (kq:Nat) (x89_35:Bool),v89 = .bool x89_35/\Aside0 (journal_scan.j3 kq l0 x11_2 t203 x89_35 t194 x198001_2 x198002_2 (l0.length:Int)=some (r1,r2,r3,r4))/\Aside0 (kq<=kj20)/\Aside0 (Kd.S k92 92 wc w.heap.size (λ_=>True) u198001 x198001_2)/\Aside0 (wc.heap[gb187]? = some (.cells #[.int .u64 x188000_2,(.slice none 0 0),.int .i64 x188002_2,.int .i64 x188003_2] 100 (0,0)))/\Aside0 (wc.heap[gb197]? = some (.cells #[.int .u64 t194,u198001,.int .i64 x198002_2,.int .i64 (l0.length:Int)] 100 (0,0)))/\Aside0 (Below w.heap.size w wc))
 case first =>
  have H:=HC36.out
  clear HC36
  by_cases c37:t204=0
  rotate_left
  ·rw [if_neg c37] at H
   have c37b0:(t204 == 0)=false:=beq_eq_false_iff_ne.mpr c37
   have c37b1:(t204 != 0)=true:=bne_iff_ne.mpr c37
   (first|rw [c37b0]|(simp only [i64_w,i32_w];rw [c37b0])|skip)
   have H':=Aside0.mk H
   clear H
   go_wp2
   go_meet
   case rel=>exact ⟨_,(false),z2_1,H',⟨z4_9⟩,⟨z4_5⟩,⟨z4_1⟩,⟨z4_3⟩,⟨z4_0⟩⟩
  rw [if_pos c37] at H
  have c37b0:(t204 == 0)=true:=beq_iff_eq.mpr c37
  have c37b1:(t204 != 0)=false:=bne_eq_false_iff_eq.mpr c37
  clear c37
  (first|rw [c37b0]|(simp only [i64_w,i32_w];rw [c37b0])|skip)
  by_cases c38:t199=2
  rotate_left
  ·rw [if_neg c38] at H
   have c38b0:(t199 == 2)=false:=beq_eq_false_iff_ne.mpr c38
   have c38b1:(t199 != 2)=true:=bne_iff_ne.mpr c38
   have H':=Aside0.mk H
   clear H
   go_wp2
   go_meet
   case rel=>exact ⟨_,(false),z2_1,H',⟨z4_9⟩,⟨z4_5⟩,⟨z4_1⟩,⟨z4_3⟩,⟨z4_0⟩⟩
  rw [if_pos c38] at H
  have c38b0:(t199 == 2)=true:=beq_iff_eq.mpr c38
  have c38b1:(t199 != 2)=false:=bne_eq_false_iff_eq.mpr c38
  clear c38
  by_cases c39:(t200.length:Int)=0
  ·rw [if_pos c39] at H
   have c39b0:((t200.length:Int) == 0)=true:=beq_iff_eq.mpr c39
   have c39b1:((t200.length:Int) != 0)=false:=bne_eq_false_iff_eq.mpr c39
   clear c39
   have H':=Aside0.mk H
   clear H
   obtain ⟨Ao40,co40,eo40⟩:=Kd.R_slice HO_13.out
   subst eo40
   go_wp2
   go_meet
   case rel=>exact ⟨_,(!x11_2),z2_1,H',⟨z4_9⟩,⟨z4_5⟩,⟨z4_1⟩,⟨z4_3⟩,⟨z4_0⟩⟩
  rw [if_neg c39] at H
  have c39b0:((t200.length:Int) == 0)=false:=beq_eq_false_iff_ne.mpr c39
  have c39b1:((t200.length:Int) != 0)=true:=bne_iff_ne.mpr c39
  have c39b2:¬ (t200=[]):=λh_=>c39 (by rw [h_];rfl)
  have H':=Aside0.mk H
  clear H
  obtain ⟨Ao41,co41,eo41⟩:=Kd.R_slice HO_13.out
  subst eo41
  go_wp2
  go_meet
  case rel=>exact ⟨_,(false),z2_1,H',⟨z4_9⟩,⟨z4_5⟩,⟨z4_1⟩,⟨z4_3⟩,⟨z4_0⟩⟩
 case rest =>
 clear HC36
 try clear c1
 try clear c2
 try clear p2
 try clear c3
 try clear c5
 try clear p6
 try clear c8
 try clear c8b0
 try clear c8b1
 try clear c9
 try clear c9b0
 try clear c9b1
 try clear c10
 try clear c10b0
 try clear c10b1
 try clear c11
 try clear c11b0
 try clear c11b1
 try clear c12
 try clear c12b0
 try clear c12b1
 try clear c13
 try clear c16
 try clear c18
 try clear c18b0
 try clear c18b1
 try clear c19
 try clear c19b0
 try clear c19b1
 try clear c22
 try clear c26
 try clear c26b0
 try clear c26b1
 try clear c27
 try clear c27b0
 try clear c28
 try clear c29
 try clear c30
 try clear c37
 try clear c37b0
 try clear c37b1
 try clear c38
 try clear c38b0
 try clear c38b1
 try clear c39
 try clear c39b0
 try clear c39b1
 try clear c39b2
 try clear hcz14_0 hcz14_1 hcz14_2 hcz14_3
 try clear hcz17_0 hcz17_1 hcz17_2 hcz17_3
 try clear hcz23_0 hcz23_1 hcz23_2 hcz23_3
 try clear hcz31_0 hcz31_1 hcz31_2 hcz31_3
 try clear hcz35_0 hcz35_1 hcz35_2 hcz35_3
 try clear hfz14_0 hfz14_1 hfz14_2 hfz14_3
 try clear hfz17_0 hfz17_1 hfz17_2 hfz17_3
 try clear hfz23_0 hfz23_1 hfz23_2 hfz23_3
 try clear hfz31_0 hfz31_1 hfz31_2 hfz31_3
 try clear hfz35_0 hfz35_1 hfz35_2 hfz35_3
 try clear p2
 obtain ⟨kq,x89_35,rfl,HA,HJ35,HO_198001,BK187,BK197,HB⟩:=hcut
 cases kq with
 | zero=>exact absurd HA.out (by simp [journal_scan.j3])
 | succ kj35 =>
 have H:=HA.out
 clear HA
 simp only [journal_scan.j3] at H
 by_cases c42:x89_35=true
 ·subst c42
  have H1:(journal_scan.l0 kj35 l0 true t194 x198001_2 (wrap64 (x198002_2+t203)) (l0.length:Int))=some (r1,r2,r3,r4):=by rw [if_pos rfl] at H;exact H
  clear H
  have H:=H1
  clear H1
  have H':=Aside0.mk H
  clear H
  have hnb43:=NB197_187.out
  have hnc43:=NB187_197.out
  obtain ⟨hcz44_0,hcz44_1,hcz44_2,hcz44_3,hfz44_0,hfz44_1,hfz44_2,hfz44_3⟩:=cz4_ BK197.out
  go_wp2
  go_roundg kj35
  case measure=>have:=HJ3.out;have:=HK2.out;have:=HJ20.out;have:=HJ35.out;omega
  case rel=>exact ⟨(true),(x188000_2),(x188002_2),(x188003_2),(x198001_2),(wrap64 (x198002_2+t203)),(u198001),z2_1,H',⟨(by have:=HJ3.out;have:=HK2.out;have:=HJ20.out;have:=HJ35.out;omega)⟩,⟨(by(with_reducible repeat(first|apply Kd.S_alloc|apply Kd.S_drewN|apply Kd.S_drew));exact Kd.S_mono (Kd.S_far (p:=⟨gb197,2,none⟩) (Kd.S_types HO_198001.out BK197.out (by decide)) (λ_ hk=>hk.2) (.int .i64 (wrap64 (x198002_2+t203)))) (λ_ hk=>trivial))⟩,⟨(by(with_reducible repeat(first|refine blk_drewN ?_ _|refine blk_drew ?_|refine blk_alloc ?_ _));refine blk_far ?_ NB187_197.out _;(with_reducible repeat(first|refine blk_drewN ?_ _|refine blk_drew ?_|refine blk_alloc ?_ _));exact BK187.out)⟩,⟨(by(with_reducible repeat(first|refine blk_drewN ?_ _|refine blk_drew ?_|refine blk_alloc ?_ _));refine blk_put (cs:=#[.int .u64 t194,u198001,.int .i64 x198002_2,.int .i64 (l0.length:Int)]) ?_ 2 _ rfl;(with_reducible repeat(first|refine blk_drewN ?_ _|refine blk_drew ?_|refine blk_alloc ?_ _));exact BK197.out)⟩,⟨z4_0⟩⟩
 replace c42:=Bool.eq_false_iff.mpr c42
 subst c42
 have H1:(if x11_2=true then(some (t194,x198001_2,x198002_2,(l0.length:Int))) else(some (0,([]:List (S92)),0,0)))=some (r1,r2,r3,r4):=by rw [if_neg (show ¬ (false=true) by decide)] at H;exact H
 clear H
 have H:=H1
 clear H1
 by_cases c45:x11_2=true
 rotate_left
 ·replace c45:=Bool.eq_false_iff.mpr c45
  subst c45
  have H1:(some (0,([]:List (S92)),0,0))=some (r1,r2,r3,r4):=by rw [if_neg (show ¬ (false=true) by decide)] at H;exact H
  clear H
  have H:=H1
  clear H1
  simp only [Option.some.injEq,Prod.mk.injEq] at H
  obtain ⟨rfl,rfl,rfl,rfl⟩:=H
  have hnb50:=NB187_197.out
  have hnc50:=NB197_187.out
  obtain ⟨hcz51_0,hcz51_1,hcz51_2,hcz51_3,hfz51_0,hfz51_1,hfz51_2,hfz51_3⟩:=cz4_ BK187.out
  go_wp2
  refine bodyPost_ret (results_cell_row rfl _ _ gb187 100 #[.int .u64 0,.slice none 0 0,.int .i64 0,.int .i64 0] (0,0) _ rfl (by(with_reducible repeat(first|refine blk_drewN ?_ _|refine blk_drew ?_|refine blk_alloc ?_ _));refine blk_put (cs:=#[.int .u64 0,.slice none 0 0,.int .i64 0,.int .i64 x188003_2]) ?_ 3 _ rfl;(with_reducible repeat(first|refine blk_drewN ?_ _|refine blk_drew ?_|refine blk_alloc ?_ _));refine blk_put (cs:=#[.int .u64 0,.slice none 0 0,.int .i64 x188002_2,.int .i64 x188003_2]) ?_ 2 _ rfl;(with_reducible repeat(first|refine blk_drewN ?_ _|refine blk_drew ?_|refine blk_alloc ?_ _));refine blk_put (cs:=#[.int .u64 0,.slice none 0 0,.int .i64 x188002_2,.int .i64 x188003_2]) ?_ 1 _ rfl;(with_reducible repeat(first|refine blk_drewN ?_ _|refine blk_drew ?_|refine blk_alloc ?_ _));refine blk_put (cs:=#[.int .u64 x188000_2,.slice none 0 0,.int .i64 x188002_2,.int .i64 x188003_2]) ?_ 0 _ rfl;(with_reducible repeat(first|refine blk_drewN ?_ _|refine blk_drew ?_|refine blk_alloc ?_ _));exact BK187.out) Try.underlying100 rfl (by kernel_rfl)) rfl ?_
  exact ⟨_,z1_10,z4_6,z4_0⟩
 subst c45
 have H1:(some (t194,x198001_2,x198002_2,(l0.length:Int)))=some (r1,r2,r3,r4):=by rw [if_pos rfl] at H;exact H
 clear H
 have H:=H1
 clear H1
 simp only [Option.some.injEq,Prod.mk.injEq] at H
 obtain ⟨rfl,rfl,rfl,rfl⟩:=H
 have hnb46:=NB197_187.out
 have hnc46:=NB187_197.out
 obtain ⟨hcz47_0,hcz47_1,hcz47_2,hcz47_3,hfz47_0,hfz47_1,hfz47_2,hfz47_3⟩:=cz4_ BK197.out;obtain ⟨hcz48_0,hcz48_1,hcz48_2,hcz48_3,hfz48_0,hfz48_1,hfz48_2,hfz48_3⟩:=cz4_ BK187.out
 obtain ⟨Ao49,co49,eo49⟩:=Kd.S_slice HO_198001.out
 subst eo49
 go_wp2
 refine bodyPost_ret (results_cell_row rfl _ _ gb187 100 #[.int .u64 t194,.slice Ao49 x198001_2.length co49,.int .i64 x198002_2,.int .i64 (l0.length:Int)] (0,0) _ rfl (by(with_reducible repeat(first|refine blk_drewN ?_ _|refine blk_drew ?_|refine blk_alloc ?_ _));refine blk_put (cs:=#[.int .u64 t194,.slice Ao49 x198001_2.length co49,.int .i64 x198002_2,.int .i64 x188003_2]) ?_ 3 _ rfl;(with_reducible repeat(first|refine blk_drewN ?_ _|refine blk_drew ?_|refine blk_alloc ?_ _));refine blk_put (cs:=#[.int .u64 t194,.slice Ao49 x198001_2.length co49,.int .i64 x188002_2,.int .i64 x188003_2]) ?_ 2 _ rfl;(with_reducible repeat(first|refine blk_drewN ?_ _|refine blk_drew ?_|refine blk_alloc ?_ _));refine blk_put (cs:=#[.int .u64 t194,.slice none 0 0,.int .i64 x188002_2,.int .i64 x188003_2]) ?_ 1 _ rfl;(with_reducible repeat(first|refine blk_drewN ?_ _|refine blk_drew ?_|refine blk_alloc ?_ _));refine blk_put (cs:=#[.int .u64 x188000_2,.slice none 0 0,.int .i64 x188002_2,.int .i64 x188003_2]) ?_ 0 _ rfl;(with_reducible repeat(first|refine blk_drewN ?_ _|refine blk_drew ?_|refine blk_alloc ?_ _));exact BK187.out) Try.underlying100 rfl (by kernel_rfl)) rfl ?_
 exact ⟨_,z1_10,(by(with_reducible repeat(first|apply Kd.S_alloc|apply Kd.S_drewN|apply Kd.S_drew));exact Kd.S_mono (Kd.S_far (p:=⟨gb187,3,none⟩) (Kd.S_far (p:=⟨gb187,2,none⟩) (Kd.S_far (p:=⟨gb187,1,none⟩) (Kd.S_far (p:=⟨gb187,0,none⟩) (Kd.S_types HO_198001.out BK187.out (by decide)) (λ_ hk=>hk.2) (.int .u64 t194)) (λ_ hk=>hk.2) (.slice Ao49 x198001_2.length co49)) (λ_ hk=>hk.2) (.int .i64 x198002_2)) (λ_ hk=>hk.2) (.int .i64 (l0.length:Int))) (λ_ hk=>trivial)),z4_0⟩
end Go.Proofs.Ytfhamdobagjakaa.PJo
