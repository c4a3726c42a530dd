/- a part -/
import Derived.Test.YtgocnchjpecafaaPEvx0
namespace Go.Proofs.Ytgocnchjpecafaa.PEv
open Go.RowKit Go.Proofs.YtgocnchjpecafaaW.PrintWords Go.Proofs.YtgocnchjpecafaaW.PrintLast Go.Proofs.YtgocnchjpecafaaW.PrintMore
attribute [local go_sem] max2_int min2_int max_two min_two max_three min_three max_four min_four
set_option linter.unusedVariables false
set_option linter.unusedSimpArgs false
set_option maxHeartbeats 8000000
set_option maxRecDepth 100000
theorem z9_0 {P:Prop} (h:P:=by repeat(first|(with_reducible first|exact HB.out|apply below_alloc|apply pw_below_drewN|apply below_drew1|refine below_set ?_ GE213.out)|exact HB.out)):P:=h
theorem z9_1 {P:Prop} (h:P:=by(with_reducible repeat(first|refine blk_drewN ?_ _|refine blk_drew ?_|refine blk_alloc ?_ _));exact BK213.out):P:=h
theorem z9_2 {P:Prop} (h:P:=by first|rfl|(simp [errW_none,errW_some]<;>rfl)|(simp [*,errW_none,errW_some]<;>rfl)):P:=h
theorem z9_3 {P:Prop} (h:P:=by first|rfl|(simp;done)|(simp [*];done)):P:=h
theorem z9_4 {P:Prop} (h:P:=by repeat(first|(with_reducible first|exact HB.out|apply below_alloc|apply pw_below_drewN|apply below_drew1)|exact HB.out)):P:=h
theorem z9_5 {P:Prop} (h:P:=by have:=HJ1.out;have:=HJ15.out;first|omega|exact Nat.le_refl _):P:=h
theorem z9_6 {P:Prop} (h:P:=by first|omega|exact Nat.le_refl _):P:=h
mutual
def r05_MayEffect.j0:Nat->Bool->Int->Int->ByteArray->Int->Int->ByteArray->Option (Bool)
 | 0,_,_,_,_,_,_,_=>none
 | k+1,x32,x214000,x214001,x214002,x214003,x214004,x214005=>if x32=true then(some false) else(if x214000=3 then(r05_MayEffect.j1 k true x214000 x214001 x214002 x214003 x214004 x214005) else(if x214000=4 then(r05_MayEffect.j1 k true x214000 x214001 x214002 x214003 x214004 x214005) else(r05_MayEffect.j1 k (x214000 == 5) x214000 x214001 x214002 x214003 x214004 x214005)))
def r05_MayEffect.j1:Nat->Bool->Int->Int->ByteArray->Int->Int->ByteArray->Option (Bool)
 | 0,_,_,_,_,_,_,_=>none
 | k+1,x3,x214000,x214001,x214002,x214003,x214004,x214005=>if x3=true then(if x214003<1 then(r05_MayEffect.j2 k true x214000 x214001 x214002 x214003 x214004 x214005) else(if x214003 > 1000 then(r05_MayEffect.j2 k true x214000 x214001 x214002 x214003 x214004 x214005) else(r05_MayEffect.j2 k false x214000 x214001 x214002 x214003 x214004 x214005))) else(r05_MayEffect.j2 k (x214003 != 0) x214000 x214001 x214002 x214003 x214004 x214005)
def r05_MayEffect.j2:Nat->Bool->Int->Int->ByteArray->Int->Int->ByteArray->Option (Bool)
 | 0,_,_,_,_,_,_,_=>none
 | k+1,x65,x214000,x214001,x214002,x214003,x214004,x214005=>if x65=true then(some false) else(if x214000=5 then(if x214004<1 then(some false) else(if x214004 > 5 then(some false) else(if x214005.toList=([]:List UInt8) then(some true) else(if x214000=6 then(some (decide ((x214005.size:Int)<=64))) else(some false))))) else(if x214004=0 then(if x214005.toList=([]:List UInt8) then(some true) else(if x214000=6 then(some (decide ((x214005.size:Int)<=64))) else(some false))) else(some false)))
end
def r05_MayEffect.f (k:Nat) (a0_0:Int) (a0_1:Int) (a0_2:ByteArray) (a0_3:Int) (a0_4:Int) (a0_5:ByteArray):Option (Bool):=if a0_2.toList=([]:List UInt8) then(r05_MayEffect.j0 k true a0_0 a0_1 a0_2 a0_3 a0_4 a0_5) else(if (a0_2.size:Int) > 32 then(r05_MayEffect.j0 k true a0_0 a0_1 a0_2 a0_3 a0_4 a0_5) else(if a0_1<0 then(r05_MayEffect.j0 k true a0_0 a0_1 a0_2 a0_3 a0_4 a0_5) else(if a0_1 > 15 then(r05_MayEffect.j0 k true a0_0 a0_1 a0_2 a0_3 a0_4 a0_5) else(if a0_0<1 then(r05_MayEffect.j0 k true a0_0 a0_1 a0_2 a0_3 a0_4 a0_5) else(r05_MayEffect.j0 k (decide (a0_0 > 6)) a0_0 a0_1 a0_2 a0_3 a0_4 a0_5)))))
theorem r05_MayEffect.calls (k:Nat) (a0_0:Int) (a0_1:Int) (a0_2:ByteArray) (a0_3:Int) (a0_4:Int) (a0_5:ByteArray) (r:Bool) (w:World) (h:r05_MayEffect.f k a0_0 a0_1 a0_2 a0_3 a0_4 a0_5=some r) :
  Calls Try.prog 25 #[.agg #[.int .i64 a0_0,.int .i64 a0_1,.string a0_2,.int .i64 a0_3,.int .i64 a0_4,.string a0_5]] w λe w'=>e = .returned (.bool r)/\Below w.heap.size w w':=by
 have hu48:=Try.underlying48
 have HB:=U (Below.refl w.heap.size w)
 have H:(if a0_2.toList=([]:List UInt8) then(r05_MayEffect.j0 k true a0_0 a0_1 a0_2 a0_3 a0_4 a0_5) else(if (a0_2.size:Int) > 32 then(r05_MayEffect.j0 k true a0_0 a0_1 a0_2 a0_3 a0_4 a0_5) else(if a0_1<0 then(r05_MayEffect.j0 k true a0_0 a0_1 a0_2 a0_3 a0_4 a0_5) else(if a0_1 > 15 then(r05_MayEffect.j0 k true a0_0 a0_1 a0_2 a0_3 a0_4 a0_5) else(if a0_0<1 then(r05_MayEffect.j0 k true a0_0 a0_1 a0_2 a0_3 a0_4 a0_5) else(r05_MayEffect.j0 k (decide (a0_0 > 6)) a0_0 a0_1 a0_2 a0_3 a0_4 a0_5))))))=some r:=h
 clear h
 have HC2:=Aside0.mk H
 clear H
 go_enter Try.func25,Try.ntmps25
 go_upto_region 1 with (first|((with_reducible refine gate_dst (N:=1) rfl ?_);(try(refine gate_guard (by rfl) ?_;dsimp only));refine box_event ?hg (N:=1) ?hd (cs:=#[.int .i64 a0_0,.int .i64 a0_1,.string a0_2,.int .i64 a0_3,.int .i64 a0_4,.string a0_5]) (t:=48) ?hr ?_;(case hd=>rfl);(case hg=>rfl);(case hr=>first|(go_simp;done)|(go_simp;rfl));intro gb213 hg w3 hbox hb;have BK213:=U (hbox);have GW213:=U ((by rw [hg];exact(below_size z9_4):w.heap.size<=gb213));have GE213:=U ((by rw [hg];exact(below_size z9_4):w.heap.size<=gb213));replace HB:=U (below_step z9_4 hb);clear hb hbox hg))
 (try simp only [Act.put,List.setIfInBounds_toArray,List.set_cons_zero,List.set_cons_succ])
 go_cut [32] (λv32 wc=>∃ (kq:Nat) (x32_1:Bool),v32 = .bool x32_1/\Aside0 (r05_MayEffect.j0 kq x32_1 a0_0 a0_1 a0_2 a0_3 a0_4 a0_5=some r)/\Aside0 (kq<=k)/\Aside0 (wc.heap[gb213]? = some (.cells #[.int .i64 a0_0,.int .i64 a0_1,.string a0_2,.int .i64 a0_3,.int .i64 a0_4,.string a0_5] 48 (0,0)))/\Aside0 (Below w.heap.size w wc))
 case first =>
  have H:=HC2.out
  clear HC2
  by_cases c4:a0_2.toList=([]:List UInt8)
  ·rw [if_pos c4] at H
   have c4b0:(a0_2.toList == ([]:List UInt8))=true:=beq_iff_eq.mpr c4
   have c4b1:(a0_2.toList != ([]:List UInt8))=false:=bne_eq_false_iff_eq.mpr c4
   clear c4
   (first|rw [c4b0]|(simp only [i64_w,i32_w];rw [c4b0])|skip)
   have H':=Aside0.mk H
   clear H
   obtain ⟨hcz5_0,hcz5_1,hcz5_2,hcz5_3,hcz5_4,hcz5_5,hfz5_0,hfz5_1,hfz5_2,hfz5_3,hfz5_4,hfz5_5⟩:=cz6_ BK213.out
   go_wp2
   go_meet
   case rel=>exact ⟨_,(true),z9_3,H',⟨z9_6⟩,⟨z9_1⟩,⟨z9_0⟩⟩
  rw [if_neg c4] at H
  have c4b0:(a0_2.toList == ([]:List UInt8))=false:=beq_eq_false_iff_ne.mpr c4
  have c4b1:(a0_2.toList != ([]:List UInt8))=true:=bne_iff_ne.mpr c4
  (first|rw [c4b0]|(simp only [i64_w,i32_w];rw [c4b0])|skip)
  by_cases c6:(a0_2.size:Int) > 32
  ·rw [if_pos c6] at H
   have c6b0:decide (32<(a0_2.size:Int))=true:=dT_ c6
   have c6b1:decide (32<a0_2.size)=true:=dT_ (by omega)
   clear c6
   have H':=Aside0.mk H
   clear H
   obtain ⟨hcz7_0,hcz7_1,hcz7_2,hcz7_3,hcz7_4,hcz7_5,hfz7_0,hfz7_1,hfz7_2,hfz7_3,hfz7_4,hfz7_5⟩:=cz6_ BK213.out
   go_wp2
   go_meet
   case rel=>exact ⟨_,(true),z9_3,H',⟨z9_6⟩,⟨z9_1⟩,⟨z9_0⟩⟩
  rw [if_neg c6] at H
  have c6b0:decide (32<(a0_2.size:Int))=false:=dF_ c6
  have c6b1:decide (32<a0_2.size)=false:=dF_ (by omega)
  clear c6
  by_cases c8:a0_1<0
  ·rw [if_pos c8] at H
   have c8b0:decide (a0_1<0)=true:=dT_ c8
   clear c8
   have H':=Aside0.mk H
   clear H
   obtain ⟨hcz9_0,hcz9_1,hcz9_2,hcz9_3,hcz9_4,hcz9_5,hfz9_0,hfz9_1,hfz9_2,hfz9_3,hfz9_4,hfz9_5⟩:=cz6_ BK213.out
   go_wp2
   go_meet
   case rel=>exact ⟨_,(true),z9_3,H',⟨z9_6⟩,⟨z9_1⟩,⟨z9_0⟩⟩
  rw [if_neg c8] at H
  have c8b0:decide (a0_1<0)=false:=dF_ c8
  clear c8
  by_cases c10:a0_1 > 15
  ·rw [if_pos c10] at H
   have c10b0:decide (15<a0_1)=true:=dT_ c10
   clear c10
   have H':=Aside0.mk H
   clear H
   obtain ⟨hcz11_0,hcz11_1,hcz11_2,hcz11_3,hcz11_4,hcz11_5,hfz11_0,hfz11_1,hfz11_2,hfz11_3,hfz11_4,hfz11_5⟩:=cz6_ BK213.out
   go_wp2
   go_meet
   case rel=>exact ⟨_,(true),z9_3,H',⟨z9_6⟩,⟨z9_1⟩,⟨z9_0⟩⟩
  rw [if_neg c10] at H
  have c10b0:decide (15<a0_1)=false:=dF_ c10
  clear c10
  by_cases c12:a0_0<1
  ·rw [if_pos c12] at H
   have c12b0:decide (a0_0<1)=true:=dT_ c12
   clear c12
   have H':=Aside0.mk H
   clear H
   obtain ⟨hcz13_0,hcz13_1,hcz13_2,hcz13_3,hcz13_4,hcz13_5,hfz13_0,hfz13_1,hfz13_2,hfz13_3,hfz13_4,hfz13_5⟩:=cz6_ BK213.out
   go_wp2
   go_meet
   case rel=>exact ⟨_,(true),z9_3,H',⟨z9_6⟩,⟨z9_1⟩,⟨z9_0⟩⟩
  rw [if_neg c12] at H
  have c12b0:decide (a0_0<1)=false:=dF_ c12
  clear c12
  have H':=Aside0.mk H
  clear H
  obtain ⟨hcz14_0,hcz14_1,hcz14_2,hcz14_3,hcz14_4,hcz14_5,hfz14_0,hfz14_1,hfz14_2,hfz14_3,hfz14_4,hfz14_5⟩:=cz6_ BK213.out
  go_wp2
  go_meet
  case rel=>exact ⟨_,(decide (a0_0 > 6)),z9_3,H',⟨z9_6⟩,⟨z9_1⟩,⟨z9_0⟩⟩
 case rest =>
 clear HC2
 try clear c1
 try clear c2
 try clear p2
 try clear c4
 try clear c4b0
 try clear c4b1
 try clear c6
 try clear c6b0
 try clear c6b1
 try clear c8
 try clear c8b0
 try clear c10
 try clear c10b0
 try clear c12
 try clear c12b0
 try clear hcz11_0 hcz11_1 hcz11_2 hcz11_3 hcz11_4 hcz11_5
 try clear hcz13_0 hcz13_1 hcz13_2 hcz13_3 hcz13_4 hcz13_5
 try clear hcz14_0 hcz14_1 hcz14_2 hcz14_3 hcz14_4 hcz14_5
 try clear hcz5_0 hcz5_1 hcz5_2 hcz5_3 hcz5_4 hcz5_5
 try clear hcz7_0 hcz7_1 hcz7_2 hcz7_3 hcz7_4 hcz7_5
 try clear hcz9_0 hcz9_1 hcz9_2 hcz9_3 hcz9_4 hcz9_5
 try clear hfz11_0 hfz11_1 hfz11_2 hfz11_3 hfz11_4 hfz11_5
 try clear hfz13_0 hfz13_1 hfz13_2 hfz13_3 hfz13_4 hfz13_5
 try clear hfz14_0 hfz14_1 hfz14_2 hfz14_3 hfz14_4 hfz14_5
 try clear hfz5_0 hfz5_1 hfz5_2 hfz5_3 hfz5_4 hfz5_5
 try clear hfz7_0 hfz7_1 hfz7_2 hfz7_3 hfz7_4 hfz7_5
 try clear hfz9_0 hfz9_1 hfz9_2 hfz9_3 hfz9_4 hfz9_5
 obtain ⟨kq,x32_1,rfl,HA,HJ1,BK213,HB⟩:=hcut
 cases kq with
 | zero=>exact absurd HA.out (by simp [r05_MayEffect.j0])
 | succ kj1 =>
 have H:=HA.out
 clear HA
 simp only [r05_MayEffect.j0] at H
 by_cases c15:x32_1=true
 ·subst c15
  have H1:(some false)=some r:=by rw [if_pos rfl] at H;exact H
  clear H
  have H:=H1
  clear H1
  obtain rfl:=sI_ H
  go_wp2
  go_ret
  exact ⟨z9_2,z9_0⟩
 replace c15:=Bool.eq_false_iff.mpr c15
 subst c15
 have H1:(if a0_0=3 then(r05_MayEffect.j1 kj1 true a0_0 a0_1 a0_2 a0_3 a0_4 a0_5) else(if a0_0=4 then(r05_MayEffect.j1 kj1 true a0_0 a0_1 a0_2 a0_3 a0_4 a0_5) else(r05_MayEffect.j1 kj1 (a0_0 == 5) a0_0 a0_1 a0_2 a0_3 a0_4 a0_5)))=some r:=by rw [if_neg (show ¬ (false=true) by decide)] at H;exact H
 clear H
 have H:=H1
 clear H1
 have HC16:=Aside0.mk H
 clear H
 go_upto_region 3 with (fail)
 go_cut [3] (λv3 wc=>∃ (kq:Nat) (x3_15:Bool),v3 = .bool x3_15/\Aside0 (r05_MayEffect.j1 kq x3_15 a0_0 a0_1 a0_2 a0_3 a0_4 a0_5=some r)/\Aside0 (kq<=kj1)/\Aside0 (wc.heap[gb213]? = some (.cells #[.int .i64 a0_0,.int .i64 a0_1,.string a0_2,.int .i64 a0_3,.int .i64 a0_4,.string a0_5] 48 (0,0)))/\Aside0 (Below w.heap.size w wc))
 case first =>
  have H:=HC16.out
  clear HC16
  by_cases c17:a0_0=3
  ·rw [if_pos c17] at H
   have c17b0:(a0_0 == 3)=true:=beq_iff_eq.mpr c17
   have c17b1:(a0_0 != 3)=false:=bne_eq_false_iff_eq.mpr c17
   clear c17
   (first|rw [c17b0]|(simp only [i64_w,i32_w];rw [c17b0])|skip)
   have H':=Aside0.mk H
   clear H
   obtain ⟨hcz18_0,hcz18_1,hcz18_2,hcz18_3,hcz18_4,hcz18_5,hfz18_0,hfz18_1,hfz18_2,hfz18_3,hfz18_4,hfz18_5⟩:=cz6_ BK213.out
   go_wp2
   go_meet
   case rel=>exact ⟨_,(true),z9_3,H',⟨(by have:=HJ1.out;first|omega|exact Nat.le_refl _)⟩,⟨z9_1⟩,⟨z9_0⟩⟩
  rw [if_neg c17] at H
  have c17b0:(a0_0 == 3)=false:=beq_eq_false_iff_ne.mpr c17
  have c17b1:(a0_0 != 3)=true:=bne_iff_ne.mpr c17
  (first|rw [c17b0]|(simp only [i64_w,i32_w];rw [c17b0])|skip)
  by_cases c19:a0_0=4
  rotate_left
  ·rw [if_neg c19] at H
   have c19b0:(a0_0 == 4)=false:=beq_eq_false_iff_ne.mpr c19
   have c19b1:(a0_0 != 4)=true:=bne_iff_ne.mpr c19
   have H':=Aside0.mk H
   clear H
   obtain ⟨hcz21_0,hcz21_1,hcz21_2,hcz21_3,hcz21_4,hcz21_5,hfz21_0,hfz21_1,hfz21_2,hfz21_3,hfz21_4,hfz21_5⟩:=cz6_ BK213.out
   go_wp2
   go_meet
   case rel=>exact ⟨_,((a0_0 == 5)),z9_3,H',⟨(by have:=HJ1.out;first|omega|exact Nat.le_refl _)⟩,⟨z9_1⟩,⟨z9_0⟩⟩
  rw [if_pos c19] at H
  have c19b0:(a0_0 == 4)=true:=beq_iff_eq.mpr c19
  have c19b1:(a0_0 != 4)=false:=bne_eq_false_iff_eq.mpr c19
  clear c19
  have H':=Aside0.mk H
  clear H
  obtain ⟨hcz20_0,hcz20_1,hcz20_2,hcz20_3,hcz20_4,hcz20_5,hfz20_0,hfz20_1,hfz20_2,hfz20_3,hfz20_4,hfz20_5⟩:=cz6_ BK213.out
  go_wp2
  go_meet
  case rel=>exact ⟨_,(true),z9_3,H',⟨(by have:=HJ1.out;first|omega|exact Nat.le_refl _)⟩,⟨z9_1⟩,⟨z9_0⟩⟩
 case rest =>
 clear HC16
 try clear c1
 try clear c2
 try clear p2
 try clear c4
 try clear c4b0
 try clear c4b1
 try clear c6
 try clear c6b0
 try clear c6b1
 try clear c8
 try clear c8b0
 try clear c10
 try clear c10b0
 try clear c12
 try clear c12b0
 try clear c15
 try clear c17
 try clear c17b0
 try clear c17b1
 try clear c19
 try clear c19b0
 try clear c19b1
 try clear hcz11_0 hcz11_1 hcz11_2 hcz11_3 hcz11_4 hcz11_5
 try clear hcz13_0 hcz13_1 hcz13_2 hcz13_3 hcz13_4 hcz13_5
 try clear hcz14_0 hcz14_1 hcz14_2 hcz14_3 hcz14_4 hcz14_5
 try clear hcz18_0 hcz18_1 hcz18_2 hcz18_3 hcz18_4 hcz18_5
 try clear hcz20_0 hcz20_1 hcz20_2 hcz20_3 hcz20_4 hcz20_5
 try clear hcz21_0 hcz21_1 hcz21_2 hcz21_3 hcz21_4 hcz21_5
 try clear hcz5_0 hcz5_1 hcz5_2 hcz5_3 hcz5_4 hcz5_5
 try clear hcz7_0 hcz7_1 hcz7_2 hcz7_3 hcz7_4 hcz7_5
 try clear hcz9_0 hcz9_1 hcz9_2 hcz9_3 hcz9_4 hcz9_5
 try clear hfz11_0 hfz11_1 hfz11_2 hfz11_3 hfz11_4 hfz11_5
 try clear hfz13_0 hfz13_1 hfz13_2 hfz13_3 hfz13_4 hfz13_5
 try clear hfz14_0 hfz14_1 hfz14_2 hfz14_3 hfz14_4 hfz14_5
 try clear hfz18_0 hfz18_1 hfz18_2 hfz18_3 hfz18_4 hfz18_5
 try clear hfz20_0 hfz20_1 hfz20_2 hfz20_3 hfz20_4 hfz20_5
 try clear hfz21_0 hfz21_1 hfz21_2 hfz21_3 hfz21_4 hfz21_5
 try clear hfz5_0 hfz5_1 hfz5_2 hfz5_3 hfz5_4 hfz5_5
 try clear hfz7_0 hfz7_1 hfz7_2 hfz7_3 hfz7_4 hfz7_5
 try clear hfz9_0 hfz9_1 hfz9_2 hfz9_3 hfz9_4 hfz9_5
 try clear p2
 obtain ⟨kq,x3_15,rfl,HA,HJ15,BK213,HB⟩:=hcut
 cases kq with
 | zero=>exact absurd HA.out (by simp [r05_MayEffect.j1])
 | succ kj15 =>
 have H:=HA.out
 clear HA
 simp only [r05_MayEffect.j1] at H
 have HC22:=Aside0.mk H
 clear H
 go_upto_region 4 with (fail)
 go_cut [65] (λv65 wc=>∃ (kq:Nat) (x65_21:Bool),v65 = .bool x65_21/\Aside0 (r05_MayEffect.j2 kq x65_21 a0_0 a0_1 a0_2 a0_3 a0_4 a0_5=some r)/\Aside0 (kq<=kj15)/\Aside0 (wc.heap[gb213]? = some (.cells #[.int .i64 a0_0,.int .i64 a0_1,.string a0_2,.int .i64 a0_3,.int .i64 a0_4,.string a0_5] 48 (0,0)))/\Aside0 (Below w.heap.size w wc))
 case first =>
  have H:=HC22.out
  clear HC22
  by_cases c23:x3_15=true
  rotate_left
  ·replace c23:=Bool.eq_false_iff.mpr c23
   subst c23
   have H1:(r05_MayEffect.j2 kj15 (a0_3 != 0) a0_0 a0_1 a0_2 a0_3 a0_4 a0_5)=some r:=by rw [if_neg (show ¬ (false=true) by decide)] at H;exact H
   clear H
   have H:=H1
   clear H1
   have H':=Aside0.mk H
   clear H
   obtain ⟨hcz29_0,hcz29_1,hcz29_2,hcz29_3,hcz29_4,hcz29_5,hfz29_0,hfz29_1,hfz29_2,hfz29_3,hfz29_4,hfz29_5⟩:=cz6_ BK213.out
   go_wp2
   go_meet
   case rel=>exact ⟨_,((a0_3 != 0)),z9_3,H',⟨z9_5⟩,⟨z9_1⟩,⟨z9_0⟩⟩
  subst c23
  have H1:(if a0_3<1 then(r05_MayEffect.j2 kj15 true a0_0 a0_1 a0_2 a0_3 a0_4 a0_5) else(if a0_3 > 1000 then(r05_MayEffect.j2 kj15 true a0_0 a0_1 a0_2 a0_3 a0_4 a0_5) else(r05_MayEffect.j2 kj15 false a0_0 a0_1 a0_2 a0_3 a0_4 a0_5)))=some r:=by rw [if_pos rfl] at H;exact H
  clear H
  have H:=H1
  clear H1
  by_cases c24:a0_3<1
  ·rw [if_pos c24] at H
   have c24b0:decide (a0_3<1)=true:=dT_ c24
   clear c24
   (first|rw [c24b0]|(simp only [i64_w,i32_w];rw [c24b0])|skip)
   have H':=Aside0.mk H
   clear H
   obtain ⟨hcz25_0,hcz25_1,hcz25_2,hcz25_3,hcz25_4,hcz25_5,hfz25_0,hfz25_1,hfz25_2,hfz25_3,hfz25_4,hfz25_5⟩:=cz6_ BK213.out
   go_wp2
   go_meet
   case rel=>exact ⟨_,(true),z9_3,H',⟨z9_5⟩,⟨z9_1⟩,⟨z9_0⟩⟩
  rw [if_neg c24] at H
  have c24b0:decide (a0_3<1)=false:=dF_ c24
  clear c24
  (first|rw [c24b0]|(simp only [i64_w,i32_w];rw [c24b0])|skip)
  by_cases c26:a0_3 > 1000
  ·rw [if_pos c26] at H
   have c26b0:decide (1000<a0_3)=true:=dT_ c26
   clear c26
   have H':=Aside0.mk H
   clear H
   obtain ⟨hcz27_0,hcz27_1,hcz27_2,hcz27_3,hcz27_4,hcz27_5,hfz27_0,hfz27_1,hfz27_2,hfz27_3,hfz27_4,hfz27_5⟩:=cz6_ BK213.out
   go_wp2
   go_meet
   case rel=>exact ⟨_,(true),z9_3,H',⟨z9_5⟩,⟨z9_1⟩,⟨z9_0⟩⟩
  rw [if_neg c26] at H
  have c26b0:decide (1000<a0_3)=false:=dF_ c26
  clear c26
  have H':=Aside0.mk H
  clear H
  obtain ⟨hcz28_0,hcz28_1,hcz28_2,hcz28_3,hcz28_4,hcz28_5,hfz28_0,hfz28_1,hfz28_2,hfz28_3,hfz28_4,hfz28_5⟩:=cz6_ BK213.out
  go_wp2
  go_meet
  case rel=>exact ⟨_,(false),z9_3,H',⟨z9_5⟩,⟨z9_1⟩,⟨z9_0⟩⟩
 case rest =>
 clear HC22
 try clear c1
 try clear c2
 try clear p2
 try clear c4
 try clear c4b0
 try clear c4b1
 try clear c6
 try clear c6b0
 try clear c6b1
 try clear c8
 try clear c8b0
 try clear c10
 try clear c10b0
 try clear c12
 try clear c12b0
 try clear c15
 try clear c17
 try clear c17b0
 try clear c17b1
 try clear c19
 try clear c19b0
 try clear c19b1
 try clear c23
 try clear c24
 try clear c24b0
 try clear c25
 try clear c26
 try clear c26b0
 try clear hcz11_0 hcz11_1 hcz11_2 hcz11_3 hcz11_4 hcz11_5
 try clear hcz13_0 hcz13_1 hcz13_2 hcz13_3 hcz13_4 hcz13_5
 try clear hcz14_0 hcz14_1 hcz14_2 hcz14_3 hcz14_4 hcz14_5
 try clear hcz18_0 hcz18_1 hcz18_2 hcz18_3 hcz18_4 hcz18_5
 try clear hcz20_0 hcz20_1 hcz20_2 hcz20_3 hcz20_4 hcz20_5
 try clear hcz21_0 hcz21_1 hcz21_2 hcz21_3 hcz21_4 hcz21_5
 try clear hcz25_0 hcz25_1 hcz25_2 hcz25_3 hcz25_4 hcz25_5
 try clear hcz27_0 hcz27_1 hcz27_2 hcz27_3 hcz27_4 hcz27_5
 try clear hcz28_0 hcz28_1 hcz28_2 hcz28_3 hcz28_4 hcz28_5
 try clear hcz29_0 hcz29_1 hcz29_2 hcz29_3 hcz29_4 hcz29_5
 try clear hcz5_0 hcz5_1 hcz5_2 hcz5_3 hcz5_4 hcz5_5
 try clear hcz7_0 hcz7_1 hcz7_2 hcz7_3 hcz7_4 hcz7_5
 try clear hcz9_0 hcz9_1 hcz9_2 hcz9_3 hcz9_4 hcz9_5
 try clear hfz11_0 hfz11_1 hfz11_2 hfz11_3 hfz11_4 hfz11_5
 try clear hfz13_0 hfz13_1 hfz13_2 hfz13_3 hfz13_4 hfz13_5
 try clear hfz14_0 hfz14_1 hfz14_2 hfz14_3 hfz14_4 hfz14_5
 try clear hfz18_0 hfz18_1 hfz18_2 hfz18_3 hfz18_4 hfz18_5
 try clear hfz20_0 hfz20_1 hfz20_2 hfz20_3 hfz20_4 hfz20_5
 try clear hfz21_0 hfz21_1 hfz21_2 hfz21_3 hfz21_4 hfz21_5
 try clear hfz25_0 hfz25_1 hfz25_2 hfz25_3 hfz25_4 hfz25_5
 try clear hfz27_0 hfz27_1 hfz27_2 hfz27_3 hfz27_4 hfz27_5
 try clear hfz28_0 hfz28_1 hfz28_2 hfz28_3 hfz28_4 hfz28_5
 try clear hfz29_0 hfz29_1 hfz29_2 hfz29_3 hfz29_4 hfz29_5
 try clear hfz5_0 hfz5_1 hfz5_2 hfz5_3 hfz5_4 hfz5_5
 try clear hfz7_0 hfz7_1 hfz7_2 hfz7_3 hfz7_4 hfz7_5
 try clear hfz9_0 hfz9_1 hfz9_2 hfz9_3 hfz9_4 hfz9_5
 try clear p2
 obtain ⟨kq,x65_21,rfl,HA,HJ21,BK213,HB⟩:=hcut
 cases kq with
 | zero=>exact absurd HA.out (by simp [r05_MayEffect.j2])
 | succ kj21 =>
 have H:=HA.out
 clear HA
 simp only [r05_MayEffect.j2] at H
 by_cases c30:x65_21=true
 ·subst c30
  have H1:(some false)=some r:=by rw [if_pos rfl] at H;exact H
  clear H
  have H:=H1
  clear H1
  obtain rfl:=sI_ H
  go_wp2
  go_ret
  exact ⟨z9_2,z9_0⟩
 replace c30:=Bool.eq_false_iff.mpr c30
 subst c30
 have H1:(if a0_0=5 then(if a0_4<1 then(some false) else(if a0_4 > 5 then(some false) else(if a0_5.toList=([]:List UInt8) then(some true) else(if a0_0=6 then(some (decide ((a0_5.size:Int)<=64))) else(some false))))) else(if a0_4=0 then(if a0_5.toList=([]:List UInt8) then(some true) else(if a0_0=6 then(some (decide ((a0_5.size:Int)<=64))) else(some false))) else(some false)))=some r:=by rw [if_neg (show ¬ (false=true) by decide)] at H;exact H
 clear H
 have H:=H1
 clear H1
 by_cases c31:a0_0=5
 rotate_left
 ·rw [if_neg c31] at H
  have c31b0:(a0_0 == 5)=false:=beq_eq_false_iff_ne.mpr c31
  have c31b1:(a0_0 != 5)=true:=bne_iff_ne.mpr c31
  by_cases c41:a0_4=0
  rotate_left
  ·rw [if_neg c41] at H
   have c41b0:(a0_4 == 0)=false:=beq_eq_false_iff_ne.mpr c41
   have c41b1:(a0_4 != 0)=true:=bne_iff_ne.mpr c41
   obtain rfl:=sI_ H
   obtain ⟨hcz47_0,hcz47_1,hcz47_2,hcz47_3,hcz47_4,hcz47_5,hfz47_0,hfz47_1,hfz47_2,hfz47_3,hfz47_4,hfz47_5⟩:=cz6_ BK213.out
   go_wp2
   go_ret
   exact ⟨z9_2,z9_0⟩
  rw [if_pos c41] at H
  have c41b0:(a0_4 == 0)=true:=beq_iff_eq.mpr c41
  have c41b1:(a0_4 != 0)=false:=bne_eq_false_iff_eq.mpr c41
  clear c41
  by_cases c42:a0_5.toList=([]:List UInt8)
  ·rw [if_pos c42] at H
   have c42b0:(a0_5.toList == ([]:List UInt8))=true:=beq_iff_eq.mpr c42
   have c42b1:(a0_5.toList != ([]:List UInt8))=false:=bne_eq_false_iff_eq.mpr c42
   clear c42
   obtain rfl:=sI_ H
   obtain ⟨hcz43_0,hcz43_1,hcz43_2,hcz43_3,hcz43_4,hcz43_5,hfz43_0,hfz43_1,hfz43_2,hfz43_3,hfz43_4,hfz43_5⟩:=cz6_ BK213.out
   go_wp2
   go_ret
   exact ⟨z9_2,z9_0⟩
  rw [if_neg c42] at H
  have c42b0:(a0_5.toList == ([]:List UInt8))=false:=beq_eq_false_iff_ne.mpr c42
  have c42b1:(a0_5.toList != ([]:List UInt8))=true:=bne_iff_ne.mpr c42
  by_cases c44:a0_0=6
  rotate_left
  ·rw [if_neg c44] at H
   have c44b0:(a0_0 == 6)=false:=beq_eq_false_iff_ne.mpr c44
   have c44b1:(a0_0 != 6)=true:=bne_iff_ne.mpr c44
   obtain rfl:=sI_ H
   obtain ⟨hcz46_0,hcz46_1,hcz46_2,hcz46_3,hcz46_4,hcz46_5,hfz46_0,hfz46_1,hfz46_2,hfz46_3,hfz46_4,hfz46_5⟩:=cz6_ BK213.out
   go_wp2
   go_ret
   exact ⟨z9_2,z9_0⟩
  rw [if_pos c44] at H
  have c44b0:(a0_0 == 6)=true:=beq_iff_eq.mpr c44
  have c44b1:(a0_0 != 6)=false:=bne_eq_false_iff_eq.mpr c44
  clear c44
  obtain rfl:=sI_ H
  obtain ⟨hcz45_0,hcz45_1,hcz45_2,hcz45_3,hcz45_4,hcz45_5,hfz45_0,hfz45_1,hfz45_2,hfz45_3,hfz45_4,hfz45_5⟩:=cz6_ BK213.out
  go_wp2
  go_ret
  exact ⟨z9_2,z9_0⟩
 rw [if_pos c31] at H
 have c31b0:(a0_0 == 5)=true:=beq_iff_eq.mpr c31
 have c31b1:(a0_0 != 5)=false:=bne_eq_false_iff_eq.mpr c31
 clear c31
 by_cases c32:a0_4<1
 ·rw [if_pos c32] at H
  have c32b0:decide (a0_4<1)=true:=dT_ c32
  clear c32
  obtain rfl:=sI_ H
  obtain ⟨hcz33_0,hcz33_1,hcz33_2,hcz33_3,hcz33_4,hcz33_5,hfz33_0,hfz33_1,hfz33_2,hfz33_3,hfz33_4,hfz33_5⟩:=cz6_ BK213.out
  go_wp2
  go_ret
  exact ⟨z9_2,z9_0⟩
 rw [if_neg c32] at H
 have c32b0:decide (a0_4<1)=false:=dF_ c32
 clear c32
 by_cases c34:a0_4 > 5
 ·rw [if_pos c34] at H
  have c34b0:decide (5<a0_4)=true:=dT_ c34
  clear c34
  obtain rfl:=sI_ H
  obtain ⟨hcz35_0,hcz35_1,hcz35_2,hcz35_3,hcz35_4,hcz35_5,hfz35_0,hfz35_1,hfz35_2,hfz35_3,hfz35_4,hfz35_5⟩:=cz6_ BK213.out
  go_wp2
  go_ret
  exact ⟨z9_2,z9_0⟩
 rw [if_neg c34] at H
 have c34b0:decide (5<a0_4)=false:=dF_ c34
 clear c34
 by_cases c36:a0_5.toList=([]:List UInt8)
 ·rw [if_pos c36] at H
  have c36b0:(a0_5.toList == ([]:List UInt8))=true:=beq_iff_eq.mpr c36
  have c36b1:(a0_5.toList != ([]:List UInt8))=false:=bne_eq_false_iff_eq.mpr c36
  clear c36
  obtain rfl:=sI_ H
  obtain ⟨hcz37_0,hcz37_1,hcz37_2,hcz37_3,hcz37_4,hcz37_5,hfz37_0,hfz37_1,hfz37_2,hfz37_3,hfz37_4,hfz37_5⟩:=cz6_ BK213.out
  go_wp2
  go_ret
  exact ⟨z9_2,z9_0⟩
 rw [if_neg c36] at H
 have c36b0:(a0_5.toList == ([]:List UInt8))=false:=beq_eq_false_iff_ne.mpr c36
 have c36b1:(a0_5.toList != ([]:List UInt8))=true:=bne_iff_ne.mpr c36
 by_cases c38:a0_0=6
 rotate_left
 ·rw [if_neg c38] at H
  have c38b0:(a0_0 == 6)=false:=beq_eq_false_iff_ne.mpr c38
  have c38b1:(a0_0 != 6)=true:=bne_iff_ne.mpr c38
  obtain rfl:=sI_ H
  obtain ⟨hcz40_0,hcz40_1,hcz40_2,hcz40_3,hcz40_4,hcz40_5,hfz40_0,hfz40_1,hfz40_2,hfz40_3,hfz40_4,hfz40_5⟩:=cz6_ BK213.out
  go_wp2
  go_ret
  exact ⟨z9_2,z9_0⟩
 rw [if_pos c38] at H
 have c38b0:(a0_0 == 6)=true:=beq_iff_eq.mpr c38
 have c38b1:(a0_0 != 6)=false:=bne_eq_false_iff_eq.mpr c38
 clear c38
 obtain rfl:=sI_ H
 obtain ⟨hcz39_0,hcz39_1,hcz39_2,hcz39_3,hcz39_4,hcz39_5,hfz39_0,hfz39_1,hfz39_2,hfz39_3,hfz39_4,hfz39_5⟩:=cz6_ BK213.out
 go_wp2
 go_ret
 exact ⟨z9_2,z9_0⟩
end Go.Proofs.Ytgocnchjpecafaa.PEv
