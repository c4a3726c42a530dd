/- a part -/
import Derived.Test.YtfhamdobagjakaaPCax0
namespace Go.Proofs.Ytfhamdobagjakaa.PCa
open Go.RowKit Go.Proofs.YtfhamdobagjakaaW.PrintWords Go.Proofs.YtfhamdobagjakaaW.PrintLast Go.Proofs.YtfhamdobagjakaaW.PrintMore
attribute [local go_sem] max2_int min2_int max_two min_two max_three min_three max_four min_four
set_option linter.unusedVariables false
set_option linter.unusedSimpArgs false
set_option maxHeartbeats 8000000
set_option maxRecDepth 100000
theorem z4_0 {P:Prop} (h:P:=by repeat(first|(with_reducible first|exact HB.out|apply below_alloc|apply pw_below_drewN|apply below_drew1|refine below_set ?_ GE103.out)|exact HB.out)):P:=h
theorem z4_1 {P:Prop} (h:P:=by first|rfl|(simp [errW_none,errW_some]<;>rfl)|(simp [*,errW_none,errW_some]<;>rfl)):P:=h
theorem z4_2 {P:Prop} (h:P:=by(with_reducible repeat(first|refine blk_drewN ?_ _|refine blk_drew ?_|refine blk_alloc ?_ _));exact BK103.out):P:=h
theorem z4_3 {P:Prop} (h:P:=by first|rfl|(simp;done)|(simp [*];done)):P:=h
theorem z4_4 {P:Prop} (h:P:=by repeat(first|(with_reducible first|exact HB.out|apply below_alloc|apply pw_below_drewN|apply below_drew1)|exact HB.out)):P:=h
mutual
def event_CheckEffect.j0:Nat->Bool->Int->Int->ByteArray->Int->Int->ByteArray->Option (Int)
 | 0,_,_,_,_,_,_,_=>none
 | k+1,x23,x104000,x104001,x104002,x104003,x104004,x104005=>if x23=true then(some 1) else(if x104003>=1 then(event_CheckEffect.j1 k (decide (x104003<=1000)) x104000 x104001 x104002 x104003 x104004 x104005) else(event_CheckEffect.j1 k false x104000 x104001 x104002 x104003 x104004 x104005))
def event_CheckEffect.j1:Nat->Bool->Int->Int->ByteArray->Int->Int->ByteArray->Option (Int)
 | 0,_,_,_,_,_,_,_=>none
 | k+1,x3,x104000,x104001,x104002,x104003,x104004,x104005=>if x104000=1 then(event_CheckEffect.j2 k x3 false x104000 (x104000 == 1) x104000 x104001 x104002 x104003 x104004 x104005) else(event_CheckEffect.j2 k x3 false x104000 (x104000 == 2) x104000 x104001 x104002 x104003 x104004 x104005)
def event_CheckEffect.j2:Nat->Bool->Bool->Int->Bool->Int->Int->ByteArray->Int->Int->ByteArray->Option (Int)
 | 0,_,_,_,_,_,_,_,_,_,_=>none
 | k+1,x3,x4,x33,x34,x104000,x104001,x104002,x104003,x104004,x104005=>if x34=true then(if x104003=0 then(if x104004=0 then(if (x104005.toList=([]:List UInt8)) then(some 0) else(some 1)) else(some 1)) else(some 1)) else(if x33=3 then(event_CheckEffect.j3 k x3 x4 x33 (x33 == 3) x104000 x104001 x104002 x104003 x104004 x104005) else(event_CheckEffect.j3 k x3 x4 x33 (x33 == 4) x104000 x104001 x104002 x104003 x104004 x104005))
def event_CheckEffect.j3:Nat->Bool->Bool->Int->Bool->Int->Int->ByteArray->Int->Int->ByteArray->Option (Int)
 | 0,_,_,_,_,_,_,_,_,_,_=>none
 | k+1,x3,x4,x33,x50,x104000,x104001,x104002,x104003,x104004,x104005=>if x50=true then(if x3=true then(if x104004=0 then(if (x104005.toList=([]:List UInt8)) then(some 0) else(some 1)) else(some 1)) else(some 1)) else(if x33=5 then(if x3=true then(if x104004>=1 then(if x104004<=5 then(if (x104005.toList=([]:List UInt8)) then(some 0) else(some 1)) else(some 1)) else(some 1)) else(some 1)) else(if x33=6 then(if x104003=0 then(if x104004=0 then(if ((x104005.size:Int)<=64) then(some 0) else(some 1)) else(some 1)) else(some 1)) else(if x4=true then(some 0) else(some 1))))
end
def event_CheckEffect.f (k:Nat) (a0_0:Int) (a0_1:Int) (a0_2:ByteArray) (a0_3:Int) (a0_4:Int) (a0_5:ByteArray):Option (Int):=if a0_2.toList=([]:List UInt8) then(event_CheckEffect.j0 k true a0_0 a0_1 a0_2 a0_3 a0_4 a0_5) else(if (a0_2.size:Int) > 32 then(event_CheckEffect.j0 k true a0_0 a0_1 a0_2 a0_3 a0_4 a0_5) else(if a0_1<0 then(event_CheckEffect.j0 k true a0_0 a0_1 a0_2 a0_3 a0_4 a0_5) else(event_CheckEffect.j0 k (decide (a0_1 > 15)) a0_0 a0_1 a0_2 a0_3 a0_4 a0_5)))
theorem event_CheckEffect.calls (k:Nat) (a0_0:Int) (a0_1:Int) (a0_2:ByteArray) (a0_3:Int) (a0_4:Int) (a0_5:ByteArray) (r:Int) (w:World) (h:event_CheckEffect.f k a0_0 a0_1 a0_2 a0_3 a0_4 a0_5=some r) :
  Calls Try.prog 92 #[.agg #[.int .i64 a0_0,.int .i64 a0_1,.string a0_2,.int .i64 a0_3,.int .i64 a0_4,.string a0_5]] w λe w'=>e = .returned (.int .i64 r)/\Below w.heap.size w w':=by
 have hu111:=Try.underlying111
 have HB:=Aside0.mk (Below.refl w.heap.size w)
 have H:(if a0_2.toList=([]:List UInt8) then(event_CheckEffect.j0 k true a0_0 a0_1 a0_2 a0_3 a0_4 a0_5) else(if (a0_2.size:Int) > 32 then(event_CheckEffect.j0 k true a0_0 a0_1 a0_2 a0_3 a0_4 a0_5) else(if a0_1<0 then(event_CheckEffect.j0 k true a0_0 a0_1 a0_2 a0_3 a0_4 a0_5) else(event_CheckEffect.j0 k (decide (a0_1 > 15)) a0_0 a0_1 a0_2 a0_3 a0_4 a0_5))))=some r:=h
 clear h
 have HC2:=Aside0.mk H
 clear H
 go_enter Try.func92,Try.ntmps92
 go_upto_region 1 with (first|((with_reducible refine gate_dst (N:=1) rfl ?_);(try(refine gate_guard (by rfl) ?_;dsimp only));refine box_event ?hg (N:=1) ?hd (cs:=#[.int .i64 a0_0,.int .i64 a0_1,.string a0_2,.int .i64 a0_3,.int .i64 a0_4,.string a0_5]) (t:=111) ?hr ?_;(case hd=>rfl);(case hg=>rfl);(case hr=>first|(go_simp;done)|(go_simp;rfl));intro gb103 hg w3 hbox hb;have BK103:=Aside0.mk (hbox);have GW103:=Aside0.mk ((by rw [hg];exact(below_size z4_4):w.heap.size<=gb103));have GE103:=Aside0.mk ((by rw [hg];exact(below_size z4_4):w.heap.size<=gb103));replace HB:=Aside0.mk (below_step z4_4 hb);clear hb hbox hg))
 (try simp only [Act.put,List.setIfInBounds_toArray,List.set_cons_zero,List.set_cons_succ])
 go_cut [23] (λv23 wc=>∃ (kq:Nat) (x23_1:Bool),v23 = .bool x23_1/\Aside0 (event_CheckEffect.j0 kq x23_1 a0_0 a0_1 a0_2 a0_3 a0_4 a0_5=some r)/\Aside0 (kq<=k)/\Aside0 (wc.heap[gb103]? = some (.cells #[.int .i64 a0_0,.int .i64 a0_1,.string a0_2,.int .i64 a0_3,.int .i64 a0_4,.string a0_5] 111 (0,0)))/\Aside0 (Below w.heap.size w wc))
 case first =>
  have H:=HC2.out
  clear HC2
  by_cases c4:a0_2.toList=([]:List UInt8)
  ·rw [if_pos c4] at H
   have c4b0:(a0_2.toList == ([]:List UInt8))=true:=beq_iff_eq.mpr c4
   have c4b1:(a0_2.toList != ([]:List UInt8))=false:=bne_eq_false_iff_eq.mpr c4
   clear c4
   (first|rw [c4b0]|(simp only [i64_w,i32_w];rw [c4b0])|skip)
   have H':=Aside0.mk H
   clear H
   obtain ⟨hcz5_0,hcz5_1,hcz5_2,hcz5_3,hcz5_4,hcz5_5,hfz5_0,hfz5_1,hfz5_2,hfz5_3,hfz5_4,hfz5_5⟩:=cz6_ BK103.out
   go_wp2
   go_meet
   case rel=>exact ⟨_,(true),z4_3,H',⟨(by first|omega|exact Nat.le_refl _)⟩,⟨z4_2⟩,⟨z4_0⟩⟩
  rw [if_neg c4] at H
  have c4b0:(a0_2.toList == ([]:List UInt8))=false:=beq_eq_false_iff_ne.mpr c4
  have c4b1:(a0_2.toList != ([]:List UInt8))=true:=bne_iff_ne.mpr c4
  (first|rw [c4b0]|(simp only [i64_w,i32_w];rw [c4b0])|skip)
  by_cases c6:(a0_2.size:Int) > 32
  ·rw [if_pos c6] at H
   have c6b0:decide (32<(a0_2.size:Int))=true:=decide_eq_true c6
   have c6b1:decide (32<a0_2.size)=true:=decide_eq_true (by omega)
   clear c6
   have H':=Aside0.mk H
   clear H
   obtain ⟨hcz7_0,hcz7_1,hcz7_2,hcz7_3,hcz7_4,hcz7_5,hfz7_0,hfz7_1,hfz7_2,hfz7_3,hfz7_4,hfz7_5⟩:=cz6_ BK103.out
   go_wp2
   go_meet
   case rel=>exact ⟨_,(true),z4_3,H',⟨(by first|omega|exact Nat.le_refl _)⟩,⟨z4_2⟩,⟨z4_0⟩⟩
  rw [if_neg c6] at H
  have c6b0:decide (32<(a0_2.size:Int))=false:=decide_eq_false c6
  have c6b1:decide (32<a0_2.size)=false:=decide_eq_false (by omega)
  clear c6
  by_cases c8:a0_1<0
  ·rw [if_pos c8] at H
   have c8b0:decide (a0_1<0)=true:=decide_eq_true c8
   clear c8
   have H':=Aside0.mk H
   clear H
   obtain ⟨hcz9_0,hcz9_1,hcz9_2,hcz9_3,hcz9_4,hcz9_5,hfz9_0,hfz9_1,hfz9_2,hfz9_3,hfz9_4,hfz9_5⟩:=cz6_ BK103.out
   go_wp2
   go_meet
   case rel=>exact ⟨_,(true),z4_3,H',⟨(by first|omega|exact Nat.le_refl _)⟩,⟨z4_2⟩,⟨z4_0⟩⟩
  rw [if_neg c8] at H
  have c8b0:decide (a0_1<0)=false:=decide_eq_false c8
  clear c8
  have H':=Aside0.mk H
  clear H
  obtain ⟨hcz10_0,hcz10_1,hcz10_2,hcz10_3,hcz10_4,hcz10_5,hfz10_0,hfz10_1,hfz10_2,hfz10_3,hfz10_4,hfz10_5⟩:=cz6_ BK103.out
  go_wp2
  go_meet
  case rel=>exact ⟨_,(decide (a0_1 > 15)),z4_3,H',⟨(by first|omega|exact Nat.le_refl _)⟩,⟨z4_2⟩,⟨z4_0⟩⟩
 case rest =>
 clear HC2
 try clear p2
 try clear c4
 try clear c4b0
 try clear c4b1
 try clear c6
 try clear c6b0
 try clear c6b1
 try clear c8
 try clear c8b0
 try clear c9
 try clear hcz10_0 hcz10_1 hcz10_2 hcz10_3 hcz10_4 hcz10_5
 try clear hcz5_0 hcz5_1 hcz5_2 hcz5_3 hcz5_4 hcz5_5
 try clear hcz7_0 hcz7_1 hcz7_2 hcz7_3 hcz7_4 hcz7_5
 try clear hcz9_0 hcz9_1 hcz9_2 hcz9_3 hcz9_4 hcz9_5
 try clear hfz10_0 hfz10_1 hfz10_2 hfz10_3 hfz10_4 hfz10_5
 try clear hfz5_0 hfz5_1 hfz5_2 hfz5_3 hfz5_4 hfz5_5
 try clear hfz7_0 hfz7_1 hfz7_2 hfz7_3 hfz7_4 hfz7_5
 try clear hfz9_0 hfz9_1 hfz9_2 hfz9_3 hfz9_4 hfz9_5
 obtain ⟨kq,x23_1,rfl,HA,HJ1,BK103,HB⟩:=hcut
 cases kq with
 | zero=>exact absurd HA.out (by simp [event_CheckEffect.j0])
 | succ kj1 =>
 have H:=HA.out
 clear HA
 simp only [event_CheckEffect.j0] at H
 by_cases c11:x23_1=true
 ·subst c11
  have H1:(some 1)=some r:=by rw [if_pos rfl] at H;exact H
  clear H
  have H:=H1
  clear H1
  obtain rfl:=Option.some.inj H
  go_wp2
  go_ret
  exact ⟨z4_1,z4_0⟩
 replace c11:=Bool.eq_false_iff.mpr c11
 subst c11
 have H1:(if a0_3>=1 then(event_CheckEffect.j1 kj1 (decide (a0_3<=1000)) a0_0 a0_1 a0_2 a0_3 a0_4 a0_5) else(event_CheckEffect.j1 kj1 false a0_0 a0_1 a0_2 a0_3 a0_4 a0_5))=some r:=by rw [if_neg (show ¬ (false=true) by decide)] at H;exact H
 clear H
 have H:=H1
 clear H1
 have HC12:=Aside0.mk H
 clear H
 go_upto_region 3 with (fail)
 go_cut [3] (λv3 wc=>∃ (kq:Nat) (x3_11:Bool),v3 = .bool x3_11/\Aside0 (event_CheckEffect.j1 kq x3_11 a0_0 a0_1 a0_2 a0_3 a0_4 a0_5=some r)/\Aside0 (kq<=kj1)/\Aside0 (wc.heap[gb103]? = some (.cells #[.int .i64 a0_0,.int .i64 a0_1,.string a0_2,.int .i64 a0_3,.int .i64 a0_4,.string a0_5] 111 (0,0)))/\Aside0 (Below w.heap.size w wc))
 case first =>
  have H:=HC12.out
  clear HC12
  by_cases c13:a0_3>=1
  ·rw [if_pos c13] at H
   have c13b0:decide (1<=a0_3)=true:=decide_eq_true c13
   clear c13
   (first|rw [c13b0]|(simp only [i64_w,i32_w];rw [c13b0])|skip)
   have H':=Aside0.mk H
   clear H
   obtain ⟨hcz14_0,hcz14_1,hcz14_2,hcz14_3,hcz14_4,hcz14_5,hfz14_0,hfz14_1,hfz14_2,hfz14_3,hfz14_4,hfz14_5⟩:=cz6_ BK103.out
   go_wp2
   go_meet
   case rel=>exact ⟨_,(decide (a0_3<=1000)),z4_3,H',⟨(by have:=HJ1.out;first|omega|exact Nat.le_refl _)⟩,⟨z4_2⟩,⟨z4_0⟩⟩
  rw [if_neg c13] at H
  have c13b0:decide (1<=a0_3)=false:=decide_eq_false c13
  clear c13
  (first|rw [c13b0]|(simp only [i64_w,i32_w];rw [c13b0])|skip)
  have H':=Aside0.mk H
  clear H
  obtain ⟨hcz15_0,hcz15_1,hcz15_2,hcz15_3,hcz15_4,hcz15_5,hfz15_0,hfz15_1,hfz15_2,hfz15_3,hfz15_4,hfz15_5⟩:=cz6_ BK103.out
  go_wp2
  go_meet
  case rel=>exact ⟨_,(false),z4_3,H',⟨(by have:=HJ1.out;first|omega|exact Nat.le_refl _)⟩,⟨z4_2⟩,⟨z4_0⟩⟩
 case rest =>
 clear HC12
 try clear c1
 try clear p2
 try clear c4
 try clear c4b0
 try clear c4b1
 try clear c6
 try clear c6b0
 try clear c6b1
 try clear c8
 try clear c8b0
 try clear c9
 try clear c11
 try clear c13
 try clear c13b0
 try clear hcz10_0 hcz10_1 hcz10_2 hcz10_3 hcz10_4 hcz10_5
 try clear hcz14_0 hcz14_1 hcz14_2 hcz14_3 hcz14_4 hcz14_5
 try clear hcz15_0 hcz15_1 hcz15_2 hcz15_3 hcz15_4 hcz15_5
 try clear hcz5_0 hcz5_1 hcz5_2 hcz5_3 hcz5_4 hcz5_5
 try clear hcz7_0 hcz7_1 hcz7_2 hcz7_3 hcz7_4 hcz7_5
 try clear hcz9_0 hcz9_1 hcz9_2 hcz9_3 hcz9_4 hcz9_5
 try clear hfz10_0 hfz10_1 hfz10_2 hfz10_3 hfz10_4 hfz10_5
 try clear hfz14_0 hfz14_1 hfz14_2 hfz14_3 hfz14_4 hfz14_5
 try clear hfz15_0 hfz15_1 hfz15_2 hfz15_3 hfz15_4 hfz15_5
 try clear hfz5_0 hfz5_1 hfz5_2 hfz5_3 hfz5_4 hfz5_5
 try clear hfz7_0 hfz7_1 hfz7_2 hfz7_3 hfz7_4 hfz7_5
 try clear hfz9_0 hfz9_1 hfz9_2 hfz9_3 hfz9_4 hfz9_5
 try clear p2
 obtain ⟨kq,x3_11,rfl,HA,HJ11,BK103,HB⟩:=hcut
 cases kq with
 | zero=>exact absurd HA.out (by simp [event_CheckEffect.j1])
 | succ kj11 =>
 have H:=HA.out
 clear HA
 simp only [event_CheckEffect.j1] at H
 have HC16:=Aside0.mk H
 clear H
 obtain ⟨hcz17_0,hcz17_1,hcz17_2,hcz17_3,hcz17_4,hcz17_5,hfz17_0,hfz17_1,hfz17_2,hfz17_3,hfz17_4,hfz17_5⟩:=cz6_ BK103.out
 go_upto_if 34 with (fail)
 go_cut [34] (λv34 wc=>∃ (kq:Nat) (x34_15:Bool),v34 = .bool x34_15/\Aside0 (event_CheckEffect.j2 kq x3_11 false a0_0 x34_15 a0_0 a0_1 a0_2 a0_3 a0_4 a0_5=some r)/\Aside0 (kq<=kj11)/\Aside0 (wc.heap[gb103]? = some (.cells #[.int .i64 a0_0,.int .i64 a0_1,.string a0_2,.int .i64 a0_3,.int .i64 a0_4,.string a0_5] 111 (0,0)))/\Aside0 (Below w.heap.size w wc))
 case first =>
  have H:=HC16.out
  clear HC16
  by_cases c18:a0_0=1
  rotate_left
  ·rw [if_neg c18] at H
   have c18b0:(a0_0 == 1)=false:=beq_eq_false_iff_ne.mpr c18
   have c18b1:(a0_0 != 1)=true:=bne_iff_ne.mpr c18
   (first|rw [c18b0]|(simp only [i64_w,i32_w];rw [c18b0])|skip)
   have H':=Aside0.mk H
   clear H
   go_wp2
   go_meet
   case rel=>exact ⟨_,((a0_0 == 2)),z4_3,H',⟨(by have:=HJ1.out;have:=HJ11.out;first|omega|exact Nat.le_refl _)⟩,⟨z4_2⟩,⟨z4_0⟩⟩
  rw [if_pos c18] at H
  have c18b0:(a0_0 == 1)=true:=beq_iff_eq.mpr c18
  have c18b1:(a0_0 != 1)=false:=bne_eq_false_iff_eq.mpr c18
  clear c18
  (first|rw [c18b0]|(simp only [i64_w,i32_w];rw [c18b0])|skip)
  have H':=Aside0.mk H
  clear H
  go_wp2
  go_meet
  case rel=>exact ⟨_,((a0_0 == 1)),z4_3,H',⟨(by have:=HJ1.out;have:=HJ11.out;first|omega|exact Nat.le_refl _)⟩,⟨z4_2⟩,⟨z4_0⟩⟩
 case rest =>
 clear HC16
 try clear c1
 try clear p2
 try clear c4
 try clear c4b0
 try clear c4b1
 try clear c6
 try clear c6b0
 try clear c6b1
 try clear c8
 try clear c8b0
 try clear c9
 try clear c11
 try clear c13
 try clear c13b0
 try clear c18
 try clear c18b0
 try clear c18b1
 try clear hcz10_0 hcz10_1 hcz10_2 hcz10_3 hcz10_4 hcz10_5
 try clear hcz14_0 hcz14_1 hcz14_2 hcz14_3 hcz14_4 hcz14_5
 try clear hcz15_0 hcz15_1 hcz15_2 hcz15_3 hcz15_4 hcz15_5
 try clear hcz17_0 hcz17_1 hcz17_2 hcz17_3 hcz17_4 hcz17_5
 try clear hcz5_0 hcz5_1 hcz5_2 hcz5_3 hcz5_4 hcz5_5
 try clear hcz7_0 hcz7_1 hcz7_2 hcz7_3 hcz7_4 hcz7_5
 try clear hcz9_0 hcz9_1 hcz9_2 hcz9_3 hcz9_4 hcz9_5
 try clear hfz10_0 hfz10_1 hfz10_2 hfz10_3 hfz10_4 hfz10_5
 try clear hfz14_0 hfz14_1 hfz14_2 hfz14_3 hfz14_4 hfz14_5
 try clear hfz15_0 hfz15_1 hfz15_2 hfz15_3 hfz15_4 hfz15_5
 try clear hfz17_0 hfz17_1 hfz17_2 hfz17_3 hfz17_4 hfz17_5
 try clear hfz5_0 hfz5_1 hfz5_2 hfz5_3 hfz5_4 hfz5_5
 try clear hfz7_0 hfz7_1 hfz7_2 hfz7_3 hfz7_4 hfz7_5
 try clear hfz9_0 hfz9_1 hfz9_2 hfz9_3 hfz9_4 hfz9_5
 try clear p2
 obtain ⟨kq,x34_15,rfl,HA,HJ15,BK103,HB⟩:=hcut
 cases kq with
 | zero=>exact absurd HA.out (by simp [event_CheckEffect.j2])
 | succ kj15 =>
 have H:=HA.out
 clear HA
 simp only [event_CheckEffect.j2] at H
 by_cases c19:x34_15=true
 ·subst c19
  have H1:(if a0_3=0 then(if a0_4=0 then(if (a0_5.toList=([]:List UInt8)) then(some 0) else(some 1)) else(some 1)) else(some 1))=some r:=by rw [if_pos rfl] at H;exact H
  clear H
  have H:=H1
  clear H1
  by_cases c20:a0_3=0
  rotate_left
  ·rw [if_neg c20] at H
   have c20b0:(a0_3 == 0)=false:=beq_eq_false_iff_ne.mpr c20
   have c20b1:(a0_3 != 0)=true:=bne_iff_ne.mpr c20
   obtain rfl:=Option.some.inj H
   obtain ⟨hcz26_0,hcz26_1,hcz26_2,hcz26_3,hcz26_4,hcz26_5,hfz26_0,hfz26_1,hfz26_2,hfz26_3,hfz26_4,hfz26_5⟩:=cz6_ BK103.out
   go_wp2
   go_ret
   exact ⟨z4_1,z4_0⟩
  rw [if_pos c20] at H
  have c20b0:(a0_3 == 0)=true:=beq_iff_eq.mpr c20
  have c20b1:(a0_3 != 0)=false:=bne_eq_false_iff_eq.mpr c20
  clear c20
  by_cases c21:a0_4=0
  rotate_left
  ·rw [if_neg c21] at H
   have c21b0:(a0_4 == 0)=false:=beq_eq_false_iff_ne.mpr c21
   have c21b1:(a0_4 != 0)=true:=bne_iff_ne.mpr c21
   obtain rfl:=Option.some.inj H
   obtain ⟨hcz25_0,hcz25_1,hcz25_2,hcz25_3,hcz25_4,hcz25_5,hfz25_0,hfz25_1,hfz25_2,hfz25_3,hfz25_4,hfz25_5⟩:=cz6_ BK103.out
   go_wp2
   go_ret
   exact ⟨z4_1,z4_0⟩
  rw [if_pos c21] at H
  have c21b0:(a0_4 == 0)=true:=beq_iff_eq.mpr c21
  have c21b1:(a0_4 != 0)=false:=bne_eq_false_iff_eq.mpr c21
  clear c21
  by_cases c22:(a0_5.toList=([]:List UInt8))
  rotate_left
  ·rw [if_neg c22] at H
   have c22b0:(a0_5.toList == ([]:List UInt8))=false:=beq_eq_false_iff_ne.mpr c22
   have c22b1:(a0_5.toList != ([]:List UInt8))=true:=bne_iff_ne.mpr c22
   obtain rfl:=Option.some.inj H
   obtain ⟨hcz24_0,hcz24_1,hcz24_2,hcz24_3,hcz24_4,hcz24_5,hfz24_0,hfz24_1,hfz24_2,hfz24_3,hfz24_4,hfz24_5⟩:=cz6_ BK103.out
   go_wp2
   go_ret
   exact ⟨z4_1,z4_0⟩
  rw [if_pos c22] at H
  have c22b0:(a0_5.toList == ([]:List UInt8))=true:=beq_iff_eq.mpr c22
  have c22b1:(a0_5.toList != ([]:List UInt8))=false:=bne_eq_false_iff_eq.mpr c22
  clear c22
  obtain rfl:=Option.some.inj H
  obtain ⟨hcz23_0,hcz23_1,hcz23_2,hcz23_3,hcz23_4,hcz23_5,hfz23_0,hfz23_1,hfz23_2,hfz23_3,hfz23_4,hfz23_5⟩:=cz6_ BK103.out
  go_wp2
  go_ret
  exact ⟨z4_1,z4_0⟩
 replace c19:=Bool.eq_false_iff.mpr c19
 subst c19
 have H1:(if a0_0=3 then(event_CheckEffect.j3 kj15 x3_11 false a0_0 (a0_0 == 3) a0_0 a0_1 a0_2 a0_3 a0_4 a0_5) else(event_CheckEffect.j3 kj15 x3_11 false a0_0 (a0_0 == 4) a0_0 a0_1 a0_2 a0_3 a0_4 a0_5))=some r:=by rw [if_neg (show ¬ (false=true) by decide)] at H;exact H
 clear H
 have H:=H1
 clear H1
 have HC27:=Aside0.mk H
 clear H
 go_upto_if 50 with (fail)
 go_cut [50] (λv50 wc=>∃ (kq:Nat) (x50_26:Bool),v50 = .bool x50_26/\Aside0 (event_CheckEffect.j3 kq x3_11 false a0_0 x50_26 a0_0 a0_1 a0_2 a0_3 a0_4 a0_5=some r)/\Aside0 (kq<=kj15)/\Aside0 (wc.heap[gb103]? = some (.cells #[.int .i64 a0_0,.int .i64 a0_1,.string a0_2,.int .i64 a0_3,.int .i64 a0_4,.string a0_5] 111 (0,0)))/\Aside0 (Below w.heap.size w wc))
 case first =>
  have H:=HC27.out
  clear HC27
  by_cases c28:a0_0=3
  rotate_left
  ·rw [if_neg c28] at H
   have c28b0:(a0_0 == 3)=false:=beq_eq_false_iff_ne.mpr c28
   have c28b1:(a0_0 != 3)=true:=bne_iff_ne.mpr c28
   (first|rw [c28b0]|(simp only [i64_w,i32_w];rw [c28b0])|skip)
   have H':=Aside0.mk H
   clear H
   go_wp2
   go_meet
   case rel=>exact ⟨_,((a0_0 == 4)),z4_3,H',⟨(by have:=HJ1.out;have:=HJ11.out;have:=HJ15.out;first|omega|exact Nat.le_refl _)⟩,⟨z4_2⟩,⟨z4_0⟩⟩
  rw [if_pos c28] at H
  have c28b0:(a0_0 == 3)=true:=beq_iff_eq.mpr c28
  have c28b1:(a0_0 != 3)=false:=bne_eq_false_iff_eq.mpr c28
  clear c28
  (first|rw [c28b0]|(simp only [i64_w,i32_w];rw [c28b0])|skip)
  have H':=Aside0.mk H
  clear H
  go_wp2
  go_meet
  case rel=>exact ⟨_,((a0_0 == 3)),z4_3,H',⟨(by have:=HJ1.out;have:=HJ11.out;have:=HJ15.out;first|omega|exact Nat.le_refl _)⟩,⟨z4_2⟩,⟨z4_0⟩⟩
 case rest =>
 clear HC27
 try clear c1
 try clear c2
 try clear p2
 try clear c4
 try clear c4b0
 try clear c4b1
 try clear c6
 try clear c6b0
 try clear c6b1
 try clear c8
 try clear c8b0
 try clear c9
 try clear c11
 try clear c13
 try clear c13b0
 try clear c18
 try clear c18b0
 try clear c18b1
 try clear c19
 try clear c20
 try clear c20b0
 try clear c20b1
 try clear c21
 try clear c21b0
 try clear c21b1
 try clear c22
 try clear c22b0
 try clear c22b1
 try clear c28
 try clear c28b0
 try clear c28b1
 try clear hcz10_0 hcz10_1 hcz10_2 hcz10_3 hcz10_4 hcz10_5
 try clear hcz14_0 hcz14_1 hcz14_2 hcz14_3 hcz14_4 hcz14_5
 try clear hcz15_0 hcz15_1 hcz15_2 hcz15_3 hcz15_4 hcz15_5
 try clear hcz17_0 hcz17_1 hcz17_2 hcz17_3 hcz17_4 hcz17_5
 try clear hcz23_0 hcz23_1 hcz23_2 hcz23_3 hcz23_4 hcz23_5
 try clear hcz24_0 hcz24_1 hcz24_2 hcz24_3 hcz24_4 hcz24_5
 try clear hcz25_0 hcz25_1 hcz25_2 hcz25_3 hcz25_4 hcz25_5
 try clear hcz26_0 hcz26_1 hcz26_2 hcz26_3 hcz26_4 hcz26_5
 try clear hcz5_0 hcz5_1 hcz5_2 hcz5_3 hcz5_4 hcz5_5
 try clear hcz7_0 hcz7_1 hcz7_2 hcz7_3 hcz7_4 hcz7_5
 try clear hcz9_0 hcz9_1 hcz9_2 hcz9_3 hcz9_4 hcz9_5
 try clear hfz10_0 hfz10_1 hfz10_2 hfz10_3 hfz10_4 hfz10_5
 try clear hfz14_0 hfz14_1 hfz14_2 hfz14_3 hfz14_4 hfz14_5
 try clear hfz15_0 hfz15_1 hfz15_2 hfz15_3 hfz15_4 hfz15_5
 try clear hfz17_0 hfz17_1 hfz17_2 hfz17_3 hfz17_4 hfz17_5
 try clear hfz23_0 hfz23_1 hfz23_2 hfz23_3 hfz23_4 hfz23_5
 try clear hfz24_0 hfz24_1 hfz24_2 hfz24_3 hfz24_4 hfz24_5
 try clear hfz25_0 hfz25_1 hfz25_2 hfz25_3 hfz25_4 hfz25_5
 try clear hfz26_0 hfz26_1 hfz26_2 hfz26_3 hfz26_4 hfz26_5
 try clear hfz5_0 hfz5_1 hfz5_2 hfz5_3 hfz5_4 hfz5_5
 try clear hfz7_0 hfz7_1 hfz7_2 hfz7_3 hfz7_4 hfz7_5
 try clear hfz9_0 hfz9_1 hfz9_2 hfz9_3 hfz9_4 hfz9_5
 try clear p2
 obtain ⟨kq,x50_26,rfl,HA,HJ26,BK103,HB⟩:=hcut
 cases kq with
 | zero=>exact absurd HA.out (by simp [event_CheckEffect.j3])
 | succ kj26 =>
 have H:=HA.out
 clear HA
 simp only [event_CheckEffect.j3] at H
 by_cases c29:x50_26=true
 ·subst c29
  have H1:(if x3_11=true then(if a0_4=0 then(if (a0_5.toList=([]:List UInt8)) then(some 0) else(some 1)) else(some 1)) else(some 1))=some r:=by rw [if_pos rfl] at H;exact H
  clear H
  have H:=H1
  clear H1
  by_cases c30:x3_11=true
  rotate_left
  ·replace c30:=Bool.eq_false_iff.mpr c30
   subst c30
   have H1:(some 1)=some r:=by rw [if_neg (show ¬ (false=true) by decide)] at H;exact H
   clear H
   have H:=H1
   clear H1
   obtain rfl:=Option.some.inj H
   go_wp2
   go_ret
   exact ⟨z4_1,z4_0⟩
  subst c30
  have H1:(if a0_4=0 then(if (a0_5.toList=([]:List UInt8)) then(some 0) else(some 1)) else(some 1))=some r:=by rw [if_pos rfl] at H;exact H
  clear H
  have H:=H1
  clear H1
  by_cases c31:a0_4=0
  rotate_left
  ·rw [if_neg c31] at H
   have c31b0:(a0_4 == 0)=false:=beq_eq_false_iff_ne.mpr c31
   have c31b1:(a0_4 != 0)=true:=bne_iff_ne.mpr c31
   obtain rfl:=Option.some.inj H
   obtain ⟨hcz35_0,hcz35_1,hcz35_2,hcz35_3,hcz35_4,hcz35_5,hfz35_0,hfz35_1,hfz35_2,hfz35_3,hfz35_4,hfz35_5⟩:=cz6_ BK103.out
   go_wp2
   go_ret
   exact ⟨z4_1,z4_0⟩
  rw [if_pos c31] at H
  have c31b0:(a0_4 == 0)=true:=beq_iff_eq.mpr c31
  have c31b1:(a0_4 != 0)=false:=bne_eq_false_iff_eq.mpr c31
  clear c31
  by_cases c32:(a0_5.toList=([]:List UInt8))
  rotate_left
  ·rw [if_neg c32] at H
   have c32b0:(a0_5.toList == ([]:List UInt8))=false:=beq_eq_false_iff_ne.mpr c32
   have c32b1:(a0_5.toList != ([]:List UInt8))=true:=bne_iff_ne.mpr c32
   obtain rfl:=Option.some.inj H
   obtain ⟨hcz34_0,hcz34_1,hcz34_2,hcz34_3,hcz34_4,hcz34_5,hfz34_0,hfz34_1,hfz34_2,hfz34_3,hfz34_4,hfz34_5⟩:=cz6_ BK103.out
   go_wp2
   go_ret
   exact ⟨z4_1,z4_0⟩
  rw [if_pos c32] at H
  have c32b0:(a0_5.toList == ([]:List UInt8))=true:=beq_iff_eq.mpr c32
  have c32b1:(a0_5.toList != ([]:List UInt8))=false:=bne_eq_false_iff_eq.mpr c32
  clear c32
  obtain rfl:=Option.some.inj H
  obtain ⟨hcz33_0,hcz33_1,hcz33_2,hcz33_3,hcz33_4,hcz33_5,hfz33_0,hfz33_1,hfz33_2,hfz33_3,hfz33_4,hfz33_5⟩:=cz6_ BK103.out
  go_wp2
  go_ret
  exact ⟨z4_1,z4_0⟩
 replace c29:=Bool.eq_false_iff.mpr c29
 subst c29
 have H1:(if a0_0=5 then(if x3_11=true then(if a0_4>=1 then(if a0_4<=5 then(if (a0_5.toList=([]:List UInt8)) then(some 0) else(some 1)) else(some 1)) else(some 1)) else(some 1)) else(if a0_0=6 then(if a0_3=0 then(if a0_4=0 then(if ((a0_5.size:Int)<=64) then(some 0) else(some 1)) else(some 1)) else(some 1)) else(if false=true then(some 0) else(some 1))))=some r:=by rw [if_neg (show ¬ (false=true) by decide)] at H;exact H
 clear H
 have H:=H1
 clear H1
 by_cases c36:a0_0=5
 ·rw [if_pos c36] at H
  have c36b0:(a0_0 == 5)=true:=beq_iff_eq.mpr c36
  have c36b1:(a0_0 != 5)=false:=bne_eq_false_iff_eq.mpr c36
  clear c36
  by_cases c37:x3_11=true
  rotate_left
  ·replace c37:=Bool.eq_false_iff.mpr c37
   subst c37
   have H1:(some 1)=some r:=by rw [if_neg (show ¬ (false=true) by decide)] at H;exact H
   clear H
   have H:=H1
   clear H1
   obtain rfl:=Option.some.inj H
   go_wp2
   go_ret
   exact ⟨z4_1,z4_0⟩
  subst c37
  have H1:(if a0_4>=1 then(if a0_4<=5 then(if (a0_5.toList=([]:List UInt8)) then(some 0) else(some 1)) else(some 1)) else(some 1))=some r:=by rw [if_pos rfl] at H;exact H
  clear H
  have H:=H1
  clear H1
  by_cases c38:a0_4>=1
  rotate_left
  ·rw [if_neg c38] at H
   have c38b0:decide (1<=a0_4)=false:=decide_eq_false c38
   clear c38
   obtain rfl:=Option.some.inj H
   obtain ⟨hcz44_0,hcz44_1,hcz44_2,hcz44_3,hcz44_4,hcz44_5,hfz44_0,hfz44_1,hfz44_2,hfz44_3,hfz44_4,hfz44_5⟩:=cz6_ BK103.out
   go_wp2
   go_ret
   exact ⟨z4_1,z4_0⟩
  rw [if_pos c38] at H
  have c38b0:decide (1<=a0_4)=true:=decide_eq_true c38
  clear c38
  by_cases c39:a0_4<=5
  rotate_left
  ·rw [if_neg c39] at H
   have c39b0:decide (a0_4<=5)=false:=decide_eq_false c39
   clear c39
   obtain rfl:=Option.some.inj H
   obtain ⟨hcz43_0,hcz43_1,hcz43_2,hcz43_3,hcz43_4,hcz43_5,hfz43_0,hfz43_1,hfz43_2,hfz43_3,hfz43_4,hfz43_5⟩:=cz6_ BK103.out
   go_wp2
   go_ret
   exact ⟨z4_1,z4_0⟩
  rw [if_pos c39] at H
  have c39b0:decide (a0_4<=5)=true:=decide_eq_true c39
  clear c39
  by_cases c40:(a0_5.toList=([]:List UInt8))
  rotate_left
  ·rw [if_neg c40] at H
   have c40b0:(a0_5.toList == ([]:List UInt8))=false:=beq_eq_false_iff_ne.mpr c40
   have c40b1:(a0_5.toList != ([]:List UInt8))=true:=bne_iff_ne.mpr c40
   obtain rfl:=Option.some.inj H
   obtain ⟨hcz42_0,hcz42_1,hcz42_2,hcz42_3,hcz42_4,hcz42_5,hfz42_0,hfz42_1,hfz42_2,hfz42_3,hfz42_4,hfz42_5⟩:=cz6_ BK103.out
   go_wp2
   go_ret
   exact ⟨z4_1,z4_0⟩
  rw [if_pos c40] at H
  have c40b0:(a0_5.toList == ([]:List UInt8))=true:=beq_iff_eq.mpr c40
  have c40b1:(a0_5.toList != ([]:List UInt8))=false:=bne_eq_false_iff_eq.mpr c40
  clear c40
  obtain rfl:=Option.some.inj H
  obtain ⟨hcz41_0,hcz41_1,hcz41_2,hcz41_3,hcz41_4,hcz41_5,hfz41_0,hfz41_1,hfz41_2,hfz41_3,hfz41_4,hfz41_5⟩:=cz6_ BK103.out
  go_wp2
  go_ret
  exact ⟨z4_1,z4_0⟩
 rw [if_neg c36] at H
 have c36b0:(a0_0 == 5)=false:=beq_eq_false_iff_ne.mpr c36
 have c36b1:(a0_0 != 5)=true:=bne_iff_ne.mpr c36
 by_cases c45:a0_0=6
 rotate_left
 ·rw [if_neg c45] at H
  have c45b0:(a0_0 == 6)=false:=beq_eq_false_iff_ne.mpr c45
  have c45b1:(a0_0 != 6)=true:=bne_iff_ne.mpr c45
  by_cases c53:false=true
  ·exact absurd c53 (by decide)
  skip
  have H1:(some 1)=some r:=by rw [if_neg (show ¬ (false=true) by decide)] at H;exact H
  clear H
  have H:=H1
  clear H1
  obtain rfl:=Option.some.inj H
  go_wp2
  go_ret
  exact ⟨z4_1,z4_0⟩
 rw [if_pos c45] at H
 have c45b0:(a0_0 == 6)=true:=beq_iff_eq.mpr c45
 have c45b1:(a0_0 != 6)=false:=bne_eq_false_iff_eq.mpr c45
 clear c45
 by_cases c46:a0_3=0
 rotate_left
 ·rw [if_neg c46] at H
  have c46b0:(a0_3 == 0)=false:=beq_eq_false_iff_ne.mpr c46
  have c46b1:(a0_3 != 0)=true:=bne_iff_ne.mpr c46
  obtain rfl:=Option.some.inj H
  obtain ⟨hcz52_0,hcz52_1,hcz52_2,hcz52_3,hcz52_4,hcz52_5,hfz52_0,hfz52_1,hfz52_2,hfz52_3,hfz52_4,hfz52_5⟩:=cz6_ BK103.out
  go_wp2
  go_ret
  exact ⟨z4_1,z4_0⟩
 rw [if_pos c46] at H
 have c46b0:(a0_3 == 0)=true:=beq_iff_eq.mpr c46
 have c46b1:(a0_3 != 0)=false:=bne_eq_false_iff_eq.mpr c46
 clear c46
 by_cases c47:a0_4=0
 rotate_left
 ·rw [if_neg c47] at H
  have c47b0:(a0_4 == 0)=false:=beq_eq_false_iff_ne.mpr c47
  have c47b1:(a0_4 != 0)=true:=bne_iff_ne.mpr c47
  obtain rfl:=Option.some.inj H
  obtain ⟨hcz51_0,hcz51_1,hcz51_2,hcz51_3,hcz51_4,hcz51_5,hfz51_0,hfz51_1,hfz51_2,hfz51_3,hfz51_4,hfz51_5⟩:=cz6_ BK103.out
  go_wp2
  go_ret
  exact ⟨z4_1,z4_0⟩
 rw [if_pos c47] at H
 have c47b0:(a0_4 == 0)=true:=beq_iff_eq.mpr c47
 have c47b1:(a0_4 != 0)=false:=bne_eq_false_iff_eq.mpr c47
 clear c47
 by_cases c48:((a0_5.size:Int)<=64)
 ·rw [if_pos c48] at H
  have c48b0:decide ((a0_5.size:Int)<=64)=true:=decide_eq_true c48
  have c48b1:decide (a0_5.size<=64)=true:=decide_eq_true (by omega)
  clear c48
  obtain rfl:=Option.some.inj H
  obtain ⟨hcz49_0,hcz49_1,hcz49_2,hcz49_3,hcz49_4,hcz49_5,hfz49_0,hfz49_1,hfz49_2,hfz49_3,hfz49_4,hfz49_5⟩:=cz6_ BK103.out
  go_wp2
  go_ret
  exact ⟨z4_1,z4_0⟩
 rw [if_neg c48] at H
 have c48b0:decide ((a0_5.size:Int)<=64)=false:=decide_eq_false c48
 have c48b1:decide (a0_5.size<=64)=false:=decide_eq_false (by omega)
 clear c48
 obtain rfl:=Option.some.inj H
 obtain ⟨hcz50_0,hcz50_1,hcz50_2,hcz50_3,hcz50_4,hcz50_5,hfz50_0,hfz50_1,hfz50_2,hfz50_3,hfz50_4,hfz50_5⟩:=cz6_ BK103.out
 go_wp2
 go_ret
 exact ⟨z4_1,z4_0⟩
end Go.Proofs.Ytfhamdobagjakaa.PCa
