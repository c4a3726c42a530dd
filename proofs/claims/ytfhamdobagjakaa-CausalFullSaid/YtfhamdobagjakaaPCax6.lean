/- a part -/
import Derived.Test.YtfhamdobagjakaaPCax4
import Derived.Test.YtfhamdobagjakaaPCax5
namespace Go.Proofs.Ytfhamdobagjakaa.PCa
open Go.RowKit Go.Proofs.YtfhamdobagjakaaW.PrintWords Go.Proofs.YtfhamdobagjakaaW.PrintLast Go.Proofs.YtfhamdobagjakaaW.PrintMore
attribute [local go_sem] max2_int min2_int max_two min_two max_three min_three max_four min_four
set_option linter.unusedVariables false
set_option linter.unusedSimpArgs false
set_option maxHeartbeats 8000000
set_option maxRecDepth 100000
theorem z6_0 {P:Prop} (h:P:=by(repeat(first|(with_reducible exact HB.out)|(with_reducible refine below_alloc ?_ _)|(with_reducible refine pw_below_drewN ?_ _)|(with_reducible refine below_drew ?_)|(with_reducible refine Below.drew ?_)))):P:=h
theorem z6_1 {P:Prop} (h:P:=by(repeat(first|(with_reducible exact BK.out)|(with_reducible refine blk_drewN ?_ _)|(with_reducible refine blk_drew ?_)|(with_reducible refine blk_alloc ?_ _)))):P:=h
theorem z6_3 {P:Prop} (h:P:=by repeat(first|(with_reducible first|exact HB.out|apply below_alloc|apply pw_below_drewN|apply below_drew1|refine below_set ?_ GE123.out|refine below_set ?_ GE124.out)|exact HB.out)):P:=h
theorem z6_5 {P:Prop} (h:P:=by(with_reducible repeat(first|refine blk_drewN ?_ _|refine blk_drew ?_|refine blk_alloc ?_ _));exact BK123.out):P:=h
theorem z6_6 {P:Prop} (h:P:=by repeat(first|(with_reducible first|exact HB.out|apply below_alloc|apply pw_below_drewN|apply below_drew1|refine below_set ?_ GE123.out)|exact HB.out)):P:=h
theorem z6_9 {P:Prop} (h:P:=by(with_reducible repeat(first|refine blk_drewN ?_ _|refine blk_drew ?_|refine blk_alloc ?_ _));exact BK124.out):P:=h
def event_Check.any (k:Nat):List S111->Option Bool
 | []=>some false
 | x :: l=>(event_CheckEffect.f k x.f0 x.f1 x.f2 x.f3 x.f4 x.f5).bind λt=>if t=0 then event_Check.any k l else some true
theorem event_Check.bad_calls (k:Nat) (x:S111) (r:Int) (w:World) (h:event_CheckEffect.f k x.f0 x.f1 x.f2 x.f3 x.f4 x.f5=some r) :
  Calls Try.prog 91 #[.agg #[.int .i64 x.f0,.int .i64 x.f1,.string x.f2,.int .i64 x.f3,.int .i64 x.f4,.string x.f5]] w λe w'=>e = .returned (.bool (r != 0))/\Below w.heap.size w w':=by
 obtain ⟨y0,y1,y2,y3,y4,y5⟩:=x
 simp only at h ⊢
 have hcall:=λW=>event_CheckEffect.calls k y0 y1 y2 y3 y4 y5 r W h
 clear h
 go_enter Try.func91,Try.ntmps91
 go_wp2_with (go_at_call 92;(with_reducible refine(hcall _).mono ?_);rintro e w' ⟨rfl,hb⟩)
 go_ret
 refine ⟨rfl,below_step ?_ hb⟩
 repeat' (first|(with_reducible exact Below.refl _ _)|(with_reducible refine pw_below_drewN ?_ _)|(with_reducible refine below_drew ?_)|(with_reducible refine below_alloc ?_ _))
theorem event_Check.idx_calls (k:Nat) (A:Option Addr) (c:Nat) (l:List S111) (b:Bool) (w:World) (hr:Kd.C k111 w A l.length l) (h:event_Check.any k l=some b) :
  Calls Try.prog 117 #[.slice A l.length c,.func (.func 91) #[] #[]] w λe w'=>(∃ i:Int,e = .returned (.int .i64 i)/\decide (i>=0)=b)/\Below w.heap.size w w':=by
 have HR:=Aside0.mk hr
 have hn:l.length<=9223372036854775807:=hr.2.1
 have HH:=Aside0.mk h
 clear hr h
 go_enter Try.func117,Try.ntmps117
 go_wp2
 go_loopg [5,8] l.length (λgg _ s8 wr=>∃ kk:Nat,kk<=l.length/\l.length - kk<=gg/\s8 = .int .i64 kk/\Aside0 (Below w.heap.size w wr)/\Aside0 (event_Check.any k (l.drop kk)=some b))
 case atStart=>exact ⟨0,Nat.zero_le _,(by omega),rfl,⟨Below.refl _ _⟩,HH⟩
 case round =>
 obtain ⟨kk,hkk,hg,rfl,HB,HA⟩:=hrel
 by_cases hlt:kk<l.length
 rotate_left
 ·have hltz:¬ (kk:Int)<(l.length:Int):=by omega
  have ha:=HA.out
  rw [List.drop_eq_nil_of_le (by omega)] at ha
  obtain rfl:=Option.some.inj ha
  clear ha HA
  go_wp2
  go_ret
  exact ⟨⟨-1,rfl,(by decide)⟩,HB.out⟩
 have hltz:(kk:Int)<(l.length:Int):=by omega
 obtain ⟨ad,e_,f0,f1,f2,f3,f4,f5⟩:=at_T111 HR.out (kk:Int) (by omega) hltz
 subst e_
 have ha:=HA.out
 rw [List.drop_eq_getElem_cons hlt] at ha
 unfold event_Check.any at ha
 have hx:rd_T111 l (kk:Int)=l[kk]:=by
  unfold rd_T111
  rw [Int.toNat_natCast,List.getD_eq_getElem?_getD,List.getElem?_eq_getElem hlt]
  rfl
 rw [hx] at f0 f1 f2 f3 f4 f5
 simp only [Int.toNat_natCast] at f0 f1 f2 f3 f4 f5
 replace f0:=pw_cell_below HB.out f0
 replace f1:=pw_cell_below HB.out f1
 replace f2:=pw_cell_below HB.out f2
 replace f3:=pw_cell_below HB.out f3
 replace f4:=pw_cell_below HB.out f4
 replace f5:=pw_cell_below HB.out f5
 obtain ⟨t,ht,ha⟩:=Option.bind_eq_some_iff.1 ha
 have hcall:=λW=>event_Check.bad_calls k _ t W ht
 clear ht hx HA
 obtain ⟨y0,e0⟩:∃ y,y=l[kk].f0:=⟨_,rfl⟩
 obtain ⟨y1,e1⟩:∃ y,y=l[kk].f1:=⟨_,rfl⟩
 obtain ⟨y2,e2⟩:∃ y,y=l[kk].f2:=⟨_,rfl⟩
 obtain ⟨y3,e3⟩:∃ y,y=l[kk].f3:=⟨_,rfl⟩
 obtain ⟨y4,e4⟩:∃ y,y=l[kk].f4:=⟨_,rfl⟩
 obtain ⟨y5,e5⟩:∃ y,y=l[kk].f5:=⟨_,rfl⟩
 rw [<-e0] at f0 hcall
 rw [<-e1] at f1 hcall
 rw [<-e2] at f2 hcall
 rw [<-e3] at f3 hcall
 rw [<-e4] at f4 hcall
 rw [<-e5] at f5 hcall
 clear e0 e1 e2 e3 e4 e5
 by_cases ht:t=0
 ·subst ht
  rw [if_pos rfl] at ha
  have HA:=Aside0.mk ha
  clear ha
  go_wp2_with (go_at_call 91;(with_reducible refine(hcall _).mono ?_);rintro e w' ⟨rfl,hb⟩)
  go_roundg (l.length - (kk+1))
  case measure=>omega
  case rel=>exact ⟨kk+1,(by omega),(by omega),(by go_num),⟨below_step HB.out hb⟩,HA⟩
 rw [if_neg ht] at ha
 obtain rfl:=Option.some.inj ha
 have hq:(t != 0)=true:=bne_iff_ne.2 ht
 rw [hq] at hcall
 clear ht hq ha
 go_wp2_with (go_at_call 91;(with_reducible refine(hcall _).mono ?_);rintro e w' ⟨rfl,hb⟩)
 go_ret
 exact ⟨⟨kk,rfl,decide_eq_true (by omega)⟩,below_step HB.out hb⟩
theorem event_Check.contains_calls (k:Nat) (A:Option Addr) (c:Nat) (l:List S111) (b:Bool) (w:World) (hr:Kd.C k111 w A l.length l) (h:event_Check.any k l=some b) :
  Calls Try.prog 90 #[.slice A l.length c,.func (.func 91) #[] #[]] w λe w'=>e = .returned (.bool b)/\Below w.heap.size w w':=by
 have hcall:=event_Check.idx_calls k A c l b w hr h
 clear hr h
 go_enter Try.func90,Try.ntmps90
 go_wp2_with (go_at_call 117;refine hcall.mono ?_;rintro e w' ⟨⟨i,rfl,hi⟩,hb⟩)
 go_ret
 exact ⟨(by rw [<-hi];rfl),hb⟩
def event_Check.f (k:Nat) (a0_0:Int) (a0_1:Int) (l0_2:List Int) (l0_3:List S111):Option (Int) :=
 (dots_May.f a0_0 a0_1).bind λt=>if t=true then(if ClockBase.okC l0_2=true then(if (ClockBase.trim (ClockBase.ofL l0_2)).length=l0_2.length then(if ClockBase.getS l0_2 a0_0=wrap64 (a0_1 - 1) then(if l0_3.length<1 then some 1 else(if l0_3.length > 16 then some 1 else(event_Check.any k l0_3).bind λb=>if b=true then some 1 else some 0)) else some 1) else some 1) else some 1) else some 1
theorem event_Check.calls (k:Nat) (a0_0:Int) (a0_1:Int) (A0_2:Option Addr) (c0_2:Nat) (l0_2:List Int) (A0_3:Option Addr) (c0_3:Nat) (l0_3:List S111) (r:Int) (w:World) (hr0_2:Kd.C (Kd.int .i64) w A0_2 l0_2.length l0_2) (hc0_2:l0_2.length<=c0_2) (hr0_3:Kd.C k111 w A0_3 l0_3.length l0_3) (hc0_3:l0_3.length<=c0_3) (h:event_Check.f k a0_0 a0_1 l0_2 l0_3=some r) :
  Calls Try.prog 55 #[.agg #[.int .i64 a0_0,.int .i64 a0_1,.slice A0_2 l0_2.length c0_2,.slice A0_3 l0_3.length c0_3]] w λe w'=>e = .returned (.int .i64 r)/\Below w.heap.size w w':=by
 unfold event_Check.f at h
 obtain ⟨t,ht,h_⟩:=Option.bind_eq_some_iff.1 h
 clear h
 have h:=h_
 clear h_
 have hmay:=λW=>dots_May.calls a0_0 a0_1 t W ht
 have hck:=λW (hB:Below w.heap.size w W)=>(ClockBase.check_calls A0_2 c0_2 l0_2 W (Kd.C_below hr0_2 hB)).mono (R':=λe w'=>e = .returned (.int .i64 (if ClockBase.okC l0_2=true then 0 else 1))/\Below W.heap.size W w') (λe w' ⟨h1,q,h2⟩=>⟨h1,(by subst h2;exact pw_below_drewN (Below.refl _ _) _)⟩)
 have hpl:=λW (hB:Below w.heap.size w W)=>ClockBase.Plain_calls A0_2 c0_2 l0_2 W (Kd.C_below hr0_2 hB)
 have hge:=λW (hB:Below w.heap.size w W)=>ClockBase.Get_calls A0_2 c0_2 l0_2 a0_0 W (Kd.C_below hr0_2 hB)
 have hl2:=hr0_2.2.1
 have hl3:=hr0_3.2.1
 have HB:=Aside0.mk (Below.refl w.heap.size w)
 have BK:=Aside0.mk (ClockBase.alloc_last w (.cells #[.int .i64 a0_0,.int .i64 a0_1,.slice A0_2 l0_2.length c0_2,.slice A0_3 l0_3.length c0_3] 59 (0,0)))
 have hC3:=hr0_3
 clear ht hr0_2 hr0_3
 cases t with
 | false =>
  rw [if_neg (by simp)] at h
  obtain rfl:=Option.some.inj h
  clear h hC3
  go_enter Try.func55,Try.ntmps55
  go_wp2_with (first|(go_at_call 88;(with_reducible refine(hmay _).mono ?_);rintro e w' ⟨rfl,hb⟩;have b_:=Aside0.mk (blk_below (g:=w.heap.size) (o:=.cells #[.int .i64 a0_0,.int .i64 a0_1,.slice A0_2 l0_2.length c0_2,.slice A0_3 l0_3.length c0_3] 59 (0,0)) z6_1 hb);clear BK;have BK:=b_;clear b_;(try clear hz0 hz1 hz2 hz3);have hz0:w'.cell? ⟨w.heap.size,0,none⟩=some (.int .i64 a0_0):=(blk_cell BK.out 0).trans rfl;have hz1:w'.cell? ⟨w.heap.size,1,none⟩=some (.int .i64 a0_1):=(blk_cell BK.out 1).trans rfl;have hz2:w'.cell? ⟨w.heap.size,2,none⟩=some (.slice A0_2 l0_2.length c0_2):=(blk_cell BK.out 2).trans rfl;have hz3:w'.cell? ⟨w.heap.size,3,none⟩=some (.slice A0_3 l0_3.length c0_3):=(blk_cell BK.out 3).trans rfl;have n_:=Aside0.mk (below_step (w:=w) z6_0 hb);clear HB hb;have HB:=n_;clear n_))
  go_ret
  exact ⟨rfl,z6_0⟩
 | true =>
 rw [if_pos rfl] at h
 by_cases hk:ClockBase.okC l0_2=true
 rotate_left
 ·rw [if_neg hk] at h
  obtain rfl:=Option.some.inj h
  rw [Bool.not_eq_true] at hk
  rw [hk] at hck
  clear hk h hC3
  go_enter Try.func55,Try.ntmps55
  go_wp2_with (first|(go_at_call 88;(with_reducible refine(hmay _).mono ?_);rintro e w' ⟨rfl,hb⟩;have b_:=Aside0.mk (blk_below (g:=w.heap.size) (o:=.cells #[.int .i64 a0_0,.int .i64 a0_1,.slice A0_2 l0_2.length c0_2,.slice A0_3 l0_3.length c0_3] 59 (0,0)) z6_1 hb);clear BK;have BK:=b_;clear b_;(try clear hz0 hz1 hz2 hz3);have hz0:w'.cell? ⟨w.heap.size,0,none⟩=some (.int .i64 a0_0):=(blk_cell BK.out 0).trans rfl;have hz1:w'.cell? ⟨w.heap.size,1,none⟩=some (.int .i64 a0_1):=(blk_cell BK.out 1).trans rfl;have hz2:w'.cell? ⟨w.heap.size,2,none⟩=some (.slice A0_2 l0_2.length c0_2):=(blk_cell BK.out 2).trans rfl;have hz3:w'.cell? ⟨w.heap.size,3,none⟩=some (.slice A0_3 l0_3.length c0_3):=(blk_cell BK.out 3).trans rfl;have n_:=Aside0.mk (below_step (w:=w) z6_0 hb);clear HB hb;have HB:=n_;clear n_)|(go_at_call 52;(with_reducible refine(hck _ ?zb1).mono ?_);(case zb1=>exact z6_0);rintro e w' ⟨rfl,hb⟩;have b_:=Aside0.mk (blk_below (g:=w.heap.size) (o:=.cells #[.int .i64 a0_0,.int .i64 a0_1,.slice A0_2 l0_2.length c0_2,.slice A0_3 l0_3.length c0_3] 59 (0,0)) z6_1 hb);clear BK;have BK:=b_;clear b_;(try clear hz0 hz1 hz2 hz3);have hz0:w'.cell? ⟨w.heap.size,0,none⟩=some (.int .i64 a0_0):=(blk_cell BK.out 0).trans rfl;have hz1:w'.cell? ⟨w.heap.size,1,none⟩=some (.int .i64 a0_1):=(blk_cell BK.out 1).trans rfl;have hz2:w'.cell? ⟨w.heap.size,2,none⟩=some (.slice A0_2 l0_2.length c0_2):=(blk_cell BK.out 2).trans rfl;have hz3:w'.cell? ⟨w.heap.size,3,none⟩=some (.slice A0_3 l0_3.length c0_3):=(blk_cell BK.out 3).trans rfl;have n_:=Aside0.mk (below_step (w:=w) z6_0 hb);clear HB hb;have HB:=n_;clear n_))
  go_ret
  exact ⟨rfl,z6_0⟩
 rw [if_pos hk] at h
 rw [hk] at hck
 clear hk
 obtain ⟨P,hP⟩:∃ P,P=ClockBase.trim (ClockBase.ofL l0_2):=⟨_,rfl⟩
 rw [<-hP] at h hpl
 have hPl:P.length<=5:=by
  rw [hP]
  unfold ClockBase.trim
  rw [List.length_take]
  have:=ClockBase.ofL_length l0_2
  omega
 clear hP
 by_cases hp:P.length=l0_2.length
 rotate_left
 ·rw [if_neg hp] at h
  obtain rfl:=Option.some.inj h
  have p1:(P.length == l0_2.length)=false:=beq_eq_false_iff_ne.2 hp
  have p2:(P.length != l0_2.length)=true:=bne_iff_ne.2 hp
  have p3:((P.length:Int) == (l0_2.length:Int))=false:=beq_eq_false_iff_ne.2 (by omega)
  have p4:((P.length:Int) != (l0_2.length:Int))=true:=bne_iff_ne.2 (by omega)
  clear hp h hC3
  go_enter Try.func55,Try.ntmps55
  go_upto_region 3 with (first|(go_at_call 88;(with_reducible refine(hmay _).mono ?_);rintro e w' ⟨rfl,hb⟩;have b_:=Aside0.mk (blk_below (g:=w.heap.size) (o:=.cells #[.int .i64 a0_0,.int .i64 a0_1,.slice A0_2 l0_2.length c0_2,.slice A0_3 l0_3.length c0_3] 59 (0,0)) z6_1 hb);clear BK;have BK:=b_;clear b_;(try clear hz0 hz1 hz2 hz3);have hz0:w'.cell? ⟨w.heap.size,0,none⟩=some (.int .i64 a0_0):=(blk_cell BK.out 0).trans rfl;have hz1:w'.cell? ⟨w.heap.size,1,none⟩=some (.int .i64 a0_1):=(blk_cell BK.out 1).trans rfl;have hz2:w'.cell? ⟨w.heap.size,2,none⟩=some (.slice A0_2 l0_2.length c0_2):=(blk_cell BK.out 2).trans rfl;have hz3:w'.cell? ⟨w.heap.size,3,none⟩=some (.slice A0_3 l0_3.length c0_3):=(blk_cell BK.out 3).trans rfl;have n_:=Aside0.mk (below_step (w:=w) z6_0 hb);clear HB hb;have HB:=n_;clear n_)|(go_at_call 52;(with_reducible refine(hck _ ?zb1).mono ?_);(case zb1=>exact z6_0);rintro e w' ⟨rfl,hb⟩;have b_:=Aside0.mk (blk_below (g:=w.heap.size) (o:=.cells #[.int .i64 a0_0,.int .i64 a0_1,.slice A0_2 l0_2.length c0_2,.slice A0_3 l0_3.length c0_3] 59 (0,0)) z6_1 hb);clear BK;have BK:=b_;clear b_;(try clear hz0 hz1 hz2 hz3);have hz0:w'.cell? ⟨w.heap.size,0,none⟩=some (.int .i64 a0_0):=(blk_cell BK.out 0).trans rfl;have hz1:w'.cell? ⟨w.heap.size,1,none⟩=some (.int .i64 a0_1):=(blk_cell BK.out 1).trans rfl;have hz2:w'.cell? ⟨w.heap.size,2,none⟩=some (.slice A0_2 l0_2.length c0_2):=(blk_cell BK.out 2).trans rfl;have hz3:w'.cell? ⟨w.heap.size,3,none⟩=some (.slice A0_3 l0_3.length c0_3):=(blk_cell BK.out 3).trans rfl;have n_:=Aside0.mk (below_step (w:=w) z6_0 hb);clear HB hb;have HB:=n_;clear n_))
  go_region_held3 (λW=>W.cell? ⟨w.heap.size,0,none⟩=some (.int .i64 a0_0)/\W.cell? ⟨w.heap.size,1,none⟩=some (.int .i64 a0_1)/\W.cell? ⟨w.heap.size,2,none⟩=some (.slice A0_2 l0_2.length c0_2)/\W.cell? ⟨w.heap.size,3,none⟩=some (.slice A0_3 l0_3.length c0_3)/\Aside0 (W.heap[w.heap.size]? = some (.cells #[.int .i64 a0_0,.int .i64 a0_1,.slice A0_2 l0_2.length c0_2,.slice A0_3 l0_3.length c0_3] 59 (0,0)))/\Aside0 (Below w.heap.size w W)) ((refine ⟨?_,?_,?_,?_,?_,?_⟩<;>(first|assumption|(refine Aside0.mk ?_;(repeat(first|(with_reducible exact BK.out)|(with_reducible refine blk_drewN ?_ _)|(with_reducible refine blk_drew ?_)|(with_reducible refine blk_alloc ?_ _)));done)|(refine Aside0.mk ?_;(repeat(first|(with_reducible exact HB.out)|(with_reducible refine below_alloc ?_ _)|(with_reducible refine pw_below_drewN ?_ _)|(with_reducible refine below_drew ?_)|(with_reducible refine Below.drew ?_)));done)|(go_keep)))) (first|(go_at_call 53;(with_reducible refine(hpl _ ?zb2).mono ?_);(case zb2=>exact z6_0);rintro e w' ⟨v,rfl,hv,hb⟩;have b_:=Aside0.mk (blk_below (g:=w.heap.size) (o:=.cells #[.int .i64 a0_0,.int .i64 a0_1,.slice A0_2 l0_2.length c0_2,.slice A0_3 l0_3.length c0_3] 59 (0,0)) z6_1 hb);clear BK;have BK:=b_;clear b_;(try clear hz0 hz1 hz2 hz3);have hz0:w'.cell? ⟨w.heap.size,0,none⟩=some (.int .i64 a0_0):=(blk_cell BK.out 0).trans rfl;have hz1:w'.cell? ⟨w.heap.size,1,none⟩=some (.int .i64 a0_1):=(blk_cell BK.out 1).trans rfl;have hz2:w'.cell? ⟨w.heap.size,2,none⟩=some (.slice A0_2 l0_2.length c0_2):=(blk_cell BK.out 2).trans rfl;have hz3:w'.cell? ⟨w.heap.size,3,none⟩=some (.slice A0_3 l0_3.length c0_3):=(blk_cell BK.out 3).trans rfl;have n_:=Aside0.mk (below_step (w:=w) z6_0 hb);clear HB hb;have HB:=n_;clear n_;obtain ⟨Av,cv,ev⟩:=Kd.R_slice hv;subst ev;clear hv)|(go_at_call 89;(with_reducible refine(hge _ ?zb3).mono ?_);(case zb3=>exact z6_0);rintro e w' ⟨rfl,hb⟩;have b_:=Aside0.mk (blk_below (g:=w.heap.size) (o:=.cells #[.int .i64 a0_0,.int .i64 a0_1,.slice A0_2 l0_2.length c0_2,.slice A0_3 l0_3.length c0_3] 59 (0,0)) z6_1 hb);clear BK;have BK:=b_;clear b_;(try clear hz0 hz1 hz2 hz3);have hz0:w'.cell? ⟨w.heap.size,0,none⟩=some (.int .i64 a0_0):=(blk_cell BK.out 0).trans rfl;have hz1:w'.cell? ⟨w.heap.size,1,none⟩=some (.int .i64 a0_1):=(blk_cell BK.out 1).trans rfl;have hz2:w'.cell? ⟨w.heap.size,2,none⟩=some (.slice A0_2 l0_2.length c0_2):=(blk_cell BK.out 2).trans rfl;have hz3:w'.cell? ⟨w.heap.size,3,none⟩=some (.slice A0_3 l0_3.length c0_3):=(blk_cell BK.out 3).trans rfl;have n_:=Aside0.mk (below_step (w:=w) z6_0 hb);clear HB hb;have HB:=n_;clear n_))
  go_wp2_with (fail)
  go_ret
  exact ⟨rfl,z6_0⟩
 rw [if_pos hp] at h
 have p1:(P.length == l0_2.length)=true:=beq_iff_eq.2 hp
 have p2:(P.length != l0_2.length)=false:=bne_eq_false_iff_eq.2 hp
 have p3:((P.length:Int) == (l0_2.length:Int))=true:=beq_iff_eq.2 (by omega)
 have p4:((P.length:Int) != (l0_2.length:Int))=false:=bne_eq_false_iff_eq.2 (by omega)
 clear hp
 obtain ⟨G,hG⟩:∃ G,G=ClockBase.getS l0_2 a0_0:=⟨_,rfl⟩
 rw [<-hG] at h hge
 clear hG
 have hw:IntKind.i64.wrap (a0_1 - 1)=wrap64 (a0_1 - 1):=i64_w _
 obtain ⟨S,hS⟩:∃ S,S=wrap64 (a0_1 - 1):=⟨_,rfl⟩
 rw [<-hS] at h hw
 have HS:=Aside0.mk hS
 by_cases hg:G=S
 rotate_left
 ·rw [if_neg hg] at h
  obtain rfl:=Option.some.inj h
  have g1:(G == wrap64 (a0_1 - 1))=false:=by rw [<-hS];exact beq_eq_false_iff_ne.2 hg
  have g2:(G != wrap64 (a0_1 - 1))=true:=by rw [<-hS];exact bne_iff_ne.2 hg
  have g3:(G != IntKind.i64.wrap (a0_1 - 1))=true:=by rw [i64_w];exact g2
  clear hg hS hw h hC3
  go_enter Try.func55,Try.ntmps55
  go_upto_region 3 with (first|(go_at_call 88;(with_reducible refine(hmay _).mono ?_);rintro e w' ⟨rfl,hb⟩;have b_:=Aside0.mk (blk_below (g:=w.heap.size) (o:=.cells #[.int .i64 a0_0,.int .i64 a0_1,.slice A0_2 l0_2.length c0_2,.slice A0_3 l0_3.length c0_3] 59 (0,0)) z6_1 hb);clear BK;have BK:=b_;clear b_;(try clear hz0 hz1 hz2 hz3);have hz0:w'.cell? ⟨w.heap.size,0,none⟩=some (.int .i64 a0_0):=(blk_cell BK.out 0).trans rfl;have hz1:w'.cell? ⟨w.heap.size,1,none⟩=some (.int .i64 a0_1):=(blk_cell BK.out 1).trans rfl;have hz2:w'.cell? ⟨w.heap.size,2,none⟩=some (.slice A0_2 l0_2.length c0_2):=(blk_cell BK.out 2).trans rfl;have hz3:w'.cell? ⟨w.heap.size,3,none⟩=some (.slice A0_3 l0_3.length c0_3):=(blk_cell BK.out 3).trans rfl;have n_:=Aside0.mk (below_step (w:=w) z6_0 hb);clear HB hb;have HB:=n_;clear n_)|(go_at_call 52;(with_reducible refine(hck _ ?zb1).mono ?_);(case zb1=>exact z6_0);rintro e w' ⟨rfl,hb⟩;have b_:=Aside0.mk (blk_below (g:=w.heap.size) (o:=.cells #[.int .i64 a0_0,.int .i64 a0_1,.slice A0_2 l0_2.length c0_2,.slice A0_3 l0_3.length c0_3] 59 (0,0)) z6_1 hb);clear BK;have BK:=b_;clear b_;(try clear hz0 hz1 hz2 hz3);have hz0:w'.cell? ⟨w.heap.size,0,none⟩=some (.int .i64 a0_0):=(blk_cell BK.out 0).trans rfl;have hz1:w'.cell? ⟨w.heap.size,1,none⟩=some (.int .i64 a0_1):=(blk_cell BK.out 1).trans rfl;have hz2:w'.cell? ⟨w.heap.size,2,none⟩=some (.slice A0_2 l0_2.length c0_2):=(blk_cell BK.out 2).trans rfl;have hz3:w'.cell? ⟨w.heap.size,3,none⟩=some (.slice A0_3 l0_3.length c0_3):=(blk_cell BK.out 3).trans rfl;have n_:=Aside0.mk (below_step (w:=w) z6_0 hb);clear HB hb;have HB:=n_;clear n_))
  go_region_held3 (λW=>W.cell? ⟨w.heap.size,0,none⟩=some (.int .i64 a0_0)/\W.cell? ⟨w.heap.size,1,none⟩=some (.int .i64 a0_1)/\W.cell? ⟨w.heap.size,2,none⟩=some (.slice A0_2 l0_2.length c0_2)/\W.cell? ⟨w.heap.size,3,none⟩=some (.slice A0_3 l0_3.length c0_3)/\Aside0 (W.heap[w.heap.size]? = some (.cells #[.int .i64 a0_0,.int .i64 a0_1,.slice A0_2 l0_2.length c0_2,.slice A0_3 l0_3.length c0_3] 59 (0,0)))/\Aside0 (Below w.heap.size w W)) ((refine ⟨?_,?_,?_,?_,?_,?_⟩<;>(first|assumption|(refine Aside0.mk ?_;(repeat(first|(with_reducible exact BK.out)|(with_reducible refine blk_drewN ?_ _)|(with_reducible refine blk_drew ?_)|(with_reducible refine blk_alloc ?_ _)));done)|(refine Aside0.mk ?_;(repeat(first|(with_reducible exact HB.out)|(with_reducible refine below_alloc ?_ _)|(with_reducible refine pw_below_drewN ?_ _)|(with_reducible refine below_drew ?_)|(with_reducible refine Below.drew ?_)));done)|(go_keep)))) (first|(go_at_call 53;(with_reducible refine(hpl _ ?zb2).mono ?_);(case zb2=>exact z6_0);rintro e w' ⟨v,rfl,hv,hb⟩;have b_:=Aside0.mk (blk_below (g:=w.heap.size) (o:=.cells #[.int .i64 a0_0,.int .i64 a0_1,.slice A0_2 l0_2.length c0_2,.slice A0_3 l0_3.length c0_3] 59 (0,0)) z6_1 hb);clear BK;have BK:=b_;clear b_;(try clear hz0 hz1 hz2 hz3);have hz0:w'.cell? ⟨w.heap.size,0,none⟩=some (.int .i64 a0_0):=(blk_cell BK.out 0).trans rfl;have hz1:w'.cell? ⟨w.heap.size,1,none⟩=some (.int .i64 a0_1):=(blk_cell BK.out 1).trans rfl;have hz2:w'.cell? ⟨w.heap.size,2,none⟩=some (.slice A0_2 l0_2.length c0_2):=(blk_cell BK.out 2).trans rfl;have hz3:w'.cell? ⟨w.heap.size,3,none⟩=some (.slice A0_3 l0_3.length c0_3):=(blk_cell BK.out 3).trans rfl;have n_:=Aside0.mk (below_step (w:=w) z6_0 hb);clear HB hb;have HB:=n_;clear n_;obtain ⟨Av,cv,ev⟩:=Kd.R_slice hv;subst ev;clear hv)|(go_at_call 89;(with_reducible refine(hge _ ?zb3).mono ?_);(case zb3=>exact z6_0);rintro e w' ⟨rfl,hb⟩;have b_:=Aside0.mk (blk_below (g:=w.heap.size) (o:=.cells #[.int .i64 a0_0,.int .i64 a0_1,.slice A0_2 l0_2.length c0_2,.slice A0_3 l0_3.length c0_3] 59 (0,0)) z6_1 hb);clear BK;have BK:=b_;clear b_;(try clear hz0 hz1 hz2 hz3);have hz0:w'.cell? ⟨w.heap.size,0,none⟩=some (.int .i64 a0_0):=(blk_cell BK.out 0).trans rfl;have hz1:w'.cell? ⟨w.heap.size,1,none⟩=some (.int .i64 a0_1):=(blk_cell BK.out 1).trans rfl;have hz2:w'.cell? ⟨w.heap.size,2,none⟩=some (.slice A0_2 l0_2.length c0_2):=(blk_cell BK.out 2).trans rfl;have hz3:w'.cell? ⟨w.heap.size,3,none⟩=some (.slice A0_3 l0_3.length c0_3):=(blk_cell BK.out 3).trans rfl;have n_:=Aside0.mk (below_step (w:=w) z6_0 hb);clear HB hb;have HB:=n_;clear n_))
  go_upto_region 5 with (fail)
  go_region_held3 (λW=>W.cell? ⟨w.heap.size,0,none⟩=some (.int .i64 a0_0)/\W.cell? ⟨w.heap.size,1,none⟩=some (.int .i64 a0_1)/\W.cell? ⟨w.heap.size,2,none⟩=some (.slice A0_2 l0_2.length c0_2)/\W.cell? ⟨w.heap.size,3,none⟩=some (.slice A0_3 l0_3.length c0_3)/\Aside0 (W.heap[w.heap.size]? = some (.cells #[.int .i64 a0_0,.int .i64 a0_1,.slice A0_2 l0_2.length c0_2,.slice A0_3 l0_3.length c0_3] 59 (0,0)))/\Aside0 (Below w.heap.size w W)) ((refine ⟨?_,?_,?_,?_,?_,?_⟩<;>(first|assumption|(refine Aside0.mk ?_;(repeat(first|(with_reducible exact BK.out)|(with_reducible refine blk_drewN ?_ _)|(with_reducible refine blk_drew ?_)|(with_reducible refine blk_alloc ?_ _)));done)|(refine Aside0.mk ?_;(repeat(first|(with_reducible exact HB.out)|(with_reducible refine below_alloc ?_ _)|(with_reducible refine pw_below_drewN ?_ _)|(with_reducible refine below_drew ?_)|(with_reducible refine Below.drew ?_)));done)|(go_keep)))) (first|(go_at_call 53;(with_reducible refine(hpl _ ?zb2).mono ?_);(case zb2=>exact z6_0);rintro e w' ⟨v,rfl,hv,hb⟩;have b_:=Aside0.mk (blk_below (g:=w.heap.size) (o:=.cells #[.int .i64 a0_0,.int .i64 a0_1,.slice A0_2 l0_2.length c0_2,.slice A0_3 l0_3.length c0_3] 59 (0,0)) z6_1 hb);clear BK;have BK:=b_;clear b_;(try clear hz0 hz1 hz2 hz3);have hz0:w'.cell? ⟨w.heap.size,0,none⟩=some (.int .i64 a0_0):=(blk_cell BK.out 0).trans rfl;have hz1:w'.cell? ⟨w.heap.size,1,none⟩=some (.int .i64 a0_1):=(blk_cell BK.out 1).trans rfl;have hz2:w'.cell? ⟨w.heap.size,2,none⟩=some (.slice A0_2 l0_2.length c0_2):=(blk_cell BK.out 2).trans rfl;have hz3:w'.cell? ⟨w.heap.size,3,none⟩=some (.slice A0_3 l0_3.length c0_3):=(blk_cell BK.out 3).trans rfl;have n_:=Aside0.mk (below_step (w:=w) z6_0 hb);clear HB hb;have HB:=n_;clear n_;obtain ⟨Av,cv,ev⟩:=Kd.R_slice hv;subst ev;clear hv)|(go_at_call 89;(with_reducible refine(hge _ ?zb3).mono ?_);(case zb3=>exact z6_0);rintro e w' ⟨rfl,hb⟩;have b_:=Aside0.mk (blk_below (g:=w.heap.size) (o:=.cells #[.int .i64 a0_0,.int .i64 a0_1,.slice A0_2 l0_2.length c0_2,.slice A0_3 l0_3.length c0_3] 59 (0,0)) z6_1 hb);clear BK;have BK:=b_;clear b_;(try clear hz0 hz1 hz2 hz3);have hz0:w'.cell? ⟨w.heap.size,0,none⟩=some (.int .i64 a0_0):=(blk_cell BK.out 0).trans rfl;have hz1:w'.cell? ⟨w.heap.size,1,none⟩=some (.int .i64 a0_1):=(blk_cell BK.out 1).trans rfl;have hz2:w'.cell? ⟨w.heap.size,2,none⟩=some (.slice A0_2 l0_2.length c0_2):=(blk_cell BK.out 2).trans rfl;have hz3:w'.cell? ⟨w.heap.size,3,none⟩=some (.slice A0_3 l0_3.length c0_3):=(blk_cell BK.out 3).trans rfl;have n_:=Aside0.mk (below_step (w:=w) z6_0 hb);clear HB hb;have HB:=n_;clear n_))
  go_wp2_with (fail)
  go_ret
  exact ⟨rfl,z6_0⟩
 rw [if_pos hg] at h
 have g1:(G == wrap64 (a0_1 - 1))=true:=by rw [<-hS];exact beq_iff_eq.2 hg
 have g2:(G != wrap64 (a0_1 - 1))=false:=by rw [<-hS];exact bne_eq_false_iff_eq.2 hg
 have g3:(G != IntKind.i64.wrap (a0_1 - 1))=false:=by rw [i64_w];exact g2
 clear hg hS hw
 by_cases h1:l0_3.length<1
 ·rw [if_pos h1] at h
  obtain rfl:=Option.some.inj h
  have n1:decide ((l0_3.length:Int)<1)=true:=decide_eq_true (by omega)
  have n2:l0_3.length=0:=by omega
  have N2:=Aside0.mk n2
  clear h h1 hC3 n2
  go_enter Try.func55,Try.ntmps55
  go_upto_region 3 with (first|(go_at_call 88;(with_reducible refine(hmay _).mono ?_);rintro e w' ⟨rfl,hb⟩;have b_:=Aside0.mk (blk_below (g:=w.heap.size) (o:=.cells #[.int .i64 a0_0,.int .i64 a0_1,.slice A0_2 l0_2.length c0_2,.slice A0_3 l0_3.length c0_3] 59 (0,0)) z6_1 hb);clear BK;have BK:=b_;clear b_;(try clear hz0 hz1 hz2 hz3);have hz0:w'.cell? ⟨w.heap.size,0,none⟩=some (.int .i64 a0_0):=(blk_cell BK.out 0).trans rfl;have hz1:w'.cell? ⟨w.heap.size,1,none⟩=some (.int .i64 a0_1):=(blk_cell BK.out 1).trans rfl;have hz2:w'.cell? ⟨w.heap.size,2,none⟩=some (.slice A0_2 l0_2.length c0_2):=(blk_cell BK.out 2).trans rfl;have hz3:w'.cell? ⟨w.heap.size,3,none⟩=some (.slice A0_3 l0_3.length c0_3):=(blk_cell BK.out 3).trans rfl;have n_:=Aside0.mk (below_step (w:=w) z6_0 hb);clear HB hb;have HB:=n_;clear n_)|(go_at_call 52;(with_reducible refine(hck _ ?zb1).mono ?_);(case zb1=>exact z6_0);rintro e w' ⟨rfl,hb⟩;have b_:=Aside0.mk (blk_below (g:=w.heap.size) (o:=.cells #[.int .i64 a0_0,.int .i64 a0_1,.slice A0_2 l0_2.length c0_2,.slice A0_3 l0_3.length c0_3] 59 (0,0)) z6_1 hb);clear BK;have BK:=b_;clear b_;(try clear hz0 hz1 hz2 hz3);have hz0:w'.cell? ⟨w.heap.size,0,none⟩=some (.int .i64 a0_0):=(blk_cell BK.out 0).trans rfl;have hz1:w'.cell? ⟨w.heap.size,1,none⟩=some (.int .i64 a0_1):=(blk_cell BK.out 1).trans rfl;have hz2:w'.cell? ⟨w.heap.size,2,none⟩=some (.slice A0_2 l0_2.length c0_2):=(blk_cell BK.out 2).trans rfl;have hz3:w'.cell? ⟨w.heap.size,3,none⟩=some (.slice A0_3 l0_3.length c0_3):=(blk_cell BK.out 3).trans rfl;have n_:=Aside0.mk (below_step (w:=w) z6_0 hb);clear HB hb;have HB:=n_;clear n_))
  go_region_held3 (λW=>W.cell? ⟨w.heap.size,0,none⟩=some (.int .i64 a0_0)/\W.cell? ⟨w.heap.size,1,none⟩=some (.int .i64 a0_1)/\W.cell? ⟨w.heap.size,2,none⟩=some (.slice A0_2 l0_2.length c0_2)/\W.cell? ⟨w.heap.size,3,none⟩=some (.slice A0_3 l0_3.length c0_3)/\Aside0 (W.heap[w.heap.size]? = some (.cells #[.int .i64 a0_0,.int .i64 a0_1,.slice A0_2 l0_2.length c0_2,.slice A0_3 l0_3.length c0_3] 59 (0,0)))/\Aside0 (Below w.heap.size w W)) ((refine ⟨?_,?_,?_,?_,?_,?_⟩<;>(first|assumption|(refine Aside0.mk ?_;(repeat(first|(with_reducible exact BK.out)|(with_reducible refine blk_drewN ?_ _)|(with_reducible refine blk_drew ?_)|(with_reducible refine blk_alloc ?_ _)));done)|(refine Aside0.mk ?_;(repeat(first|(with_reducible exact HB.out)|(with_reducible refine below_alloc ?_ _)|(with_reducible refine pw_below_drewN ?_ _)|(with_reducible refine below_drew ?_)|(with_reducible refine Below.drew ?_)));done)|(go_keep)))) (first|(go_at_call 53;(with_reducible refine(hpl _ ?zb2).mono ?_);(case zb2=>exact z6_0);rintro e w' ⟨v,rfl,hv,hb⟩;have b_:=Aside0.mk (blk_below (g:=w.heap.size) (o:=.cells #[.int .i64 a0_0,.int .i64 a0_1,.slice A0_2 l0_2.length c0_2,.slice A0_3 l0_3.length c0_3] 59 (0,0)) z6_1 hb);clear BK;have BK:=b_;clear b_;(try clear hz0 hz1 hz2 hz3);have hz0:w'.cell? ⟨w.heap.size,0,none⟩=some (.int .i64 a0_0):=(blk_cell BK.out 0).trans rfl;have hz1:w'.cell? ⟨w.heap.size,1,none⟩=some (.int .i64 a0_1):=(blk_cell BK.out 1).trans rfl;have hz2:w'.cell? ⟨w.heap.size,2,none⟩=some (.slice A0_2 l0_2.length c0_2):=(blk_cell BK.out 2).trans rfl;have hz3:w'.cell? ⟨w.heap.size,3,none⟩=some (.slice A0_3 l0_3.length c0_3):=(blk_cell BK.out 3).trans rfl;have n_:=Aside0.mk (below_step (w:=w) z6_0 hb);clear HB hb;have HB:=n_;clear n_;obtain ⟨Av,cv,ev⟩:=Kd.R_slice hv;subst ev;clear hv)|(go_at_call 89;(with_reducible refine(hge _ ?zb3).mono ?_);(case zb3=>exact z6_0);rintro e w' ⟨rfl,hb⟩;have b_:=Aside0.mk (blk_below (g:=w.heap.size) (o:=.cells #[.int .i64 a0_0,.int .i64 a0_1,.slice A0_2 l0_2.length c0_2,.slice A0_3 l0_3.length c0_3] 59 (0,0)) z6_1 hb);clear BK;have BK:=b_;clear b_;(try clear hz0 hz1 hz2 hz3);have hz0:w'.cell? ⟨w.heap.size,0,none⟩=some (.int .i64 a0_0):=(blk_cell BK.out 0).trans rfl;have hz1:w'.cell? ⟨w.heap.size,1,none⟩=some (.int .i64 a0_1):=(blk_cell BK.out 1).trans rfl;have hz2:w'.cell? ⟨w.heap.size,2,none⟩=some (.slice A0_2 l0_2.length c0_2):=(blk_cell BK.out 2).trans rfl;have hz3:w'.cell? ⟨w.heap.size,3,none⟩=some (.slice A0_3 l0_3.length c0_3):=(blk_cell BK.out 3).trans rfl;have n_:=Aside0.mk (below_step (w:=w) z6_0 hb);clear HB hb;have HB:=n_;clear n_))
  go_upto_region 5 with (fail)
  go_region_held3 (λW=>W.cell? ⟨w.heap.size,0,none⟩=some (.int .i64 a0_0)/\W.cell? ⟨w.heap.size,1,none⟩=some (.int .i64 a0_1)/\W.cell? ⟨w.heap.size,2,none⟩=some (.slice A0_2 l0_2.length c0_2)/\W.cell? ⟨w.heap.size,3,none⟩=some (.slice A0_3 l0_3.length c0_3)/\Aside0 (W.heap[w.heap.size]? = some (.cells #[.int .i64 a0_0,.int .i64 a0_1,.slice A0_2 l0_2.length c0_2,.slice A0_3 l0_3.length c0_3] 59 (0,0)))/\Aside0 (Below w.heap.size w W)) ((refine ⟨?_,?_,?_,?_,?_,?_⟩<;>(first|assumption|(refine Aside0.mk ?_;(repeat(first|(with_reducible exact BK.out)|(with_reducible refine blk_drewN ?_ _)|(with_reducible refine blk_drew ?_)|(with_reducible refine blk_alloc ?_ _)));done)|(refine Aside0.mk ?_;(repeat(first|(with_reducible exact HB.out)|(with_reducible refine below_alloc ?_ _)|(with_reducible refine pw_below_drewN ?_ _)|(with_reducible refine below_drew ?_)|(with_reducible refine Below.drew ?_)));done)|(go_keep)))) (first|(go_at_call 53;(with_reducible refine(hpl _ ?zb2).mono ?_);(case zb2=>exact z6_0);rintro e w' ⟨v,rfl,hv,hb⟩;have b_:=Aside0.mk (blk_below (g:=w.heap.size) (o:=.cells #[.int .i64 a0_0,.int .i64 a0_1,.slice A0_2 l0_2.length c0_2,.slice A0_3 l0_3.length c0_3] 59 (0,0)) z6_1 hb);clear BK;have BK:=b_;clear b_;(try clear hz0 hz1 hz2 hz3);have hz0:w'.cell? ⟨w.heap.size,0,none⟩=some (.int .i64 a0_0):=(blk_cell BK.out 0).trans rfl;have hz1:w'.cell? ⟨w.heap.size,1,none⟩=some (.int .i64 a0_1):=(blk_cell BK.out 1).trans rfl;have hz2:w'.cell? ⟨w.heap.size,2,none⟩=some (.slice A0_2 l0_2.length c0_2):=(blk_cell BK.out 2).trans rfl;have hz3:w'.cell? ⟨w.heap.size,3,none⟩=some (.slice A0_3 l0_3.length c0_3):=(blk_cell BK.out 3).trans rfl;have n_:=Aside0.mk (below_step (w:=w) z6_0 hb);clear HB hb;have HB:=n_;clear n_;obtain ⟨Av,cv,ev⟩:=Kd.R_slice hv;subst ev;clear hv)|(go_at_call 89;(with_reducible refine(hge _ ?zb3).mono ?_);(case zb3=>exact z6_0);rintro e w' ⟨rfl,hb⟩;have b_:=Aside0.mk (blk_below (g:=w.heap.size) (o:=.cells #[.int .i64 a0_0,.int .i64 a0_1,.slice A0_2 l0_2.length c0_2,.slice A0_3 l0_3.length c0_3] 59 (0,0)) z6_1 hb);clear BK;have BK:=b_;clear b_;(try clear hz0 hz1 hz2 hz3);have hz0:w'.cell? ⟨w.heap.size,0,none⟩=some (.int .i64 a0_0):=(blk_cell BK.out 0).trans rfl;have hz1:w'.cell? ⟨w.heap.size,1,none⟩=some (.int .i64 a0_1):=(blk_cell BK.out 1).trans rfl;have hz2:w'.cell? ⟨w.heap.size,2,none⟩=some (.slice A0_2 l0_2.length c0_2):=(blk_cell BK.out 2).trans rfl;have hz3:w'.cell? ⟨w.heap.size,3,none⟩=some (.slice A0_3 l0_3.length c0_3):=(blk_cell BK.out 3).trans rfl;have n_:=Aside0.mk (below_step (w:=w) z6_0 hb);clear HB hb;have HB:=n_;clear n_))
  go_wp2_with (fail)
  go_ret
  exact ⟨rfl,z6_0⟩
 rw [if_neg h1] at h
 have n1:decide ((l0_3.length:Int)<1)=false:=decide_eq_false (by omega)
 have n0:(1:Int)<=(l0_3.length:Int):=by omega
 by_cases h2:l0_3.length > 16
 ·rw [if_pos h2] at h
  obtain rfl:=Option.some.inj h
  have n2:decide ((16:Int)<(l0_3.length:Int))=true:=decide_eq_true (by omega)
  have n3:(16:Int)<(l0_3.length:Int):=by omega
  clear h h1 h2 hC3
  go_enter Try.func55,Try.ntmps55
  go_upto_region 3 with (first|(go_at_call 88;(with_reducible refine(hmay _).mono ?_);rintro e w' ⟨rfl,hb⟩;have b_:=Aside0.mk (blk_below (g:=w.heap.size) (o:=.cells #[.int .i64 a0_0,.int .i64 a0_1,.slice A0_2 l0_2.length c0_2,.slice A0_3 l0_3.length c0_3] 59 (0,0)) z6_1 hb);clear BK;have BK:=b_;clear b_;(try clear hz0 hz1 hz2 hz3);have hz0:w'.cell? ⟨w.heap.size,0,none⟩=some (.int .i64 a0_0):=(blk_cell BK.out 0).trans rfl;have hz1:w'.cell? ⟨w.heap.size,1,none⟩=some (.int .i64 a0_1):=(blk_cell BK.out 1).trans rfl;have hz2:w'.cell? ⟨w.heap.size,2,none⟩=some (.slice A0_2 l0_2.length c0_2):=(blk_cell BK.out 2).trans rfl;have hz3:w'.cell? ⟨w.heap.size,3,none⟩=some (.slice A0_3 l0_3.length c0_3):=(blk_cell BK.out 3).trans rfl;have n_:=Aside0.mk (below_step (w:=w) z6_0 hb);clear HB hb;have HB:=n_;clear n_)|(go_at_call 52;(with_reducible refine(hck _ ?zb1).mono ?_);(case zb1=>exact z6_0);rintro e w' ⟨rfl,hb⟩;have b_:=Aside0.mk (blk_below (g:=w.heap.size) (o:=.cells #[.int .i64 a0_0,.int .i64 a0_1,.slice A0_2 l0_2.length c0_2,.slice A0_3 l0_3.length c0_3] 59 (0,0)) z6_1 hb);clear BK;have BK:=b_;clear b_;(try clear hz0 hz1 hz2 hz3);have hz0:w'.cell? ⟨w.heap.size,0,none⟩=some (.int .i64 a0_0):=(blk_cell BK.out 0).trans rfl;have hz1:w'.cell? ⟨w.heap.size,1,none⟩=some (.int .i64 a0_1):=(blk_cell BK.out 1).trans rfl;have hz2:w'.cell? ⟨w.heap.size,2,none⟩=some (.slice A0_2 l0_2.length c0_2):=(blk_cell BK.out 2).trans rfl;have hz3:w'.cell? ⟨w.heap.size,3,none⟩=some (.slice A0_3 l0_3.length c0_3):=(blk_cell BK.out 3).trans rfl;have n_:=Aside0.mk (below_step (w:=w) z6_0 hb);clear HB hb;have HB:=n_;clear n_))
  go_region_held3 (λW=>W.cell? ⟨w.heap.size,0,none⟩=some (.int .i64 a0_0)/\W.cell? ⟨w.heap.size,1,none⟩=some (.int .i64 a0_1)/\W.cell? ⟨w.heap.size,2,none⟩=some (.slice A0_2 l0_2.length c0_2)/\W.cell? ⟨w.heap.size,3,none⟩=some (.slice A0_3 l0_3.length c0_3)/\Aside0 (W.heap[w.heap.size]? = some (.cells #[.int .i64 a0_0,.int .i64 a0_1,.slice A0_2 l0_2.length c0_2,.slice A0_3 l0_3.length c0_3] 59 (0,0)))/\Aside0 (Below w.heap.size w W)) ((refine ⟨?_,?_,?_,?_,?_,?_⟩<;>(first|assumption|(refine Aside0.mk ?_;(repeat(first|(with_reducible exact BK.out)|(with_reducible refine blk_drewN ?_ _)|(with_reducible refine blk_drew ?_)|(with_reducible refine blk_alloc ?_ _)));done)|(refine Aside0.mk ?_;(repeat(first|(with_reducible exact HB.out)|(with_reducible refine below_alloc ?_ _)|(with_reducible refine pw_below_drewN ?_ _)|(with_reducible refine below_drew ?_)|(with_reducible refine Below.drew ?_)));done)|(go_keep)))) (first|(go_at_call 53;(with_reducible refine(hpl _ ?zb2).mono ?_);(case zb2=>exact z6_0);rintro e w' ⟨v,rfl,hv,hb⟩;have b_:=Aside0.mk (blk_below (g:=w.heap.size) (o:=.cells #[.int .i64 a0_0,.int .i64 a0_1,.slice A0_2 l0_2.length c0_2,.slice A0_3 l0_3.length c0_3] 59 (0,0)) z6_1 hb);clear BK;have BK:=b_;clear b_;(try clear hz0 hz1 hz2 hz3);have hz0:w'.cell? ⟨w.heap.size,0,none⟩=some (.int .i64 a0_0):=(blk_cell BK.out 0).trans rfl;have hz1:w'.cell? ⟨w.heap.size,1,none⟩=some (.int .i64 a0_1):=(blk_cell BK.out 1).trans rfl;have hz2:w'.cell? ⟨w.heap.size,2,none⟩=some (.slice A0_2 l0_2.length c0_2):=(blk_cell BK.out 2).trans rfl;have hz3:w'.cell? ⟨w.heap.size,3,none⟩=some (.slice A0_3 l0_3.length c0_3):=(blk_cell BK.out 3).trans rfl;have n_:=Aside0.mk (below_step (w:=w) z6_0 hb);clear HB hb;have HB:=n_;clear n_;obtain ⟨Av,cv,ev⟩:=Kd.R_slice hv;subst ev;clear hv)|(go_at_call 89;(with_reducible refine(hge _ ?zb3).mono ?_);(case zb3=>exact z6_0);rintro e w' ⟨rfl,hb⟩;have b_:=Aside0.mk (blk_below (g:=w.heap.size) (o:=.cells #[.int .i64 a0_0,.int .i64 a0_1,.slice A0_2 l0_2.length c0_2,.slice A0_3 l0_3.length c0_3] 59 (0,0)) z6_1 hb);clear BK;have BK:=b_;clear b_;(try clear hz0 hz1 hz2 hz3);have hz0:w'.cell? ⟨w.heap.size,0,none⟩=some (.int .i64 a0_0):=(blk_cell BK.out 0).trans rfl;have hz1:w'.cell? ⟨w.heap.size,1,none⟩=some (.int .i64 a0_1):=(blk_cell BK.out 1).trans rfl;have hz2:w'.cell? ⟨w.heap.size,2,none⟩=some (.slice A0_2 l0_2.length c0_2):=(blk_cell BK.out 2).trans rfl;have hz3:w'.cell? ⟨w.heap.size,3,none⟩=some (.slice A0_3 l0_3.length c0_3):=(blk_cell BK.out 3).trans rfl;have n_:=Aside0.mk (below_step (w:=w) z6_0 hb);clear HB hb;have HB:=n_;clear n_))
  go_upto_region 5 with (fail)
  go_region_held3 (λW=>W.cell? ⟨w.heap.size,0,none⟩=some (.int .i64 a0_0)/\W.cell? ⟨w.heap.size,1,none⟩=some (.int .i64 a0_1)/\W.cell? ⟨w.heap.size,2,none⟩=some (.slice A0_2 l0_2.length c0_2)/\W.cell? ⟨w.heap.size,3,none⟩=some (.slice A0_3 l0_3.length c0_3)/\Aside0 (W.heap[w.heap.size]? = some (.cells #[.int .i64 a0_0,.int .i64 a0_1,.slice A0_2 l0_2.length c0_2,.slice A0_3 l0_3.length c0_3] 59 (0,0)))/\Aside0 (Below w.heap.size w W)) ((refine ⟨?_,?_,?_,?_,?_,?_⟩<;>(first|assumption|(refine Aside0.mk ?_;(repeat(first|(with_reducible exact BK.out)|(with_reducible refine blk_drewN ?_ _)|(with_reducible refine blk_drew ?_)|(with_reducible refine blk_alloc ?_ _)));done)|(refine Aside0.mk ?_;(repeat(first|(with_reducible exact HB.out)|(with_reducible refine below_alloc ?_ _)|(with_reducible refine pw_below_drewN ?_ _)|(with_reducible refine below_drew ?_)|(with_reducible refine Below.drew ?_)));done)|(go_keep)))) (first|(go_at_call 53;(with_reducible refine(hpl _ ?zb2).mono ?_);(case zb2=>exact z6_0);rintro e w' ⟨v,rfl,hv,hb⟩;have b_:=Aside0.mk (blk_below (g:=w.heap.size) (o:=.cells #[.int .i64 a0_0,.int .i64 a0_1,.slice A0_2 l0_2.length c0_2,.slice A0_3 l0_3.length c0_3] 59 (0,0)) z6_1 hb);clear BK;have BK:=b_;clear b_;(try clear hz0 hz1 hz2 hz3);have hz0:w'.cell? ⟨w.heap.size,0,none⟩=some (.int .i64 a0_0):=(blk_cell BK.out 0).trans rfl;have hz1:w'.cell? ⟨w.heap.size,1,none⟩=some (.int .i64 a0_1):=(blk_cell BK.out 1).trans rfl;have hz2:w'.cell? ⟨w.heap.size,2,none⟩=some (.slice A0_2 l0_2.length c0_2):=(blk_cell BK.out 2).trans rfl;have hz3:w'.cell? ⟨w.heap.size,3,none⟩=some (.slice A0_3 l0_3.length c0_3):=(blk_cell BK.out 3).trans rfl;have n_:=Aside0.mk (below_step (w:=w) z6_0 hb);clear HB hb;have HB:=n_;clear n_;obtain ⟨Av,cv,ev⟩:=Kd.R_slice hv;subst ev;clear hv)|(go_at_call 89;(with_reducible refine(hge _ ?zb3).mono ?_);(case zb3=>exact z6_0);rintro e w' ⟨rfl,hb⟩;have b_:=Aside0.mk (blk_below (g:=w.heap.size) (o:=.cells #[.int .i64 a0_0,.int .i64 a0_1,.slice A0_2 l0_2.length c0_2,.slice A0_3 l0_3.length c0_3] 59 (0,0)) z6_1 hb);clear BK;have BK:=b_;clear b_;(try clear hz0 hz1 hz2 hz3);have hz0:w'.cell? ⟨w.heap.size,0,none⟩=some (.int .i64 a0_0):=(blk_cell BK.out 0).trans rfl;have hz1:w'.cell? ⟨w.heap.size,1,none⟩=some (.int .i64 a0_1):=(blk_cell BK.out 1).trans rfl;have hz2:w'.cell? ⟨w.heap.size,2,none⟩=some (.slice A0_2 l0_2.length c0_2):=(blk_cell BK.out 2).trans rfl;have hz3:w'.cell? ⟨w.heap.size,3,none⟩=some (.slice A0_3 l0_3.length c0_3):=(blk_cell BK.out 3).trans rfl;have n_:=Aside0.mk (below_step (w:=w) z6_0 hb);clear HB hb;have HB:=n_;clear n_))
  go_wp2_with (fail)
  go_ret
  exact ⟨rfl,z6_0⟩
 rw [if_neg h2] at h
 have n2:decide ((16:Int)<(l0_3.length:Int))=false:=decide_eq_false (by omega)
 have n3:(l0_3.length:Int)<=16:=by omega
 obtain ⟨b,hany,h⟩:=Option.bind_eq_some_iff.1 h
 have hco:=λW (hB:Below w.heap.size w W)=>event_Check.contains_calls k A0_3 c0_3 l0_3 b W (Kd.C_below hC3 hB) hany
 clear hany h1 h2 hC3
 cases b with
 | true =>
  rw [if_pos rfl] at h
  obtain rfl:=Option.some.inj h
  clear h
  go_enter Try.func55,Try.ntmps55
  go_upto_region 3 with (first|(go_at_call 88;(with_reducible refine(hmay _).mono ?_);rintro e w' ⟨rfl,hb⟩;have b_:=Aside0.mk (blk_below (g:=w.heap.size) (o:=.cells #[.int .i64 a0_0,.int .i64 a0_1,.slice A0_2 l0_2.length c0_2,.slice A0_3 l0_3.length c0_3] 59 (0,0)) z6_1 hb);clear BK;have BK:=b_;clear b_;(try clear hz0 hz1 hz2 hz3);have hz0:w'.cell? ⟨w.heap.size,0,none⟩=some (.int .i64 a0_0):=(blk_cell BK.out 0).trans rfl;have hz1:w'.cell? ⟨w.heap.size,1,none⟩=some (.int .i64 a0_1):=(blk_cell BK.out 1).trans rfl;have hz2:w'.cell? ⟨w.heap.size,2,none⟩=some (.slice A0_2 l0_2.length c0_2):=(blk_cell BK.out 2).trans rfl;have hz3:w'.cell? ⟨w.heap.size,3,none⟩=some (.slice A0_3 l0_3.length c0_3):=(blk_cell BK.out 3).trans rfl;have n_:=Aside0.mk (below_step (w:=w) z6_0 hb);clear HB hb;have HB:=n_;clear n_)|(go_at_call 52;(with_reducible refine(hck _ ?zb1).mono ?_);(case zb1=>exact z6_0);rintro e w' ⟨rfl,hb⟩;have b_:=Aside0.mk (blk_below (g:=w.heap.size) (o:=.cells #[.int .i64 a0_0,.int .i64 a0_1,.slice A0_2 l0_2.length c0_2,.slice A0_3 l0_3.length c0_3] 59 (0,0)) z6_1 hb);clear BK;have BK:=b_;clear b_;(try clear hz0 hz1 hz2 hz3);have hz0:w'.cell? ⟨w.heap.size,0,none⟩=some (.int .i64 a0_0):=(blk_cell BK.out 0).trans rfl;have hz1:w'.cell? ⟨w.heap.size,1,none⟩=some (.int .i64 a0_1):=(blk_cell BK.out 1).trans rfl;have hz2:w'.cell? ⟨w.heap.size,2,none⟩=some (.slice A0_2 l0_2.length c0_2):=(blk_cell BK.out 2).trans rfl;have hz3:w'.cell? ⟨w.heap.size,3,none⟩=some (.slice A0_3 l0_3.length c0_3):=(blk_cell BK.out 3).trans rfl;have n_:=Aside0.mk (below_step (w:=w) z6_0 hb);clear HB hb;have HB:=n_;clear n_))
  go_region_held3 (λW=>W.cell? ⟨w.heap.size,0,none⟩=some (.int .i64 a0_0)/\W.cell? ⟨w.heap.size,1,none⟩=some (.int .i64 a0_1)/\W.cell? ⟨w.heap.size,2,none⟩=some (.slice A0_2 l0_2.length c0_2)/\W.cell? ⟨w.heap.size,3,none⟩=some (.slice A0_3 l0_3.length c0_3)/\Aside0 (W.heap[w.heap.size]? = some (.cells #[.int .i64 a0_0,.int .i64 a0_1,.slice A0_2 l0_2.length c0_2,.slice A0_3 l0_3.length c0_3] 59 (0,0)))/\Aside0 (Below w.heap.size w W)) ((refine ⟨?_,?_,?_,?_,?_,?_⟩<;>(first|assumption|(refine Aside0.mk ?_;(repeat(first|(with_reducible exact BK.out)|(with_reducible refine blk_drewN ?_ _)|(with_reducible refine blk_drew ?_)|(with_reducible refine blk_alloc ?_ _)));done)|(refine Aside0.mk ?_;(repeat(first|(with_reducible exact HB.out)|(with_reducible refine below_alloc ?_ _)|(with_reducible refine pw_below_drewN ?_ _)|(with_reducible refine below_drew ?_)|(with_reducible refine Below.drew ?_)));done)|(go_keep)))) (first|(go_at_call 53;(with_reducible refine(hpl _ ?zb2).mono ?_);(case zb2=>exact z6_0);rintro e w' ⟨v,rfl,hv,hb⟩;have b_:=Aside0.mk (blk_below (g:=w.heap.size) (o:=.cells #[.int .i64 a0_0,.int .i64 a0_1,.slice A0_2 l0_2.length c0_2,.slice A0_3 l0_3.length c0_3] 59 (0,0)) z6_1 hb);clear BK;have BK:=b_;clear b_;(try clear hz0 hz1 hz2 hz3);have hz0:w'.cell? ⟨w.heap.size,0,none⟩=some (.int .i64 a0_0):=(blk_cell BK.out 0).trans rfl;have hz1:w'.cell? ⟨w.heap.size,1,none⟩=some (.int .i64 a0_1):=(blk_cell BK.out 1).trans rfl;have hz2:w'.cell? ⟨w.heap.size,2,none⟩=some (.slice A0_2 l0_2.length c0_2):=(blk_cell BK.out 2).trans rfl;have hz3:w'.cell? ⟨w.heap.size,3,none⟩=some (.slice A0_3 l0_3.length c0_3):=(blk_cell BK.out 3).trans rfl;have n_:=Aside0.mk (below_step (w:=w) z6_0 hb);clear HB hb;have HB:=n_;clear n_;obtain ⟨Av,cv,ev⟩:=Kd.R_slice hv;subst ev;clear hv)|(go_at_call 89;(with_reducible refine(hge _ ?zb3).mono ?_);(case zb3=>exact z6_0);rintro e w' ⟨rfl,hb⟩;have b_:=Aside0.mk (blk_below (g:=w.heap.size) (o:=.cells #[.int .i64 a0_0,.int .i64 a0_1,.slice A0_2 l0_2.length c0_2,.slice A0_3 l0_3.length c0_3] 59 (0,0)) z6_1 hb);clear BK;have BK:=b_;clear b_;(try clear hz0 hz1 hz2 hz3);have hz0:w'.cell? ⟨w.heap.size,0,none⟩=some (.int .i64 a0_0):=(blk_cell BK.out 0).trans rfl;have hz1:w'.cell? ⟨w.heap.size,1,none⟩=some (.int .i64 a0_1):=(blk_cell BK.out 1).trans rfl;have hz2:w'.cell? ⟨w.heap.size,2,none⟩=some (.slice A0_2 l0_2.length c0_2):=(blk_cell BK.out 2).trans rfl;have hz3:w'.cell? ⟨w.heap.size,3,none⟩=some (.slice A0_3 l0_3.length c0_3):=(blk_cell BK.out 3).trans rfl;have n_:=Aside0.mk (below_step (w:=w) z6_0 hb);clear HB hb;have HB:=n_;clear n_))
  go_upto_region 5 with (fail)
  go_region_held3 (λW=>W.cell? ⟨w.heap.size,0,none⟩=some (.int .i64 a0_0)/\W.cell? ⟨w.heap.size,1,none⟩=some (.int .i64 a0_1)/\W.cell? ⟨w.heap.size,2,none⟩=some (.slice A0_2 l0_2.length c0_2)/\W.cell? ⟨w.heap.size,3,none⟩=some (.slice A0_3 l0_3.length c0_3)/\Aside0 (W.heap[w.heap.size]? = some (.cells #[.int .i64 a0_0,.int .i64 a0_1,.slice A0_2 l0_2.length c0_2,.slice A0_3 l0_3.length c0_3] 59 (0,0)))/\Aside0 (Below w.heap.size w W)) ((refine ⟨?_,?_,?_,?_,?_,?_⟩<;>(first|assumption|(refine Aside0.mk ?_;(repeat(first|(with_reducible exact BK.out)|(with_reducible refine blk_drewN ?_ _)|(with_reducible refine blk_drew ?_)|(with_reducible refine blk_alloc ?_ _)));done)|(refine Aside0.mk ?_;(repeat(first|(with_reducible exact HB.out)|(with_reducible refine below_alloc ?_ _)|(with_reducible refine pw_below_drewN ?_ _)|(with_reducible refine below_drew ?_)|(with_reducible refine Below.drew ?_)));done)|(go_keep)))) (first|(go_at_call 53;(with_reducible refine(hpl _ ?zb2).mono ?_);(case zb2=>exact z6_0);rintro e w' ⟨v,rfl,hv,hb⟩;have b_:=Aside0.mk (blk_below (g:=w.heap.size) (o:=.cells #[.int .i64 a0_0,.int .i64 a0_1,.slice A0_2 l0_2.length c0_2,.slice A0_3 l0_3.length c0_3] 59 (0,0)) z6_1 hb);clear BK;have BK:=b_;clear b_;(try clear hz0 hz1 hz2 hz3);have hz0:w'.cell? ⟨w.heap.size,0,none⟩=some (.int .i64 a0_0):=(blk_cell BK.out 0).trans rfl;have hz1:w'.cell? ⟨w.heap.size,1,none⟩=some (.int .i64 a0_1):=(blk_cell BK.out 1).trans rfl;have hz2:w'.cell? ⟨w.heap.size,2,none⟩=some (.slice A0_2 l0_2.length c0_2):=(blk_cell BK.out 2).trans rfl;have hz3:w'.cell? ⟨w.heap.size,3,none⟩=some (.slice A0_3 l0_3.length c0_3):=(blk_cell BK.out 3).trans rfl;have n_:=Aside0.mk (below_step (w:=w) z6_0 hb);clear HB hb;have HB:=n_;clear n_;obtain ⟨Av,cv,ev⟩:=Kd.R_slice hv;subst ev;clear hv)|(go_at_call 89;(with_reducible refine(hge _ ?zb3).mono ?_);(case zb3=>exact z6_0);rintro e w' ⟨rfl,hb⟩;have b_:=Aside0.mk (blk_below (g:=w.heap.size) (o:=.cells #[.int .i64 a0_0,.int .i64 a0_1,.slice A0_2 l0_2.length c0_2,.slice A0_3 l0_3.length c0_3] 59 (0,0)) z6_1 hb);clear BK;have BK:=b_;clear b_;(try clear hz0 hz1 hz2 hz3);have hz0:w'.cell? ⟨w.heap.size,0,none⟩=some (.int .i64 a0_0):=(blk_cell BK.out 0).trans rfl;have hz1:w'.cell? ⟨w.heap.size,1,none⟩=some (.int .i64 a0_1):=(blk_cell BK.out 1).trans rfl;have hz2:w'.cell? ⟨w.heap.size,2,none⟩=some (.slice A0_2 l0_2.length c0_2):=(blk_cell BK.out 2).trans rfl;have hz3:w'.cell? ⟨w.heap.size,3,none⟩=some (.slice A0_3 l0_3.length c0_3):=(blk_cell BK.out 3).trans rfl;have n_:=Aside0.mk (below_step (w:=w) z6_0 hb);clear HB hb;have HB:=n_;clear n_))
  go_wp2_with (first|(go_at_call 90;(with_reducible refine(hco _ ?zb4).mono ?_);(case zb4=>exact z6_0);rintro e w' ⟨rfl,hb⟩;have b_:=Aside0.mk (blk_below (g:=w.heap.size) (o:=.cells #[.int .i64 a0_0,.int .i64 a0_1,.slice A0_2 l0_2.length c0_2,.slice A0_3 l0_3.length c0_3] 59 (0,0)) z6_1 hb);clear BK;have BK:=b_;clear b_;(try clear hz0 hz1 hz2 hz3);have hz0:w'.cell? ⟨w.heap.size,0,none⟩=some (.int .i64 a0_0):=(blk_cell BK.out 0).trans rfl;have hz1:w'.cell? ⟨w.heap.size,1,none⟩=some (.int .i64 a0_1):=(blk_cell BK.out 1).trans rfl;have hz2:w'.cell? ⟨w.heap.size,2,none⟩=some (.slice A0_2 l0_2.length c0_2):=(blk_cell BK.out 2).trans rfl;have hz3:w'.cell? ⟨w.heap.size,3,none⟩=some (.slice A0_3 l0_3.length c0_3):=(blk_cell BK.out 3).trans rfl;have n_:=Aside0.mk (below_step (w:=w) z6_0 hb);clear HB hb;have HB:=n_;clear n_))
  go_ret
  exact ⟨rfl,z6_0⟩
 | false =>
 rw [if_neg (by simp)] at h
 obtain rfl:=Option.some.inj h
 clear h
 go_enter Try.func55,Try.ntmps55
 go_upto_region 3 with (first|(go_at_call 88;(with_reducible refine(hmay _).mono ?_);rintro e w' ⟨rfl,hb⟩;have b_:=Aside0.mk (blk_below (g:=w.heap.size) (o:=.cells #[.int .i64 a0_0,.int .i64 a0_1,.slice A0_2 l0_2.length c0_2,.slice A0_3 l0_3.length c0_3] 59 (0,0)) z6_1 hb);clear BK;have BK:=b_;clear b_;(try clear hz0 hz1 hz2 hz3);have hz0:w'.cell? ⟨w.heap.size,0,none⟩=some (.int .i64 a0_0):=(blk_cell BK.out 0).trans rfl;have hz1:w'.cell? ⟨w.heap.size,1,none⟩=some (.int .i64 a0_1):=(blk_cell BK.out 1).trans rfl;have hz2:w'.cell? ⟨w.heap.size,2,none⟩=some (.slice A0_2 l0_2.length c0_2):=(blk_cell BK.out 2).trans rfl;have hz3:w'.cell? ⟨w.heap.size,3,none⟩=some (.slice A0_3 l0_3.length c0_3):=(blk_cell BK.out 3).trans rfl;have n_:=Aside0.mk (below_step (w:=w) z6_0 hb);clear HB hb;have HB:=n_;clear n_)|(go_at_call 52;(with_reducible refine(hck _ ?zb1).mono ?_);(case zb1=>exact z6_0);rintro e w' ⟨rfl,hb⟩;have b_:=Aside0.mk (blk_below (g:=w.heap.size) (o:=.cells #[.int .i64 a0_0,.int .i64 a0_1,.slice A0_2 l0_2.length c0_2,.slice A0_3 l0_3.length c0_3] 59 (0,0)) z6_1 hb);clear BK;have BK:=b_;clear b_;(try clear hz0 hz1 hz2 hz3);have hz0:w'.cell? ⟨w.heap.size,0,none⟩=some (.int .i64 a0_0):=(blk_cell BK.out 0).trans rfl;have hz1:w'.cell? ⟨w.heap.size,1,none⟩=some (.int .i64 a0_1):=(blk_cell BK.out 1).trans rfl;have hz2:w'.cell? ⟨w.heap.size,2,none⟩=some (.slice A0_2 l0_2.length c0_2):=(blk_cell BK.out 2).trans rfl;have hz3:w'.cell? ⟨w.heap.size,3,none⟩=some (.slice A0_3 l0_3.length c0_3):=(blk_cell BK.out 3).trans rfl;have n_:=Aside0.mk (below_step (w:=w) z6_0 hb);clear HB hb;have HB:=n_;clear n_))
 go_region_held3 (λW=>W.cell? ⟨w.heap.size,0,none⟩=some (.int .i64 a0_0)/\W.cell? ⟨w.heap.size,1,none⟩=some (.int .i64 a0_1)/\W.cell? ⟨w.heap.size,2,none⟩=some (.slice A0_2 l0_2.length c0_2)/\W.cell? ⟨w.heap.size,3,none⟩=some (.slice A0_3 l0_3.length c0_3)/\Aside0 (W.heap[w.heap.size]? = some (.cells #[.int .i64 a0_0,.int .i64 a0_1,.slice A0_2 l0_2.length c0_2,.slice A0_3 l0_3.length c0_3] 59 (0,0)))/\Aside0 (Below w.heap.size w W)) ((refine ⟨?_,?_,?_,?_,?_,?_⟩<;>(first|assumption|(refine Aside0.mk ?_;(repeat(first|(with_reducible exact BK.out)|(with_reducible refine blk_drewN ?_ _)|(with_reducible refine blk_drew ?_)|(with_reducible refine blk_alloc ?_ _)));done)|(refine Aside0.mk ?_;(repeat(first|(with_reducible exact HB.out)|(with_reducible refine below_alloc ?_ _)|(with_reducible refine pw_below_drewN ?_ _)|(with_reducible refine below_drew ?_)|(with_reducible refine Below.drew ?_)));done)|(go_keep)))) (first|(go_at_call 53;(with_reducible refine(hpl _ ?zb2).mono ?_);(case zb2=>exact z6_0);rintro e w' ⟨v,rfl,hv,hb⟩;have b_:=Aside0.mk (blk_below (g:=w.heap.size) (o:=.cells #[.int .i64 a0_0,.int .i64 a0_1,.slice A0_2 l0_2.length c0_2,.slice A0_3 l0_3.length c0_3] 59 (0,0)) z6_1 hb);clear BK;have BK:=b_;clear b_;(try clear hz0 hz1 hz2 hz3);have hz0:w'.cell? ⟨w.heap.size,0,none⟩=some (.int .i64 a0_0):=(blk_cell BK.out 0).trans rfl;have hz1:w'.cell? ⟨w.heap.size,1,none⟩=some (.int .i64 a0_1):=(blk_cell BK.out 1).trans rfl;have hz2:w'.cell? ⟨w.heap.size,2,none⟩=some (.slice A0_2 l0_2.length c0_2):=(blk_cell BK.out 2).trans rfl;have hz3:w'.cell? ⟨w.heap.size,3,none⟩=some (.slice A0_3 l0_3.length c0_3):=(blk_cell BK.out 3).trans rfl;have n_:=Aside0.mk (below_step (w:=w) z6_0 hb);clear HB hb;have HB:=n_;clear n_;obtain ⟨Av,cv,ev⟩:=Kd.R_slice hv;subst ev;clear hv)|(go_at_call 89;(with_reducible refine(hge _ ?zb3).mono ?_);(case zb3=>exact z6_0);rintro e w' ⟨rfl,hb⟩;have b_:=Aside0.mk (blk_below (g:=w.heap.size) (o:=.cells #[.int .i64 a0_0,.int .i64 a0_1,.slice A0_2 l0_2.length c0_2,.slice A0_3 l0_3.length c0_3] 59 (0,0)) z6_1 hb);clear BK;have BK:=b_;clear b_;(try clear hz0 hz1 hz2 hz3);have hz0:w'.cell? ⟨w.heap.size,0,none⟩=some (.int .i64 a0_0):=(blk_cell BK.out 0).trans rfl;have hz1:w'.cell? ⟨w.heap.size,1,none⟩=some (.int .i64 a0_1):=(blk_cell BK.out 1).trans rfl;have hz2:w'.cell? ⟨w.heap.size,2,none⟩=some (.slice A0_2 l0_2.length c0_2):=(blk_cell BK.out 2).trans rfl;have hz3:w'.cell? ⟨w.heap.size,3,none⟩=some (.slice A0_3 l0_3.length c0_3):=(blk_cell BK.out 3).trans rfl;have n_:=Aside0.mk (below_step (w:=w) z6_0 hb);clear HB hb;have HB:=n_;clear n_))
 go_upto_region 5 with (fail)
 go_region_held3 (λW=>W.cell? ⟨w.heap.size,0,none⟩=some (.int .i64 a0_0)/\W.cell? ⟨w.heap.size,1,none⟩=some (.int .i64 a0_1)/\W.cell? ⟨w.heap.size,2,none⟩=some (.slice A0_2 l0_2.length c0_2)/\W.cell? ⟨w.heap.size,3,none⟩=some (.slice A0_3 l0_3.length c0_3)/\Aside0 (W.heap[w.heap.size]? = some (.cells #[.int .i64 a0_0,.int .i64 a0_1,.slice A0_2 l0_2.length c0_2,.slice A0_3 l0_3.length c0_3] 59 (0,0)))/\Aside0 (Below w.heap.size w W)) ((refine ⟨?_,?_,?_,?_,?_,?_⟩<;>(first|assumption|(refine Aside0.mk ?_;(repeat(first|(with_reducible exact BK.out)|(with_reducible refine blk_drewN ?_ _)|(with_reducible refine blk_drew ?_)|(with_reducible refine blk_alloc ?_ _)));done)|(refine Aside0.mk ?_;(repeat(first|(with_reducible exact HB.out)|(with_reducible refine below_alloc ?_ _)|(with_reducible refine pw_below_drewN ?_ _)|(with_reducible refine below_drew ?_)|(with_reducible refine Below.drew ?_)));done)|(go_keep)))) (first|(go_at_call 53;(with_reducible refine(hpl _ ?zb2).mono ?_);(case zb2=>exact z6_0);rintro e w' ⟨v,rfl,hv,hb⟩;have b_:=Aside0.mk (blk_below (g:=w.heap.size) (o:=.cells #[.int .i64 a0_0,.int .i64 a0_1,.slice A0_2 l0_2.length c0_2,.slice A0_3 l0_3.length c0_3] 59 (0,0)) z6_1 hb);clear BK;have BK:=b_;clear b_;(try clear hz0 hz1 hz2 hz3);have hz0:w'.cell? ⟨w.heap.size,0,none⟩=some (.int .i64 a0_0):=(blk_cell BK.out 0).trans rfl;have hz1:w'.cell? ⟨w.heap.size,1,none⟩=some (.int .i64 a0_1):=(blk_cell BK.out 1).trans rfl;have hz2:w'.cell? ⟨w.heap.size,2,none⟩=some (.slice A0_2 l0_2.length c0_2):=(blk_cell BK.out 2).trans rfl;have hz3:w'.cell? ⟨w.heap.size,3,none⟩=some (.slice A0_3 l0_3.length c0_3):=(blk_cell BK.out 3).trans rfl;have n_:=Aside0.mk (below_step (w:=w) z6_0 hb);clear HB hb;have HB:=n_;clear n_;obtain ⟨Av,cv,ev⟩:=Kd.R_slice hv;subst ev;clear hv)|(go_at_call 89;(with_reducible refine(hge _ ?zb3).mono ?_);(case zb3=>exact z6_0);rintro e w' ⟨rfl,hb⟩;have b_:=Aside0.mk (blk_below (g:=w.heap.size) (o:=.cells #[.int .i64 a0_0,.int .i64 a0_1,.slice A0_2 l0_2.length c0_2,.slice A0_3 l0_3.length c0_3] 59 (0,0)) z6_1 hb);clear BK;have BK:=b_;clear b_;(try clear hz0 hz1 hz2 hz3);have hz0:w'.cell? ⟨w.heap.size,0,none⟩=some (.int .i64 a0_0):=(blk_cell BK.out 0).trans rfl;have hz1:w'.cell? ⟨w.heap.size,1,none⟩=some (.int .i64 a0_1):=(blk_cell BK.out 1).trans rfl;have hz2:w'.cell? ⟨w.heap.size,2,none⟩=some (.slice A0_2 l0_2.length c0_2):=(blk_cell BK.out 2).trans rfl;have hz3:w'.cell? ⟨w.heap.size,3,none⟩=some (.slice A0_3 l0_3.length c0_3):=(blk_cell BK.out 3).trans rfl;have n_:=Aside0.mk (below_step (w:=w) z6_0 hb);clear HB hb;have HB:=n_;clear n_))
 go_wp2_with (first|(go_at_call 90;(with_reducible refine(hco _ ?zb4).mono ?_);(case zb4=>exact z6_0);rintro e w' ⟨rfl,hb⟩;have b_:=Aside0.mk (blk_below (g:=w.heap.size) (o:=.cells #[.int .i64 a0_0,.int .i64 a0_1,.slice A0_2 l0_2.length c0_2,.slice A0_3 l0_3.length c0_3] 59 (0,0)) z6_1 hb);clear BK;have BK:=b_;clear b_;(try clear hz0 hz1 hz2 hz3);have hz0:w'.cell? ⟨w.heap.size,0,none⟩=some (.int .i64 a0_0):=(blk_cell BK.out 0).trans rfl;have hz1:w'.cell? ⟨w.heap.size,1,none⟩=some (.int .i64 a0_1):=(blk_cell BK.out 1).trans rfl;have hz2:w'.cell? ⟨w.heap.size,2,none⟩=some (.slice A0_2 l0_2.length c0_2):=(blk_cell BK.out 2).trans rfl;have hz3:w'.cell? ⟨w.heap.size,3,none⟩=some (.slice A0_3 l0_3.length c0_3):=(blk_cell BK.out 3).trans rfl;have n_:=Aside0.mk (below_step (w:=w) z6_0 hb);clear HB hb;have HB:=n_;clear n_))
 go_ret
 exact ⟨rfl,z6_0⟩
def clock_Within.f (l0:List Int) (l1:List Int):Option (Bool):=some (ClockBase.withinS l0 l1)
theorem clock_Within.calls (A0:Option Addr) (c0:Nat) (l0:List Int) (A1:Option Addr) (c1:Nat) (l1:List Int) (r:Bool) (w:World) (hr0:Kd.C (Kd.int .i64) w A0 l0.length l0) (hc0:l0.length<=c0) (hr1:Kd.C (Kd.int .i64) w A1 l1.length l1) (hc1:l1.length<=c1) (h:clock_Within.f l0 l1=some r) :
  Calls Try.prog 93 #[.slice A0 l0.length c0,.slice A1 l1.length c1] w λe w'=>e = .returned (.bool r)/\Below w.heap.size w w':=by
 obtain rfl:=Option.some.inj h
 exact ClockBase.Within_calls A0 A1 c0 c1 l0 l1 w hr0 hr1
def api_Effect_94.f (l0:List (S111)):Option ((List (S111))):=(some (([]:List (S111)):List (S111))).bind λy117=>(if y117.length+l0.length<2199023255552 then(some (y117++l0)) else(none))
theorem api_Effect_94.calls_some (A0_:Addr) (c0:Nat) (l0:List (S111)) (r:List (S111)) (w:World) (hr0:Kd.C k111 w (some A0_) l0.length l0) (hc0:l0.length<=c0) (h:api_Effect_94.f l0=some r) :
  Calls Try.prog 94 #[.slice (some A0_) l0.length c0] w λe w'=>∃ v0_:Value,e = .returned (v0_)/\Kd.R k111 111 w' w.heap.size (λ_=>True) v0_ r/\Below w.heap.size w w':=by
 have HR0:=Aside0.mk hr0
 have HC0:=Aside0.mk hc0
 clear hr0 hc0
 have HB:=Aside0.mk (Below.refl w.heap.size w)
 have H:((some (([]:List (S111)):List (S111))).bind λy117=>(if y117.length+l0.length<2199023255552 then(some (y117++l0)) else(none)))=some r:=h
 clear h
 obtain ⟨y117,hy117⟩:∃ y_:List (S111),y_=(([]:List (S111))):=⟨_,rfl⟩
 replace H:(if y117.length+l0.length<2199023255552 then(some (y117++l0)) else(none))=some r:=by first|(rw [hy117];with_reducible exact H)|(have H2_:=(Option.bind_some _ _).symm.trans H;rw [hy117];with_reducible exact H2_)|(have H2_:=(Option.bind_some _ _).symm.trans H;with_reducible exact H2_)|with_reducible exact H|(rw [hy117];exact H)|exact H
 have Ny117:=Aside0.mk hy117
 clear hy117
 by_cases c2:y117.length+l0.length<2199023255552
 rotate_left
 ·rw [if_neg c2] at H
  exact absurd H (by simp)
 rw [if_pos c2] at H
 have LMc2:=Aside0.mk c2
 clear c2
 obtain ⟨y120,hy120⟩:∃ y_:List (S111),y_=(y117++l0):=⟨_,rfl⟩
 replace H:(some y120)=some r:=by first|(rw [hy120];with_reducible exact H)|(have H2_:=(Option.bind_some _ _).symm.trans H;rw [hy120];with_reducible exact H2_)|(have H2_:=(Option.bind_some _ _).symm.trans H;with_reducible exact H2_)|with_reducible exact H|(rw [hy120];exact H)|exact H
 have Ny120:=Aside0.mk hy120
 clear hy120
 obtain rfl:=Option.some.inj H
 have hnil_:=λW:World=>Lib.run_eql_slice_nil (P:=Try.prog) W 57 111 (some A0_) l0.length c0 0 0 z5_14
 go_enter Try.func94,Try.ntmps94
 go_wp2_with (first|((with_reducible refine gate_dst (N:=5) rfl ?_);refine Kd.R_lit k111 _ 111 ?hg (N:=5) ?hd (xs:=([]:List (S111))) (inner:=[]) (ok:=λ_=>True) (okp:=λ_=>True) ?hr ?hp (λ_ hk=>hk) trivial (Below.refl _ _) (Nat.le_refl _) (by simp) ?_;(case hd=>rfl);(case hg=>rfl);(case hr=>exact z3_4);(case hp=>exact(Reps.none _ _));intro v118 w3 ho4 hb hg_ hnew_;clear hg_ hnew_;(first|rw [<-Ny117.out] at ho4|(simp only [Int.reduceToNat] at ho4;rw [<-Ny117.out] at ho4));have HO119:=Aside0.mk (Kd.R_lower ho4 (below_size z4_4));replace HB:=Aside0.mk (below_step z4_4 hb);clear hb ho4)|((with_reducible refine gate_builtin (b:=.append) (xs:=#[.tmp 5,.tmp 6]) rfl ?_);at_builtin;refine Kd.R_append_rows k111 (w0:=w) w.heap.size rfl (.tmp 5) (.tmp 6) 57 111 (.agg #[(.int .i64 0),(.int .i64 0),(.string ⟨#[]⟩),(.int .i64 0),(.int .i64 0),(.string ⟨#[]⟩)]) 64 rfl Try.underlying57 info111 rfl (by decide) (by omega) v118 y117 l0 _ _ _ (λ_=>True) (λ_=>False) rfl rfl ?aO ?aR (λ_ _ h=>h) (λ_ h=>h.elim) ?aF ?aB ?aS ?aL ?_;(case aR=>repeat(first|exact(Kd.C_below HR0.out HB.out)|(with_reducible refine Kd.C_alloc ?_ _)|(with_reducible refine Kd.C_drewN ?_ _)|(with_reducible refine Kd.C_drew ?_)));(case aB=>exact z4_4);(case aF=>exact(λ_ _=>trivial));(case aO=>exact(by(with_reducible repeat(first|apply Kd.R_alloc|apply Kd.R_drewN|apply Kd.R_drew));exact HO119.out));(case aS=>exact(below_size z4_4));(case aL=>have:=LMc2.out;omega);intro v121 w5 ho hb hg hat;rw [<-Ny120.out] at ho;replace HB:=Aside0.mk (hb);have HO122:=Aside0.mk (ho);clear HO119;clear ho hb hg hat))
 go_ret
 exact ⟨_,z4_1,(by(with_reducible repeat(first|apply Kd.R_alloc|apply Kd.R_drewN|apply Kd.R_drew));exact HO122.out),z4_4⟩
theorem api_Effect_94.calls (A0:Option Addr) (c0:Nat) (l0:List (S111)) (r:List (S111)) (w:World) (hr0:Kd.C k111 w A0 l0.length l0) (hc0:l0.length<=c0) (h:api_Effect_94.f l0=some r) :
  Calls Try.prog 94 #[.slice A0 l0.length c0] w λe w'=>∃ v0_:Value,e = .returned (v0_)/\Kd.R k111 111 w' w.heap.size (λ_=>True) v0_ r/\Below w.heap.size w w':=by
 cases A0 with
 | some A0_=>exact api_Effect_94.calls_some _ c0 l0 r w hr0 hc0 h
 | none =>
 have hl:l0=[]:=by
  rcases Nat.eq_zero_or_pos l0.length with h0|h0
  ·exact List.length_eq_zero_iff.1 h0
  ·obtain ⟨ad,e,_⟩:=hr0.2.2 h0
   cases e
 subst hl
 obtain rfl:r=[]:=by
  simp [api_Effect_94.f] at h
  first|exact h|exact h.symm
 have hnil_:=λW:World=>Lib.run_eql_slice_nil (P:=Try.prog) W 57 111 none 0 c0 0 0 z5_14
 clear h
 go_enter Try.func94,Try.ntmps94
 go_wp2
 go_ret
 exact ⟨_,rfl,(by first|exact Kd.R_nil _ _ _ _ _|exact Kd.N_nil _ _ _ _ _|exact Kd.V_nil _ _ _ _ _),Below.refl _ _⟩
def causal_own.f (a0_0:Int) (a0_1:Int) (l0_2:List Int) (l0_3:List (S111)):Option (Int×Int×List Int×(List (S111))):=(api_Clock_int_76.f l0_2).bind λt125=>((api_Effect_94.f l0_3).bind λt128=>(some (a0_0,a0_1,t125,t128)))
def causal_own.T1:Bool×List (List Nat×List Nat):=(true,[([],[]),([0],[0]),([1],[1]),([],[]),([3],[3]),([4,2],[4]),([0,1,2,3,4],[]),([6,2,5,0,1,2,3,4],[2,6]),([0,1,2,3,4,5,6,7],[]),([8,5,7,0,1,2,3,4,5,6,7],[5,8])])
def causal_own.B1:List Nat:=[0,1,3,0,8,31,31,127,255,511]
theorem causal_own.tab1:rtab .any (opsOf Try.f58 1)=causal_own.T1:=by kernel_rfl
theorem causal_own.bits1:waitsOk causal_own.T1.2 causal_own.B1=true:=by kernel_rfl
theorem causal_own.calls (a0_0:Int) (a0_1:Int) (A0_2:Option Addr) (c0_2:Nat) (l0_2:List Int) (A0_3:Option Addr) (c0_3:Nat) (l0_3:List (S111)) (r1:Int) (r2:Int) (r3:List Int) (r4:List (S111)) (w:World) (hr0_2:Kd.C (Kd.int .i64) w A0_2 l0_2.length l0_2) (hc0_2:l0_2.length<=c0_2) (hr0_3:Kd.C k111 w A0_3 l0_3.length l0_3) (hc0_3:l0_3.length<=c0_3) (h:causal_own.f a0_0 a0_1 l0_2 l0_3=some (r1,r2,r3,r4)) :
  Calls Try.prog 58 #[.agg #[.int .i64 a0_0,.int .i64 a0_1,.slice A0_2 l0_2.length c0_2,.slice A0_3 l0_3.length c0_3]] w λe w'=>∃ v2_ v3_:Value,e = .returned (.agg #[.int .i64 r1,.int .i64 r2,v2_,v3_])/\Kd.R (Kd.int .i64) 3 w' w.heap.size (λ_=>True) v2_ r3/\Kd.R k111 111 w' w.heap.size (λ_=>True) v3_ r4/\Below w.heap.size w w':=by
 have hu59:=Try.underlying59
 have HR0_2:=Aside0.mk hr0_2
 have HC0_2:=Aside0.mk hc0_2
 clear hr0_2 hc0_2
 have HR0_3:=Aside0.mk hr0_3
 have HC0_3:=Aside0.mk hc0_3
 clear hr0_3 hc0_3
 have HB:=Aside0.mk (Below.refl w.heap.size w)
 have H:((api_Clock_int_76.f l0_2).bind λt125=>((api_Effect_94.f l0_3).bind λt128=>(some (a0_0,a0_1,t125,t128))))=some (r1,r2,r3,r4):=h
 clear h
 replace H:=Option.bind_eq_some_iff.mp H
 obtain ⟨t125,A20,H⟩:=H
 replace H:((api_Effect_94.f l0_3).bind λt128=>(some (a0_0,a0_1,t125,t128)))=some (r1,r2,r3,r4):=H
 have A2:=Aside0.mk A20
 clear A20
 replace H:=Option.bind_eq_some_iff.mp H
 obtain ⟨t128,A30,H⟩:=H
 replace H:(some (a0_0,a0_1,t125,t128))=some (r1,r2,r3,r4):=H
 have A3:=Aside0.mk A30
 clear A30
 simp only [Option.some.injEq,Prod.mk.injEq] at H
 obtain ⟨rfl,rfl,rfl,rfl⟩:=H
 go_enter Try.func58,Try.ntmps58
 try go_wp2_with (first|((with_reducible refine gate_dst (N:=1) rfl ?_);refine box_event ?hg (N:=1) ?hd (cs:=#[.int .i64 a0_0,.int .i64 a0_1,.slice A0_2 l0_2.length c0_2,.slice A0_3 l0_3.length c0_3]) (t:=59) ?hr ?_;(case hd=>rfl);(case hg=>rfl);(case hr=>exact z3_4);intro gb123 hg w4 hbox hb;have BK123:=Aside0.mk (hbox);have GW123:=Aside0.mk ((by rw [hg];exact(below_size z4_4):w.heap.size<=gb123));have GE123:=Aside0.mk ((by rw [hg];exact(below_size z4_4):w.heap.size<=gb123));replace HB:=Aside0.mk (below_step z4_4 hb);clear hb hbox hg)|((with_reducible refine gate_dst (N:=2) rfl ?_);refine box_event ?hg (N:=2) ?hd (cs:=#[.int .i64 0,.int .i64 0,.slice none 0 0,.slice none 0 0]) (t:=59) ?hr ?_;(case hd=>rfl);(case hg=>rfl);(case hr=>exact z3_4);intro gb124 hg w5 hbox hb;have BK124:=Aside0.mk (hbox);have GW124:=Aside0.mk ((by rw [hg];exact(below_size z6_6):w.heap.size<=gb124));have GE124:=Aside0.mk ((by rw [hg];exact(below_size z6_6):w.heap.size<=gb124));replace HB:=Aside0.mk (below_step z6_6 hb);have NB123_124:=Aside0.mk ((by rw [hg];exact Nat.ne_of_lt (blk_lt (g:=gb123) (o:=.cells #[.int .i64 a0_0,.int .i64 a0_1,.slice A0_2 l0_2.length c0_2,.slice A0_3 l0_3.length c0_3] 59 (0,0)) z6_5):gb123≠gb124));have NB124_123:=Aside0.mk ((by rw [hg];exact Nat.ne_of_gt (blk_lt (g:=gb123) (o:=.cells #[.int .i64 a0_0,.int .i64 a0_1,.slice A0_2 l0_2.length c0_2,.slice A0_3 l0_3.length c0_3] 59 (0,0)) z6_5):gb124≠gb123));replace BK123:=Aside0.mk (blk_below (g:=gb123) (o:=.cells #[.int .i64 a0_0,.int .i64 a0_1,.slice A0_2 l0_2.length c0_2,.slice A0_3 l0_3.length c0_3] 59 (0,0)) z6_5 hb);clear hb hbox hg))
 have n0_:=Aside0.mk (blk_drew BK123.out)
 have n1_:=Aside0.mk (blk_drew BK124.out)
 have n2_:=Aside0.mk (below_drew1 HB.out)
 clear BK123
 clear BK124
 clear HB
 have BK123:=n0_
 have BK124:=n1_
 have HB:=n2_
 clear n0_ n1_ n2_
 refine start_ (n:=10) (S:=λw'=>w'.cell? ⟨gb123,0,none⟩=some (.int .i64 a0_0)/\w'.cell? ⟨gb123,1,none⟩=some (.int .i64 a0_1)/\w'.cell? ⟨gb123,2,none⟩=some (.slice A0_2 l0_2.length c0_2)/\w'.cell? ⟨gb123,3,none⟩=some (.slice A0_3 l0_3.length c0_3)) (ds:=[7,9]) #[false,false,false,false,false,false,false,false,false,false] z5_14 rfl rfl ⟨(blk_cell BK123.out 0).trans rfl,(blk_cell BK123.out 1).trans rfl,(blk_cell BK123.out 2).trans rfl,(blk_cell BK123.out 3).trans rfl⟩ (λhHeld=>?_);refine with_tabW causal_own.tab1 causal_own.bits1 (λHT_ HW_=>?_)
 generalize w5.drew=w6 at BK123 BK124 HB hHeld ⊢
 refine pure_ (i:=0) (N:=some 3) (v:=?_) (a':=?_) #[true,false,false,false,false,false,false,false,false,false] rfl rfl (any_of HT_.out z5_14) (λ_ _ _ h=>h) (Or.inl ⟨(by rfl),?_⟩) ?_ ?_
 rotate_left
 ·intro w'
  go_simp
  with_reducible rfl
 rotate_left
 ·exact z5_3
 refine pure_ (i:=3) (N:=some 6) (v:=?_) (a':=?_) #[true,false,false,true,false,false,false,false,false,false] rfl rfl (any_of HT_.out z5_14) (λ_ _ _ h=>h) (Or.inl ⟨(by rfl),?_⟩) ?_ ?_
 rotate_left
 ·intro w'
  go_simp
  with_reducible rfl
 rotate_left
 ·exact z5_3
 refine take_ (i:=1) (N:=some 4) (v:=?_) (a':=?_) #[true,true,false,true,false,false,false,false,false,false] rfl rfl (take_ofW HT_.out HW_.out z5_14) (λ_ _ _ h=>h) (Or.inl ⟨(by rfl),?_⟩) hHeld ?_ ?_
 rotate_left
 ·rintro w' ⟨s0,s1,s2,s3⟩
  go_simp
  with_reducible rfl
 rotate_left
 ·exact z5_3
 refine take_ (i:=4) (N:=some 7) (v:=?_) (a':=?_) #[true,true,false,true,true,false,false,false,false,false] rfl rfl (take_ofW HT_.out HW_.out z5_14) (λ_ _ _ h=>h) (Or.inl ⟨(by rfl),?_⟩) hHeld ?_ ?_
 rotate_left
 ·rintro w' ⟨s0,s1,s2,s3⟩
  go_simp
  with_reducible rfl
 rotate_left
 ·exact z5_3
 refine one_ (i:=2) (N:=some 5) #[true,true,true,true,true,false,false,false,false,false] rfl rfl (one_of HT_.out z5_14) (by decide) (λK hK=>?_)
 refine goes_ Try.func76 z5_14 rfl #[.slice A0_2 l0_2.length c0_2] (by rfl) rfl rfl z5_5 ?_
 with_reducible refine(api_Clock_int_76.calls _ _ l0_2 t125 _ ?side1 ?side2 A2.out).mono ?_
 (case side1=>repeat(first|exact(Kd.C_below HR0_2.out HB.out)|(with_reducible refine Kd.C_alloc ?_ _)|(with_reducible refine Kd.C_drewN ?_ _)|(with_reducible refine Kd.C_drew ?_)))
 (case side2=>exact HC0_2.out)
 rintro e w7 ⟨v126,rfl,ho0,hb⟩
 refine ⟨_,rfl,?_⟩
 have n0_:=Aside0.mk (Kd.R_lower ho0 (below_size z6_3))
 have n1_:=Aside0.mk (blk_below (g:=gb123) (o:=.cells #[.int .i64 a0_0,.int .i64 a0_1,.slice A0_2 l0_2.length c0_2,.slice A0_3 l0_3.length c0_3] 59 (0,0)) z6_5 hb)
 have n2_:=Aside0.mk (blk_below (g:=gb124) (o:=.cells #[.int .i64 0,.int .i64 0,.slice none 0 0,.slice none 0 0] 59 (0,0)) z6_9 hb)
 have n3_:=Aside0.mk (below_step z6_3 hb)
 clear BK123
 clear BK124
 clear HB
 have HO127:=n0_
 have BK123:=n1_
 have BK124:=n2_
 have HB:=n3_
 clear n0_ n1_ n2_ n3_
 (try clear hb)
 (try clear hb2)
 (try clear hk)
 (try clear hi)
 (try clear ho0)
 refine hK.out _ _ ⟨(blk_cell BK123.out 0).trans rfl,(blk_cell BK123.out 1).trans rfl,(blk_cell BK123.out 2).trans rfl,(blk_cell BK123.out 3).trans rfl⟩ (λhHeld=>?_)
 clear hK K
 refine norm_ (a':=?_) ?_ ?_
 rotate_left
 ·show Act.put _ (some 5) _=_;simp only [Act.put,List.setIfInBounds_toArray,List.set_cons_zero,List.set_cons_succ,i64_w,i32_w];rfl
 refine pure_ (i:=6) (N:=some 9) (v:=?_) (a':=?_) #[true,true,true,true,true,false,true,false,false,false] rfl rfl (any_of HT_.out z5_14) (λ_ _ _ h=>h) (Or.inl ⟨(by rfl),?_⟩) ?_ ?_
 rotate_left
 ·intro w'
  go_simp
  with_reducible rfl
 rotate_left
 ·exact z5_3
 refine one_ (i:=5) (N:=some 8) #[true,true,true,true,true,true,true,false,false,false] rfl rfl (one_of HT_.out z5_14) (by decide) (λK hK=>?_)
 refine goes_ Try.func94 z5_14 rfl #[.slice A0_3 l0_3.length c0_3] (by rfl) rfl rfl z5_5 ?_
 with_reducible refine(api_Effect_94.calls _ _ l0_3 t128 _ ?side1 ?side2 A3.out).mono ?_
 (case side1=>repeat(first|exact(Kd.C_below HR0_3.out HB.out)|(with_reducible refine Kd.C_alloc ?_ _)|(with_reducible refine Kd.C_drewN ?_ _)|(with_reducible refine Kd.C_drew ?_)))
 (case side2=>exact HC0_3.out)
 rintro e w8 ⟨v129,rfl,ho0,hb⟩
 refine ⟨_,rfl,?_⟩
 have n0_:=Aside0.mk (Kd.R_below (by(with_reducible repeat(first|apply Kd.R_alloc|apply Kd.R_drewN|apply Kd.R_drew));exact HO127.out) hb)
 have n1_:=Aside0.mk (Kd.R_lower ho0 (below_size z6_3))
 have n2_:=Aside0.mk (blk_below (g:=gb123) (o:=.cells #[.int .i64 a0_0,.int .i64 a0_1,.slice A0_2 l0_2.length c0_2,.slice A0_3 l0_3.length c0_3] 59 (0,0)) z6_5 hb)
 have n3_:=Aside0.mk (blk_below (g:=gb124) (o:=.cells #[.int .i64 0,.int .i64 0,.slice none 0 0,.slice none 0 0] 59 (0,0)) z6_9 hb)
 have n4_:=Aside0.mk (below_step z6_3 hb)
 clear HO127
 clear BK123
 clear BK124
 clear HB
 have HO127:=n0_
 have HO130:=n1_
 have BK123:=n2_
 have BK124:=n3_
 have HB:=n4_
 clear n0_ n1_ n2_ n3_ n4_
 (try clear hb)
 (try clear hb2)
 (try clear hk)
 (try clear hi)
 (try clear ho0)
 obtain ⟨Ao9,co9,eo9⟩:=Kd.R_slice HO127.out
 (first|subst eo9|(injection eo9 with f1_ f2_ f3_;have f4_:=f1_.symm;have f5_:=f3_.symm;clear f1_ f2_ f3_;subst f4_;subst f5_))
 obtain ⟨Ao11,co11,eo11⟩:=Kd.R_slice HO130.out
 (first|subst eo11|(injection eo11 with f1_ f2_ f3_;have f4_:=f1_.symm;have f5_:=f3_.symm;clear f1_ f2_ f3_;subst f4_;subst f5_))
 refine hK.out _ _ ⟨(blk_cell BK123.out 0).trans rfl,(blk_cell BK123.out 1).trans rfl,(blk_cell BK123.out 2).trans rfl,(blk_cell BK123.out 3).trans rfl⟩ (λhHeld=>?_)
 clear hK K
 refine norm_ (a':=?_) ?_ ?_
 rotate_left
 ·show Act.put _ (some 8) _=_;simp only [Act.put,List.setIfInBounds_toArray,List.set_cons_zero,List.set_cons_succ,i64_w,i32_w];rfl
 refine last_ (i:=7) (N:=none) #[true,true,true,true,true,true,true,true,false,false] rfl rfl (one_of HT_.out z5_14) (by decide) (λK hK=>?_)
 have hs10:w8.cell? ⟨gb123,2,none⟩=some (.slice A0_2 l0_2.length c0_2):=(blk_cell BK123.out 2).trans rfl
 have hfs10:=blk_frozen BK123.out 2
 have hns10_1:=NB124_123.out
 have hms10_1:=NB123_124.out
 refine skip_ (w1:=?_) (by rfl) rfl ?_ ?_
 rotate_left
 ·go_simp;rfl
 refine hK.out _ _ ?_
 clear hK K
 refine pure_ (i:=8) (N:=some 10) (v:=?_) (a':=?_) #[true,true,true,true,true,true,true,true,true,false] rfl rfl (any_of HT_.out z5_14) (λ_ _ _ h=>h) (Or.inl ⟨(by rfl),?_⟩) ?_ ?_
 rotate_left
 ·intro w'
  go_simp
  with_reducible rfl
 rotate_left
 ·exact z5_3
 refine last_ (i:=9) (N:=none) #[true,true,true,true,true,true,true,true,true,true] rfl rfl (one_of HT_.out z5_14) (by decide) (λK hK=>?_)
 have hs12:w8.cell? ⟨gb123,3,none⟩=some (.slice A0_3 l0_3.length c0_3):=(blk_cell BK123.out 3).trans rfl
 have hfs12:=blk_frozen BK123.out 3
 have hns12_1:=NB124_123.out
 have hms12_1:=NB123_124.out
 refine skip_ (w1:=?_) (by rfl) rfl ?_ ?_
 rotate_left
 ·go_simp;rfl
 refine hK.out _ _ ?_
 clear hK K
 refine done_ (done_of HT_.out z5_14) ?_
 have hnb13:=NB123_124.out
 have hnc13:=NB124_123.out
 obtain ⟨hcz14_0,hcz14_1,hcz14_2,hcz14_3,hfz14_0,hfz14_1,hfz14_2,hfz14_3⟩:=cz4_ BK123.out;obtain ⟨hcz15_0,hcz15_1,hcz15_2,hcz15_3,hfz15_0,hfz15_1,hfz15_2,hfz15_3⟩:=cz4_ BK124.out
 try go_wp2
 refine bodyPost_ret (results_cell_row rfl _ _ gb124 59 #[.int .i64 a0_0,.int .i64 a0_1,.slice Ao9 t125.length co9,.slice Ao11 t128.length co11] (0,0) _ rfl (by(with_reducible repeat(first|refine blk_drewN ?_ _|refine blk_drew ?_|refine blk_alloc ?_ _));refine blk_put (cs:=#[.int .i64 a0_0,.int .i64 a0_1,.slice Ao9 t125.length co9,.slice none 0 0]) ?_ 3 _ rfl;(with_reducible repeat(first|refine blk_drewN ?_ _|refine blk_drew ?_|refine blk_alloc ?_ _));refine blk_put (cs:=#[.int .i64 a0_0,.int .i64 a0_1,.slice none 0 0,.slice none 0 0]) ?_ 2 _ rfl;(with_reducible repeat(first|refine blk_drewN ?_ _|refine blk_drew ?_|refine blk_alloc ?_ _));refine blk_put (cs:=#[.int .i64 a0_0,.int .i64 0,.slice none 0 0,.slice none 0 0]) ?_ 1 _ rfl;(with_reducible repeat(first|refine blk_drewN ?_ _|refine blk_drew ?_|refine blk_alloc ?_ _));refine blk_put (cs:=#[.int .i64 0,.int .i64 0,.slice none 0 0,.slice none 0 0]) ?_ 0 _ rfl;(with_reducible repeat(first|refine blk_drewN ?_ _|refine blk_drew ?_|refine blk_alloc ?_ _));refine blk_far ?_ NB124_123.out _;(with_reducible repeat(first|refine blk_drewN ?_ _|refine blk_drew ?_|refine blk_alloc ?_ _));refine blk_far ?_ NB124_123.out _;(with_reducible repeat(first|refine blk_drewN ?_ _|refine blk_drew ?_|refine blk_alloc ?_ _));exact BK124.out) Try.underlying59 rfl z5_14) rfl ?_
 exact ⟨_,_,z4_1,(by(with_reducible repeat(first|apply Kd.R_alloc|apply Kd.R_drewN|apply Kd.R_drew));exact Kd.R_mono (Kd.R_far (p:=⟨gb124,3,none⟩) (Kd.R_far (p:=⟨gb124,2,none⟩) (Kd.R_far (p:=⟨gb124,1,none⟩) (Kd.R_far (p:=⟨gb124,0,none⟩) (Kd.R_far (p:=⟨gb123,3,none⟩) (Kd.R_far (p:=⟨gb123,2,none⟩) (Kd.R_types (Kd.R_types HO127.out BK123.out (by decide)) BK124.out (by decide)) (λ_ hk=>hk.1.2) (.slice Ao9 t125.length co9)) (λ_ hk=>hk.1.2) (.slice Ao11 t128.length co11)) (λ_ hk=>hk.2) (.int .i64 a0_0)) (λ_ hk=>hk.2) (.int .i64 a0_1)) (λ_ hk=>hk.2) (.slice Ao9 t125.length co9)) (λ_ hk=>hk.2) (.slice Ao11 t128.length co11)) (λ_ hk=>trivial)),(by(with_reducible repeat(first|apply Kd.R_alloc|apply Kd.R_drewN|apply Kd.R_drew));exact Kd.R_mono (Kd.R_far (p:=⟨gb124,3,none⟩) (Kd.R_far (p:=⟨gb124,2,none⟩) (Kd.R_far (p:=⟨gb124,1,none⟩) (Kd.R_far (p:=⟨gb124,0,none⟩) (Kd.R_far (p:=⟨gb123,3,none⟩) (Kd.R_far (p:=⟨gb123,2,none⟩) (Kd.R_types (Kd.R_types HO130.out BK123.out (by decide)) BK124.out (by decide)) (λ_ hk=>hk.1.2) (.slice Ao9 t125.length co9)) (λ_ hk=>hk.1.2) (.slice Ao11 t128.length co11)) (λ_ hk=>hk.2) (.int .i64 a0_0)) (λ_ hk=>hk.2) (.int .i64 a0_1)) (λ_ hk=>hk.2) (.slice Ao9 t125.length co9)) (λ_ hk=>hk.2) (.slice Ao11 t128.length co11)) (λ_ hk=>trivial)),z6_3⟩
def clock_Set.f (l0:List Int) (a1:Int) (a2:Int):Option (List Int×Int):=if ClockBase.setOk a1 a2=true then some (ClockBase.setS l0 a1 a2,0) else some (([]:List Int),1)
theorem clock_Set.calls (A0:Option Addr) (c0:Nat) (l0:List Int) (a1:Int) (a2:Int) (r1:List Int) (r2:Int) (w:World) (hr0:Kd.C (Kd.int .i64) w A0 l0.length l0) (hc0:l0.length<=c0) (h:clock_Set.f l0 a1 a2=some (r1,r2)) :
  Calls Try.prog 95 #[.slice A0 l0.length c0,.int .i64 a1,.int .i64 a2] w λe w'=>∃ v0_:Value,e = .returned (.tuple #[v0_,.int .i64 r2])/\Kd.R (Kd.int .i64) 3 w' w.heap.size (λ_=>True) v0_ r1/\Below w.heap.size w w':=by
 unfold clock_Set.f ClockBase.setOk at h
 by_cases hk:(decide (1<=a1/\a1<=5) && decide (0<=a2/\a2<=1048576))=true
 ·rw [if_pos hk] at h
  simp only [Option.some.injEq,Prod.mk.injEq] at h
  obtain ⟨rfl,rfl⟩:=h
  simp only [Bool.and_eq_true,decide_eq_true_eq] at hk
  exact ClockBase.Set_ok A0 c0 l0 a1 a2 w hr0 hk.1.1 hk.1.2 hk.2.1 hk.2.2
 rw [if_neg hk] at h
 simp only [Option.some.injEq,Prod.mk.injEq] at h
 obtain ⟨rfl,rfl⟩:=h
 simp only [Bool.and_eq_true,decide_eq_true_eq] at hk
 refine(ClockBase.Set_bad A0 c0 l0 a1 a2 w (by omega)).mono ?_
 rintro e w' ⟨rfl,rfl⟩
 exact ⟨_,rfl,Kd.R_nil _ _ _ _ _,Below.refl _ _⟩
def api_Event_97.f (l0:List (S59)):Option ((List (S59))):=(some (([]:List (S59)):List (S59))).bind λy131=>(if y131.length+l0.length<2199023255552 then(some (y131++l0)) else(none))
theorem api_Event_97.calls_some (P0_:Nat->Prop) (A0_:Addr) (c0:Nat) (l0:List (S59)) (r:List (S59)) (w:World) (hs0:Kd.V k59 59 w w.heap.size (λk_=>P0_ k_) (.slice (some A0_) l0.length c0) l0) (h:api_Event_97.f l0=some r) :
  Calls Try.prog 97 #[.slice (some A0_) l0.length c0] w λe w'=>∃ v0_:Value,e = .returned (v0_)/\Kd.N k59 59 w' w.heap.size (λk_=>(P0_ k_\/w.heap.size<=k_)) v0_ r/\Below w.heap.size w w':=by
 have HO0:=Aside0.mk (show Kd.V k59 59 w w.heap.size (λk_=>(P0_ k_\/w.heap.size<=k_)) (.slice (some A0_) l0.length c0) l0 from Kd.V_mono hs0 (λk_ hk=>.inl hk))
 have HB:=Aside0.mk (Below.refl w.heap.size w)
 have H:((some (([]:List (S59)):List (S59))).bind λy131=>(if y131.length+l0.length<2199023255552 then(some (y131++l0)) else(none)))=some r:=h
 clear h
 obtain ⟨y131,hy131⟩:∃ y_:List (S59),y_=(([]:List (S59))):=⟨_,rfl⟩
 replace H:(if y131.length+l0.length<2199023255552 then(some (y131++l0)) else(none))=some r:=by first|(rw [hy131];with_reducible exact H)|(have H2_:=(Option.bind_some _ _).symm.trans H;rw [hy131];with_reducible exact H2_)|(have H2_:=(Option.bind_some _ _).symm.trans H;with_reducible exact H2_)|with_reducible exact H|(rw [hy131];exact H)|exact H
 have Ny131:=Aside0.mk hy131
 clear hy131
 by_cases c2:y131.length+l0.length<2199023255552
 rotate_left
 ·rw [if_neg c2] at H
  exact absurd H (by simp)
 rw [if_pos c2] at H
 have LMc2:=Aside0.mk c2
 clear c2
 obtain ⟨y134,hy134⟩:∃ y_:List (S59),y_=(y131++l0):=⟨_,rfl⟩
 replace H:(some y134)=some r:=by first|(rw [hy134];with_reducible exact H)|(have H2_:=(Option.bind_some _ _).symm.trans H;rw [hy134];with_reducible exact H2_)|(have H2_:=(Option.bind_some _ _).symm.trans H;with_reducible exact H2_)|with_reducible exact H|(rw [hy134];exact H)|exact H
 have Ny134:=Aside0.mk hy134
 clear hy134
 obtain rfl:=Option.some.inj H
 have hnil_:=λW:World=>Lib.run_eql_slice_nil (P:=Try.prog) W 50 59 (some A0_) l0.length c0 0 0 z5_14
 go_enter Try.func97,Try.ntmps97
 go_wp2_with (first|((with_reducible refine gate_dst (N:=5) rfl ?_);refine Kd.N_lit k59 _ 59 ?hg (N':=5) ?hd (xs:=([]:List (S59))) (inner:=[]) (ok:=(λk_=>(P0_ k_\/w.heap.size<=k_))) (okp:=(λk_=>(P0_ k_\/w.heap.size<=k_))) ?hr ?hp (λ_ hk=>hk) ((show ∀ k_,w.heap.size<=k_->(λk_=>(P0_ k_\/w.heap.size<=k_)) k_ from λk_ hk=>(.inr (Nat.le_trans (below_size z4_4) hk))) _ (Nat.le_refl _)) (Below.refl _ _) (Nat.le_refl _) (by simp) ?_;(case hd=>rfl);(case hg=>rfl);(case hr=>exact z3_4);(case hp=>exact(Reps.none _ _));intro v132 w3 ho4 hb hg_ hnew_;clear hg_ hnew_;(first|rw [<-Ny131.out] at ho4|(simp only [Int.reduceToNat] at ho4;rw [<-Ny131.out] at ho4));replace HO0:=Aside0.mk (Kd.V_elder' (by(with_reducible repeat(first|apply Kd.V_alloc|apply Kd.V_drewN|apply Kd.V_drew));exact HO0.out) (Kd.N_base ho4) hb);have HO133:=Aside0.mk (Kd.N_lower ho4 (below_size z4_4));replace HB:=Aside0.mk (below_step z4_4 hb);clear hb ho4)|((with_reducible refine gate_builtin (b:=.append) (xs:=#[.tmp 5,.tmp 6]) rfl ?_);at_builtin;refine Kd.N_append_rows k59 (w0:=w) w.heap.size rfl (.tmp 5) (.tmp 6) 50 59 (.agg #[(.int .i64 0),(.int .i64 0),(.slice none 0 0),(.slice none 0 0)]) 64 rfl Try.underlying50 info59 rfl (by decide) (by omega) v132 y131 l0 _ _ _ (λk_=>(P0_ k_\/w.heap.size<=k_)) (λk_=>((λk_=>(P0_ k_\/w.heap.size<=k_))) k_/\some k_≠(v132:Value).ownBlock) rfl rfl ?aO ?aR (λ_ hk=>hk) ?aF ?aB ?aS ?aL ?_;(case aR=>exact(by skip;exact Kd.V_F (e:=0) (base:=0) (Kd.V_mono (e:=0) (base:=0) (ok':=(λk_=>((λk_=>(P0_ k_\/w.heap.size<=k_))) k_/\some k_≠(v132:Value).ownBlock)) (HO0.out) (λk_ hk=>⟨hk.1,hk.2⟩))));(case aB=>exact z4_4);(case aF=>exact(λk_ hk=>(.inr (Nat.le_trans (below_size z4_4) hk))));(case aO=>exact(by(with_reducible repeat(first|apply Kd.N_alloc|apply Kd.N_drewN|apply Kd.N_drew));exact HO133.out));(case aS=>exact(below_size z4_4));(case aL=>have:=LMc2.out;omega);intro v135 w5 ho hb hg hat;rw [<-Ny134.out] at ho;replace HO0:=Aside0.mk (Kd.V_afterv (ok:=(λk_=>(P0_ k_\/w.heap.size<=k_))) (by(with_reducible repeat(first|apply Kd.V_alloc|apply Kd.V_drewN|apply Kd.V_drew));exact HO0.out) hg hat);replace HB:=Aside0.mk (hb);have HO136:=Aside0.mk (ho);clear HO133;clear ho hb hg hat))
 go_ret
 exact ⟨_,z4_1,(by(with_reducible repeat(first|apply Kd.N_alloc|apply Kd.N_drewN|apply Kd.N_drew));exact HO136.out),z4_4⟩
theorem api_Event_97.calls (P0_:Nat->Prop) (A0:Option Addr) (c0:Nat) (l0:List (S59)) (r:List (S59)) (w:World) (hs0:Kd.V k59 59 w w.heap.size (λk_=>P0_ k_) (.slice A0 l0.length c0) l0) (h:api_Event_97.f l0=some r) :
  Calls Try.prog 97 #[.slice A0 l0.length c0] w λe w'=>∃ v0_:Value,e = .returned (v0_)/\Kd.N k59 59 w' w.heap.size (λk_=>(P0_ k_\/w.heap.size<=k_)) v0_ r/\Below w.heap.size w w':=by
 cases A0 with
 | some A0_=>exact api_Event_97.calls_some P0_ _ c0 l0 r w hs0 h
 | none =>
 have hl:l0=[]:=by
  rcases Nat.eq_zero_or_pos l0.length with h0|h0
  ·exact List.length_eq_zero_iff.1 h0
  ·obtain ⟨ad,e,_⟩:=(Kd.V_reads' hs0).2.2.2.2 h0
   cases e
 subst hl
 obtain rfl:r=[]:=by
  simp [api_Event_97.f] at h
  first|exact h|exact h.symm
 have hnil_:=λW:World=>Lib.run_eql_slice_nil (P:=Try.prog) W 50 59 none 0 c0 0 0 z5_14
 clear h
 go_enter Try.func97,Try.ntmps97
 go_wp2
 go_ret
 exact ⟨_,rfl,(by first|exact Kd.R_nil _ _ _ _ _|exact Kd.N_nil _ _ _ _ _|exact Kd.V_nil _ _ _ _ _),Below.refl _ _⟩
end Go.Proofs.Ytfhamdobagjakaa.PCa
