/- a part -/
import Derived.Test.YtgocnchjpecafaaPEvx3
import Derived.Test.YtgocnchjpecafaaPEvx20
namespace Go.Proofs.Ytgocnchjpecafaa.PEv
open Go.RowKit Go.Proofs.YtgocnchjpecafaaW.PrintWords Go.Proofs.YtgocnchjpecafaaW.PrintLast Go.Proofs.YtgocnchjpecafaaW.PrintMore
attribute [local go_sem] max2_int min2_int max_two min_two max_three min_three max_four min_four
set_option linter.unusedVariables false
set_option linter.unusedSimpArgs false
set_option maxHeartbeats 8000000
set_option maxRecDepth 100000
theorem z4_0 {P:Prop} (h:P:=by(repeat(first|(with_reducible exact HB.out)|(with_reducible refine below_alloc ?_ _)|(with_reducible refine pw_below_drewN ?_ _)|(with_reducible refine below_drew ?_)|(with_reducible refine Below.drew ?_)))):P:=h
theorem z4_1 {P:Prop} (h:P:=by(repeat(first|(with_reducible exact BK.out)|(with_reducible refine blk_drewN ?_ _)|(with_reducible refine blk_drew ?_)|(with_reducible refine blk_alloc ?_ _)))):P:=h
def api_Clock_int_79.f (l0:List Int):Option (List Int):=(some (([]:List Int):List Int)).bind λy114=>(if y114.length+l0.length<17592186044416 then(some (y114++l0)) else(none))
theorem api_Clock_int_79.calls_some (A0_:Addr) (c0:Nat) (l0:List Int) (r:List Int) (w:World) (hr0:Kd.C (Kd.int .i64) w (some A0_) l0.length l0) (hc0:l0.length<=c0) (h:api_Clock_int_79.f l0=some r) :
  Calls Try.prog 79 #[.slice (some A0_) l0.length c0] w λe w'=>∃ v0_:Value,e = .returned (v0_)/\Kd.R (Kd.int .i64) 3 w' w.heap.size (λ_=>True) v0_ r/\Below w.heap.size w w':=by
 have HR0:=Aside0.mk hr0
 have HC0:=Aside0.mk hc0
 clear hr0 hc0
 have HB:=U (Below.refl w.heap.size w)
 have H:((some (([]:List Int):List Int)).bind λy114=>(if y114.length+l0.length<17592186044416 then(some (y114++l0)) else(none)))=some r:=h
 clear h
 obtain ⟨y114,hy114⟩:∃ y_:List Int,y_=(([]:List Int)):=⟨_,rfl⟩
 replace H:(if y114.length+l0.length<17592186044416 then(some (y114++l0)) else(none))=some r:=by first|(rw [hy114];with_reducible exact H)|(have H2_:=(Option.bind_some _ _).symm.trans H;rw [hy114];with_reducible exact H2_)|(have H2_:=(Option.bind_some _ _).symm.trans H;with_reducible exact H2_)|with_reducible exact H|(rw [hy114];exact H)|exact H
 have Ny114:=Aside0.mk hy114
 clear hy114
 by_cases c2:y114.length+l0.length<17592186044416
 rotate_left
 ·rw [if_neg c2] at H
  exact absurd H (by simp)
 rw [if_pos c2] at H
 have LMc2:=Aside0.mk c2
 clear c2
 obtain ⟨y117,hy117⟩:∃ y_:List Int,y_=(y114++l0):=⟨_,rfl⟩
 replace H:(some y117)=some r:=by first|(rw [hy117];with_reducible exact H)|(have H2_:=(Option.bind_some _ _).symm.trans H;rw [hy117];with_reducible exact H2_)|(have H2_:=(Option.bind_some _ _).symm.trans H;with_reducible exact H2_)|with_reducible exact H|(rw [hy117];exact H)|exact H
 have Ny117:=Aside0.mk hy117
 clear hy117
 obtain rfl:=sI_ H
 have hnil_:=λW:World=>Lib.run_eql_slice_nil (P:=Try.prog) W 27 3 (some A0_) l0.length c0 0 0 (by kernel_rfl)
 go_enter Try.func79,Try.ntmps79
 go_wp2_with (first|((with_reducible refine gate_dst (N:=5) rfl ?_);refine Kd.R_lit (Kd.int .i64) _ 3 ?hg (N:=5) ?hd (xs:=([]:List Int)) (inner:=[]) (ok:=λ_=>True) (okp:=λ_=>True) ?hr ?hp (λ_ hk=>hk) trivial (Below.refl _ _) (Nat.le_refl _) (by simp) ?_;(case hd=>rfl);(case hg=>rfl);(case hr=>first|(go_simp;done)|(go_simp;rfl));(case hp=>exact(Reps.none _ _));intro v115 w3 ho4 hb hg_ hnew_;clear hg_ hnew_;(first|rw [<-Ny114.out] at ho4|(simp only [Int.reduceToNat] at ho4;rw [<-Ny114.out] at ho4));have HO116:=U (Kd.R_lower ho4 (below_size z20_4));replace HB:=U (below_step z20_4 hb);clear hb ho4)|((with_reducible refine gate_builtin (b:=.append) (xs:=#[.tmp 5,.tmp 6]) rfl ?_);at_builtin;refine Kd.R_append_rows (Kd.int .i64) (w0:=w) w.heap.size rfl (.tmp 5) (.tmp 6) 27 3 (.int .i64 0) 8 rfl Try.underlying27 info3 rfl (by decide) (by omega) v115 y114 l0 _ _ _ (λ_=>True) (λ_=>False) rfl rfl ?aO ?aR (λ_ _ h=>h) (λ_ h=>h.elim) ?aF ?aB ?aS ?aL ?_;(case aR=>repeat(first|exact(Kd.C_below HR0.out HB.out)|(with_reducible refine Kd.C_alloc ?_ _)|(with_reducible refine Kd.C_drewN ?_ _)|(with_reducible refine Kd.C_drew ?_)));(case aB=>exact z20_4);(case aF=>exact(λ_ _=>trivial));(case aO=>exact(by(with_reducible repeat(first|apply Kd.R_alloc|apply Kd.R_drewN|apply Kd.R_drew));exact HO116.out));(case aS=>exact(below_size z20_4));(case aL=>have:=LMc2.out;omega);intro v118 w5 ho hb hg hat;rw [<-Ny117.out] at ho;replace HB:=U (hb);have HO119:=U (ho);clear HO116;clear ho hb hg hat))
 go_ret
 exact ⟨_,(by first|rfl|(simp [errW_none,errW_some]<;>rfl)|(simp [*,errW_none,errW_some]<;>rfl)),(by(with_reducible repeat(first|apply Kd.R_alloc|apply Kd.R_drewN|apply Kd.R_drew));exact HO119.out),z20_4⟩
theorem api_Clock_int_79.calls (A0:Option Addr) (c0:Nat) (l0:List Int) (r:List Int) (w:World) (hr0:Kd.C (Kd.int .i64) w A0 l0.length l0) (hc0:l0.length<=c0) (h:api_Clock_int_79.f l0=some r) :
  Calls Try.prog 79 #[.slice A0 l0.length c0] w λe w'=>∃ v0_:Value,e = .returned (v0_)/\Kd.R (Kd.int .i64) 3 w' w.heap.size (λ_=>True) v0_ r/\Below w.heap.size w w':=by
 cases A0 with
 | some A0_=>exact api_Clock_int_79.calls_some _ c0 l0 r w hr0 hc0 h
 | none =>
 have hl:l0=[]:=by
  rcases Nat.eq_zero_or_pos l0.length with h0|h0
  ·exact List.length_eq_zero_iff.1 h0
  ·obtain ⟨ad,e,_⟩:=hr0.2.2 h0
   cases e
 subst hl
 obtain rfl:r=[]:=by
  simp [api_Clock_int_79.f] at h
  first|exact h|exact h.symm
 have hnil_:=λW:World=>Lib.run_eql_slice_nil (P:=Try.prog) W 27 3 none 0 c0 0 0 (by kernel_rfl)
 clear h
 go_enter Try.func79,Try.ntmps79
 go_wp2
 go_ret
 exact ⟨_,rfl,(by first|exact Kd.R_nil _ _ _ _ _|exact Kd.N_nil _ _ _ _ _|exact Kd.V_nil _ _ _ _ _),Below.refl _ _⟩
def clock_Plain.f (l0:List Int):Option (List Int):=some (ClockBase.trim (ClockBase.ofL l0))
theorem clock_Plain.calls (A0:Option Addr) (c0:Nat) (l0:List Int) (r:List Int) (w:World) (hr0:Kd.C (Kd.int .i64) w A0 l0.length l0) (hc0:l0.length<=c0) (h:clock_Plain.f l0=some r) :
  Calls Try.prog 72 #[.slice A0 l0.length c0] w λe w'=>∃ v0_:Value,e = .returned (v0_)/\Kd.R (Kd.int .i64) 3 w' w.heap.size (λ_=>True) v0_ r/\Below w.heap.size w w':=by
 obtain rfl:=sI_ h
 exact ClockBase.Plain_calls A0 c0 l0 w hr0
def event_Check.any (k:Nat):List S48->Option Bool
 | []=>some false
 | x :: l=>(event_CheckEffect.f k x.f0 x.f1 x.f2 x.f3 x.f4 x.f5).bind λt=>if t=0 then event_Check.any k l else some true
theorem event_Check.any_mono (l:List S48):∀ k,LeO (event_Check.any k l) (event_Check.any (k+1) l):=by
 induction l with
 | nil=>exact λk=>LeO.refl _
 | cons x l ih =>
  intro k
  unfold event_Check.any
  exact LeO.bind (event_CheckEffect.mono _ _ _ _ _ _ _) (λt=>LeO.ite (ih k) (LeO.refl _))
theorem event_Check.bad_calls (k:Nat) (x:S48) (r:Int) (w:World) (h:event_CheckEffect.f k x.f0 x.f1 x.f2 x.f3 x.f4 x.f5=some r) :
  Calls Try.prog 74 #[.agg #[.int .i64 x.f0,.int .i64 x.f1,.string x.f2,.int .i64 x.f3,.int .i64 x.f4,.string x.f5]] w λe w'=>e = .returned (.bool (r != 0))/\Below w.heap.size w w':=by
 obtain ⟨y0,y1,y2,y3,y4,y5⟩:=x
 simp only at h ⊢
 have hcall:=λW=>event_CheckEffect.calls k y0 y1 y2 y3 y4 y5 r W h
 clear h
 go_enter Try.func74,Try.ntmps74
 go_wp2_with (go_at_call 24;(with_reducible refine(hcall _).mono ?_);rintro e w' ⟨rfl,hb⟩)
 go_ret
 refine ⟨rfl,below_step ?_ hb⟩
 repeat' (first|(with_reducible exact Below.refl _ _)|(with_reducible refine pw_below_drewN ?_ _)|(with_reducible refine below_drew ?_)|(with_reducible refine below_alloc ?_ _))
theorem event_Check.idx_calls (k:Nat) (A:Option Addr) (c:Nat) (l:List S48) (b:Bool) (w:World) (hr:Kd.C k48 w A l.length l) (h:event_Check.any k l=some b) :
  Calls Try.prog 97 #[.slice A l.length c,.func (.func 74) #[] #[]] w λe w'=>(∃ i:Int,e = .returned (.int .i64 i)/\decide (i>=0)=b)/\Below w.heap.size w w':=by
 have HR:=Aside0.mk hr
 have hn:l.length<=9223372036854775807:=hr.2.1
 have HH:=Aside0.mk h
 clear hr h
 go_enter Try.func97,Try.ntmps97
 go_wp2
 go_loopg [5,8] l.length (λgg _ s8 wr=>∃ kk:Nat,kk<=l.length/\l.length - kk<=gg/\s8 = .int .i64 kk/\Aside0 (Below w.heap.size w wr)/\Aside0 (event_Check.any k (l.drop kk)=some b))
 case atStart=>exact ⟨0,Nat.zero_le _,(by omega),rfl,⟨Below.refl _ _⟩,HH⟩
 case round =>
 obtain ⟨kk,hkk,hg,rfl,HB,HA⟩:=hrel
 by_cases hlt:kk<l.length
 rotate_left
 ·have hltz:¬ (kk:Int)<(l.length:Int):=by omega
  have ha:=HA.out
  rw [List.drop_eq_nil_of_le (by omega)] at ha
  obtain rfl:=sI_ ha
  clear ha HA
  go_wp2
  go_ret
  exact ⟨⟨-1,rfl,(by decide)⟩,HB.out⟩
 have hltz:(kk:Int)<(l.length:Int):=by omega
 obtain ⟨ad,e_,f0,f1,f2,f3,f4,f5⟩:=at_T48 HR.out (kk:Int) (by omega) hltz
 subst e_
 have ha:=HA.out
 rw [List.drop_eq_getElem_cons hlt] at ha
 unfold event_Check.any at ha
 have hx:rd_T48 l (kk:Int)=l[kk]:=by
  unfold rd_T48
  rw [Int.toNat_natCast,List.getD_eq_getElem?_getD,List.getElem?_eq_getElem hlt]
  rfl
 rw [hx] at f0 f1 f2 f3 f4 f5
 simp only [Int.toNat_natCast] at f0 f1 f2 f3 f4 f5
 replace f0:=pw_cell_below HB.out f0
 replace f1:=pw_cell_below HB.out f1
 replace f2:=pw_cell_below HB.out f2
 replace f3:=pw_cell_below HB.out f3
 replace f4:=pw_cell_below HB.out f4
 replace f5:=pw_cell_below HB.out f5
 obtain ⟨t,ht,ha⟩:=Option.bind_eq_some_iff.1 ha
 have hcall:=λW=>event_Check.bad_calls k _ t W ht
 clear ht hx HA
 obtain ⟨y0,e0⟩:∃ y,y=l[kk].f0:=⟨_,rfl⟩
 obtain ⟨y1,e1⟩:∃ y,y=l[kk].f1:=⟨_,rfl⟩
 obtain ⟨y2,e2⟩:∃ y,y=l[kk].f2:=⟨_,rfl⟩
 obtain ⟨y3,e3⟩:∃ y,y=l[kk].f3:=⟨_,rfl⟩
 obtain ⟨y4,e4⟩:∃ y,y=l[kk].f4:=⟨_,rfl⟩
 obtain ⟨y5,e5⟩:∃ y,y=l[kk].f5:=⟨_,rfl⟩
 rw [<-e0] at f0 hcall
 rw [<-e1] at f1 hcall
 rw [<-e2] at f2 hcall
 rw [<-e3] at f3 hcall
 rw [<-e4] at f4 hcall
 rw [<-e5] at f5 hcall
 clear e0 e1 e2 e3 e4 e5
 by_cases ht:t=0
 ·subst ht
  rw [if_pos rfl] at ha
  have HA:=Aside0.mk ha
  clear ha
  go_wp2_with (go_at_call 74;(with_reducible refine(hcall _).mono ?_);rintro e w' ⟨rfl,hb⟩)
  go_roundg (l.length - (kk+1))
  case measure=>omega
  case rel=>exact ⟨kk+1,(by omega),(by omega),(by go_num),⟨below_step HB.out hb⟩,HA⟩
 rw [if_neg ht] at ha
 obtain rfl:=sI_ ha
 have hq:(t != 0)=true:=bne_iff_ne.2 ht
 rw [hq] at hcall
 clear ht hq ha
 go_wp2_with (go_at_call 74;(with_reducible refine(hcall _).mono ?_);rintro e w' ⟨rfl,hb⟩)
 go_ret
 exact ⟨⟨kk,rfl,dT_ (by omega)⟩,below_step HB.out hb⟩
theorem event_Check.contains_calls (k:Nat) (A:Option Addr) (c:Nat) (l:List S48) (b:Bool) (w:World) (hr:Kd.C k48 w A l.length l) (h:event_Check.any k l=some b) :
  Calls Try.prog 73 #[.slice A l.length c,.func (.func 74) #[] #[]] w λe w'=>e = .returned (.bool b)/\Below w.heap.size w w':=by
 have hcall:=event_Check.idx_calls k A c l b w hr h
 clear hr h
 go_enter Try.func73,Try.ntmps73
 go_wp2_with (go_at_call 97;refine hcall.mono ?_;rintro e w' ⟨⟨i,rfl,hi⟩,hb⟩)
 go_ret
 exact ⟨(by rw [<-hi];rfl),hb⟩
def event_Check.f (k:Nat) (a0_0:Int) (a0_1:Int) (l0_2:List Int) (l0_3:List S48):Option (Int) :=
 (dots_May.f a0_0 a0_1).bind λt=>if t=true then(if ClockBase.okC l0_2=true then(if (ClockBase.trim (ClockBase.ofL l0_2)).length=l0_2.length then(if ClockBase.getS l0_2 a0_0=wrap64 (a0_1 - 1) then(if l0_3.length<1 then some 1 else(if l0_3.length > 16 then some 1 else(event_Check.any k l0_3).bind λb=>if b=true then some 1 else some 0)) else some 1) else some 1) else some 1) else some 1
theorem event_Check.mono:∀ a0 a1 a2 a3 k,LeO (event_Check.f k a0 a1 a2 a3) (event_Check.f (k+1) a0 a1 a2 a3):=by
 intro a0 a1 a2 a3 k
 unfold event_Check.f
 repeat' first
  | (with_reducible exact event_Check.any_mono _ _)
  | (with_reducible exact LeO.refl _)
  | (with_reducible exact LeO.none _)
  | (with_reducible refine LeO.ite ?_ ?_)
  | (with_reducible refine LeO.bind ?_ (λ_=>?_))
theorem event_Check.calls (k:Nat) (a0_0:Int) (a0_1:Int) (A0_2:Option Addr) (c0_2:Nat) (l0_2:List Int) (A0_3:Option Addr) (c0_3:Nat) (l0_3:List S48) (r:Int) (w:World) (hr0_2:Kd.C (Kd.int .i64) w A0_2 l0_2.length l0_2) (hc0_2:l0_2.length<=c0_2) (hr0_3:Kd.C k48 w A0_3 l0_3.length l0_3) (hc0_3:l0_3.length<=c0_3) (h:event_Check.f k a0_0 a0_1 l0_2 l0_3=some r) :
  Calls Try.prog 27 #[.agg #[.int .i64 a0_0,.int .i64 a0_1,.slice A0_2 l0_2.length c0_2,.slice A0_3 l0_3.length c0_3]] w λe w'=>e = .returned (.int .i64 r)/\Below w.heap.size w w':=by
 unfold event_Check.f at h
 obtain ⟨t,ht,h_⟩:=Option.bind_eq_some_iff.1 h
 clear h
 have h:=h_
 clear h_
 have hmay:=λW=>dots_May.calls a0_0 a0_1 t W ht
 have hck:=λW (hB:Below w.heap.size w W)=>(ClockBase.check_calls A0_2 c0_2 l0_2 W (Kd.C_below hr0_2 hB)).mono (R':=λe w'=>e = .returned (.int .i64 (if ClockBase.okC l0_2=true then 0 else 1))/\Below W.heap.size W w') (λe w' ⟨h1,q,h2⟩=>⟨h1,(by subst h2;exact pw_below_drewN (Below.refl _ _) _)⟩)
 have hpl:=λW (hB:Below w.heap.size w W)=>ClockBase.Plain_calls A0_2 c0_2 l0_2 W (Kd.C_below hr0_2 hB)
 have hge:=λW (hB:Below w.heap.size w W)=>ClockBase.Get_calls A0_2 c0_2 l0_2 a0_0 W (Kd.C_below hr0_2 hB)
 have hl2:=hr0_2.2.1
 have hl3:=hr0_3.2.1
 have HB:=U (Below.refl w.heap.size w)
 have BK:=U (ClockBase.alloc_last w (.cells #[.int .i64 a0_0,.int .i64 a0_1,.slice A0_2 l0_2.length c0_2,.slice A0_3 l0_3.length c0_3] 30 (0,0)))
 have hC3:=hr0_3
 clear ht hr0_2 hr0_3
 cases t with
 | false =>
  rw [if_neg (by simp)] at h
  obtain rfl:=sI_ h
  clear h hC3
  go_enter Try.func27,Try.ntmps27
  go_wp2_with (first|(go_at_call 64;(with_reducible refine(hmay _).mono ?_);rintro e w' ⟨rfl,hb⟩;have b_:=U (blk_below (g:=w.heap.size) (o:=.cells #[.int .i64 a0_0,.int .i64 a0_1,.slice A0_2 l0_2.length c0_2,.slice A0_3 l0_3.length c0_3] 30 (0,0)) z4_1 hb);clear BK;have BK:=b_;clear b_;(try clear hz0 hz1 hz2 hz3);have hz0:w'.cell? ⟨w.heap.size,0,none⟩=some (.int .i64 a0_0):=(blk_cell BK.out 0).trans rfl;have hz1:w'.cell? ⟨w.heap.size,1,none⟩=some (.int .i64 a0_1):=(blk_cell BK.out 1).trans rfl;have hz2:w'.cell? ⟨w.heap.size,2,none⟩=some (.slice A0_2 l0_2.length c0_2):=(blk_cell BK.out 2).trans rfl;have hz3:w'.cell? ⟨w.heap.size,3,none⟩=some (.slice A0_3 l0_3.length c0_3):=(blk_cell BK.out 3).trans rfl;have n_:=U (below_step (w:=w) z4_0 hb);clear HB hb;have HB:=n_;clear n_))
  go_ret
  exact ⟨rfl,z4_0⟩
 | true =>
 rw [if_pos rfl] at h
 by_cases hk:ClockBase.okC l0_2=true
 rotate_left
 ·rw [if_neg hk] at h
  obtain rfl:=sI_ h
  rw [Bool.not_eq_true] at hk
  rw [hk] at hck
  clear hk h hC3
  go_enter Try.func27,Try.ntmps27
  go_wp2_with (first|(go_at_call 64;(with_reducible refine(hmay _).mono ?_);rintro e w' ⟨rfl,hb⟩;have b_:=U (blk_below (g:=w.heap.size) (o:=.cells #[.int .i64 a0_0,.int .i64 a0_1,.slice A0_2 l0_2.length c0_2,.slice A0_3 l0_3.length c0_3] 30 (0,0)) z4_1 hb);clear BK;have BK:=b_;clear b_;(try clear hz0 hz1 hz2 hz3);have hz0:w'.cell? ⟨w.heap.size,0,none⟩=some (.int .i64 a0_0):=(blk_cell BK.out 0).trans rfl;have hz1:w'.cell? ⟨w.heap.size,1,none⟩=some (.int .i64 a0_1):=(blk_cell BK.out 1).trans rfl;have hz2:w'.cell? ⟨w.heap.size,2,none⟩=some (.slice A0_2 l0_2.length c0_2):=(blk_cell BK.out 2).trans rfl;have hz3:w'.cell? ⟨w.heap.size,3,none⟩=some (.slice A0_3 l0_3.length c0_3):=(blk_cell BK.out 3).trans rfl;have n_:=U (below_step (w:=w) z4_0 hb);clear HB hb;have HB:=n_;clear n_)|(go_at_call 71;(with_reducible refine(hck _ ?zb1).mono ?_);(case zb1=>exact z4_0);rintro e w' ⟨rfl,hb⟩;have b_:=U (blk_below (g:=w.heap.size) (o:=.cells #[.int .i64 a0_0,.int .i64 a0_1,.slice A0_2 l0_2.length c0_2,.slice A0_3 l0_3.length c0_3] 30 (0,0)) z4_1 hb);clear BK;have BK:=b_;clear b_;(try clear hz0 hz1 hz2 hz3);have hz0:w'.cell? ⟨w.heap.size,0,none⟩=some (.int .i64 a0_0):=(blk_cell BK.out 0).trans rfl;have hz1:w'.cell? ⟨w.heap.size,1,none⟩=some (.int .i64 a0_1):=(blk_cell BK.out 1).trans rfl;have hz2:w'.cell? ⟨w.heap.size,2,none⟩=some (.slice A0_2 l0_2.length c0_2):=(blk_cell BK.out 2).trans rfl;have hz3:w'.cell? ⟨w.heap.size,3,none⟩=some (.slice A0_3 l0_3.length c0_3):=(blk_cell BK.out 3).trans rfl;have n_:=U (below_step (w:=w) z4_0 hb);clear HB hb;have HB:=n_;clear n_))
  go_ret
  exact ⟨rfl,z4_0⟩
 rw [if_pos hk] at h
 rw [hk] at hck
 clear hk
 obtain ⟨P,hP⟩:∃ P,P=ClockBase.trim (ClockBase.ofL l0_2):=⟨_,rfl⟩
 rw [<-hP] at h hpl
 have hPl:P.length<=5:=by
  rw [hP]
  unfold ClockBase.trim
  rw [List.length_take]
  have:=ClockBase.ofL_length l0_2
  omega
 clear hP
 by_cases hp:P.length=l0_2.length
 rotate_left
 ·rw [if_neg hp] at h
  obtain rfl:=sI_ h
  have p1:(P.length == l0_2.length)=false:=beq_eq_false_iff_ne.2 hp
  have p2:(P.length != l0_2.length)=true:=bne_iff_ne.2 hp
  have p3:((P.length:Int) == (l0_2.length:Int))=false:=beq_eq_false_iff_ne.2 (by omega)
  have p4:((P.length:Int) != (l0_2.length:Int))=true:=bne_iff_ne.2 (by omega)
  clear hp h hC3
  go_enter Try.func27,Try.ntmps27
  go_upto_region 3 with (first|(go_at_call 64;(with_reducible refine(hmay _).mono ?_);rintro e w' ⟨rfl,hb⟩;have b_:=U (blk_below (g:=w.heap.size) (o:=.cells #[.int .i64 a0_0,.int .i64 a0_1,.slice A0_2 l0_2.length c0_2,.slice A0_3 l0_3.length c0_3] 30 (0,0)) z4_1 hb);clear BK;have BK:=b_;clear b_;(try clear hz0 hz1 hz2 hz3);have hz0:w'.cell? ⟨w.heap.size,0,none⟩=some (.int .i64 a0_0):=(blk_cell BK.out 0).trans rfl;have hz1:w'.cell? ⟨w.heap.size,1,none⟩=some (.int .i64 a0_1):=(blk_cell BK.out 1).trans rfl;have hz2:w'.cell? ⟨w.heap.size,2,none⟩=some (.slice A0_2 l0_2.length c0_2):=(blk_cell BK.out 2).trans rfl;have hz3:w'.cell? ⟨w.heap.size,3,none⟩=some (.slice A0_3 l0_3.length c0_3):=(blk_cell BK.out 3).trans rfl;have n_:=U (below_step (w:=w) z4_0 hb);clear HB hb;have HB:=n_;clear n_)|(go_at_call 71;(with_reducible refine(hck _ ?zb1).mono ?_);(case zb1=>exact z4_0);rintro e w' ⟨rfl,hb⟩;have b_:=U (blk_below (g:=w.heap.size) (o:=.cells #[.int .i64 a0_0,.int .i64 a0_1,.slice A0_2 l0_2.length c0_2,.slice A0_3 l0_3.length c0_3] 30 (0,0)) z4_1 hb);clear BK;have BK:=b_;clear b_;(try clear hz0 hz1 hz2 hz3);have hz0:w'.cell? ⟨w.heap.size,0,none⟩=some (.int .i64 a0_0):=(blk_cell BK.out 0).trans rfl;have hz1:w'.cell? ⟨w.heap.size,1,none⟩=some (.int .i64 a0_1):=(blk_cell BK.out 1).trans rfl;have hz2:w'.cell? ⟨w.heap.size,2,none⟩=some (.slice A0_2 l0_2.length c0_2):=(blk_cell BK.out 2).trans rfl;have hz3:w'.cell? ⟨w.heap.size,3,none⟩=some (.slice A0_3 l0_3.length c0_3):=(blk_cell BK.out 3).trans rfl;have n_:=U (below_step (w:=w) z4_0 hb);clear HB hb;have HB:=n_;clear n_))
  go_region_held3 (λW=>W.cell? ⟨w.heap.size,0,none⟩=some (.int .i64 a0_0)/\W.cell? ⟨w.heap.size,1,none⟩=some (.int .i64 a0_1)/\W.cell? ⟨w.heap.size,2,none⟩=some (.slice A0_2 l0_2.length c0_2)/\W.cell? ⟨w.heap.size,3,none⟩=some (.slice A0_3 l0_3.length c0_3)/\Aside0 (W.heap[w.heap.size]? = some (.cells #[.int .i64 a0_0,.int .i64 a0_1,.slice A0_2 l0_2.length c0_2,.slice A0_3 l0_3.length c0_3] 30 (0,0)))/\Aside0 (Below w.heap.size w W)) ((refine ⟨?_,?_,?_,?_,?_,?_⟩<;>(first|assumption|(refine Aside0.mk ?_;(repeat(first|(with_reducible exact BK.out)|(with_reducible refine blk_drewN ?_ _)|(with_reducible refine blk_drew ?_)|(with_reducible refine blk_alloc ?_ _)));done)|(refine Aside0.mk ?_;(repeat(first|(with_reducible exact HB.out)|(with_reducible refine below_alloc ?_ _)|(with_reducible refine pw_below_drewN ?_ _)|(with_reducible refine below_drew ?_)|(with_reducible refine Below.drew ?_)));done)|(go_keep)))) (first|(go_at_call 72;(with_reducible refine(hpl _ ?zb2).mono ?_);(case zb2=>exact z4_0);rintro e w' ⟨v,rfl,hv,hb⟩;have b_:=U (blk_below (g:=w.heap.size) (o:=.cells #[.int .i64 a0_0,.int .i64 a0_1,.slice A0_2 l0_2.length c0_2,.slice A0_3 l0_3.length c0_3] 30 (0,0)) z4_1 hb);clear BK;have BK:=b_;clear b_;(try clear hz0 hz1 hz2 hz3);have hz0:w'.cell? ⟨w.heap.size,0,none⟩=some (.int .i64 a0_0):=(blk_cell BK.out 0).trans rfl;have hz1:w'.cell? ⟨w.heap.size,1,none⟩=some (.int .i64 a0_1):=(blk_cell BK.out 1).trans rfl;have hz2:w'.cell? ⟨w.heap.size,2,none⟩=some (.slice A0_2 l0_2.length c0_2):=(blk_cell BK.out 2).trans rfl;have hz3:w'.cell? ⟨w.heap.size,3,none⟩=some (.slice A0_3 l0_3.length c0_3):=(blk_cell BK.out 3).trans rfl;have n_:=U (below_step (w:=w) z4_0 hb);clear HB hb;have HB:=n_;clear n_;obtain ⟨Av,cv,ev⟩:=Kd.R_slice hv;subst ev;clear hv)|(go_at_call 65;(with_reducible refine(hge _ ?zb3).mono ?_);(case zb3=>exact z4_0);rintro e w' ⟨rfl,hb⟩;have b_:=U (blk_below (g:=w.heap.size) (o:=.cells #[.int .i64 a0_0,.int .i64 a0_1,.slice A0_2 l0_2.length c0_2,.slice A0_3 l0_3.length c0_3] 30 (0,0)) z4_1 hb);clear BK;have BK:=b_;clear b_;(try clear hz0 hz1 hz2 hz3);have hz0:w'.cell? ⟨w.heap.size,0,none⟩=some (.int .i64 a0_0):=(blk_cell BK.out 0).trans rfl;have hz1:w'.cell? ⟨w.heap.size,1,none⟩=some (.int .i64 a0_1):=(blk_cell BK.out 1).trans rfl;have hz2:w'.cell? ⟨w.heap.size,2,none⟩=some (.slice A0_2 l0_2.length c0_2):=(blk_cell BK.out 2).trans rfl;have hz3:w'.cell? ⟨w.heap.size,3,none⟩=some (.slice A0_3 l0_3.length c0_3):=(blk_cell BK.out 3).trans rfl;have n_:=U (below_step (w:=w) z4_0 hb);clear HB hb;have HB:=n_;clear n_))
  go_wp2_with (fail)
  go_ret
  exact ⟨rfl,z4_0⟩
 rw [if_pos hp] at h
 have p1:(P.length == l0_2.length)=true:=beq_iff_eq.2 hp
 have p2:(P.length != l0_2.length)=false:=bne_eq_false_iff_eq.2 hp
 have p3:((P.length:Int) == (l0_2.length:Int))=true:=beq_iff_eq.2 (by omega)
 have p4:((P.length:Int) != (l0_2.length:Int))=false:=bne_eq_false_iff_eq.2 (by omega)
 clear hp
 obtain ⟨G,hG⟩:∃ G,G=ClockBase.getS l0_2 a0_0:=⟨_,rfl⟩
 rw [<-hG] at h hge
 clear hG
 have hw:IntKind.i64.wrap (a0_1 - 1)=wrap64 (a0_1 - 1):=i64_w _
 obtain ⟨S,hS⟩:∃ S,S=wrap64 (a0_1 - 1):=⟨_,rfl⟩
 rw [<-hS] at h hw
 have HS:=Aside0.mk hS
 by_cases hg:G=S
 rotate_left
 ·rw [if_neg hg] at h
  obtain rfl:=sI_ h
  have g1:(G == wrap64 (a0_1 - 1))=false:=by rw [<-hS];exact beq_eq_false_iff_ne.2 hg
  have g2:(G != wrap64 (a0_1 - 1))=true:=by rw [<-hS];exact bne_iff_ne.2 hg
  have g3:(G != IntKind.i64.wrap (a0_1 - 1))=true:=by rw [i64_w];exact g2
  clear hg hS hw h hC3
  go_enter Try.func27,Try.ntmps27
  go_upto_region 3 with (first|(go_at_call 64;(with_reducible refine(hmay _).mono ?_);rintro e w' ⟨rfl,hb⟩;have b_:=U (blk_below (g:=w.heap.size) (o:=.cells #[.int .i64 a0_0,.int .i64 a0_1,.slice A0_2 l0_2.length c0_2,.slice A0_3 l0_3.length c0_3] 30 (0,0)) z4_1 hb);clear BK;have BK:=b_;clear b_;(try clear hz0 hz1 hz2 hz3);have hz0:w'.cell? ⟨w.heap.size,0,none⟩=some (.int .i64 a0_0):=(blk_cell BK.out 0).trans rfl;have hz1:w'.cell? ⟨w.heap.size,1,none⟩=some (.int .i64 a0_1):=(blk_cell BK.out 1).trans rfl;have hz2:w'.cell? ⟨w.heap.size,2,none⟩=some (.slice A0_2 l0_2.length c0_2):=(blk_cell BK.out 2).trans rfl;have hz3:w'.cell? ⟨w.heap.size,3,none⟩=some (.slice A0_3 l0_3.length c0_3):=(blk_cell BK.out 3).trans rfl;have n_:=U (below_step (w:=w) z4_0 hb);clear HB hb;have HB:=n_;clear n_)|(go_at_call 71;(with_reducible refine(hck _ ?zb1).mono ?_);(case zb1=>exact z4_0);rintro e w' ⟨rfl,hb⟩;have b_:=U (blk_below (g:=w.heap.size) (o:=.cells #[.int .i64 a0_0,.int .i64 a0_1,.slice A0_2 l0_2.length c0_2,.slice A0_3 l0_3.length c0_3] 30 (0,0)) z4_1 hb);clear BK;have BK:=b_;clear b_;(try clear hz0 hz1 hz2 hz3);have hz0:w'.cell? ⟨w.heap.size,0,none⟩=some (.int .i64 a0_0):=(blk_cell BK.out 0).trans rfl;have hz1:w'.cell? ⟨w.heap.size,1,none⟩=some (.int .i64 a0_1):=(blk_cell BK.out 1).trans rfl;have hz2:w'.cell? ⟨w.heap.size,2,none⟩=some (.slice A0_2 l0_2.length c0_2):=(blk_cell BK.out 2).trans rfl;have hz3:w'.cell? ⟨w.heap.size,3,none⟩=some (.slice A0_3 l0_3.length c0_3):=(blk_cell BK.out 3).trans rfl;have n_:=U (below_step (w:=w) z4_0 hb);clear HB hb;have HB:=n_;clear n_))
  go_region_held3 (λW=>W.cell? ⟨w.heap.size,0,none⟩=some (.int .i64 a0_0)/\W.cell? ⟨w.heap.size,1,none⟩=some (.int .i64 a0_1)/\W.cell? ⟨w.heap.size,2,none⟩=some (.slice A0_2 l0_2.length c0_2)/\W.cell? ⟨w.heap.size,3,none⟩=some (.slice A0_3 l0_3.length c0_3)/\Aside0 (W.heap[w.heap.size]? = some (.cells #[.int .i64 a0_0,.int .i64 a0_1,.slice A0_2 l0_2.length c0_2,.slice A0_3 l0_3.length c0_3] 30 (0,0)))/\Aside0 (Below w.heap.size w W)) ((refine ⟨?_,?_,?_,?_,?_,?_⟩<;>(first|assumption|(refine Aside0.mk ?_;(repeat(first|(with_reducible exact BK.out)|(with_reducible refine blk_drewN ?_ _)|(with_reducible refine blk_drew ?_)|(with_reducible refine blk_alloc ?_ _)));done)|(refine Aside0.mk ?_;(repeat(first|(with_reducible exact HB.out)|(with_reducible refine below_alloc ?_ _)|(with_reducible refine pw_below_drewN ?_ _)|(with_reducible refine below_drew ?_)|(with_reducible refine Below.drew ?_)));done)|(go_keep)))) (first|(go_at_call 72;(with_reducible refine(hpl _ ?zb2).mono ?_);(case zb2=>exact z4_0);rintro e w' ⟨v,rfl,hv,hb⟩;have b_:=U (blk_below (g:=w.heap.size) (o:=.cells #[.int .i64 a0_0,.int .i64 a0_1,.slice A0_2 l0_2.length c0_2,.slice A0_3 l0_3.length c0_3] 30 (0,0)) z4_1 hb);clear BK;have BK:=b_;clear b_;(try clear hz0 hz1 hz2 hz3);have hz0:w'.cell? ⟨w.heap.size,0,none⟩=some (.int .i64 a0_0):=(blk_cell BK.out 0).trans rfl;have hz1:w'.cell? ⟨w.heap.size,1,none⟩=some (.int .i64 a0_1):=(blk_cell BK.out 1).trans rfl;have hz2:w'.cell? ⟨w.heap.size,2,none⟩=some (.slice A0_2 l0_2.length c0_2):=(blk_cell BK.out 2).trans rfl;have hz3:w'.cell? ⟨w.heap.size,3,none⟩=some (.slice A0_3 l0_3.length c0_3):=(blk_cell BK.out 3).trans rfl;have n_:=U (below_step (w:=w) z4_0 hb);clear HB hb;have HB:=n_;clear n_;obtain ⟨Av,cv,ev⟩:=Kd.R_slice hv;subst ev;clear hv)|(go_at_call 65;(with_reducible refine(hge _ ?zb3).mono ?_);(case zb3=>exact z4_0);rintro e w' ⟨rfl,hb⟩;have b_:=U (blk_below (g:=w.heap.size) (o:=.cells #[.int .i64 a0_0,.int .i64 a0_1,.slice A0_2 l0_2.length c0_2,.slice A0_3 l0_3.length c0_3] 30 (0,0)) z4_1 hb);clear BK;have BK:=b_;clear b_;(try clear hz0 hz1 hz2 hz3);have hz0:w'.cell? ⟨w.heap.size,0,none⟩=some (.int .i64 a0_0):=(blk_cell BK.out 0).trans rfl;have hz1:w'.cell? ⟨w.heap.size,1,none⟩=some (.int .i64 a0_1):=(blk_cell BK.out 1).trans rfl;have hz2:w'.cell? ⟨w.heap.size,2,none⟩=some (.slice A0_2 l0_2.length c0_2):=(blk_cell BK.out 2).trans rfl;have hz3:w'.cell? ⟨w.heap.size,3,none⟩=some (.slice A0_3 l0_3.length c0_3):=(blk_cell BK.out 3).trans rfl;have n_:=U (below_step (w:=w) z4_0 hb);clear HB hb;have HB:=n_;clear n_))
  go_upto_region 5 with (fail)
  go_region_held3 (λW=>W.cell? ⟨w.heap.size,0,none⟩=some (.int .i64 a0_0)/\W.cell? ⟨w.heap.size,1,none⟩=some (.int .i64 a0_1)/\W.cell? ⟨w.heap.size,2,none⟩=some (.slice A0_2 l0_2.length c0_2)/\W.cell? ⟨w.heap.size,3,none⟩=some (.slice A0_3 l0_3.length c0_3)/\Aside0 (W.heap[w.heap.size]? = some (.cells #[.int .i64 a0_0,.int .i64 a0_1,.slice A0_2 l0_2.length c0_2,.slice A0_3 l0_3.length c0_3] 30 (0,0)))/\Aside0 (Below w.heap.size w W)) ((refine ⟨?_,?_,?_,?_,?_,?_⟩<;>(first|assumption|(refine Aside0.mk ?_;(repeat(first|(with_reducible exact BK.out)|(with_reducible refine blk_drewN ?_ _)|(with_reducible refine blk_drew ?_)|(with_reducible refine blk_alloc ?_ _)));done)|(refine Aside0.mk ?_;(repeat(first|(with_reducible exact HB.out)|(with_reducible refine below_alloc ?_ _)|(with_reducible refine pw_below_drewN ?_ _)|(with_reducible refine below_drew ?_)|(with_reducible refine Below.drew ?_)));done)|(go_keep)))) (first|(go_at_call 72;(with_reducible refine(hpl _ ?zb2).mono ?_);(case zb2=>exact z4_0);rintro e w' ⟨v,rfl,hv,hb⟩;have b_:=U (blk_below (g:=w.heap.size) (o:=.cells #[.int .i64 a0_0,.int .i64 a0_1,.slice A0_2 l0_2.length c0_2,.slice A0_3 l0_3.length c0_3] 30 (0,0)) z4_1 hb);clear BK;have BK:=b_;clear b_;(try clear hz0 hz1 hz2 hz3);have hz0:w'.cell? ⟨w.heap.size,0,none⟩=some (.int .i64 a0_0):=(blk_cell BK.out 0).trans rfl;have hz1:w'.cell? ⟨w.heap.size,1,none⟩=some (.int .i64 a0_1):=(blk_cell BK.out 1).trans rfl;have hz2:w'.cell? ⟨w.heap.size,2,none⟩=some (.slice A0_2 l0_2.length c0_2):=(blk_cell BK.out 2).trans rfl;have hz3:w'.cell? ⟨w.heap.size,3,none⟩=some (.slice A0_3 l0_3.length c0_3):=(blk_cell BK.out 3).trans rfl;have n_:=U (below_step (w:=w) z4_0 hb);clear HB hb;have HB:=n_;clear n_;obtain ⟨Av,cv,ev⟩:=Kd.R_slice hv;subst ev;clear hv)|(go_at_call 65;(with_reducible refine(hge _ ?zb3).mono ?_);(case zb3=>exact z4_0);rintro e w' ⟨rfl,hb⟩;have b_:=U (blk_below (g:=w.heap.size) (o:=.cells #[.int .i64 a0_0,.int .i64 a0_1,.slice A0_2 l0_2.length c0_2,.slice A0_3 l0_3.length c0_3] 30 (0,0)) z4_1 hb);clear BK;have BK:=b_;clear b_;(try clear hz0 hz1 hz2 hz3);have hz0:w'.cell? ⟨w.heap.size,0,none⟩=some (.int .i64 a0_0):=(blk_cell BK.out 0).trans rfl;have hz1:w'.cell? ⟨w.heap.size,1,none⟩=some (.int .i64 a0_1):=(blk_cell BK.out 1).trans rfl;have hz2:w'.cell? ⟨w.heap.size,2,none⟩=some (.slice A0_2 l0_2.length c0_2):=(blk_cell BK.out 2).trans rfl;have hz3:w'.cell? ⟨w.heap.size,3,none⟩=some (.slice A0_3 l0_3.length c0_3):=(blk_cell BK.out 3).trans rfl;have n_:=U (below_step (w:=w) z4_0 hb);clear HB hb;have HB:=n_;clear n_))
  go_wp2_with (fail)
  go_ret
  exact ⟨rfl,z4_0⟩
 rw [if_pos hg] at h
 have g1:(G == wrap64 (a0_1 - 1))=true:=by rw [<-hS];exact beq_iff_eq.2 hg
 have g2:(G != wrap64 (a0_1 - 1))=false:=by rw [<-hS];exact bne_eq_false_iff_eq.2 hg
 have g3:(G != IntKind.i64.wrap (a0_1 - 1))=false:=by rw [i64_w];exact g2
 clear hg hS hw
 by_cases h1:l0_3.length<1
 ·rw [if_pos h1] at h
  obtain rfl:=sI_ h
  have n1:decide ((l0_3.length:Int)<1)=true:=dT_ (by omega)
  have n2:l0_3.length=0:=by omega
  have N2:=Aside0.mk n2
  clear h h1 hC3 n2
  go_enter Try.func27,Try.ntmps27
  go_upto_region 3 with (first|(go_at_call 64;(with_reducible refine(hmay _).mono ?_);rintro e w' ⟨rfl,hb⟩;have b_:=U (blk_below (g:=w.heap.size) (o:=.cells #[.int .i64 a0_0,.int .i64 a0_1,.slice A0_2 l0_2.length c0_2,.slice A0_3 l0_3.length c0_3] 30 (0,0)) z4_1 hb);clear BK;have BK:=b_;clear b_;(try clear hz0 hz1 hz2 hz3);have hz0:w'.cell? ⟨w.heap.size,0,none⟩=some (.int .i64 a0_0):=(blk_cell BK.out 0).trans rfl;have hz1:w'.cell? ⟨w.heap.size,1,none⟩=some (.int .i64 a0_1):=(blk_cell BK.out 1).trans rfl;have hz2:w'.cell? ⟨w.heap.size,2,none⟩=some (.slice A0_2 l0_2.length c0_2):=(blk_cell BK.out 2).trans rfl;have hz3:w'.cell? ⟨w.heap.size,3,none⟩=some (.slice A0_3 l0_3.length c0_3):=(blk_cell BK.out 3).trans rfl;have n_:=U (below_step (w:=w) z4_0 hb);clear HB hb;have HB:=n_;clear n_)|(go_at_call 71;(with_reducible refine(hck _ ?zb1).mono ?_);(case zb1=>exact z4_0);rintro e w' ⟨rfl,hb⟩;have b_:=U (blk_below (g:=w.heap.size) (o:=.cells #[.int .i64 a0_0,.int .i64 a0_1,.slice A0_2 l0_2.length c0_2,.slice A0_3 l0_3.length c0_3] 30 (0,0)) z4_1 hb);clear BK;have BK:=b_;clear b_;(try clear hz0 hz1 hz2 hz3);have hz0:w'.cell? ⟨w.heap.size,0,none⟩=some (.int .i64 a0_0):=(blk_cell BK.out 0).trans rfl;have hz1:w'.cell? ⟨w.heap.size,1,none⟩=some (.int .i64 a0_1):=(blk_cell BK.out 1).trans rfl;have hz2:w'.cell? ⟨w.heap.size,2,none⟩=some (.slice A0_2 l0_2.length c0_2):=(blk_cell BK.out 2).trans rfl;have hz3:w'.cell? ⟨w.heap.size,3,none⟩=some (.slice A0_3 l0_3.length c0_3):=(blk_cell BK.out 3).trans rfl;have n_:=U (below_step (w:=w) z4_0 hb);clear HB hb;have HB:=n_;clear n_))
  go_region_held3 (λW=>W.cell? ⟨w.heap.size,0,none⟩=some (.int .i64 a0_0)/\W.cell? ⟨w.heap.size,1,none⟩=some (.int .i64 a0_1)/\W.cell? ⟨w.heap.size,2,none⟩=some (.slice A0_2 l0_2.length c0_2)/\W.cell? ⟨w.heap.size,3,none⟩=some (.slice A0_3 l0_3.length c0_3)/\Aside0 (W.heap[w.heap.size]? = some (.cells #[.int .i64 a0_0,.int .i64 a0_1,.slice A0_2 l0_2.length c0_2,.slice A0_3 l0_3.length c0_3] 30 (0,0)))/\Aside0 (Below w.heap.size w W)) ((refine ⟨?_,?_,?_,?_,?_,?_⟩<;>(first|assumption|(refine Aside0.mk ?_;(repeat(first|(with_reducible exact BK.out)|(with_reducible refine blk_drewN ?_ _)|(with_reducible refine blk_drew ?_)|(with_reducible refine blk_alloc ?_ _)));done)|(refine Aside0.mk ?_;(repeat(first|(with_reducible exact HB.out)|(with_reducible refine below_alloc ?_ _)|(with_reducible refine pw_below_drewN ?_ _)|(with_reducible refine below_drew ?_)|(with_reducible refine Below.drew ?_)));done)|(go_keep)))) (first|(go_at_call 72;(with_reducible refine(hpl _ ?zb2).mono ?_);(case zb2=>exact z4_0);rintro e w' ⟨v,rfl,hv,hb⟩;have b_:=U (blk_below (g:=w.heap.size) (o:=.cells #[.int .i64 a0_0,.int .i64 a0_1,.slice A0_2 l0_2.length c0_2,.slice A0_3 l0_3.length c0_3] 30 (0,0)) z4_1 hb);clear BK;have BK:=b_;clear b_;(try clear hz0 hz1 hz2 hz3);have hz0:w'.cell? ⟨w.heap.size,0,none⟩=some (.int .i64 a0_0):=(blk_cell BK.out 0).trans rfl;have hz1:w'.cell? ⟨w.heap.size,1,none⟩=some (.int .i64 a0_1):=(blk_cell BK.out 1).trans rfl;have hz2:w'.cell? ⟨w.heap.size,2,none⟩=some (.slice A0_2 l0_2.length c0_2):=(blk_cell BK.out 2).trans rfl;have hz3:w'.cell? ⟨w.heap.size,3,none⟩=some (.slice A0_3 l0_3.length c0_3):=(blk_cell BK.out 3).trans rfl;have n_:=U (below_step (w:=w) z4_0 hb);clear HB hb;have HB:=n_;clear n_;obtain ⟨Av,cv,ev⟩:=Kd.R_slice hv;subst ev;clear hv)|(go_at_call 65;(with_reducible refine(hge _ ?zb3).mono ?_);(case zb3=>exact z4_0);rintro e w' ⟨rfl,hb⟩;have b_:=U (blk_below (g:=w.heap.size) (o:=.cells #[.int .i64 a0_0,.int .i64 a0_1,.slice A0_2 l0_2.length c0_2,.slice A0_3 l0_3.length c0_3] 30 (0,0)) z4_1 hb);clear BK;have BK:=b_;clear b_;(try clear hz0 hz1 hz2 hz3);have hz0:w'.cell? ⟨w.heap.size,0,none⟩=some (.int .i64 a0_0):=(blk_cell BK.out 0).trans rfl;have hz1:w'.cell? ⟨w.heap.size,1,none⟩=some (.int .i64 a0_1):=(blk_cell BK.out 1).trans rfl;have hz2:w'.cell? ⟨w.heap.size,2,none⟩=some (.slice A0_2 l0_2.length c0_2):=(blk_cell BK.out 2).trans rfl;have hz3:w'.cell? ⟨w.heap.size,3,none⟩=some (.slice A0_3 l0_3.length c0_3):=(blk_cell BK.out 3).trans rfl;have n_:=U (below_step (w:=w) z4_0 hb);clear HB hb;have HB:=n_;clear n_))
  go_upto_region 5 with (fail)
  go_region_held3 (λW=>W.cell? ⟨w.heap.size,0,none⟩=some (.int .i64 a0_0)/\W.cell? ⟨w.heap.size,1,none⟩=some (.int .i64 a0_1)/\W.cell? ⟨w.heap.size,2,none⟩=some (.slice A0_2 l0_2.length c0_2)/\W.cell? ⟨w.heap.size,3,none⟩=some (.slice A0_3 l0_3.length c0_3)/\Aside0 (W.heap[w.heap.size]? = some (.cells #[.int .i64 a0_0,.int .i64 a0_1,.slice A0_2 l0_2.length c0_2,.slice A0_3 l0_3.length c0_3] 30 (0,0)))/\Aside0 (Below w.heap.size w W)) ((refine ⟨?_,?_,?_,?_,?_,?_⟩<;>(first|assumption|(refine Aside0.mk ?_;(repeat(first|(with_reducible exact BK.out)|(with_reducible refine blk_drewN ?_ _)|(with_reducible refine blk_drew ?_)|(with_reducible refine blk_alloc ?_ _)));done)|(refine Aside0.mk ?_;(repeat(first|(with_reducible exact HB.out)|(with_reducible refine below_alloc ?_ _)|(with_reducible refine pw_below_drewN ?_ _)|(with_reducible refine below_drew ?_)|(with_reducible refine Below.drew ?_)));done)|(go_keep)))) (first|(go_at_call 72;(with_reducible refine(hpl _ ?zb2).mono ?_);(case zb2=>exact z4_0);rintro e w' ⟨v,rfl,hv,hb⟩;have b_:=U (blk_below (g:=w.heap.size) (o:=.cells #[.int .i64 a0_0,.int .i64 a0_1,.slice A0_2 l0_2.length c0_2,.slice A0_3 l0_3.length c0_3] 30 (0,0)) z4_1 hb);clear BK;have BK:=b_;clear b_;(try clear hz0 hz1 hz2 hz3);have hz0:w'.cell? ⟨w.heap.size,0,none⟩=some (.int .i64 a0_0):=(blk_cell BK.out 0).trans rfl;have hz1:w'.cell? ⟨w.heap.size,1,none⟩=some (.int .i64 a0_1):=(blk_cell BK.out 1).trans rfl;have hz2:w'.cell? ⟨w.heap.size,2,none⟩=some (.slice A0_2 l0_2.length c0_2):=(blk_cell BK.out 2).trans rfl;have hz3:w'.cell? ⟨w.heap.size,3,none⟩=some (.slice A0_3 l0_3.length c0_3):=(blk_cell BK.out 3).trans rfl;have n_:=U (below_step (w:=w) z4_0 hb);clear HB hb;have HB:=n_;clear n_;obtain ⟨Av,cv,ev⟩:=Kd.R_slice hv;subst ev;clear hv)|(go_at_call 65;(with_reducible refine(hge _ ?zb3).mono ?_);(case zb3=>exact z4_0);rintro e w' ⟨rfl,hb⟩;have b_:=U (blk_below (g:=w.heap.size) (o:=.cells #[.int .i64 a0_0,.int .i64 a0_1,.slice A0_2 l0_2.length c0_2,.slice A0_3 l0_3.length c0_3] 30 (0,0)) z4_1 hb);clear BK;have BK:=b_;clear b_;(try clear hz0 hz1 hz2 hz3);have hz0:w'.cell? ⟨w.heap.size,0,none⟩=some (.int .i64 a0_0):=(blk_cell BK.out 0).trans rfl;have hz1:w'.cell? ⟨w.heap.size,1,none⟩=some (.int .i64 a0_1):=(blk_cell BK.out 1).trans rfl;have hz2:w'.cell? ⟨w.heap.size,2,none⟩=some (.slice A0_2 l0_2.length c0_2):=(blk_cell BK.out 2).trans rfl;have hz3:w'.cell? ⟨w.heap.size,3,none⟩=some (.slice A0_3 l0_3.length c0_3):=(blk_cell BK.out 3).trans rfl;have n_:=U (below_step (w:=w) z4_0 hb);clear HB hb;have HB:=n_;clear n_))
  go_wp2_with (fail)
  go_ret
  exact ⟨rfl,z4_0⟩
 rw [if_neg h1] at h
 have n1:decide ((l0_3.length:Int)<1)=false:=dF_ (by omega)
 have n0:(1:Int)<=(l0_3.length:Int):=by omega
 by_cases h2:l0_3.length > 16
 ·rw [if_pos h2] at h
  obtain rfl:=sI_ h
  have n2:decide ((16:Int)<(l0_3.length:Int))=true:=dT_ (by omega)
  have n3:(16:Int)<(l0_3.length:Int):=by omega
  clear h h1 h2 hC3
  go_enter Try.func27,Try.ntmps27
  go_upto_region 3 with (first|(go_at_call 64;(with_reducible refine(hmay _).mono ?_);rintro e w' ⟨rfl,hb⟩;have b_:=U (blk_below (g:=w.heap.size) (o:=.cells #[.int .i64 a0_0,.int .i64 a0_1,.slice A0_2 l0_2.length c0_2,.slice A0_3 l0_3.length c0_3] 30 (0,0)) z4_1 hb);clear BK;have BK:=b_;clear b_;(try clear hz0 hz1 hz2 hz3);have hz0:w'.cell? ⟨w.heap.size,0,none⟩=some (.int .i64 a0_0):=(blk_cell BK.out 0).trans rfl;have hz1:w'.cell? ⟨w.heap.size,1,none⟩=some (.int .i64 a0_1):=(blk_cell BK.out 1).trans rfl;have hz2:w'.cell? ⟨w.heap.size,2,none⟩=some (.slice A0_2 l0_2.length c0_2):=(blk_cell BK.out 2).trans rfl;have hz3:w'.cell? ⟨w.heap.size,3,none⟩=some (.slice A0_3 l0_3.length c0_3):=(blk_cell BK.out 3).trans rfl;have n_:=U (below_step (w:=w) z4_0 hb);clear HB hb;have HB:=n_;clear n_)|(go_at_call 71;(with_reducible refine(hck _ ?zb1).mono ?_);(case zb1=>exact z4_0);rintro e w' ⟨rfl,hb⟩;have b_:=U (blk_below (g:=w.heap.size) (o:=.cells #[.int .i64 a0_0,.int .i64 a0_1,.slice A0_2 l0_2.length c0_2,.slice A0_3 l0_3.length c0_3] 30 (0,0)) z4_1 hb);clear BK;have BK:=b_;clear b_;(try clear hz0 hz1 hz2 hz3);have hz0:w'.cell? ⟨w.heap.size,0,none⟩=some (.int .i64 a0_0):=(blk_cell BK.out 0).trans rfl;have hz1:w'.cell? ⟨w.heap.size,1,none⟩=some (.int .i64 a0_1):=(blk_cell BK.out 1).trans rfl;have hz2:w'.cell? ⟨w.heap.size,2,none⟩=some (.slice A0_2 l0_2.length c0_2):=(blk_cell BK.out 2).trans rfl;have hz3:w'.cell? ⟨w.heap.size,3,none⟩=some (.slice A0_3 l0_3.length c0_3):=(blk_cell BK.out 3).trans rfl;have n_:=U (below_step (w:=w) z4_0 hb);clear HB hb;have HB:=n_;clear n_))
  go_region_held3 (λW=>W.cell? ⟨w.heap.size,0,none⟩=some (.int .i64 a0_0)/\W.cell? ⟨w.heap.size,1,none⟩=some (.int .i64 a0_1)/\W.cell? ⟨w.heap.size,2,none⟩=some (.slice A0_2 l0_2.length c0_2)/\W.cell? ⟨w.heap.size,3,none⟩=some (.slice A0_3 l0_3.length c0_3)/\Aside0 (W.heap[w.heap.size]? = some (.cells #[.int .i64 a0_0,.int .i64 a0_1,.slice A0_2 l0_2.length c0_2,.slice A0_3 l0_3.length c0_3] 30 (0,0)))/\Aside0 (Below w.heap.size w W)) ((refine ⟨?_,?_,?_,?_,?_,?_⟩<;>(first|assumption|(refine Aside0.mk ?_;(repeat(first|(with_reducible exact BK.out)|(with_reducible refine blk_drewN ?_ _)|(with_reducible refine blk_drew ?_)|(with_reducible refine blk_alloc ?_ _)));done)|(refine Aside0.mk ?_;(repeat(first|(with_reducible exact HB.out)|(with_reducible refine below_alloc ?_ _)|(with_reducible refine pw_below_drewN ?_ _)|(with_reducible refine below_drew ?_)|(with_reducible refine Below.drew ?_)));done)|(go_keep)))) (first|(go_at_call 72;(with_reducible refine(hpl _ ?zb2).mono ?_);(case zb2=>exact z4_0);rintro e w' ⟨v,rfl,hv,hb⟩;have b_:=U (blk_below (g:=w.heap.size) (o:=.cells #[.int .i64 a0_0,.int .i64 a0_1,.slice A0_2 l0_2.length c0_2,.slice A0_3 l0_3.length c0_3] 30 (0,0)) z4_1 hb);clear BK;have BK:=b_;clear b_;(try clear hz0 hz1 hz2 hz3);have hz0:w'.cell? ⟨w.heap.size,0,none⟩=some (.int .i64 a0_0):=(blk_cell BK.out 0).trans rfl;have hz1:w'.cell? ⟨w.heap.size,1,none⟩=some (.int .i64 a0_1):=(blk_cell BK.out 1).trans rfl;have hz2:w'.cell? ⟨w.heap.size,2,none⟩=some (.slice A0_2 l0_2.length c0_2):=(blk_cell BK.out 2).trans rfl;have hz3:w'.cell? ⟨w.heap.size,3,none⟩=some (.slice A0_3 l0_3.length c0_3):=(blk_cell BK.out 3).trans rfl;have n_:=U (below_step (w:=w) z4_0 hb);clear HB hb;have HB:=n_;clear n_;obtain ⟨Av,cv,ev⟩:=Kd.R_slice hv;subst ev;clear hv)|(go_at_call 65;(with_reducible refine(hge _ ?zb3).mono ?_);(case zb3=>exact z4_0);rintro e w' ⟨rfl,hb⟩;have b_:=U (blk_below (g:=w.heap.size) (o:=.cells #[.int .i64 a0_0,.int .i64 a0_1,.slice A0_2 l0_2.length c0_2,.slice A0_3 l0_3.length c0_3] 30 (0,0)) z4_1 hb);clear BK;have BK:=b_;clear b_;(try clear hz0 hz1 hz2 hz3);have hz0:w'.cell? ⟨w.heap.size,0,none⟩=some (.int .i64 a0_0):=(blk_cell BK.out 0).trans rfl;have hz1:w'.cell? ⟨w.heap.size,1,none⟩=some (.int .i64 a0_1):=(blk_cell BK.out 1).trans rfl;have hz2:w'.cell? ⟨w.heap.size,2,none⟩=some (.slice A0_2 l0_2.length c0_2):=(blk_cell BK.out 2).trans rfl;have hz3:w'.cell? ⟨w.heap.size,3,none⟩=some (.slice A0_3 l0_3.length c0_3):=(blk_cell BK.out 3).trans rfl;have n_:=U (below_step (w:=w) z4_0 hb);clear HB hb;have HB:=n_;clear n_))
  go_upto_region 5 with (fail)
  go_region_held3 (λW=>W.cell? ⟨w.heap.size,0,none⟩=some (.int .i64 a0_0)/\W.cell? ⟨w.heap.size,1,none⟩=some (.int .i64 a0_1)/\W.cell? ⟨w.heap.size,2,none⟩=some (.slice A0_2 l0_2.length c0_2)/\W.cell? ⟨w.heap.size,3,none⟩=some (.slice A0_3 l0_3.length c0_3)/\Aside0 (W.heap[w.heap.size]? = some (.cells #[.int .i64 a0_0,.int .i64 a0_1,.slice A0_2 l0_2.length c0_2,.slice A0_3 l0_3.length c0_3] 30 (0,0)))/\Aside0 (Below w.heap.size w W)) ((refine ⟨?_,?_,?_,?_,?_,?_⟩<;>(first|assumption|(refine Aside0.mk ?_;(repeat(first|(with_reducible exact BK.out)|(with_reducible refine blk_drewN ?_ _)|(with_reducible refine blk_drew ?_)|(with_reducible refine blk_alloc ?_ _)));done)|(refine Aside0.mk ?_;(repeat(first|(with_reducible exact HB.out)|(with_reducible refine below_alloc ?_ _)|(with_reducible refine pw_below_drewN ?_ _)|(with_reducible refine below_drew ?_)|(with_reducible refine Below.drew ?_)));done)|(go_keep)))) (first|(go_at_call 72;(with_reducible refine(hpl _ ?zb2).mono ?_);(case zb2=>exact z4_0);rintro e w' ⟨v,rfl,hv,hb⟩;have b_:=U (blk_below (g:=w.heap.size) (o:=.cells #[.int .i64 a0_0,.int .i64 a0_1,.slice A0_2 l0_2.length c0_2,.slice A0_3 l0_3.length c0_3] 30 (0,0)) z4_1 hb);clear BK;have BK:=b_;clear b_;(try clear hz0 hz1 hz2 hz3);have hz0:w'.cell? ⟨w.heap.size,0,none⟩=some (.int .i64 a0_0):=(blk_cell BK.out 0).trans rfl;have hz1:w'.cell? ⟨w.heap.size,1,none⟩=some (.int .i64 a0_1):=(blk_cell BK.out 1).trans rfl;have hz2:w'.cell? ⟨w.heap.size,2,none⟩=some (.slice A0_2 l0_2.length c0_2):=(blk_cell BK.out 2).trans rfl;have hz3:w'.cell? ⟨w.heap.size,3,none⟩=some (.slice A0_3 l0_3.length c0_3):=(blk_cell BK.out 3).trans rfl;have n_:=U (below_step (w:=w) z4_0 hb);clear HB hb;have HB:=n_;clear n_;obtain ⟨Av,cv,ev⟩:=Kd.R_slice hv;subst ev;clear hv)|(go_at_call 65;(with_reducible refine(hge _ ?zb3).mono ?_);(case zb3=>exact z4_0);rintro e w' ⟨rfl,hb⟩;have b_:=U (blk_below (g:=w.heap.size) (o:=.cells #[.int .i64 a0_0,.int .i64 a0_1,.slice A0_2 l0_2.length c0_2,.slice A0_3 l0_3.length c0_3] 30 (0,0)) z4_1 hb);clear BK;have BK:=b_;clear b_;(try clear hz0 hz1 hz2 hz3);have hz0:w'.cell? ⟨w.heap.size,0,none⟩=some (.int .i64 a0_0):=(blk_cell BK.out 0).trans rfl;have hz1:w'.cell? ⟨w.heap.size,1,none⟩=some (.int .i64 a0_1):=(blk_cell BK.out 1).trans rfl;have hz2:w'.cell? ⟨w.heap.size,2,none⟩=some (.slice A0_2 l0_2.length c0_2):=(blk_cell BK.out 2).trans rfl;have hz3:w'.cell? ⟨w.heap.size,3,none⟩=some (.slice A0_3 l0_3.length c0_3):=(blk_cell BK.out 3).trans rfl;have n_:=U (below_step (w:=w) z4_0 hb);clear HB hb;have HB:=n_;clear n_))
  go_wp2_with (fail)
  go_ret
  exact ⟨rfl,z4_0⟩
 rw [if_neg h2] at h
 have n2:decide ((16:Int)<(l0_3.length:Int))=false:=dF_ (by omega)
 have n3:(l0_3.length:Int)<=16:=by omega
 obtain ⟨b,hany,h⟩:=Option.bind_eq_some_iff.1 h
 have hco:=λW (hB:Below w.heap.size w W)=>event_Check.contains_calls k A0_3 c0_3 l0_3 b W (Kd.C_below hC3 hB) hany
 clear hany h1 h2 hC3
 cases b with
 | true =>
  rw [if_pos rfl] at h
  obtain rfl:=sI_ h
  clear h
  go_enter Try.func27,Try.ntmps27
  go_upto_region 3 with (first|(go_at_call 64;(with_reducible refine(hmay _).mono ?_);rintro e w' ⟨rfl,hb⟩;have b_:=U (blk_below (g:=w.heap.size) (o:=.cells #[.int .i64 a0_0,.int .i64 a0_1,.slice A0_2 l0_2.length c0_2,.slice A0_3 l0_3.length c0_3] 30 (0,0)) z4_1 hb);clear BK;have BK:=b_;clear b_;(try clear hz0 hz1 hz2 hz3);have hz0:w'.cell? ⟨w.heap.size,0,none⟩=some (.int .i64 a0_0):=(blk_cell BK.out 0).trans rfl;have hz1:w'.cell? ⟨w.heap.size,1,none⟩=some (.int .i64 a0_1):=(blk_cell BK.out 1).trans rfl;have hz2:w'.cell? ⟨w.heap.size,2,none⟩=some (.slice A0_2 l0_2.length c0_2):=(blk_cell BK.out 2).trans rfl;have hz3:w'.cell? ⟨w.heap.size,3,none⟩=some (.slice A0_3 l0_3.length c0_3):=(blk_cell BK.out 3).trans rfl;have n_:=U (below_step (w:=w) z4_0 hb);clear HB hb;have HB:=n_;clear n_)|(go_at_call 71;(with_reducible refine(hck _ ?zb1).mono ?_);(case zb1=>exact z4_0);rintro e w' ⟨rfl,hb⟩;have b_:=U (blk_below (g:=w.heap.size) (o:=.cells #[.int .i64 a0_0,.int .i64 a0_1,.slice A0_2 l0_2.length c0_2,.slice A0_3 l0_3.length c0_3] 30 (0,0)) z4_1 hb);clear BK;have BK:=b_;clear b_;(try clear hz0 hz1 hz2 hz3);have hz0:w'.cell? ⟨w.heap.size,0,none⟩=some (.int .i64 a0_0):=(blk_cell BK.out 0).trans rfl;have hz1:w'.cell? ⟨w.heap.size,1,none⟩=some (.int .i64 a0_1):=(blk_cell BK.out 1).trans rfl;have hz2:w'.cell? ⟨w.heap.size,2,none⟩=some (.slice A0_2 l0_2.length c0_2):=(blk_cell BK.out 2).trans rfl;have hz3:w'.cell? ⟨w.heap.size,3,none⟩=some (.slice A0_3 l0_3.length c0_3):=(blk_cell BK.out 3).trans rfl;have n_:=U (below_step (w:=w) z4_0 hb);clear HB hb;have HB:=n_;clear n_))
  go_region_held3 (λW=>W.cell? ⟨w.heap.size,0,none⟩=some (.int .i64 a0_0)/\W.cell? ⟨w.heap.size,1,none⟩=some (.int .i64 a0_1)/\W.cell? ⟨w.heap.size,2,none⟩=some (.slice A0_2 l0_2.length c0_2)/\W.cell? ⟨w.heap.size,3,none⟩=some (.slice A0_3 l0_3.length c0_3)/\Aside0 (W.heap[w.heap.size]? = some (.cells #[.int .i64 a0_0,.int .i64 a0_1,.slice A0_2 l0_2.length c0_2,.slice A0_3 l0_3.length c0_3] 30 (0,0)))/\Aside0 (Below w.heap.size w W)) ((refine ⟨?_,?_,?_,?_,?_,?_⟩<;>(first|assumption|(refine Aside0.mk ?_;(repeat(first|(with_reducible exact BK.out)|(with_reducible refine blk_drewN ?_ _)|(with_reducible refine blk_drew ?_)|(with_reducible refine blk_alloc ?_ _)));done)|(refine Aside0.mk ?_;(repeat(first|(with_reducible exact HB.out)|(with_reducible refine below_alloc ?_ _)|(with_reducible refine pw_below_drewN ?_ _)|(with_reducible refine below_drew ?_)|(with_reducible refine Below.drew ?_)));done)|(go_keep)))) (first|(go_at_call 72;(with_reducible refine(hpl _ ?zb2).mono ?_);(case zb2=>exact z4_0);rintro e w' ⟨v,rfl,hv,hb⟩;have b_:=U (blk_below (g:=w.heap.size) (o:=.cells #[.int .i64 a0_0,.int .i64 a0_1,.slice A0_2 l0_2.length c0_2,.slice A0_3 l0_3.length c0_3] 30 (0,0)) z4_1 hb);clear BK;have BK:=b_;clear b_;(try clear hz0 hz1 hz2 hz3);have hz0:w'.cell? ⟨w.heap.size,0,none⟩=some (.int .i64 a0_0):=(blk_cell BK.out 0).trans rfl;have hz1:w'.cell? ⟨w.heap.size,1,none⟩=some (.int .i64 a0_1):=(blk_cell BK.out 1).trans rfl;have hz2:w'.cell? ⟨w.heap.size,2,none⟩=some (.slice A0_2 l0_2.length c0_2):=(blk_cell BK.out 2).trans rfl;have hz3:w'.cell? ⟨w.heap.size,3,none⟩=some (.slice A0_3 l0_3.length c0_3):=(blk_cell BK.out 3).trans rfl;have n_:=U (below_step (w:=w) z4_0 hb);clear HB hb;have HB:=n_;clear n_;obtain ⟨Av,cv,ev⟩:=Kd.R_slice hv;subst ev;clear hv)|(go_at_call 65;(with_reducible refine(hge _ ?zb3).mono ?_);(case zb3=>exact z4_0);rintro e w' ⟨rfl,hb⟩;have b_:=U (blk_below (g:=w.heap.size) (o:=.cells #[.int .i64 a0_0,.int .i64 a0_1,.slice A0_2 l0_2.length c0_2,.slice A0_3 l0_3.length c0_3] 30 (0,0)) z4_1 hb);clear BK;have BK:=b_;clear b_;(try clear hz0 hz1 hz2 hz3);have hz0:w'.cell? ⟨w.heap.size,0,none⟩=some (.int .i64 a0_0):=(blk_cell BK.out 0).trans rfl;have hz1:w'.cell? ⟨w.heap.size,1,none⟩=some (.int .i64 a0_1):=(blk_cell BK.out 1).trans rfl;have hz2:w'.cell? ⟨w.heap.size,2,none⟩=some (.slice A0_2 l0_2.length c0_2):=(blk_cell BK.out 2).trans rfl;have hz3:w'.cell? ⟨w.heap.size,3,none⟩=some (.slice A0_3 l0_3.length c0_3):=(blk_cell BK.out 3).trans rfl;have n_:=U (below_step (w:=w) z4_0 hb);clear HB hb;have HB:=n_;clear n_))
  go_upto_region 5 with (fail)
  go_region_held3 (λW=>W.cell? ⟨w.heap.size,0,none⟩=some (.int .i64 a0_0)/\W.cell? ⟨w.heap.size,1,none⟩=some (.int .i64 a0_1)/\W.cell? ⟨w.heap.size,2,none⟩=some (.slice A0_2 l0_2.length c0_2)/\W.cell? ⟨w.heap.size,3,none⟩=some (.slice A0_3 l0_3.length c0_3)/\Aside0 (W.heap[w.heap.size]? = some (.cells #[.int .i64 a0_0,.int .i64 a0_1,.slice A0_2 l0_2.length c0_2,.slice A0_3 l0_3.length c0_3] 30 (0,0)))/\Aside0 (Below w.heap.size w W)) ((refine ⟨?_,?_,?_,?_,?_,?_⟩<;>(first|assumption|(refine Aside0.mk ?_;(repeat(first|(with_reducible exact BK.out)|(with_reducible refine blk_drewN ?_ _)|(with_reducible refine blk_drew ?_)|(with_reducible refine blk_alloc ?_ _)));done)|(refine Aside0.mk ?_;(repeat(first|(with_reducible exact HB.out)|(with_reducible refine below_alloc ?_ _)|(with_reducible refine pw_below_drewN ?_ _)|(with_reducible refine below_drew ?_)|(with_reducible refine Below.drew ?_)));done)|(go_keep)))) (first|(go_at_call 72;(with_reducible refine(hpl _ ?zb2).mono ?_);(case zb2=>exact z4_0);rintro e w' ⟨v,rfl,hv,hb⟩;have b_:=U (blk_below (g:=w.heap.size) (o:=.cells #[.int .i64 a0_0,.int .i64 a0_1,.slice A0_2 l0_2.length c0_2,.slice A0_3 l0_3.length c0_3] 30 (0,0)) z4_1 hb);clear BK;have BK:=b_;clear b_;(try clear hz0 hz1 hz2 hz3);have hz0:w'.cell? ⟨w.heap.size,0,none⟩=some (.int .i64 a0_0):=(blk_cell BK.out 0).trans rfl;have hz1:w'.cell? ⟨w.heap.size,1,none⟩=some (.int .i64 a0_1):=(blk_cell BK.out 1).trans rfl;have hz2:w'.cell? ⟨w.heap.size,2,none⟩=some (.slice A0_2 l0_2.length c0_2):=(blk_cell BK.out 2).trans rfl;have hz3:w'.cell? ⟨w.heap.size,3,none⟩=some (.slice A0_3 l0_3.length c0_3):=(blk_cell BK.out 3).trans rfl;have n_:=U (below_step (w:=w) z4_0 hb);clear HB hb;have HB:=n_;clear n_;obtain ⟨Av,cv,ev⟩:=Kd.R_slice hv;subst ev;clear hv)|(go_at_call 65;(with_reducible refine(hge _ ?zb3).mono ?_);(case zb3=>exact z4_0);rintro e w' ⟨rfl,hb⟩;have b_:=U (blk_below (g:=w.heap.size) (o:=.cells #[.int .i64 a0_0,.int .i64 a0_1,.slice A0_2 l0_2.length c0_2,.slice A0_3 l0_3.length c0_3] 30 (0,0)) z4_1 hb);clear BK;have BK:=b_;clear b_;(try clear hz0 hz1 hz2 hz3);have hz0:w'.cell? ⟨w.heap.size,0,none⟩=some (.int .i64 a0_0):=(blk_cell BK.out 0).trans rfl;have hz1:w'.cell? ⟨w.heap.size,1,none⟩=some (.int .i64 a0_1):=(blk_cell BK.out 1).trans rfl;have hz2:w'.cell? ⟨w.heap.size,2,none⟩=some (.slice A0_2 l0_2.length c0_2):=(blk_cell BK.out 2).trans rfl;have hz3:w'.cell? ⟨w.heap.size,3,none⟩=some (.slice A0_3 l0_3.length c0_3):=(blk_cell BK.out 3).trans rfl;have n_:=U (below_step (w:=w) z4_0 hb);clear HB hb;have HB:=n_;clear n_))
  go_wp2_with (first|(go_at_call 73;(with_reducible refine(hco _ ?zb4).mono ?_);(case zb4=>exact z4_0);rintro e w' ⟨rfl,hb⟩;have b_:=U (blk_below (g:=w.heap.size) (o:=.cells #[.int .i64 a0_0,.int .i64 a0_1,.slice A0_2 l0_2.length c0_2,.slice A0_3 l0_3.length c0_3] 30 (0,0)) z4_1 hb);clear BK;have BK:=b_;clear b_;(try clear hz0 hz1 hz2 hz3);have hz0:w'.cell? ⟨w.heap.size,0,none⟩=some (.int .i64 a0_0):=(blk_cell BK.out 0).trans rfl;have hz1:w'.cell? ⟨w.heap.size,1,none⟩=some (.int .i64 a0_1):=(blk_cell BK.out 1).trans rfl;have hz2:w'.cell? ⟨w.heap.size,2,none⟩=some (.slice A0_2 l0_2.length c0_2):=(blk_cell BK.out 2).trans rfl;have hz3:w'.cell? ⟨w.heap.size,3,none⟩=some (.slice A0_3 l0_3.length c0_3):=(blk_cell BK.out 3).trans rfl;have n_:=U (below_step (w:=w) z4_0 hb);clear HB hb;have HB:=n_;clear n_))
  go_ret
  exact ⟨rfl,z4_0⟩
 | false =>
 rw [if_neg (by simp)] at h
 obtain rfl:=sI_ h
 clear h
 go_enter Try.func27,Try.ntmps27
 go_upto_region 3 with (first|(go_at_call 64;(with_reducible refine(hmay _).mono ?_);rintro e w' ⟨rfl,hb⟩;have b_:=U (blk_below (g:=w.heap.size) (o:=.cells #[.int .i64 a0_0,.int .i64 a0_1,.slice A0_2 l0_2.length c0_2,.slice A0_3 l0_3.length c0_3] 30 (0,0)) z4_1 hb);clear BK;have BK:=b_;clear b_;(try clear hz0 hz1 hz2 hz3);have hz0:w'.cell? ⟨w.heap.size,0,none⟩=some (.int .i64 a0_0):=(blk_cell BK.out 0).trans rfl;have hz1:w'.cell? ⟨w.heap.size,1,none⟩=some (.int .i64 a0_1):=(blk_cell BK.out 1).trans rfl;have hz2:w'.cell? ⟨w.heap.size,2,none⟩=some (.slice A0_2 l0_2.length c0_2):=(blk_cell BK.out 2).trans rfl;have hz3:w'.cell? ⟨w.heap.size,3,none⟩=some (.slice A0_3 l0_3.length c0_3):=(blk_cell BK.out 3).trans rfl;have n_:=U (below_step (w:=w) z4_0 hb);clear HB hb;have HB:=n_;clear n_)|(go_at_call 71;(with_reducible refine(hck _ ?zb1).mono ?_);(case zb1=>exact z4_0);rintro e w' ⟨rfl,hb⟩;have b_:=U (blk_below (g:=w.heap.size) (o:=.cells #[.int .i64 a0_0,.int .i64 a0_1,.slice A0_2 l0_2.length c0_2,.slice A0_3 l0_3.length c0_3] 30 (0,0)) z4_1 hb);clear BK;have BK:=b_;clear b_;(try clear hz0 hz1 hz2 hz3);have hz0:w'.cell? ⟨w.heap.size,0,none⟩=some (.int .i64 a0_0):=(blk_cell BK.out 0).trans rfl;have hz1:w'.cell? ⟨w.heap.size,1,none⟩=some (.int .i64 a0_1):=(blk_cell BK.out 1).trans rfl;have hz2:w'.cell? ⟨w.heap.size,2,none⟩=some (.slice A0_2 l0_2.length c0_2):=(blk_cell BK.out 2).trans rfl;have hz3:w'.cell? ⟨w.heap.size,3,none⟩=some (.slice A0_3 l0_3.length c0_3):=(blk_cell BK.out 3).trans rfl;have n_:=U (below_step (w:=w) z4_0 hb);clear HB hb;have HB:=n_;clear n_))
 go_region_held3 (λW=>W.cell? ⟨w.heap.size,0,none⟩=some (.int .i64 a0_0)/\W.cell? ⟨w.heap.size,1,none⟩=some (.int .i64 a0_1)/\W.cell? ⟨w.heap.size,2,none⟩=some (.slice A0_2 l0_2.length c0_2)/\W.cell? ⟨w.heap.size,3,none⟩=some (.slice A0_3 l0_3.length c0_3)/\Aside0 (W.heap[w.heap.size]? = some (.cells #[.int .i64 a0_0,.int .i64 a0_1,.slice A0_2 l0_2.length c0_2,.slice A0_3 l0_3.length c0_3] 30 (0,0)))/\Aside0 (Below w.heap.size w W)) ((refine ⟨?_,?_,?_,?_,?_,?_⟩<;>(first|assumption|(refine Aside0.mk ?_;(repeat(first|(with_reducible exact BK.out)|(with_reducible refine blk_drewN ?_ _)|(with_reducible refine blk_drew ?_)|(with_reducible refine blk_alloc ?_ _)));done)|(refine Aside0.mk ?_;(repeat(first|(with_reducible exact HB.out)|(with_reducible refine below_alloc ?_ _)|(with_reducible refine pw_below_drewN ?_ _)|(with_reducible refine below_drew ?_)|(with_reducible refine Below.drew ?_)));done)|(go_keep)))) (first|(go_at_call 72;(with_reducible refine(hpl _ ?zb2).mono ?_);(case zb2=>exact z4_0);rintro e w' ⟨v,rfl,hv,hb⟩;have b_:=U (blk_below (g:=w.heap.size) (o:=.cells #[.int .i64 a0_0,.int .i64 a0_1,.slice A0_2 l0_2.length c0_2,.slice A0_3 l0_3.length c0_3] 30 (0,0)) z4_1 hb);clear BK;have BK:=b_;clear b_;(try clear hz0 hz1 hz2 hz3);have hz0:w'.cell? ⟨w.heap.size,0,none⟩=some (.int .i64 a0_0):=(blk_cell BK.out 0).trans rfl;have hz1:w'.cell? ⟨w.heap.size,1,none⟩=some (.int .i64 a0_1):=(blk_cell BK.out 1).trans rfl;have hz2:w'.cell? ⟨w.heap.size,2,none⟩=some (.slice A0_2 l0_2.length c0_2):=(blk_cell BK.out 2).trans rfl;have hz3:w'.cell? ⟨w.heap.size,3,none⟩=some (.slice A0_3 l0_3.length c0_3):=(blk_cell BK.out 3).trans rfl;have n_:=U (below_step (w:=w) z4_0 hb);clear HB hb;have HB:=n_;clear n_;obtain ⟨Av,cv,ev⟩:=Kd.R_slice hv;subst ev;clear hv)|(go_at_call 65;(with_reducible refine(hge _ ?zb3).mono ?_);(case zb3=>exact z4_0);rintro e w' ⟨rfl,hb⟩;have b_:=U (blk_below (g:=w.heap.size) (o:=.cells #[.int .i64 a0_0,.int .i64 a0_1,.slice A0_2 l0_2.length c0_2,.slice A0_3 l0_3.length c0_3] 30 (0,0)) z4_1 hb);clear BK;have BK:=b_;clear b_;(try clear hz0 hz1 hz2 hz3);have hz0:w'.cell? ⟨w.heap.size,0,none⟩=some (.int .i64 a0_0):=(blk_cell BK.out 0).trans rfl;have hz1:w'.cell? ⟨w.heap.size,1,none⟩=some (.int .i64 a0_1):=(blk_cell BK.out 1).trans rfl;have hz2:w'.cell? ⟨w.heap.size,2,none⟩=some (.slice A0_2 l0_2.length c0_2):=(blk_cell BK.out 2).trans rfl;have hz3:w'.cell? ⟨w.heap.size,3,none⟩=some (.slice A0_3 l0_3.length c0_3):=(blk_cell BK.out 3).trans rfl;have n_:=U (below_step (w:=w) z4_0 hb);clear HB hb;have HB:=n_;clear n_))
 go_upto_region 5 with (fail)
 go_region_held3 (λW=>W.cell? ⟨w.heap.size,0,none⟩=some (.int .i64 a0_0)/\W.cell? ⟨w.heap.size,1,none⟩=some (.int .i64 a0_1)/\W.cell? ⟨w.heap.size,2,none⟩=some (.slice A0_2 l0_2.length c0_2)/\W.cell? ⟨w.heap.size,3,none⟩=some (.slice A0_3 l0_3.length c0_3)/\Aside0 (W.heap[w.heap.size]? = some (.cells #[.int .i64 a0_0,.int .i64 a0_1,.slice A0_2 l0_2.length c0_2,.slice A0_3 l0_3.length c0_3] 30 (0,0)))/\Aside0 (Below w.heap.size w W)) ((refine ⟨?_,?_,?_,?_,?_,?_⟩<;>(first|assumption|(refine Aside0.mk ?_;(repeat(first|(with_reducible exact BK.out)|(with_reducible refine blk_drewN ?_ _)|(with_reducible refine blk_drew ?_)|(with_reducible refine blk_alloc ?_ _)));done)|(refine Aside0.mk ?_;(repeat(first|(with_reducible exact HB.out)|(with_reducible refine below_alloc ?_ _)|(with_reducible refine pw_below_drewN ?_ _)|(with_reducible refine below_drew ?_)|(with_reducible refine Below.drew ?_)));done)|(go_keep)))) (first|(go_at_call 72;(with_reducible refine(hpl _ ?zb2).mono ?_);(case zb2=>exact z4_0);rintro e w' ⟨v,rfl,hv,hb⟩;have b_:=U (blk_below (g:=w.heap.size) (o:=.cells #[.int .i64 a0_0,.int .i64 a0_1,.slice A0_2 l0_2.length c0_2,.slice A0_3 l0_3.length c0_3] 30 (0,0)) z4_1 hb);clear BK;have BK:=b_;clear b_;(try clear hz0 hz1 hz2 hz3);have hz0:w'.cell? ⟨w.heap.size,0,none⟩=some (.int .i64 a0_0):=(blk_cell BK.out 0).trans rfl;have hz1:w'.cell? ⟨w.heap.size,1,none⟩=some (.int .i64 a0_1):=(blk_cell BK.out 1).trans rfl;have hz2:w'.cell? ⟨w.heap.size,2,none⟩=some (.slice A0_2 l0_2.length c0_2):=(blk_cell BK.out 2).trans rfl;have hz3:w'.cell? ⟨w.heap.size,3,none⟩=some (.slice A0_3 l0_3.length c0_3):=(blk_cell BK.out 3).trans rfl;have n_:=U (below_step (w:=w) z4_0 hb);clear HB hb;have HB:=n_;clear n_;obtain ⟨Av,cv,ev⟩:=Kd.R_slice hv;subst ev;clear hv)|(go_at_call 65;(with_reducible refine(hge _ ?zb3).mono ?_);(case zb3=>exact z4_0);rintro e w' ⟨rfl,hb⟩;have b_:=U (blk_below (g:=w.heap.size) (o:=.cells #[.int .i64 a0_0,.int .i64 a0_1,.slice A0_2 l0_2.length c0_2,.slice A0_3 l0_3.length c0_3] 30 (0,0)) z4_1 hb);clear BK;have BK:=b_;clear b_;(try clear hz0 hz1 hz2 hz3);have hz0:w'.cell? ⟨w.heap.size,0,none⟩=some (.int .i64 a0_0):=(blk_cell BK.out 0).trans rfl;have hz1:w'.cell? ⟨w.heap.size,1,none⟩=some (.int .i64 a0_1):=(blk_cell BK.out 1).trans rfl;have hz2:w'.cell? ⟨w.heap.size,2,none⟩=some (.slice A0_2 l0_2.length c0_2):=(blk_cell BK.out 2).trans rfl;have hz3:w'.cell? ⟨w.heap.size,3,none⟩=some (.slice A0_3 l0_3.length c0_3):=(blk_cell BK.out 3).trans rfl;have n_:=U (below_step (w:=w) z4_0 hb);clear HB hb;have HB:=n_;clear n_))
 go_wp2_with (first|(go_at_call 73;(with_reducible refine(hco _ ?zb4).mono ?_);(case zb4=>exact z4_0);rintro e w' ⟨rfl,hb⟩;have b_:=U (blk_below (g:=w.heap.size) (o:=.cells #[.int .i64 a0_0,.int .i64 a0_1,.slice A0_2 l0_2.length c0_2,.slice A0_3 l0_3.length c0_3] 30 (0,0)) z4_1 hb);clear BK;have BK:=b_;clear b_;(try clear hz0 hz1 hz2 hz3);have hz0:w'.cell? ⟨w.heap.size,0,none⟩=some (.int .i64 a0_0):=(blk_cell BK.out 0).trans rfl;have hz1:w'.cell? ⟨w.heap.size,1,none⟩=some (.int .i64 a0_1):=(blk_cell BK.out 1).trans rfl;have hz2:w'.cell? ⟨w.heap.size,2,none⟩=some (.slice A0_2 l0_2.length c0_2):=(blk_cell BK.out 2).trans rfl;have hz3:w'.cell? ⟨w.heap.size,3,none⟩=some (.slice A0_3 l0_3.length c0_3):=(blk_cell BK.out 3).trans rfl;have n_:=U (below_step (w:=w) z4_0 hb);clear HB hb;have HB:=n_;clear n_))
 go_ret
 exact ⟨rfl,z4_0⟩
end Go.Proofs.Ytgocnchjpecafaa.PEv
