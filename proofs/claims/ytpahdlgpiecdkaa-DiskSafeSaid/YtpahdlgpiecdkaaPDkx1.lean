/- a part -/
import Derived.Test.YtpahdlgpiecdkaaPDkx0
namespace Go.Proofs.Ytpahdlgpiecdkaa.PDk
open Go.RowKit Go.Proofs.YtpahdlgpiecdkaaW.PrintWords Go.Proofs.YtpahdlgpiecdkaaW.PrintLast Go.Proofs.YtpahdlgpiecdkaaW.PrintMore
attribute [local go_sem] max2_int min2_int max_two min_two max_three min_three max_four min_four
set_option linter.unusedVariables false
set_option linter.unusedSimpArgs false
set_option maxHeartbeats 8000000
set_option maxRecDepth 100000
theorem z1_0 {P:Prop} (h:P:=by repeat(first|(with_reducible first|exact HB.out|apply below_alloc|apply pw_below_drewN|apply below_drew1)|exact HB.out)):P:=h
theorem z1_1 {P:Prop} (h:P:=by first|(with_reducible assumption)|assumption):P:=h
theorem z1_2 {P:Prop} (h:P:=by repeat(first|exact Drawn0.refl _|apply Drawn0.step)):P:=h
theorem z1_3 {P:Prop} (h:P:=by first|rfl|(simp;done)|(simp [*];done)):P:=h
theorem z1_4 {P:Prop} (h:P:=by first|rfl|(simp [errW_none,errW_some]<;>rfl)|(simp [*,errW_none,errW_some]<;>rfl)):P:=h
theorem z1_5 {P:Prop} (h:P:=by first|exact Kd.R_nil _ _ _ _ _|exact Kd.N_nil _ _ _ _ _|exact Kd.V_nil _ _ _ _ _|exact Kd.Q_nil _ _ _ _ _|exact Kd.S_nil _ _ _ _ _):P:=h
mutual
def w06_Light.l0:Nat->List (S49)->Int->Option (Bool)
 | 0,_,_=>none
 | k+1,x0,x3=>if x3<(x0.length:Int) then(w06_Light.j1 k x0 x3 (decide (x3<=40))) else(w06_Light.j1 k x0 x3 false)
def w06_Light.j1:Nat->List (S49)->Int->Bool->Option (Bool)
 | 0,_,_,_=>none
 | k+1,x0,x3,x11=>if x11=true then(if 0<=x3 then(if x3<(x0.length:Int) then(if (((rd_T49 x0 x3).f2).length:Int) > 200 then(some false) else(if (((rd_T49 x0 x3).f4).length:Int) > 50 then(some false) else(w06_Light.l0 k x0 (wrap64 (x3+1))))) else(none)) else(none)) else(some (decide ((x0.length:Int)<=40)))
end
def w06_Light.f (k:Nat) (l0:List (S49)):Option (Bool):=w06_Light.l0 k l0 0
theorem w06_Light.calls (k:Nat) (A0:Option Addr) (c0:Nat) (l0:List (S49)) (r:Bool) (w:World) (hr0:Kd.C k49 w A0 l0.length l0) (hc0:l0.length<=c0) (h:w06_Light.f k l0=some r) :
  Calls Try.prog 14 #[.slice A0 l0.length c0] w λe w'=>e = .returned (.bool r)/\Drawn0 w w':=by
 have HR0:=Aside0.mk hr0
 have HC0:=Aside0.mk hc0
 clear hr0 hc0
 have H:(w06_Light.l0 k l0 0)=some r:=h
 clear h
 have H':=Aside0.mk H
 clear H
 go_enter Try.func14,Try.ntmps14
 go_wp2
 go_loopg [3] k (λkq v3 w'=>∃ (x3_1:Int),v3 = .int .i64 x3_1/\Aside0 (w06_Light.l0 kq l0 x3_1=some r)/\Aside0 (kq<=k)/\Drawn0 w w')
 case atStart=>exact ⟨(0),z1_3,H',⟨Nat.le_refl _⟩,z1_2⟩
 case round =>
 clear H'
 try clear c1
 obtain ⟨x3_1,rfl,HA,HK1,⟨m1,rfl⟩⟩:=hrel
 cases gk with
 | zero=>exact absurd HA.out (by simp [w06_Light.l0])
 | succ k1 =>
 have H:=HA.out
 clear HA
 simp only [w06_Light.l0] at H
 have HC2:=Aside0.mk H
 clear H
 go_upto_region 2 with (fail)
 go_cut [11] (λv11 wc=>∃ (kq:Nat) (x11_1:Bool),v11 = .bool x11_1/\Aside0 (w06_Light.j1 kq l0 x3_1 x11_1=some r)/\Aside0 (kq<=k1)/\Drawn0 w wc)
 case first =>
  have H:=HC2.out
  clear HC2
  by_cases c3:x3_1<(l0.length:Int)
  ·rw [if_pos c3] at H
   have c3b0:decide (x3_1<(l0.length:Int))=true:=dT_ c3
   clear c3
   (first|rw [c3b0]|(simp only [i64_w,i32_w];rw [c3b0])|skip)
   have H':=Aside0.mk H
   clear H
   go_wp2
   go_meet
   case rel=>exact ⟨_,(decide (x3_1<=40)),z1_3,H',⟨(by have:=HK1.out;first|omega|exact Nat.le_refl _)⟩,z1_2⟩
  rw [if_neg c3] at H
  have c3b0:decide (x3_1<(l0.length:Int))=false:=dF_ c3
  clear c3
  (first|rw [c3b0]|(simp only [i64_w,i32_w];rw [c3b0])|skip)
  have H':=Aside0.mk H
  clear H
  go_wp2
  go_meet
  case rel=>exact ⟨_,(false),z1_3,H',⟨(by have:=HK1.out;first|omega|exact Nat.le_refl _)⟩,z1_2⟩
 case rest =>
 clear HC2
 try clear c1
 try clear p2
 try clear c3
 try clear c3b0
 obtain ⟨kq,x11_1,rfl,HA,HJ1,⟨mc1,rfl⟩⟩:=hcut
 cases kq with
 | zero=>exact absurd HA.out (by simp [w06_Light.j1])
 | succ kj1 =>
 have H:=HA.out
 clear HA
 simp only [w06_Light.j1] at H
 by_cases c4:x11_1=true
 rotate_left
 ·replace c4:=Bool.eq_false_iff.mpr c4
  subst c4
  have H1:(some (decide ((l0.length:Int)<=40)))=some r:=by rw [if_neg (show ¬ (false=true) by decide)] at H;exact H
  clear H
  have H:=H1
  clear H1
  obtain rfl:=sI_ H
  go_wp2
  go_ret
  exact ⟨z1_3,z1_2⟩
 subst c4
 have H1:(if 0<=x3_1 then(if x3_1<(l0.length:Int) then(if (((rd_T49 l0 x3_1).f2).length:Int) > 200 then(some false) else(if (((rd_T49 l0 x3_1).f4).length:Int) > 50 then(some false) else(w06_Light.l0 kj1 l0 (wrap64 (x3_1+1))))) else(none)) else(none))=some r:=by rw [if_pos rfl] at H;exact H
 clear H
 have H:=H1
 clear H1
 by_cases c5:0<=x3_1
 rotate_left
 ·rw [if_neg c5] at H
  exact absurd H (by simp)
 rw [if_pos c5] at H
 have c5b0:decide (0<=x3_1)=true:=dT_ c5
 clear c5
 by_cases c6:x3_1<(l0.length:Int)
 rotate_left
 ·rw [if_neg c6] at H
  exact absurd H (by simp)
 rw [if_pos c6] at H
 have c6b0:decide (x3_1<(l0.length:Int))=true:=dT_ c6
 clear c6
 by_cases c7:(((rd_T49 l0 x3_1).f2).length:Int) > 200
 ·rw [if_pos c7] at H
  have c7b0:decide (200<(((rd_T49 l0 x3_1).f2).length:Int))=true:=dT_ c7
  have c7b1:decide (200<((rd_T49 l0 x3_1).f2).length)=true:=dT_ (by omega)
  clear c7
  obtain rfl:=sI_ H
  have p101:0<=(x3_1:Int):=oD_ z1_1
  have q101:x3_1<(l0.length:Int):=oD_ z1_1
  obtain ⟨ad101,A101_2,c101_2,A101_4,c101_4,e101,hx101_0,hx101_1,hx101_2,hx101_3,hx101_4,hl101_2,hi101_2,hl101_4,hi101_4⟩:=at_T49 HR0.out x3_1 p101 q101
  cases e101
  have HR101_2:=Aside0.mk hi101_2
  have HC101_2:=Aside0.mk hl101_2
  clear hi101_2 hl101_2
  have HR101_4:=Aside0.mk hi101_4
  have HC101_4:=Aside0.mk hl101_4
  clear hi101_4 hl101_4
  replace p101:=eq_true p101
  replace q101:=eq_true q101
  go_wp2
  go_ret
  exact ⟨z1_3,z1_2⟩
 rw [if_neg c7] at H
 have c7b0:decide (200<(((rd_T49 l0 x3_1).f2).length:Int))=false:=dF_ c7
 have c7b1:decide (200<((rd_T49 l0 x3_1).f2).length)=false:=dF_ (by omega)
 clear c7
 by_cases c8:(((rd_T49 l0 x3_1).f4).length:Int) > 50
 ·rw [if_pos c8] at H
  have c8b0:decide (50<(((rd_T49 l0 x3_1).f4).length:Int))=true:=dT_ c8
  have c8b1:decide (50<((rd_T49 l0 x3_1).f4).length)=true:=dT_ (by omega)
  clear c8
  obtain rfl:=sI_ H
  have p101:0<=(x3_1:Int):=oD_ z1_1
  have q101:x3_1<(l0.length:Int):=oD_ z1_1
  obtain ⟨ad101,A101_2,c101_2,A101_4,c101_4,e101,hx101_0,hx101_1,hx101_2,hx101_3,hx101_4,hl101_2,hi101_2,hl101_4,hi101_4⟩:=at_T49 HR0.out x3_1 p101 q101
  cases e101
  have HR101_2:=Aside0.mk hi101_2
  have HC101_2:=Aside0.mk hl101_2
  clear hi101_2 hl101_2
  have HR101_4:=Aside0.mk hi101_4
  have HC101_4:=Aside0.mk hl101_4
  clear hi101_4 hl101_4
  replace p101:=eq_true p101
  replace q101:=eq_true q101
  have p102:0<=(x3_1:Int):=oD_ z1_1
  have q102:x3_1<(l0.length:Int):=oD_ z1_1
  obtain ⟨ad102,A102_2,c102_2,A102_4,c102_4,e102,hx102_0,hx102_1,hx102_2,hx102_3,hx102_4,hl102_2,hi102_2,hl102_4,hi102_4⟩:=at_T49 HR0.out x3_1 p102 q102
  obtain rfl:ad101=ad102:=(by injection e102)
  have HR102_2:=Aside0.mk hi102_2
  have HC102_2:=Aside0.mk hl102_2
  clear hi102_2 hl102_2
  have HR102_4:=Aside0.mk hi102_4
  have HC102_4:=Aside0.mk hl102_4
  clear hi102_4 hl102_4
  replace p102:=eq_true p102
  replace q102:=eq_true q102
  have ea_:=sI_ (hx101_2.symm.trans hx102_2)
  injection ea_ with ea_ en_ ec_
  subst ea_
  subst ec_
  clear en_
  have ea_:=sI_ (hx101_4.symm.trans hx102_4)
  injection ea_ with ea_ en_ ec_
  subst ea_
  subst ec_
  clear en_
  go_wp2
  go_ret
  exact ⟨z1_3,z1_2⟩
 rw [if_neg c8] at H
 have c8b0:decide (50<(((rd_T49 l0 x3_1).f4).length:Int))=false:=dF_ c8
 have c8b1:decide (50<((rd_T49 l0 x3_1).f4).length)=false:=dF_ (by omega)
 clear c8
 have H':=Aside0.mk H
 clear H
 have p101:0<=(x3_1:Int):=oD_ z1_1
 have q101:x3_1<(l0.length:Int):=oD_ z1_1
 obtain ⟨ad101,A101_2,c101_2,A101_4,c101_4,e101,hx101_0,hx101_1,hx101_2,hx101_3,hx101_4,hl101_2,hi101_2,hl101_4,hi101_4⟩:=at_T49 HR0.out x3_1 p101 q101
 cases e101
 have HR101_2:=Aside0.mk hi101_2
 have HC101_2:=Aside0.mk hl101_2
 clear hi101_2 hl101_2
 have HR101_4:=Aside0.mk hi101_4
 have HC101_4:=Aside0.mk hl101_4
 clear hi101_4 hl101_4
 replace p101:=eq_true p101
 replace q101:=eq_true q101
 have p102:0<=(x3_1:Int):=oD_ z1_1
 have q102:x3_1<(l0.length:Int):=oD_ z1_1
 obtain ⟨ad102,A102_2,c102_2,A102_4,c102_4,e102,hx102_0,hx102_1,hx102_2,hx102_3,hx102_4,hl102_2,hi102_2,hl102_4,hi102_4⟩:=at_T49 HR0.out x3_1 p102 q102
 obtain rfl:ad101=ad102:=(by injection e102)
 have HR102_2:=Aside0.mk hi102_2
 have HC102_2:=Aside0.mk hl102_2
 clear hi102_2 hl102_2
 have HR102_4:=Aside0.mk hi102_4
 have HC102_4:=Aside0.mk hl102_4
 clear hi102_4 hl102_4
 replace p102:=eq_true p102
 replace q102:=eq_true q102
 have ea_:=sI_ (hx101_2.symm.trans hx102_2)
 injection ea_ with ea_ en_ ec_
 subst ea_
 subst ec_
 clear en_
 have ea_:=sI_ (hx101_4.symm.trans hx102_4)
 injection ea_ with ea_ en_ ec_
 subst ea_
 subst ec_
 clear en_
 go_wp2
 go_roundg kj1
 case measure=>have:=HK1.out;have:=HJ1.out;omega
 case rel=>exact ⟨(wrap64 (x3_1+1)),z1_3,H',⟨(by have:=HK1.out;have:=HJ1.out;omega)⟩,z1_2⟩
def slices_Clone_byte_byte.f (l0:List Int):Option (List Int):=(some (([]:List Int):List Int)).bind λy103=>(if y103.length+l0.length<140737488355328 then(some (y103++l0)) else(none))
theorem slices_Clone_byte_byte.calls_some (A0_:Addr) (c0:Nat) (l0:List Int) (r:List Int) (w:World) (hr0:Kd.C (Kd.int .u8) w (some A0_) l0.length l0) (hc0:l0.length<=c0) (h:slices_Clone_byte_byte.f l0=some r) :
  Calls Try.prog 33 #[.slice (some A0_) l0.length c0] w λe w'=>∃ v0_:Value,e = .returned (v0_)/\Kd.R (Kd.int .u8) 5 w' w.heap.size (λ_=>True) v0_ r/\Below w.heap.size w w':=by
 have HR0:=Aside0.mk hr0
 have HC0:=Aside0.mk hc0
 clear hr0 hc0
 have HB:=L (Below.refl w.heap.size w)
 have H:((some (([]:List Int):List Int)).bind λy103=>(if y103.length+l0.length<140737488355328 then(some (y103++l0)) else(none)))=some r:=h
 clear h
 obtain ⟨y103,hy103⟩:∃ y_:List Int,y_=(([]:List Int)):=⟨_,rfl⟩
 replace H:(if y103.length+l0.length<140737488355328 then(some (y103++l0)) else(none))=some r:=by first|(rw [hy103];with_reducible exact H)|(have H2_:=(Option.bind_some _ _).symm.trans H;rw [hy103];with_reducible exact H2_)|(have H2_:=(Option.bind_some _ _).symm.trans H;with_reducible exact H2_)|with_reducible exact H|(rw [hy103];exact H)|exact H
 have Ny103:=Aside0.mk hy103
 clear hy103
 by_cases c2:y103.length+l0.length<140737488355328
 rotate_left
 ·rw [if_neg c2] at H
  exact absurd H (by simp)
 rw [if_pos c2] at H
 have LMc2:=Aside0.mk c2
 clear c2
 obtain ⟨y106,hy106⟩:∃ y_:List Int,y_=(y103++l0):=⟨_,rfl⟩
 replace H:(some y106)=some r:=by first|(rw [hy106];with_reducible exact H)|(have H2_:=(Option.bind_some _ _).symm.trans H;rw [hy106];with_reducible exact H2_)|(have H2_:=(Option.bind_some _ _).symm.trans H;with_reducible exact H2_)|with_reducible exact H|(rw [hy106];exact H)|exact H
 have Ny106:=Aside0.mk hy106
 clear hy106
 obtain rfl:=sI_ H
 have hnil_:=λW:World=>Lib.run_eql_slice_nil (P:=Try.prog) W 23 5 (some A0_) l0.length c0 0 0 (by kernel_rfl)
 go_enter Try.func33,Try.ntmps33
 go_wp2_with (first|((with_reducible refine gate_dst (N:=5) rfl ?_);refine Kd.R_lit (Kd.int .u8) _ 5 ?hg (N:=5) ?hd (xs:=([]:List Int)) (inner:=[]) (ok:=λ_=>True) (okp:=λ_=>True) ?hr ?hp (λ_ hk=>hk) trivial (Below.refl _ _) (Nat.le_refl _) (by simp) ?_;(case hd=>rfl);(case hg=>rfl);(case hr=>first|(go_simp;done)|(go_simp;rfl));(case hp=>exact(Reps.none _ _));intro v104 w3 ho4 hb hg_ hnew_;clear hg_ hnew_;(first|rw [<-Ny103.out] at ho4|(simp only [Int.reduceToNat] at ho4;rw [<-Ny103.out] at ho4));have HO105:=L (Kd.R_lower ho4 (below_size z1_0));replace HB:=L (below_step z1_0 hb);clear hb ho4)|((with_reducible refine gate_builtin (b:=.append) (xs:=#[.tmp 5,.tmp 6]) rfl ?_);at_builtin;refine Kd.R_append_rows (Kd.int .u8) (w0:=w) w.heap.size rfl (.tmp 5) (.tmp 6) 23 5 (.int .u8 0) 1 rfl Try.underlying23 info5 rfl (by decide) (by omega) v104 y103 l0 _ _ _ (λ_=>True) (λ_=>False) rfl rfl ?aO ?aR (λ_ _ h=>h) (λ_ h=>h.elim) ?aF ?aB ?aS ?aL ?_;(case aR=>repeat(first|exact(Kd.C_below HR0.out HB.out)|(with_reducible refine Kd.C_alloc ?_ _)|(with_reducible refine Kd.C_drewN ?_ _)|(with_reducible refine Kd.C_drew ?_)));(case aB=>exact z1_0);(case aF=>exact(λ_ _=>trivial));(case aO=>exact(by(with_reducible repeat(first|apply Kd.R_alloc|apply Kd.R_drewN|apply Kd.R_drew));exact HO105.out));(case aS=>exact(below_size z1_0));(case aL=>have:=LMc2.out;omega);intro v107 w5 ho hb hg hat;rw [<-Ny106.out] at ho;replace HB:=L (hb);have HO108:=L (ho);clear HO105;clear ho hb hg hat))
 go_ret
 exact ⟨_,z1_4,(by(with_reducible repeat(first|apply Kd.R_alloc|apply Kd.R_drewN|apply Kd.R_drew));exact HO108.out),z1_0⟩
theorem slices_Clone_byte_byte.calls (A0:Option Addr) (c0:Nat) (l0:List Int) (r:List Int) (w:World) (hr0:Kd.C (Kd.int .u8) w A0 l0.length l0) (hc0:l0.length<=c0) (h:slices_Clone_byte_byte.f l0=some r) :
  Calls Try.prog 33 #[.slice A0 l0.length c0] w λe w'=>∃ v0_:Value,e = .returned (v0_)/\Kd.R (Kd.int .u8) 5 w' w.heap.size (λ_=>True) v0_ r/\Below w.heap.size w w':=by
 cases A0 with
 | some A0_=>exact slices_Clone_byte_byte.calls_some _ c0 l0 r w hr0 hc0 h
 | none =>
 have hl:l0=[]:=by
  rcases Nat.eq_zero_or_pos l0.length with h0|h0
  ·exact List.length_eq_zero_iff.1 h0
  ·obtain ⟨ad,e,_⟩:=hr0.2.2 h0
   cases e
 subst hl
 obtain rfl:r=[]:=by
  simp [slices_Clone_byte_byte.f] at h
  first|exact h|exact h.symm
 have hnil_:=λW:World=>Lib.run_eql_slice_nil (P:=Try.prog) W 23 5 none 0 c0 0 0 (by kernel_rfl)
 clear h
 go_enter Try.func33,Try.ntmps33
 go_wp2
 go_ret
 exact ⟨_,rfl,(by first|exact Kd.R_nil _ _ _ _ _|exact Kd.N_nil _ _ _ _ _|exact Kd.V_nil _ _ _ _ _),Below.refl _ _⟩
def r06_New.f (a0:Int):Option (List Int×Int×List Int×Int×Int×Int×Bool):=some (([]:List Int),0,([]:List Int),0,a0,(-1),false)
theorem r06_New.calls (a0:Int) (r1:List Int) (r2:Int) (r3:List Int) (r4:Int) (r5:Int) (r6:Int) (r7:Bool) (w:World) (h:r06_New.f a0=some (r1,r2,r3,r4,r5,r6,r7)) :
  Calls Try.prog 17 #[.int .i64 a0] w λe w'=>∃ v0_ v2_:Value,e = .returned (.agg #[v0_,.int .i64 r2,v2_,.int .i64 r4,.int .i64 r5,.int .i64 r6,.bool r7])/\Kd.R (Kd.int .u8) 5 w' w.heap.size (λk_=>some k_≠(v2_:Value).ownBlock) v0_ r1/\Kd.R (Kd.int .u8) 5 w' w.heap.size (λk_=>some k_≠(v0_:Value).ownBlock) v2_ r3/\Below w.heap.size w w':=by
 have hu43:=Try.underlying43
 have HB:=L (Below.refl w.heap.size w)
 have H:(some (([]:List Int),0,([]:List Int),0,a0,(-1),false))=some (r1,r2,r3,r4,r5,r6,r7):=h
 clear h
 simp only [Option.some.injEq,Prod.mk.injEq] at H
 obtain ⟨rfl,rfl,rfl,rfl,rfl,rfl,rfl⟩:=H
 go_enter Try.func17,Try.ntmps17
 go_wp2_with (first|((with_reducible refine gate_dst (N:=2) rfl ?_);refine box_event ?hg (N:=2) ?hd (cs:=#[.slice none 0 0,.int .i64 0,.slice none 0 0,.int .i64 0,.int .i64 0,.int .i64 0,.bool false]) (t:=43) ?hr ?_;(case hd=>rfl);(case hg=>rfl);(case hr=>first|(go_simp;done)|(go_simp;rfl));intro gb109 hg w2 hbox hb;have BK109:=L (hbox);have GW109:=L ((by rw [hg];exact(below_size z1_0):w.heap.size<=gb109));have GE109:=L ((by rw [hg];exact(below_size z1_0):w.heap.size<=gb109));replace HB:=L (below_step z1_0 hb);clear hb hbox hg;obtain ⟨hcz3_0,hcz3_1,hcz3_2,hcz3_3,hcz3_4,hcz3_5,hcz3_6,hfz3_0,hfz3_1,hfz3_2,hfz3_3,hfz3_4,hfz3_5,hfz3_6⟩:=cz7_ BK109.out))
 refine bodyPost_ret (results_cell_row rfl _ _ gb109 43 #[.slice none 0 0,.int .i64 0,.slice none 0 0,.int .i64 0,.int .i64 a0,.int .i64 (-1),.bool false] (0,0) _ rfl (by(with_reducible repeat(first|refine blk_drewN ?_ _|refine blk_drew ?_|refine blk_alloc ?_ _));refine blk_put (cs:=#[.slice none 0 0,.int .i64 0,.slice none 0 0,.int .i64 0,.int .i64 a0,.int .i64 (-1),.bool false]) ?_ 6 _ rfl;(with_reducible repeat(first|refine blk_drewN ?_ _|refine blk_drew ?_|refine blk_alloc ?_ _));refine blk_put (cs:=#[.slice none 0 0,.int .i64 0,.slice none 0 0,.int .i64 0,.int .i64 a0,.int .i64 0,.bool false]) ?_ 5 _ rfl;(with_reducible repeat(first|refine blk_drewN ?_ _|refine blk_drew ?_|refine blk_alloc ?_ _));refine blk_put (cs:=#[.slice none 0 0,.int .i64 0,.slice none 0 0,.int .i64 0,.int .i64 0,.int .i64 0,.bool false]) ?_ 4 _ rfl;(with_reducible repeat(first|refine blk_drewN ?_ _|refine blk_drew ?_|refine blk_alloc ?_ _));refine blk_put (cs:=#[.slice none 0 0,.int .i64 0,.slice none 0 0,.int .i64 0,.int .i64 0,.int .i64 0,.bool false]) ?_ 3 _ rfl;(with_reducible repeat(first|refine blk_drewN ?_ _|refine blk_drew ?_|refine blk_alloc ?_ _));refine blk_put (cs:=#[.slice none 0 0,.int .i64 0,.slice none 0 0,.int .i64 0,.int .i64 0,.int .i64 0,.bool false]) ?_ 2 _ rfl;(with_reducible repeat(first|refine blk_drewN ?_ _|refine blk_drew ?_|refine blk_alloc ?_ _));refine blk_put (cs:=#[.slice none 0 0,.int .i64 0,.slice none 0 0,.int .i64 0,.int .i64 0,.int .i64 0,.bool false]) ?_ 1 _ rfl;(with_reducible repeat(first|refine blk_drewN ?_ _|refine blk_drew ?_|refine blk_alloc ?_ _));refine blk_put (cs:=#[.slice none 0 0,.int .i64 0,.slice none 0 0,.int .i64 0,.int .i64 0,.int .i64 0,.bool false]) ?_ 0 _ rfl;(with_reducible repeat(first|refine blk_drewN ?_ _|refine blk_drew ?_|refine blk_alloc ?_ _));exact BK109.out) Try.underlying43 rfl (by kernel_rfl)) rfl ?_
 exact ⟨_,_,z1_4,z1_5,z1_5,(by repeat(first|(with_reducible first|exact HB.out|apply below_alloc|apply pw_below_drewN|apply below_drew1|refine below_set ?_ GE109.out)|exact HB.out))⟩
def r06_Left.f (l0_0:List Int) (a0_1:Int) (l0_2:List Int) (a0_3:Int) (a0_4:Int) (a0_5:Int) (a0_6:Bool):Option (Int):=some (wrap64 ((wrap64 (a0_4 - (l0_0.length:Int))) - (l0_2.length:Int)))
theorem r06_Left.calls (A0_0:Option Addr) (c0_0:Nat) (l0_0:List Int) (a0_1:Int) (A0_2:Option Addr) (c0_2:Nat) (l0_2:List Int) (a0_3:Int) (a0_4:Int) (a0_5:Int) (a0_6:Bool) (r:Int) (w:World) (hr0_0:Kd.C (Kd.int .u8) w A0_0 l0_0.length l0_0) (hc0_0:l0_0.length<=c0_0) (hr0_2:Kd.C (Kd.int .u8) w A0_2 l0_2.length l0_2) (hc0_2:l0_2.length<=c0_2) (h:r06_Left.f l0_0 a0_1 l0_2 a0_3 a0_4 a0_5 a0_6=some r) :
  Calls Try.prog 36 #[.agg #[.slice A0_0 l0_0.length c0_0,.int .i64 a0_1,.slice A0_2 l0_2.length c0_2,.int .i64 a0_3,.int .i64 a0_4,.int .i64 a0_5,.bool a0_6]] w λe w'=>e = .returned (.int .i64 r)/\Below w.heap.size w w':=by
 have hu43:=Try.underlying43
 have HR0_0:=Aside0.mk hr0_0
 have HC0_0:=Aside0.mk hc0_0
 clear hr0_0 hc0_0
 have HR0_2:=Aside0.mk hr0_2
 have HC0_2:=Aside0.mk hc0_2
 clear hr0_2 hc0_2
 have HB:=L (Below.refl w.heap.size w)
 have H:(some (wrap64 ((wrap64 (a0_4 - (l0_0.length:Int))) - (l0_2.length:Int))))=some r:=h
 clear h
 obtain rfl:=sI_ H
 go_enter Try.func36,Try.ntmps36
 go_wp2_with (first|((with_reducible refine gate_dst (N:=1) rfl ?_);refine box_event ?hg (N:=1) ?hd (cs:=#[.slice A0_0 l0_0.length c0_0,.int .i64 a0_1,.slice A0_2 l0_2.length c0_2,.int .i64 a0_3,.int .i64 a0_4,.int .i64 a0_5,.bool a0_6]) (t:=43) ?hr ?_;(case hd=>rfl);(case hg=>rfl);(case hr=>first|(go_simp;done)|(go_simp;rfl));intro gb112 hg w2 hbox hb;have BK112:=L (hbox);have GW112:=L ((by rw [hg];exact(below_size z1_0):w.heap.size<=gb112));have GE112:=L ((by rw [hg];exact(below_size z1_0):w.heap.size<=gb112));replace HB:=L (below_step z1_0 hb);clear hb hbox hg;obtain ⟨hcz3_0,hcz3_1,hcz3_2,hcz3_3,hcz3_4,hcz3_5,hcz3_6,hfz3_0,hfz3_1,hfz3_2,hfz3_3,hfz3_4,hfz3_5,hfz3_6⟩:=cz7_ BK112.out))
 go_ret
 exact ⟨z1_4,(by repeat(first|(with_reducible first|exact HB.out|apply below_alloc|apply pw_below_drewN|apply below_drew1|refine below_set ?_ GE112.out)|exact HB.out))⟩
def r02_Bytes.l0:Nat->List Int->List Int->Int->Option (Bool)
 | 0,_,_,_=>none
 | k+1,x0,x1,x5=>if x5<(x0.length:Int) then(if 0<=x5 then(if x5<(x1.length:Int) then(if (rd x0 x5)=(rd x1 x5) then(r02_Bytes.l0 k x0 x1 (wrap64 (x5+1))) else(some false)) else(none)) else(none)) else(some true)
def r02_Bytes.f (k:Nat) (l0:List Int) (l1:List Int):Option (Bool):=if (l0.length:Int)=(l1.length:Int) then(r02_Bytes.l0 k l0 l1 0) else(some false)
theorem r02_Bytes.calls (k:Nat) (A0:Option Addr) (c0:Nat) (l0:List Int) (A1:Option Addr) (c1:Nat) (l1:List Int) (r:Bool) (w:World) (hr0:Kd.C (Kd.int .u8) w A0 l0.length l0) (hc0:l0.length<=c0) (hr1:Kd.C (Kd.int .u8) w A1 l1.length l1) (hc1:l1.length<=c1) (h:r02_Bytes.f k l0 l1=some r) :
  Calls Try.prog 23 #[.slice A0 l0.length c0,.slice A1 l1.length c1] w λe w'=>e = .returned (.bool r)/\Drawn0 w w':=by
 have HR0:=Aside0.mk hr0
 have HC0:=Aside0.mk hc0
 clear hr0 hc0
 have HR1:=Aside0.mk hr1
 have HC1:=Aside0.mk hc1
 clear hr1 hc1
 have H:(if (l0.length:Int)=(l1.length:Int) then(r02_Bytes.l0 k l0 l1 0) else(some false))=some r:=h
 clear h
 by_cases c3:(l0.length:Int)=(l1.length:Int)
 rotate_left
 ·rw [if_neg c3] at H
  have c3b0:((l0.length:Int) == (l1.length:Int))=false:=beq_eq_false_iff_ne.mpr c3
  have c3b1:((l0.length:Int) != (l1.length:Int))=true:=bne_iff_ne.mpr c3
  have c3b2:(l0.length == l1.length)=false:=by first|simpa using c3|(simp at c3 ⊢;omega)
  obtain rfl:=sI_ H
  go_enter Try.func23,Try.ntmps23
  go_wp2
  repeat(go_quiet (fail);try go_wp2)
  go_ret
  exact ⟨z1_3,z1_2⟩
 rw [if_pos c3] at H
 have c3b0:((l0.length:Int) == (l1.length:Int))=true:=beq_iff_eq.mpr c3
 have c3b1:((l0.length:Int) != (l1.length:Int))=false:=bne_eq_false_iff_eq.mpr c3
 have c3b2:(l0.length == l1.length)=true:=by first|simpa using c3|(simp at c3 ⊢;omega)
 clear c3
 have H':=Aside0.mk H
 clear H
 go_enter Try.func23,Try.ntmps23
 go_wp2
 repeat(go_quiet (fail);try go_wp2)
 go_loopg [5] k (λkq v5 w'=>∃ (x5_1:Int),v5 = .int .i64 x5_1/\Aside0 (r02_Bytes.l0 kq l0 l1 x5_1=some r)/\Aside0 (kq<=k)/\Drawn0 w w')
 case atStart=>exact ⟨(0),z1_3,H',⟨Nat.le_refl _⟩,z1_2⟩
 case round =>
 clear H'
 try clear c1
 try clear c2
 try clear p2
 try clear c3
 try clear c3b0
 try clear c3b1
 try clear c3b2
 obtain ⟨x5_1,rfl,HA,HK1,⟨m1,rfl⟩⟩:=hrel
 cases gk with
 | zero=>exact absurd HA.out (by simp [r02_Bytes.l0])
 | succ k1 =>
 have H:=HA.out
 clear HA
 simp only [r02_Bytes.l0] at H
 by_cases c4:x5_1<(l0.length:Int)
 rotate_left
 ·rw [if_neg c4] at H
  have c4b0:decide (x5_1<(l0.length:Int))=false:=dF_ c4
  clear c4
  obtain rfl:=sI_ H
  go_wp2
  repeat(go_quiet (fail);try go_wp2)
  go_ret
  exact ⟨z1_3,z1_2⟩
 rw [if_pos c4] at H
 have c4b0:decide (x5_1<(l0.length:Int))=true:=dT_ c4
 clear c4
 by_cases c5:0<=x5_1
 rotate_left
 ·rw [if_neg c5] at H
  exact absurd H (by simp)
 rw [if_pos c5] at H
 have c5b0:decide (0<=x5_1)=true:=dT_ c5
 clear c5
 by_cases c6:x5_1<(l1.length:Int)
 rotate_left
 ·rw [if_neg c6] at H
  exact absurd H (by simp)
 rw [if_pos c6] at H
 have c6b0:decide (x5_1<(l1.length:Int))=true:=dT_ c6
 clear c6
 by_cases c7:(rd l0 x5_1)=(rd l1 x5_1)
 rotate_left
 ·rw [if_neg c7] at H
  have c7b0:((rd l0 x5_1) == (rd l1 x5_1))=false:=beq_eq_false_iff_ne.mpr c7
  have c7b1:((rd l0 x5_1) != (rd l1 x5_1))=true:=bne_iff_ne.mpr c7
  obtain rfl:=sI_ H
  have p143:0<=(x5_1:Int):=oD_ z1_1
  have q143:x5_1<(l0.length:Int):=oD_ z1_1
  obtain ⟨ad143,e143,hx143_0⟩:=Kd.at_int HR0.out x5_1 p143 q143
  cases e143
  replace p143:=eq_true p143
  replace q143:=eq_true q143
  have p144:0<=(x5_1:Int):=oD_ z1_1
  have q144:x5_1<(l1.length:Int):=oD_ z1_1
  obtain ⟨ad144,e144,hx144_0⟩:=Kd.at_int HR1.out x5_1 p144 q144
  cases e144
  replace p144:=eq_true p144
  replace q144:=eq_true q144
  go_wp2
  repeat(go_quiet (fail);try go_wp2)
  go_ret
  exact ⟨z1_3,z1_2⟩
 rw [if_pos c7] at H
 have c7b0:((rd l0 x5_1) == (rd l1 x5_1))=true:=beq_iff_eq.mpr c7
 have c7b1:((rd l0 x5_1) != (rd l1 x5_1))=false:=bne_eq_false_iff_eq.mpr c7
 clear c7
 have H':=Aside0.mk H
 clear H
 have p143:0<=(x5_1:Int):=oD_ z1_1
 have q143:x5_1<(l0.length:Int):=oD_ z1_1
 obtain ⟨ad143,e143,hx143_0⟩:=Kd.at_int HR0.out x5_1 p143 q143
 cases e143
 replace p143:=eq_true p143
 replace q143:=eq_true q143
 have p144:0<=(x5_1:Int):=oD_ z1_1
 have q144:x5_1<(l1.length:Int):=oD_ z1_1
 obtain ⟨ad144,e144,hx144_0⟩:=Kd.at_int HR1.out x5_1 p144 q144
 cases e144
 replace p144:=eq_true p144
 replace q144:=eq_true q144
 go_wp2
 repeat(go_quiet (fail);try go_wp2)
 go_roundg k1
 case measure=>have:=HK1.out;omega
 case rel=>exact ⟨(wrap64 (x5_1+1)),z1_3,H',⟨(by have:=HK1.out;omega)⟩,z1_2⟩
end Go.Proofs.Ytpahdlgpiecdkaa.PDk
