import Derived.Test.YtgocnchjpecafaaPEvx10
import Derived.Test.YtgocnchjpecafaaPEvx11
import Derived.Test.YtgocnchjpecafaaPEvx2
import Derived.Test.YtgocnchjpecafaaPEvx6
import Derived.Test.YtgocnchjpecafaaPEvx8
/- a part -/
namespace Go.Proofs.Ytgocnchjpecafaa.PEv
open Go.RowKit Go.Proofs.YtgocnchjpecafaaW.PrintWords Go.Proofs.YtgocnchjpecafaaW.PrintLast Go.Proofs.YtgocnchjpecafaaW.PrintMore
attribute [local go_sem] max2_int min2_int max_two min_two max_three min_three max_four min_four
set_option linter.unusedVariables false
set_option linter.unusedSimpArgs false
end Go.Proofs.Ytgocnchjpecafaa.PEv
/- a part -/
namespace Go.Proofs.Ytgocnchjpecafaa.PEv
open Go.RowKit Go.Proofs.YtgocnchjpecafaaW.PrintWords Go.Proofs.YtgocnchjpecafaaW.PrintLast Go.Proofs.YtgocnchjpecafaaW.PrintMore
attribute [local go_sem] max2_int min2_int max_two min_two max_three min_three max_four min_four
set_option linter.unusedVariables false
set_option linter.unusedSimpArgs false
attribute [local go_sem high] eqA25 eqA48
set_option maxHeartbeats 8000000
set_option maxRecDepth 100000
def bits_Len64.ren:Go.Shelf.Ren:=⟨λ|129=>106|n=>n,λ|53=>109|3=>3|4=>4|46=>129|5=>5|9=>9|n=>n,λ|n=>n⟩
theorem bits_Len64.lays:Go.Proofs.Lays.n129 Try.prog bits_Len64.ren:={
 mixed:=by kernel_rfl
 f129:=Try.func106.trans (congrArg some (by kernel_rfl))
 t3:=Try.underlying3
 a3:=Try.isAgg3
 z3:=Try.sizeOf3
 v3:=Try.zeroValue3
 t4:=Try.underlying4
 a4:=Try.isAgg4
 z4:=Try.sizeOf4
 v4:=Try.zeroValue4
 t5:=Try.underlying5
 a5:=Try.isAgg5
 z5:=Try.sizeOf5
 v5:=Try.zeroValue5
 t9:=Try.underlying9
 a9:=Try.isAgg9
 z9:=Try.sizeOf9
 v9:=Try.zeroValue9
 t46:=Try.underlying129
 a46:=Try.isAgg129
 z46:=Try.sizeOf129
 v46:=Try.zeroValue129
 t53:=Try.underlying109
 a53:=Try.isAgg109
 z53:=Try.sizeOf109
 v53:=Try.zeroValue109 }
def bits_Len64.f (a0:Int):Option (Int):=if 0<=a0 then(if a0<=18446744073709551615 then some ((Lib.bitLen a0.toNat:Nat):Int) else none) else none
theorem bits_Len64.calls (a0:Int) (r:Int) (w:World) (h:bits_Len64.f a0=some r) :
  Calls Try.prog 106 #[.int .u64 a0] w λe w'=>e = .returned (.int .i64 r)/\Drawn0 w w':=by
 unfold bits_Len64.f at h
 by_cases h0:0<=a0
 rotate_left
 ·rw [if_neg h0] at h
  cases h
 by_cases h1:a0<=18446744073709551615
 ·rw [if_pos h0,if_pos h1] at h
  cases h
  exact(Go.Proofs.Any.bits_Len64 bits_Len64.lays a0 w h0 h1).mono λe w' hh=>⟨hh.1,(by rw [hh.2];exact Drawn0.refl _)⟩
 ·rw [if_pos h0,if_neg h1] at h
  cases h
def wire_Num.l0:Nat->Int->List Int->Int->Option (List Int)
 | 0,_,_,_=>none
 | k+1,x0,x4,x5=>if x5 > 0 then(if 0<=x5 then(if x5<(x4.length:Int) then(wire_Num.l0 k (x0 / 256) (x4.set (x5:Int).toNat ((x0) % 256)) (wrap64 (x5 - 1))) else(none)) else(none)) else(some x4)
def wire_Num.f (k:Nat) (a0:Int):Option (List Int):=(bits_Len64.f a0).bind λt386=>(if 0<=(wrap64 ((wrap64 (Int.tdiv (wrap64 (t386+7)) 8))+1)) then(if (wrap64 ((wrap64 (Int.tdiv (wrap64 (t386+7)) 8))+1):Int).toNat<=281474976710656 then((some (List.replicate (wrap64 ((wrap64 (Int.tdiv (wrap64 (t386+7)) 8))+1):Int).toNat 0:List Int)).bind λy387=>(if 0<(y387.length:Int) then(wire_Num.l0 k a0 (y387.set (0:Int).toNat ((wrap64 (Int.tdiv (wrap64 (t386+7)) 8)) % 256)) (wrap64 (Int.tdiv (wrap64 (t386+7)) 8))) else(none))) else(none)) else(none))
theorem wire_Num.mono_l:∀ k,(∀ y0 y1 y2,LeO (wire_Num.l0 k y0 y1 y2) (wire_Num.l0 (k+1) y0 y1 y2))
 | 0=>λ_ _ _ r h=>by simp [wire_Num.l0] at h
 | k+1=>by
  have ih0:=wire_Num.mono_l k
  ·intro y0 y1 y2
   unfold wire_Num.l0
   repeat' first
   | (with_reducible exact ih0 _ _ _)
   | (with_reducible exact LeO.refl _)
   | (with_reducible exact LeO.none _)
   | (with_reducible refine LeO.ite ?_ ?_)
   | (with_reducible refine LeO.bind ?_ (λ_=>?_))
theorem wire_Num.mono:∀ a0 k,LeO (wire_Num.f k a0) (wire_Num.f (k+1) a0):=by
 intro a0 k
 have ih0:=wire_Num.mono_l k
 unfold wire_Num.f
 repeat' first
  | (with_reducible exact ih0 _ _ _)
  | (with_reducible exact LeO.refl _)
  | (with_reducible exact LeO.none _)
  | (with_reducible refine LeO.ite ?_ ?_)
  | (with_reducible refine LeO.bind ?_ (λ_=>?_))
theorem wire_Num.calls (k:Nat) (a0:Int) (r:List Int) (w:World) (h:wire_Num.f k a0=some r) :
  Calls Try.prog 92 #[.int .u64 a0] w λe w'=>∃ v0_:Value,e = .returned (v0_)/\Kd.R (Kd.int .u8) 5 w' w.heap.size (λ_=>True) v0_ r/\Below w.heap.size w w':=by
 have HB:=U (Below.refl w.heap.size w)
 have H:((bits_Len64.f a0).bind λt386=>(if 0<=(wrap64 ((wrap64 (Int.tdiv (wrap64 (t386+7)) 8))+1)) then(if (wrap64 ((wrap64 (Int.tdiv (wrap64 (t386+7)) 8))+1):Int).toNat<=281474976710656 then((some (List.replicate (wrap64 ((wrap64 (Int.tdiv (wrap64 (t386+7)) 8))+1):Int).toNat 0:List Int)).bind λy387=>(if 0<(y387.length:Int) then(wire_Num.l0 k a0 (y387.set (0:Int).toNat ((wrap64 (Int.tdiv (wrap64 (t386+7)) 8)) % 256)) (wrap64 (Int.tdiv (wrap64 (t386+7)) 8))) else(none))) else(none)) else(none)))=some r:=h
 clear h
 replace H:=oB_ H
 obtain ⟨t386,A20,H⟩:=H
 replace H:(if 0<=(wrap64 ((wrap64 (Int.tdiv (wrap64 (t386+7)) 8))+1)) then(if (wrap64 ((wrap64 (Int.tdiv (wrap64 (t386+7)) 8))+1):Int).toNat<=281474976710656 then((some (List.replicate (wrap64 ((wrap64 (Int.tdiv (wrap64 (t386+7)) 8))+1):Int).toNat 0:List Int)).bind λy387=>(if 0<(y387.length:Int) then(wire_Num.l0 k a0 (y387.set (0:Int).toNat ((wrap64 (Int.tdiv (wrap64 (t386+7)) 8)) % 256)) (wrap64 (Int.tdiv (wrap64 (t386+7)) 8))) else(none))) else(none)) else(none))=some r:=H
 have A2:=Aside0.mk A20
 clear A20
 obtain ⟨ji3,hji3⟩:∃ j_:Int,(wrap64 ((wrap64 (Int.tdiv (wrap64 (t386+7)) 8))+1))=j_:=⟨_,rfl⟩
 replace H:(if 0<=(ji3) then(if (ji3:Int).toNat<=281474976710656 then((some (List.replicate (ji3:Int).toNat 0:List Int)).bind λy387=>(if 0<(y387.length:Int) then(wire_Num.l0 k a0 (y387.set (0:Int).toNat ((wrap64 (Int.tdiv (wrap64 (t386+7)) 8)) % 256)) (wrap64 (Int.tdiv (wrap64 (t386+7)) 8))) else(none))) else(none)) else(none))=some r:=by first|(rw [hji3] at H;exact H)|(simp only [hji3] at H ⊢;exact H)
 (try rw [hji3] at A2)
 have hji3w:(IntKind.i64.wrap ((wrap64 (Int.tdiv (wrap64 (t386+7)) 8))+1))=ji3:=(i64_w _).trans hji3
 by_cases c4:0<=(ji3)
 rotate_left
 ·rw [if_neg c4] at H
  exact absurd H (by simp)
 rw [if_pos c4] at H
 have c4b0:=eq_true c4
 have c4b1:decide (0<=(ji3))=true:=dT_ c4
 clear c4
 by_cases c5:(ji3:Int).toNat<=281474976710656
 rotate_left
 ·rw [if_neg c5] at H
  exact absurd H (by simp)
 rw [if_pos c5] at H
 have c5b0:=eq_true c5
 have c5b1:decide ((ji3:Int).toNat<=281474976710656)=true:=dT_ c5
 clear c5
 obtain ⟨y387,hy387⟩:∃ y_:List Int,y_=(List.replicate (ji3:Int).toNat 0):=⟨_,rfl⟩
 replace H:(if 0<(y387.length:Int) then(wire_Num.l0 k a0 (y387.set (0:Int).toNat ((wrap64 (Int.tdiv (wrap64 (t386+7)) 8)) % 256)) (wrap64 (Int.tdiv (wrap64 (t386+7)) 8))) else(none))=some r:=by first|(rw [hy387];with_reducible exact H)|(have H2_:=(Option.bind_some _ _).symm.trans H;rw [hy387];with_reducible exact H2_)|(have H2_:=(Option.bind_some _ _).symm.trans H;with_reducible exact H2_)|with_reducible exact H|(rw [hy387];exact H)|exact H
 have Ny387:=Aside0.mk hy387
 clear hy387
 by_cases c6:0<(y387.length:Int)
 rotate_left
 ·rw [if_neg c6] at H
  exact absurd H (by simp)
 rw [if_pos c6] at H
 have c6b0:decide (0<(y387.length:Int))=true:=dT_ c6
 have c6b1:decide (0<y387.length)=true:=dT_ (by omega)
 clear c6
 obtain ⟨y390,hy390⟩:∃ y_:List Int,y_=(y387.set (0:Int).toNat ((wrap64 (Int.tdiv (wrap64 (t386+7)) 8)) % 256)):=⟨_,rfl⟩
 replace H:(wire_Num.l0 k a0 y390 (wrap64 (Int.tdiv (wrap64 (t386+7)) 8)))=some r:=by first|(rw [hy390];with_reducible exact H)|(have H2_:=(Option.bind_some _ _).symm.trans H;rw [hy390];with_reducible exact H2_)|(have H2_:=(Option.bind_some _ _).symm.trans H;with_reducible exact H2_)|with_reducible exact H|(rw [hy390];exact H)|exact H
 have Ny390:=Aside0.mk hy390
 clear hy390
 have H':=Aside0.mk H
 clear H
 go_enter Try.func92,Try.ntmps92
 go_wp2_with (first|((with_reducible refine gate_callee (f:=106) rfl ?_);refine goesL_ (some 7) rfl rfl Try.func106 (by kernel_rfl) rfl #[.int .u64 a0] rfl z6_5 ?_;(with_reducible refine(bits_Len64.calls a0 t386 _ A2.out).mono ?_);rintro e w' ⟨rfl,⟨nd,rfl⟩⟩;refine ⟨_,rfl,?_⟩)|((with_reducible refine gate_dst (N:=12) rfl ?_);refine Kd.R_make (Kd.int .u8) _ 5 rfl (N:=12) rfl 22 _ _ rfl ji3 rfl rfl Try.underlying22 (.int .u8 0) 1 info5 rfl (by decide) (by omega) 0 (ok:=λ_=>True) (okp:=λ_=>True) rfl (λ_ hk=>hk) trivial (oD_ z6_1) (Nat.le_trans (Nat.mul_le_mul_right _ (oD_ z6_1:ji3.toNat<=281474976710656)) (by omega)) (Below.refl _ _) (Nat.le_refl _) ?_;intro v388 w8 ho9 hb hg_ hnew_;clear hg_ hnew_;(first|rw [<-Ny387.out] at ho9|(simp only [Int.reduceToNat] at ho9;rw [<-Ny387.out] at ho9));have HO389:=U (Kd.R_lower ho9 (below_size z9_4));replace HB:=U (below_step z9_4 hb);clear hb ho9;have p7:0<=(0:Int):=(by omega);have q7:(0:Int)<((y387.length:Int):Int):=oD_ z6_1;have qi7:(0<y387.length)=True:=eq_true (by omega);obtain ⟨go7,co7,eo7,gb7,gl7,cl7,HG7⟩:=Kd.R_form HO389.out (by omega);(first|cases eo7|(injection eo7 with ea_ en_ ec_;(first|subst ea_|(injection ea_ with ea_;subst ea_));subst ec_;clear en_));have GB7:=Aside0.mk gb7;have GG7:=Aside0.mk HG7;clear gb7 gl7 HG7;obtain ⟨hx7_0,hf7_0⟩:=Kd.R_celln 0 HO389.out (0:Int) p7 q7;(try rw [show((0:Int)).toNat=0 from rfl] at hx7_0);(try simp only [Nat.reduceMul,Nat.zero_mul,Nat.zero_add,Nat.reduceAdd] at hx7_0);(try rw [show((0:Int)).toNat=0 from rfl] at hf7_0);(try simp only [Nat.reduceMul,Nat.zero_mul,Nat.zero_add,Nat.reduceAdd] at hf7_0);replace p7:=eq_true p7;replace q7:=eq_true q7;obtain ⟨hy10_,hz10_⟩:=Kd.R_celln 0 HO389.out (0:Int) (by omega) (oD_ z6_1);(try simp only [Int.reduceToNat,Int.toNat_zero,Int.toNat_ofNat,Nat.reduceMul,Nat.zero_mul,Nat.zero_add] at hy10_ hz10_);(try rw [show((0:Int)).toNat=0 from rfl] at hy10_);(try rw [show((0:Int)).toNat=0 from rfl] at hz10_);have HP10:=Kd.R_putg HO389.out (0:Int) ((wrap64 (Int.tdiv (wrap64 (t386+7)) 8)) % 256))|((with_reducible refine gate_store (t:=5) (p:=16) rfl ?_);refine store_event (t:=5) (p:=16) (v:=?vo_w11) (w1:=(w8.setCell ⟨go7,(0:Int).toNat,none⟩ (.int .u8 ((wrap64 (Int.tdiv (wrap64 (t386+7)) 8)) % 256)))) ?hg ?ho ?hn ?hr ?_;(case ho=>rfl);(case hg=>rfl);(case hn=>rfl);(case hr=>first|(go_simp;done)|(go_simp;rfl));intro w11 hw;have hg:w8.grownBy w11 (some go7):=(by rw [hw];exact HP10.2);have hp_:Kd.R (Kd.int .u8) 5 w11 w.heap.size (λ_=>True) (.slice (some ⟨go7,0,none⟩) y387.length co7) y390:=(by rw [hw,Ny390.out];exact HP10.1);clear HP10;replace HO389:=U (hp_);replace HB:=U ((by rw [hw];exact below_set (HB.out) GB7.out:Below w.heap.size w w11));clear hg hw hp_))
 go_loopg [0,5] k (λkq v0 v5 w'=>∃ (x0_1:Int) (x4_1:List Int) (x5_1:Int),v0 = .int .u64 x0_1/\v5 = .int .i64 x5_1/\Aside0 (wire_Num.l0 kq x0_1 x4_1 x5_1=some r)/\Aside0 (kq<=k)/\Aside0 (Kd.R (Kd.int .u8) 5 w' w.heap.size (λ_=>True) (.slice (some ⟨go7,0,none⟩) y387.length co7) x4_1)/\Aside0 (Below w.heap.size w w'))
 case atStart=>exact ⟨(a0),(y390),(wrap64 (Int.tdiv (wrap64 (t386+7)) 8)),z9_3,z9_3,H',⟨Nat.le_refl _⟩,⟨(by(with_reducible repeat(first|apply Kd.R_alloc|apply Kd.R_drewN|apply Kd.R_drew));exact HO389.out)⟩,⟨z9_4⟩⟩
 case round =>
 clear H'
 try clear c1
 try clear p2
 try clear c4
 try clear c4b0
 try clear c4b1
 try clear c5
 try clear c5b0
 try clear c5b1
 try clear c6
 try clear c6b0
 try clear c6b1
 try clear p6
 try clear p7
 try clear q7
 try clear hx7
 try clear qi7
 try clear hf7
 try clear c9
 try clear c10
 try clear hx7_0
 try clear p7
 try clear q7
 obtain ⟨x0_1,x4_1,x5_1,rfl,rfl,HA,HK1,HO_4,HB⟩:=hrel
 have hl4_1:=(Kd.R_reads' HO_4.out).1
 rw [hl4_1] at HO_4
 (try simp only [hl4_1])
 cases gk with
 | zero=>exact absurd HA.out (by simp [wire_Num.l0])
 | succ k1 =>
 have H:=HA.out
 clear HA
 simp only [wire_Num.l0] at H
 by_cases c12:x5_1 > 0
 rotate_left
 ·rw [if_neg c12] at H
  have c12b0:decide (0<x5_1)=false:=dF_ c12
  clear c12
  obtain rfl:=sI_ H
  go_wp2
  go_ret
  exact ⟨_,(by first|rfl|(simp [errW_none,errW_some]<;>rfl)|(simp only [<-hji3];first|rfl|(simp [errW_none,errW_some]<;>rfl))|(simp [*,errW_none,errW_some]<;>rfl)),(by(with_reducible repeat(first|apply Kd.R_alloc|apply Kd.R_drewN|apply Kd.R_drew));exact HO_4.out),z9_4⟩
 rw [if_pos c12] at H
 have c12b0:decide (0<x5_1)=true:=dT_ c12
 clear c12
 by_cases c13:0<=x5_1
 rotate_left
 ·rw [if_neg c13] at H
  exact absurd H (by simp)
 rw [if_pos c13] at H
 have c13b0:decide (0<=x5_1)=true:=dT_ c13
 clear c13
 by_cases c14:x5_1<(x4_1.length:Int)
 rotate_left
 ·rw [if_neg c14] at H
  exact absurd H (by simp)
 rw [if_pos c14] at H
 have c14b0:decide (x5_1<(x4_1.length:Int))=true:=dT_ c14
 clear c14
 obtain ⟨y391,hy391⟩:∃ y_:List Int,y_=(x4_1.set (x5_1:Int).toNat ((x0_1) % 256)):=⟨_,rfl⟩
 replace H:(wire_Num.l0 k1 (x0_1 / 256) y391 (wrap64 (x5_1 - 1)))=some r:=by first|(rw [hy391];with_reducible exact H)|(have H2_:=(Option.bind_some _ _).symm.trans H;rw [hy391];with_reducible exact H2_)|(have H2_:=(Option.bind_some _ _).symm.trans H;with_reducible exact H2_)|with_reducible exact H|(rw [hy391];exact H)|exact H
 have Ny391:=Aside0.mk hy391
 clear hy391
 have H':=Aside0.mk H
 clear H
 have p15:0<=(x5_1:Int):=oD_ z6_1
 have q15:(x5_1:Int)<((x4_1.length:Int):Int):=oD_ z6_1
 obtain ⟨hx15_0,hf15_0⟩:=Kd.R_celln 0 HO_4.out (x5_1:Int) p15 q15
 replace p15:=eq_true p15
 replace q15:=eq_true q15
 have HP16:=Kd.R_putg HO_4.out (x5_1:Int) ((x0_1) % 256)
 go_wp2_with (first|((with_reducible refine gate_store (t:=5) (p:=26) rfl ?_);refine store_event (t:=5) (p:=26) (v:=?vo_w17) (w1:=(wr.setCell ⟨go7,(x5_1:Int).toNat,none⟩ (.int .u8 ((x0_1) % 256)))) ?hg ?ho ?hn ?hr ?_;(case ho=>rfl);(case hg=>rfl);(case hn=>rfl);(case hr=>first|(go_simp;done)|(go_simp;rfl));intro w17 hw;have hg:wr.grownBy w17 (some go7):=(by rw [hw];exact HP16.2);have hp_:Kd.R (Kd.int .u8) 5 w17 w.heap.size (λ_=>True) (.slice (some ⟨go7,0,none⟩) x4_1.length co7) y391:=(by rw [hw,Ny391.out];exact HP16.1);clear HP16;replace HO_4:=U (hp_);replace HB:=U ((by rw [hw];exact below_set (HB.out) GB7.out:Below w.heap.size w w17));clear hg hw hp_))
 (try simp only [<-hl4_1])
 go_roundg k1
 case measure=>have:=HK1.out;omega
 case rel=>exact ⟨(x0_1 / 256),(y391),(wrap64 (x5_1 - 1)),z9_3,z9_3,H',⟨(by have:=HK1.out;omega)⟩,⟨(by(try simp only [hl4_1]);(with_reducible repeat(first|apply Kd.R_alloc|apply Kd.R_drewN|apply Kd.R_drew));exact HO_4.out)⟩,⟨z9_4⟩⟩
def wire_Text.f (k:Nat) (l0:List Int):Option (List Int):=(wire_Num.f k (IntKind.u64.wrap ((l0.length:Int)))).bind λt392=>(if t392.length+l0.length<140737488355328 then(some (t392++l0)) else(none))
theorem wire_Text.mono:∀ a0 k,LeO (wire_Text.f k a0) (wire_Text.f (k+1) a0):=by
 intro a0 k
 unfold wire_Text.f
 repeat' first
  | (with_reducible exact wire_Num.mono _ _)
  | (with_reducible exact LeO.refl _)
  | (with_reducible exact LeO.none _)
  | (with_reducible refine LeO.ite ?_ ?_)
  | (with_reducible refine LeO.bind ?_ (λ_=>?_))
theorem wire_Text.calls (k:Nat) (A0:Option Addr) (c0:Nat) (l0:List Int) (r:List Int) (w:World) (hr0:Kd.C (Kd.int .u8) w A0 l0.length l0) (hc0:l0.length<=c0) (h:wire_Text.f k l0=some r) :
  Calls Try.prog 93 #[.slice A0 l0.length c0] w λe w'=>∃ v0_:Value,e = .returned (v0_)/\Kd.R (Kd.int .u8) 5 w' w.heap.size (λ_=>True) v0_ r/\Below w.heap.size w w':=by
 have HR0:=Aside0.mk hr0
 have HC0:=Aside0.mk hc0
 clear hr0 hc0
 have HB:=U (Below.refl w.heap.size w)
 have H:((wire_Num.f k (IntKind.u64.wrap ((l0.length:Int)))).bind λt392=>(if t392.length+l0.length<140737488355328 then(some (t392++l0)) else(none)))=some r:=h
 clear h
 replace H:=oB_ H
 obtain ⟨t392,A20,H⟩:=H
 replace H:(if t392.length+l0.length<140737488355328 then(some (t392++l0)) else(none))=some r:=H
 have A2:=Aside0.mk A20
 clear A20
 by_cases c3:t392.length+l0.length<140737488355328
 rotate_left
 ·rw [if_neg c3] at H
  exact absurd H (by simp)
 rw [if_pos c3] at H
 have LMc3:=Aside0.mk c3
 clear c3
 obtain ⟨y395,hy395⟩:∃ y_:List Int,y_=(t392++l0):=⟨_,rfl⟩
 replace H:(some y395)=some r:=by first|(rw [hy395];with_reducible exact H)|(have H2_:=(Option.bind_some _ _).symm.trans H;rw [hy395];with_reducible exact H2_)|(have H2_:=(Option.bind_some _ _).symm.trans H;with_reducible exact H2_)|with_reducible exact H|(rw [hy395];exact H)|exact H
 have Ny395:=Aside0.mk hy395
 clear hy395
 obtain rfl:=sI_ H
 go_enter Try.func93,Try.ntmps93
 go_wp2_with (first|((with_reducible refine gate_callee (f:=92) rfl ?_);refine goesL_ (some 6) rfl rfl Try.func92 (by kernel_rfl) rfl #[.int .u64 (IntKind.u64.wrap ((l0.length:Int)))] rfl z6_5 ?_;(with_reducible refine(wire_Num.calls k (IntKind.u64.wrap ((l0.length:Int))) t392 _ A2.out).mono ?_);rintro e w4 ⟨v393,rfl,ho0,hb⟩;refine ⟨_,rfl,?_⟩;have HO394:=U (Kd.R_lower ho0 (below_size z9_4));replace HB:=U (below_step z9_4 hb);(try clear hb);(try clear hb2);(try clear hk);(try clear hi);(try clear ho0))|((with_reducible refine gate_builtin (b:=.append) (xs:=#[.tmp 6,.tmp 7]) rfl ?_);at_builtin;refine Kd.R_append_rows (Kd.int .u8) (w0:=w) w.heap.size rfl (.tmp 6) (.tmp 7) 22 5 (.int .u8 0) 1 rfl Try.underlying22 info5 rfl (by decide) (by omega) v393 t392 l0 _ _ _ (λ_=>True) (λ_=>False) rfl rfl ?aO ?aR (λ_ _ h=>h) (λ_ h=>h.elim) ?aF ?aB ?aS ?aL ?_;(case aR=>repeat(first|exact(Kd.C_below HR0.out HB.out)|(with_reducible refine Kd.C_alloc ?_ _)|(with_reducible refine Kd.C_drewN ?_ _)|(with_reducible refine Kd.C_drew ?_)));(case aB=>exact z9_4);(case aF=>exact(λ_ _=>trivial));(case aO=>exact(by(with_reducible repeat(first|apply Kd.R_alloc|apply Kd.R_drewN|apply Kd.R_drew));exact HO394.out));(case aS=>exact(below_size z9_4));(case aL=>have:=LMc3.out;omega);intro v396 w5 ho hb hg hat;rw [<-Ny395.out] at ho;replace HB:=U (hb);have HO397:=U (ho);clear HO394;clear ho hb hg hat))
 go_ret
 exact ⟨_,(by first|rfl|(simp [errW_none,errW_some]<;>rfl)|(simp [*,errW_none,errW_some]<;>rfl)),(by(with_reducible repeat(first|apply Kd.R_alloc|apply Kd.R_drewN|apply Kd.R_drew));exact HO397.out),z9_4⟩
end Go.Proofs.Ytgocnchjpecafaa.PEv
