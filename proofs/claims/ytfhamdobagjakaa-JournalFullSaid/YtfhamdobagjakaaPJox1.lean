/- a part -/
import Derived.Test.YtfhamdobagjakaaPJox0
namespace Go.Proofs.Ytfhamdobagjakaa.PJo
open Go.RowKit Go.Proofs.YtfhamdobagjakaaW.PrintWords Go.Proofs.YtfhamdobagjakaaW.PrintLast Go.Proofs.YtfhamdobagjakaaW.PrintMore
attribute [local go_sem] max2_int min2_int max_two min_two max_three min_three max_four min_four
set_option linter.unusedVariables false
set_option linter.unusedSimpArgs false
set_option maxHeartbeats 8000000
set_option maxRecDepth 100000
theorem z1_0 {P:Prop} (h:P:=by repeat(first|(with_reducible first|exact HB.out|apply below_alloc|apply pw_below_drewN|apply below_drew1)|exact HB.out)):P:=h
theorem z1_1 {P:Prop} (h:P:=by repeat(first|(with_reducible first|exact HB.out|apply below_alloc|apply pw_below_drewN|apply below_drew1|refine below_set ?_ GE118.out)|exact HB.out)):P:=h
theorem z1_2 {P:Prop} (h:P:=by(with_reducible repeat(first|apply Kd.R_alloc|apply Kd.R_drewN|apply Kd.R_drew));exact(Kd.R_mono (Kd.R_far (p:=⟨gb118,1,none⟩) (Kd.R_far (p:=⟨gb118,0,none⟩) (Kd.R_types HO_4.out BK118.out (by decide)) (λ_ hk=>hk.2) (.int .i64 ((rd_T92 l0 x11_1).f0))) (λ_ hk=>hk.2) (.slice A117_1 ((rd_T92 l0 x11_1).f1).length c117_1)) (λ_ h_=>h_.1))):P:=h
theorem z1_3 {P:Prop} (h:P:=by first|rfl|(simp;done)|(simp [*];done)):P:=h
theorem z1_4 {P:Prop} (h:P:=by(try simp only [List.map_toArray,List.map_cons,List.map_nil]);first|done|rfl|(simp only [List.length_drop,List.length_take];rfl)):P:=h
theorem z1_5 {P:Prop} (h:P:=by first|(with_reducible assumption)|assumption):P:=h
theorem z1_6 {P:Prop} (h:P:=by(with_reducible repeat(first|refine blk_drewN ?_ _|refine blk_drew ?_|refine blk_alloc ?_ _));refine blk_put (cs:=#[.int .i64 ((rd_T92 l0 x11_1).f0),.slice none 0 0]) ?_ 1 _ rfl;(with_reducible repeat(first|refine blk_drewN ?_ _|refine blk_drew ?_|refine blk_alloc ?_ _));refine blk_put (cs:=#[.int .i64 0,.slice none 0 0]) ?_ 0 _ rfl;(with_reducible repeat(first|refine blk_drewN ?_ _|refine blk_drew ?_|refine blk_alloc ?_ _));exact BK118.out):P:=h
theorem z1_7 {P:Prop} (h:P:=by repeat(first|exact Drawn0.refl _|apply Drawn0.step)):P:=h
theorem z1_8 {P:Prop} (h:P:=by(with_reducible repeat(first|apply Kd.R_alloc|apply Kd.R_drewN|apply Kd.R_drew));exact HO_4.out):P:=h
theorem z1_9 {P:Prop} (h:P:=by first|exact Kd.R_nil _ _ _ _ _|exact Kd.N_nil _ _ _ _ _|exact Kd.V_nil _ _ _ _ _|exact Kd.Q_nil _ _ _ _ _|exact Kd.S_nil _ _ _ _ _):P:=h
theorem z1_10 {P:Prop} (h:P:=by first|rfl|(simp [errW_none,errW_some]<;>rfl)|(simp [*,errW_none,errW_some]<;>rfl)):P:=h
theorem z1_11 {P:Prop} (h:P:=by first|(go_simp;done)|(go_simp;rfl)):P:=h
def bits_Len64.ren:Go.Shelf.Ren:=⟨λ|129=>105|n=>n,λ|53=>40|3=>3|4=>4|46=>145|5=>5|9=>9|n=>n,λ|n=>n⟩
theorem bits_Len64.lays:Go.Proofs.Lays.n129 Try.prog bits_Len64.ren:={
 mixed:=by kernel_rfl
 f129:=Try.func105.trans (congrArg some (by kernel_rfl))
 t3:=Try.underlying3
 a3:=Try.isAgg3
 z3:=Try.sizeOf3
 v3:=Try.zeroValue3
 t4:=Try.underlying4
 a4:=Try.isAgg4
 z4:=Try.sizeOf4
 v4:=Try.zeroValue4
 t5:=Try.underlying5
 a5:=Try.isAgg5
 z5:=Try.sizeOf5
 v5:=Try.zeroValue5
 t9:=Try.underlying9
 a9:=Try.isAgg9
 z9:=Try.sizeOf9
 v9:=Try.zeroValue9
 t46:=Try.underlying145
 a46:=Try.isAgg145
 z46:=Try.sizeOf145
 v46:=Try.zeroValue145
 t53:=Try.underlying40
 a53:=Try.isAgg40
 z53:=Try.sizeOf40
 v53:=Try.zeroValue40 }
def bits_Len64.f (a0:Int):Option (Int):=if 0<=a0 then(if a0<=18446744073709551615 then some ((Lib.bitLen a0.toNat:Nat):Int) else none) else none
theorem bits_Len64.calls (a0:Int) (r:Int) (w:World) (h:bits_Len64.f a0=some r) :
  Calls Try.prog 105 #[.int .u64 a0] w λe w'=>e = .returned (.int .i64 r)/\Drawn0 w w':=by
 unfold bits_Len64.f at h
 by_cases h0:0<=a0
 rotate_left
 ·rw [if_neg h0] at h
  cases h
 by_cases h1:a0<=18446744073709551615
 ·rw [if_pos h0,if_pos h1] at h
  cases h
  exact(Go.Proofs.Any.bits_Len64 bits_Len64.lays a0 w h0 h1).mono λe w' hh=>⟨hh.1,(by rw [hh.2];exact Drawn0.refl _)⟩
 ·rw [if_pos h0,if_neg h1] at h
  cases h
def wire_Num.l0:Nat->Int->List Int->Int->Option (List Int)
 | 0,_,_,_=>none
 | k+1,x0,x4,x5=>if x5 > 0 then(if 0<=x5 then(if x5<(x4.length:Int) then(wire_Num.l0 k (x0 / 256) (x4.set (x5:Int).toNat ((x0) % 256)) (wrap64 (x5 - 1))) else(none)) else(none)) else(some x4)
def wire_Num.f (k:Nat) (a0:Int):Option (List Int):=(bits_Len64.f a0).bind λt101=>(if 0<=(wrap64 ((wrap64 (Int.tdiv (wrap64 (t101+7)) 8))+1)) then(if (wrap64 ((wrap64 (Int.tdiv (wrap64 (t101+7)) 8))+1):Int).toNat<=281474976710656 then((some (List.replicate (wrap64 ((wrap64 (Int.tdiv (wrap64 (t101+7)) 8))+1):Int).toNat 0:List Int)).bind λy102=>(if 0<(y102.length:Int) then(wire_Num.l0 k a0 (y102.set (0:Int).toNat ((wrap64 (Int.tdiv (wrap64 (t101+7)) 8)) % 256)) (wrap64 (Int.tdiv (wrap64 (t101+7)) 8))) else(none))) else(none)) else(none))
theorem wire_Num.calls (k:Nat) (a0:Int) (r:List Int) (w:World) (h:wire_Num.f k a0=some r) :
  Calls Try.prog 66 #[.int .u64 a0] w λe w'=>∃ v0_:Value,e = .returned (v0_)/\Kd.R (Kd.int .u8) 5 w' w.heap.size (λ_=>True) v0_ r/\Below w.heap.size w w':=by
 have HB:=U (Below.refl w.heap.size w)
 have H:((bits_Len64.f a0).bind λt101=>(if 0<=(wrap64 ((wrap64 (Int.tdiv (wrap64 (t101+7)) 8))+1)) then(if (wrap64 ((wrap64 (Int.tdiv (wrap64 (t101+7)) 8))+1):Int).toNat<=281474976710656 then((some (List.replicate (wrap64 ((wrap64 (Int.tdiv (wrap64 (t101+7)) 8))+1):Int).toNat 0:List Int)).bind λy102=>(if 0<(y102.length:Int) then(wire_Num.l0 k a0 (y102.set (0:Int).toNat ((wrap64 (Int.tdiv (wrap64 (t101+7)) 8)) % 256)) (wrap64 (Int.tdiv (wrap64 (t101+7)) 8))) else(none))) else(none)) else(none)))=some r:=h
 clear h
 replace H:=oB_ H
 obtain ⟨t101,A20,H⟩:=H
 replace H:(if 0<=(wrap64 ((wrap64 (Int.tdiv (wrap64 (t101+7)) 8))+1)) then(if (wrap64 ((wrap64 (Int.tdiv (wrap64 (t101+7)) 8))+1):Int).toNat<=281474976710656 then((some (List.replicate (wrap64 ((wrap64 (Int.tdiv (wrap64 (t101+7)) 8))+1):Int).toNat 0:List Int)).bind λy102=>(if 0<(y102.length:Int) then(wire_Num.l0 k a0 (y102.set (0:Int).toNat ((wrap64 (Int.tdiv (wrap64 (t101+7)) 8)) % 256)) (wrap64 (Int.tdiv (wrap64 (t101+7)) 8))) else(none))) else(none)) else(none))=some r:=H
 have A2:=Aside0.mk A20
 clear A20
 obtain ⟨ji3,hji3⟩:∃ j_:Int,(wrap64 ((wrap64 (Int.tdiv (wrap64 (t101+7)) 8))+1))=j_:=⟨_,rfl⟩
 replace H:(if 0<=(ji3) then(if (ji3:Int).toNat<=281474976710656 then((some (List.replicate (ji3:Int).toNat 0:List Int)).bind λy102=>(if 0<(y102.length:Int) then(wire_Num.l0 k a0 (y102.set (0:Int).toNat ((wrap64 (Int.tdiv (wrap64 (t101+7)) 8)) % 256)) (wrap64 (Int.tdiv (wrap64 (t101+7)) 8))) else(none))) else(none)) else(none))=some r:=by first|(rw [hji3] at H;exact H)|(simp only [hji3] at H ⊢;exact H)
 (try rw [hji3] at A2)
 have hji3w:(IntKind.i64.wrap ((wrap64 (Int.tdiv (wrap64 (t101+7)) 8))+1))=ji3:=(i64_w _).trans hji3
 by_cases c4:0<=(ji3)
 rotate_left
 ·rw [if_neg c4] at H
  exact absurd H (by simp)
 rw [if_pos c4] at H
 have c4b0:=eq_true c4
 have c4b1:decide (0<=(ji3))=true:=dT_ c4
 clear c4
 by_cases c5:(ji3:Int).toNat<=281474976710656
 rotate_left
 ·rw [if_neg c5] at H
  exact absurd H (by simp)
 rw [if_pos c5] at H
 have c5b0:=eq_true c5
 have c5b1:decide ((ji3:Int).toNat<=281474976710656)=true:=dT_ c5
 clear c5
 obtain ⟨y102,hy102⟩:∃ y_:List Int,y_=(List.replicate (ji3:Int).toNat 0):=⟨_,rfl⟩
 replace H:(if 0<(y102.length:Int) then(wire_Num.l0 k a0 (y102.set (0:Int).toNat ((wrap64 (Int.tdiv (wrap64 (t101+7)) 8)) % 256)) (wrap64 (Int.tdiv (wrap64 (t101+7)) 8))) else(none))=some r:=by first|(rw [hy102];with_reducible exact H)|(have H2_:=(Option.bind_some _ _).symm.trans H;rw [hy102];with_reducible exact H2_)|(have H2_:=(Option.bind_some _ _).symm.trans H;with_reducible exact H2_)|with_reducible exact H|(rw [hy102];exact H)|exact H
 have Ny102:=Aside0.mk hy102
 clear hy102
 by_cases c6:0<(y102.length:Int)
 rotate_left
 ·rw [if_neg c6] at H
  exact absurd H (by simp)
 rw [if_pos c6] at H
 have c6b0:decide (0<(y102.length:Int))=true:=dT_ c6
 have c6b1:decide (0<y102.length)=true:=dT_ (by omega)
 clear c6
 obtain ⟨y105,hy105⟩:∃ y_:List Int,y_=(y102.set (0:Int).toNat ((wrap64 (Int.tdiv (wrap64 (t101+7)) 8)) % 256)):=⟨_,rfl⟩
 replace H:(wire_Num.l0 k a0 y105 (wrap64 (Int.tdiv (wrap64 (t101+7)) 8)))=some r:=by first|(rw [hy105];with_reducible exact H)|(have H2_:=(Option.bind_some _ _).symm.trans H;rw [hy105];with_reducible exact H2_)|(have H2_:=(Option.bind_some _ _).symm.trans H;with_reducible exact H2_)|with_reducible exact H|(rw [hy105];exact H)|exact H
 have Ny105:=Aside0.mk hy105
 clear hy105
 have H':=Aside0.mk H
 clear H
 go_enter Try.func66,Try.ntmps66
 go_wp2_with (first|((with_reducible refine gate_callee (f:=105) rfl ?_);refine goesL_ (some 7) rfl rfl Try.func105 (by kernel_rfl) rfl #[.int .u64 a0] rfl z1_4 ?_;(with_reducible refine(bits_Len64.calls a0 t101 _ A2.out).mono ?_);rintro e w' ⟨rfl,⟨nd,rfl⟩⟩;refine ⟨_,rfl,?_⟩)|((with_reducible refine gate_dst (N:=12) rfl ?_);refine Kd.R_make (Kd.int .u8) _ 5 rfl (N:=12) rfl 38 _ _ rfl ji3 rfl rfl Try.underlying38 (.int .u8 0) 1 info5 rfl (by decide) (by omega) 0 (ok:=λ_=>True) (okp:=λ_=>True) rfl (λ_ hk=>hk) trivial (oD_ z1_5) (Nat.le_trans (Nat.mul_le_mul_right _ (oD_ z1_5:ji3.toNat<=281474976710656)) (by omega)) (Below.refl _ _) (Nat.le_refl _) ?_;intro v103 w8 ho9 hb hg_ hnew_;clear hg_ hnew_;(first|rw [<-Ny102.out] at ho9|(simp only [Int.reduceToNat] at ho9;rw [<-Ny102.out] at ho9));have HO104:=U (Kd.R_lower ho9 (below_size z1_0));replace HB:=U (below_step z1_0 hb);clear hb ho9;have p7:0<=(0:Int):=(by omega);have q7:(0:Int)<((y102.length:Int):Int):=oD_ z1_5;have qi7:(0<y102.length)=True:=eq_true (by omega);obtain ⟨go7,co7,eo7,gb7,gl7,cl7,HG7⟩:=Kd.R_form HO104.out (by omega);(first|cases eo7|(injection eo7 with ea_ en_ ec_;(first|subst ea_|(injection ea_ with ea_;subst ea_));subst ec_;clear en_));have GB7:=Aside0.mk gb7;have GG7:=Aside0.mk HG7;clear gb7 gl7 HG7;obtain ⟨hx7_0,hf7_0⟩:=Kd.R_celln 0 HO104.out (0:Int) p7 q7;(try rw [show((0:Int)).toNat=0 from rfl] at hx7_0);(try simp only [Nat.reduceMul,Nat.zero_mul,Nat.zero_add,Nat.reduceAdd] at hx7_0);(try rw [show((0:Int)).toNat=0 from rfl] at hf7_0);(try simp only [Nat.reduceMul,Nat.zero_mul,Nat.zero_add,Nat.reduceAdd] at hf7_0);replace p7:=eq_true p7;replace q7:=eq_true q7;obtain ⟨hy10_,hz10_⟩:=Kd.R_celln 0 HO104.out (0:Int) (by omega) (oD_ z1_5);(try simp only [Int.reduceToNat,Int.toNat_zero,Int.toNat_ofNat,Nat.reduceMul,Nat.zero_mul,Nat.zero_add] at hy10_ hz10_);(try rw [show((0:Int)).toNat=0 from rfl] at hy10_);(try rw [show((0:Int)).toNat=0 from rfl] at hz10_);have HP10:=Kd.R_putg HO104.out (0:Int) ((wrap64 (Int.tdiv (wrap64 (t101+7)) 8)) % 256))|((with_reducible refine gate_store (t:=5) (p:=16) rfl ?_);refine store_event (t:=5) (p:=16) (v:=?vo_w11) (w1:=(w8.setCell ⟨go7,(0:Int).toNat,none⟩ (.int .u8 ((wrap64 (Int.tdiv (wrap64 (t101+7)) 8)) % 256)))) ?hg ?ho ?hn ?hr ?_;(case ho=>rfl);(case hg=>rfl);(case hn=>rfl);(case hr=>exact z1_11);intro w11 hw;have hg:w8.grownBy w11 (some go7):=(by rw [hw];exact HP10.2);have hp_:Kd.R (Kd.int .u8) 5 w11 w.heap.size (λ_=>True) (.slice (some ⟨go7,0,none⟩) y102.length co7) y105:=(by rw [hw,Ny105.out];exact HP10.1);clear HP10;replace HO104:=U (hp_);replace HB:=U ((by rw [hw];exact below_set (HB.out) GB7.out:Below w.heap.size w w11));clear hg hw hp_))
 go_loopg [0,5] k (λkq v0 v5 w'=>∃ (x0_1:Int) (x4_1:List Int) (x5_1:Int),v0 = .int .u64 x0_1/\v5 = .int .i64 x5_1/\Aside0 (wire_Num.l0 kq x0_1 x4_1 x5_1=some r)/\Aside0 (kq<=k)/\Aside0 (Kd.R (Kd.int .u8) 5 w' w.heap.size (λ_=>True) (.slice (some ⟨go7,0,none⟩) y102.length co7) x4_1)/\Aside0 (Below w.heap.size w w'))
 case atStart=>exact ⟨(a0),(y105),(wrap64 (Int.tdiv (wrap64 (t101+7)) 8)),z1_3,z1_3,H',⟨Nat.le_refl _⟩,⟨(by(with_reducible repeat(first|apply Kd.R_alloc|apply Kd.R_drewN|apply Kd.R_drew));exact HO104.out)⟩,⟨z1_0⟩⟩
 case round =>
 clear H'
 try clear c1
 try clear p2
 try clear c4
 try clear c4b0
 try clear c4b1
 try clear c5
 try clear c5b0
 try clear c5b1
 try clear c6
 try clear c6b0
 try clear c6b1
 try clear p6
 try clear p7
 try clear q7
 try clear hx7
 try clear qi7
 try clear hf7
 try clear c10
 try clear hx7_0
 try clear p7
 try clear q7
 obtain ⟨x0_1,x4_1,x5_1,rfl,rfl,HA,HK1,HO_4,HB⟩:=hrel
 have hl4_1:=(Kd.R_reads' HO_4.out).1
 rw [hl4_1] at HO_4
 (try simp only [hl4_1])
 cases gk with
 | zero=>exact absurd HA.out (by simp [wire_Num.l0])
 | succ k1 =>
 have H:=HA.out
 clear HA
 simp only [wire_Num.l0] at H
 by_cases c12:x5_1 > 0
 rotate_left
 ·rw [if_neg c12] at H
  have c12b0:decide (0<x5_1)=false:=dF_ c12
  clear c12
  obtain rfl:=sI_ H
  go_wp2
  go_ret
  exact ⟨_,(by first|rfl|(simp [errW_none,errW_some]<;>rfl)|(simp only [<-hji3];first|rfl|(simp [errW_none,errW_some]<;>rfl))|(simp [*,errW_none,errW_some]<;>rfl)),z1_8,z1_0⟩
 rw [if_pos c12] at H
 have c12b0:decide (0<x5_1)=true:=dT_ c12
 clear c12
 by_cases c13:0<=x5_1
 rotate_left
 ·rw [if_neg c13] at H
  exact absurd H (by simp)
 rw [if_pos c13] at H
 have c13b0:decide (0<=x5_1)=true:=dT_ c13
 clear c13
 by_cases c14:x5_1<(x4_1.length:Int)
 rotate_left
 ·rw [if_neg c14] at H
  exact absurd H (by simp)
 rw [if_pos c14] at H
 have c14b0:decide (x5_1<(x4_1.length:Int))=true:=dT_ c14
 clear c14
 obtain ⟨y106,hy106⟩:∃ y_:List Int,y_=(x4_1.set (x5_1:Int).toNat ((x0_1) % 256)):=⟨_,rfl⟩
 replace H:(wire_Num.l0 k1 (x0_1 / 256) y106 (wrap64 (x5_1 - 1)))=some r:=by first|(rw [hy106];with_reducible exact H)|(have H2_:=(Option.bind_some _ _).symm.trans H;rw [hy106];with_reducible exact H2_)|(have H2_:=(Option.bind_some _ _).symm.trans H;with_reducible exact H2_)|with_reducible exact H|(rw [hy106];exact H)|exact H
 have Ny106:=Aside0.mk hy106
 clear hy106
 have H':=Aside0.mk H
 clear H
 have p15:0<=(x5_1:Int):=oD_ z1_5
 have q15:(x5_1:Int)<((x4_1.length:Int):Int):=oD_ z1_5
 obtain ⟨hx15_0,hf15_0⟩:=Kd.R_celln 0 HO_4.out (x5_1:Int) p15 q15
 replace p15:=eq_true p15
 replace q15:=eq_true q15
 have HP16:=Kd.R_putg HO_4.out (x5_1:Int) ((x0_1) % 256)
 go_wp2_with (first|((with_reducible refine gate_store (t:=5) (p:=26) rfl ?_);refine store_event (t:=5) (p:=26) (v:=?vo_w17) (w1:=(wr.setCell ⟨go7,(x5_1:Int).toNat,none⟩ (.int .u8 ((x0_1) % 256)))) ?hg ?ho ?hn ?hr ?_;(case ho=>rfl);(case hg=>rfl);(case hn=>rfl);(case hr=>exact z1_11);intro w17 hw;have hg:wr.grownBy w17 (some go7):=(by rw [hw];exact HP16.2);have hp_:Kd.R (Kd.int .u8) 5 w17 w.heap.size (λ_=>True) (.slice (some ⟨go7,0,none⟩) x4_1.length co7) y106:=(by rw [hw,Ny106.out];exact HP16.1);clear HP16;replace HO_4:=U (hp_);replace HB:=U ((by rw [hw];exact below_set (HB.out) GB7.out:Below w.heap.size w w17));clear hg hw hp_))
 (try simp only [<-hl4_1])
 go_roundg k1
 case measure=>have:=HK1.out;omega
 case rel=>exact ⟨(x0_1 / 256),(y106),(wrap64 (x5_1 - 1)),z1_3,z1_3,H',⟨(by have:=HK1.out;omega)⟩,⟨(by(try simp only [hl4_1]);(with_reducible repeat(first|apply Kd.R_alloc|apply Kd.R_drewN|apply Kd.R_drew));exact HO_4.out)⟩,⟨z1_0⟩⟩
def wire_Text.f (k:Nat) (l0:List Int):Option (List Int):=(wire_Num.f k (IntKind.u64.wrap ((l0.length:Int)))).bind λt107=>(if t107.length+l0.length<140737488355328 then(some (t107++l0)) else(none))
theorem wire_Text.calls (k:Nat) (A0:Option Addr) (c0:Nat) (l0:List Int) (r:List Int) (w:World) (hr0:Kd.C (Kd.int .u8) w A0 l0.length l0) (hc0:l0.length<=c0) (h:wire_Text.f k l0=some r) :
  Calls Try.prog 103 #[.slice A0 l0.length c0] w λe w'=>∃ v0_:Value,e = .returned (v0_)/\Kd.R (Kd.int .u8) 5 w' w.heap.size (λ_=>True) v0_ r/\Below w.heap.size w w':=by
 have HR0:=Aside0.mk hr0
 have HC0:=Aside0.mk hc0
 clear hr0 hc0
 have HB:=U (Below.refl w.heap.size w)
 have H:((wire_Num.f k (IntKind.u64.wrap ((l0.length:Int)))).bind λt107=>(if t107.length+l0.length<140737488355328 then(some (t107++l0)) else(none)))=some r:=h
 clear h
 replace H:=oB_ H
 obtain ⟨t107,A20,H⟩:=H
 replace H:(if t107.length+l0.length<140737488355328 then(some (t107++l0)) else(none))=some r:=H
 have A2:=Aside0.mk A20
 clear A20
 by_cases c3:t107.length+l0.length<140737488355328
 rotate_left
 ·rw [if_neg c3] at H
  exact absurd H (by simp)
 rw [if_pos c3] at H
 have LMc3:=Aside0.mk c3
 clear c3
 obtain ⟨y110,hy110⟩:∃ y_:List Int,y_=(t107++l0):=⟨_,rfl⟩
 replace H:(some y110)=some r:=by first|(rw [hy110];with_reducible exact H)|(have H2_:=(Option.bind_some _ _).symm.trans H;rw [hy110];with_reducible exact H2_)|(have H2_:=(Option.bind_some _ _).symm.trans H;with_reducible exact H2_)|with_reducible exact H|(rw [hy110];exact H)|exact H
 have Ny110:=Aside0.mk hy110
 clear hy110
 obtain rfl:=sI_ H
 go_enter Try.func103,Try.ntmps103
 go_wp2_with (first|((with_reducible refine gate_callee (f:=66) rfl ?_);refine goesL_ (some 6) rfl rfl Try.func66 (by kernel_rfl) rfl #[.int .u64 (IntKind.u64.wrap ((l0.length:Int)))] rfl z1_4 ?_;(with_reducible refine(wire_Num.calls k (IntKind.u64.wrap ((l0.length:Int))) t107 _ A2.out).mono ?_);rintro e w4 ⟨v108,rfl,ho0,hb⟩;refine ⟨_,rfl,?_⟩;have HO109:=U (Kd.R_lower ho0 (below_size z1_0));replace HB:=U (below_step z1_0 hb);(try clear hb);(try clear hb2);(try clear hk);(try clear hi);(try clear ho0))|((with_reducible refine gate_builtin (b:=.append) (xs:=#[.tmp 6,.tmp 7]) rfl ?_);at_builtin;refine Kd.R_append_rows (Kd.int .u8) (w0:=w) w.heap.size rfl (.tmp 6) (.tmp 7) 38 5 (.int .u8 0) 1 rfl Try.underlying38 info5 rfl (by decide) (by omega) v108 t107 l0 _ _ _ (λ_=>True) (λ_=>False) rfl rfl ?aO ?aR (λ_ _ h=>h) (λ_ h=>h.elim) ?aF ?aB ?aS ?aL ?_;(case aR=>repeat(first|exact(Kd.C_below HR0.out HB.out)|(with_reducible refine Kd.C_alloc ?_ _)|(with_reducible refine Kd.C_drewN ?_ _)|(with_reducible refine Kd.C_drew ?_)));(case aB=>exact z1_0);(case aF=>exact(λ_ _=>trivial));(case aO=>exact(by(with_reducible repeat(first|apply Kd.R_alloc|apply Kd.R_drewN|apply Kd.R_drew));exact HO109.out));(case aS=>exact(below_size z1_0));(case aL=>have:=LMc3.out;omega);intro v111 w5 ho hb hg hat;rw [<-Ny110.out] at ho;replace HB:=U (hb);have HO112:=U (ho);clear HO109;clear ho hb hg hat))
 go_ret
 exact ⟨_,z1_10,(by(with_reducible repeat(first|apply Kd.R_alloc|apply Kd.R_drewN|apply Kd.R_drew));exact HO112.out),z1_0⟩
def sum_step.l0:Nat->Int->Int->Option (Int)
 | 0,_,_=>none
 | k+1,x0,x10=>if x10<8 then(if (Go.bits .and .u32 x0 2147483648)=0 then(sum_step.l0 k ((x0*2) % 4294967296) (wrap64 (x10+1))) else(sum_step.l0 k (Go.bits .xor .u32 ((x0*2) % 4294967296) 79764919) (wrap64 (x10+1)))) else(some x0)
def sum_step.f (k:Nat) (a0:Int) (a1:Int):Option (Int):=sum_step.l0 k (Go.bits .xor .u32 a0 ((((a1) % 4294967296)*16777216) % 4294967296)) 0
theorem sum_step.calls (k:Nat) (a0:Int) (a1:Int) (r:Int) (w:World) (h:sum_step.f k a0 a1=some r) :
  Calls Try.prog 123 #[.int .u32 a0,.int .u8 a1] w λe w'=>e = .returned (.int .u32 r)/\Drawn0 w w':=by
 have H:(sum_step.l0 k (Go.bits .xor .u32 a0 ((((a1) % 4294967296)*16777216) % 4294967296)) 0)=some r:=h
 clear h
 have H':=Aside0.mk H
 clear H
 go_enter Try.func123,Try.ntmps123
 go_wp2
 go_loopg [0,10] k (λkq v0 v10 w'=>∃ (x0_1:Int) (x10_1:Int),v0 = .int .u32 x0_1/\v10 = .int .i64 x10_1/\Aside0 (sum_step.l0 kq x0_1 x10_1=some r)/\Aside0 (kq<=k)/\Drawn0 w w')
 case atStart=>exact ⟨(Go.bits .xor .u32 a0 ((((a1) % 4294967296)*16777216) % 4294967296)),(0),z1_3,z1_3,H',⟨Nat.le_refl _⟩,z1_7⟩
 case round =>
 clear H'
 try clear c1
 try clear p2
 obtain ⟨x0_1,x10_1,rfl,rfl,HA,HK1,⟨m1,rfl⟩⟩:=hrel
 cases gk with
 | zero=>exact absurd HA.out (by simp [sum_step.l0])
 | succ k1 =>
 have H:=HA.out
 clear HA
 simp only [sum_step.l0] at H
 by_cases c3:x10_1<8
 rotate_left
 ·rw [if_neg c3] at H
  have c3b0:decide (x10_1<8)=false:=dF_ c3
  clear c3
  obtain rfl:=sI_ H
  go_wp2
  go_ret
  exact ⟨z1_3,z1_7⟩
 rw [if_pos c3] at H
 have c3b0:decide (x10_1<8)=true:=dT_ c3
 clear c3
 by_cases c4:(Go.bits .and .u32 x0_1 2147483648)=0
 rotate_left
 ·rw [if_neg c4] at H
  have c4b0:((Go.bits .and .u32 x0_1 2147483648) == 0)=false:=beq_eq_false_iff_ne.mpr c4
  have c4b1:((Go.bits .and .u32 x0_1 2147483648) != 0)=true:=bne_iff_ne.mpr c4
  have H':=Aside0.mk H
  clear H
  go_wp2
  go_roundg k1
  case measure=>have:=HK1.out;omega
  case rel=>exact ⟨(Go.bits .xor .u32 ((x0_1*2) % 4294967296) 79764919),(wrap64 (x10_1+1)),z1_3,z1_3,H',⟨(by have:=HK1.out;omega)⟩,z1_7⟩
 rw [if_pos c4] at H
 have c4b0:((Go.bits .and .u32 x0_1 2147483648) == 0)=true:=beq_iff_eq.mpr c4
 have c4b1:((Go.bits .and .u32 x0_1 2147483648) != 0)=false:=bne_eq_false_iff_eq.mpr c4
 clear c4
 have H':=Aside0.mk H
 clear H
 go_wp2
 go_roundg k1
 case measure=>have:=HK1.out;omega
 case rel=>exact ⟨((x0_1*2) % 4294967296),(wrap64 (x10_1+1)),z1_3,z1_3,H',⟨(by have:=HK1.out;omega)⟩,z1_7⟩
def sum_On.l0:Nat->Int->List Int->Int->Int->Option (Int)
 | 0,_,_,_,_=>none
 | k+1,x5,x10,x11,x12=>if x12<x11 then(if 0<=x12 then(if x12<(x10.length:Int) then((sum_step.f k x5 (rd x10 x12)).bind λt114=>(sum_On.l0 k t114 x10 x11 (wrap64 (x12+1)))) else(none)) else(none)) else(some (Go.bits .xor .u32 4294967295 x5))
def sum_On.f (k:Nat) (a0:Int) (l1:List Int):Option (Int):=sum_On.l0 k (Go.bits .xor .u32 4294967295 a0) l1 (l1.length:Int) 0
theorem sum_On.calls (k:Nat) (a0:Int) (A1:Option Addr) (c1:Nat) (l1:List Int) (r:Int) (w:World) (hr1:Kd.C (Kd.int .u8) w A1 l1.length l1) (hc1:l1.length<=c1) (h:sum_On.f k a0 l1=some r) :
  Calls Try.prog 119 #[.int .u32 a0,.slice A1 l1.length c1] w λe w'=>e = .returned (.int .u32 r)/\Drawn0 w w':=by
 have HR1:=Aside0.mk hr1
 have HC1:=Aside0.mk hc1
 clear hr1 hc1
 have H:(sum_On.l0 k (Go.bits .xor .u32 4294967295 a0) l1 (l1.length:Int) 0)=some r:=h
 clear h
 have H':=Aside0.mk H
 clear H
 go_enter Try.func119,Try.ntmps119
 go_wp2
 go_loopg [5,12] k (λkq v5 v12 w'=>∃ (x5_1:Int) (x12_1:Int),v5 = .int .u32 x5_1/\v12 = .int .i64 x12_1/\Aside0 (sum_On.l0 kq x5_1 l1 (l1.length:Int) x12_1=some r)/\Aside0 (kq<=k)/\Drawn0 w w')
 case atStart=>exact ⟨(Go.bits .xor .u32 4294967295 a0),(0),z1_3,z1_3,H',⟨Nat.le_refl _⟩,z1_7⟩
 case round =>
 clear H'
 try clear c1
 try clear p2
 obtain ⟨x5_1,x12_1,rfl,rfl,HA,HK1,⟨m1,rfl⟩⟩:=hrel
 cases gk with
 | zero=>exact absurd HA.out (by simp [sum_On.l0])
 | succ k1 =>
 have H:=HA.out
 clear HA
 simp only [sum_On.l0] at H
 by_cases c3:x12_1<(l1.length:Int)
 rotate_left
 ·rw [if_neg c3] at H
  have c3b0:decide (x12_1<(l1.length:Int))=false:=dF_ c3
  clear c3
  obtain rfl:=sI_ H
  go_wp2
  go_ret
  exact ⟨z1_3,z1_7⟩
 rw [if_pos c3] at H
 have c3b0:decide (x12_1<(l1.length:Int))=true:=dT_ c3
 clear c3
 by_cases c4:0<=x12_1
 rotate_left
 ·rw [if_neg c4] at H
  exact absurd H (by simp)
 rw [if_pos c4] at H
 have c4b0:decide (0<=x12_1)=true:=dT_ c4
 clear c4
 by_cases c5:x12_1<(l1.length:Int)
 rotate_left
 ·rw [if_neg c5] at H
  exact absurd H (by simp)
 rw [if_pos c5] at H
 have c5b0:decide (x12_1<(l1.length:Int))=true:=dT_ c5
 clear c5
 replace H:=oB_ H
 obtain ⟨t114,A60,H⟩:=H
 replace H:(sum_On.l0 k1 t114 l1 (l1.length:Int) (wrap64 (x12_1+1)))=some r:=H
 have A6:=Aside0.mk A60
 clear A60
 have H':=Aside0.mk H
 clear H
 have p113:0<=(x12_1:Int):=oD_ z1_5
 have q113:x12_1<(l1.length:Int):=oD_ z1_5
 obtain ⟨ad113,e113,hx113_0⟩:=Kd.at_int HR1.out x12_1 p113 q113
 cases e113
 replace p113:=eq_true p113
 replace q113:=eq_true q113
 go_wp2_with (first|((with_reducible refine gate_callee (f:=123) rfl ?_);refine goesL_ (some 18) rfl rfl Try.func123 (by kernel_rfl) rfl #[.int .u32 x5_1,.int .u8 (rd l1 x12_1)] rfl z1_4 ?_;(with_reducible refine(sum_step.calls k1 x5_1 (rd l1 x12_1) t114 _ A6.out).mono ?_);rintro e w' ⟨rfl,⟨nd,rfl⟩⟩;refine ⟨_,rfl,?_⟩))
 go_roundg k1
 case measure=>have:=HK1.out;omega
 case rel=>exact ⟨(t114),(wrap64 (x12_1+1)),z1_3,z1_3,H',⟨(by have:=HK1.out;omega)⟩,z1_7⟩
def sum_Of.l0:Nat->Int->List (List Int)->Int->Int->Option (Int)
 | 0,_,_,_,_=>none
 | k+1,x3,x6,x7,x8=>if x8<x7 then(if 0<=x8 then(if x8<(x6.length:Int) then((sum_On.f k x3 (rd_L3 x6 x8)).bind λt116=>(sum_Of.l0 k t116 x6 x7 (wrap64 (x8+1)))) else(none)) else(none)) else(some x3)
def sum_Of.f (k:Nat) (l0:List (List Int)):Option (Int):=sum_Of.l0 k 0 l0 (l0.length:Int) 0
theorem sum_Of.calls (k:Nat) (A0:Option Addr) (c0:Nat) (l0:List (List Int)) (r:Int) (w:World) (hr0:Kd.C (Kd.slice 5 (Kd.int .u8)) w A0 l0.length l0) (hc0:l0.length<=c0) (h:sum_Of.f k l0=some r) :
  Calls Try.prog 104 #[.slice A0 l0.length c0] w λe w'=>e = .returned (.int .u32 r)/\Drawn0 w w':=by
 have HR0:=Aside0.mk hr0
 have HC0:=Aside0.mk hc0
 clear hr0 hc0
 have H:(sum_Of.l0 k 0 l0 (l0.length:Int) 0)=some r:=h
 clear h
 have H':=Aside0.mk H
 clear H
 go_enter Try.func104,Try.ntmps104
 go_wp2
 go_loopg [3,8] k (λkq v3 v8 w'=>∃ (x3_1:Int) (x8_1:Int),v3 = .int .u32 x3_1/\v8 = .int .i64 x8_1/\Aside0 (sum_Of.l0 kq x3_1 l0 (l0.length:Int) x8_1=some r)/\Aside0 (kq<=k)/\Drawn0 w w')
 case atStart=>exact ⟨(0),(0),z1_3,z1_3,H',⟨Nat.le_refl _⟩,z1_7⟩
 case round =>
 clear H'
 try clear c1
 obtain ⟨x3_1,x8_1,rfl,rfl,HA,HK1,⟨m1,rfl⟩⟩:=hrel
 cases gk with
 | zero=>exact absurd HA.out (by simp [sum_Of.l0])
 | succ k1 =>
 have H:=HA.out
 clear HA
 simp only [sum_Of.l0] at H
 by_cases c2:x8_1<(l0.length:Int)
 rotate_left
 ·rw [if_neg c2] at H
  have c2b0:decide (x8_1<(l0.length:Int))=false:=dF_ c2
  clear c2
  obtain rfl:=sI_ H
  go_wp2
  go_ret
  exact ⟨z1_3,z1_7⟩
 rw [if_pos c2] at H
 have c2b0:decide (x8_1<(l0.length:Int))=true:=dT_ c2
 clear c2
 by_cases c3:0<=x8_1
 rotate_left
 ·rw [if_neg c3] at H
  exact absurd H (by simp)
 rw [if_pos c3] at H
 have c3b0:decide (0<=x8_1)=true:=dT_ c3
 clear c3
 by_cases c4:x8_1<(l0.length:Int)
 rotate_left
 ·rw [if_neg c4] at H
  exact absurd H (by simp)
 rw [if_pos c4] at H
 have c4b0:decide (x8_1<(l0.length:Int))=true:=dT_ c4
 clear c4
 replace H:=oB_ H
 obtain ⟨t116,A50,H⟩:=H
 replace H:(sum_Of.l0 k1 t116 l0 (l0.length:Int) (wrap64 (x8_1+1)))=some r:=H
 have A5:=Aside0.mk A50
 clear A50
 have H':=Aside0.mk H
 clear H
 have p115:0<=(x8_1:Int):=oD_ z1_5
 have q115:x8_1<(l0.length:Int):=oD_ z1_5
 obtain ⟨ad115,A115_0,c115_0,e115,hx115_0,hl115_0,hi115_0⟩:=at_L3 HR0.out x8_1 p115 q115
 cases e115
 have HR115_0:=Aside0.mk hi115_0
 have HC115_0:=Aside0.mk hl115_0
 clear hi115_0 hl115_0
 replace p115:=eq_true p115
 replace q115:=eq_true q115
 go_wp2_with (first|((with_reducible refine gate_callee (f:=119) rfl ?_);refine goesL_ (some 14) rfl rfl Try.func119 (by kernel_rfl) rfl #[.int .u32 x3_1,.slice A115_0 (rd_L3 l0 x8_1).length c115_0] rfl z1_4 ?_;(with_reducible refine(sum_On.calls k1 x3_1 _ _ (rd_L3 l0 x8_1) t116 _ ?side1 ?side2 A5.out).mono ?_);(case side1=>repeat(first|exact HR115_0.out|(with_reducible refine Kd.C_alloc ?_ _)|(with_reducible refine Kd.C_drewN ?_ _)|(with_reducible refine Kd.C_drew ?_)));(case side2=>exact HC115_0.out);rintro e w' ⟨rfl,⟨nd,rfl⟩⟩;refine ⟨_,rfl,?_⟩))
 go_roundg k1
 case measure=>have:=HK1.out;omega
 case rel=>exact ⟨(t116),(wrap64 (x8_1+1)),z1_3,z1_3,H',⟨(by have:=HK1.out;omega)⟩,z1_7⟩
def wire_Record.f (k:Nat) (a0:Int) (l1:List Int):Option (List Int×Int):=if a0<1 then(some (([]:List Int),1)) else(if a0 > 200 then(some (([]:List Int),1)) else(if (l1.length:Int) > 65536 then(some (([]:List Int),1)) else((wire_Text.f k l1).bind λt=>(if 1+t.length<140737488355328 then((sum_Of.f k [[a0 % 256]++t]).bind λs=>(if (1+t.length)+4<140737488355328 then(some (([a0 % 256]++t)++[(s / 16777216) % 256,(s / 65536) % 256,(s / 256) % 256,s % 256],0)) else none)) else none))))
theorem wire_Record.one_row {W:World} {e:Nat} {fr:Nat×Nat} {g:Nat} {A:Option Addr} {c:Nat} {y:List Int} (hb:W.heap[g]? = some (.cells #[.slice A y.length c] e fr)) (hC:Kd.C (Kd.int .u8) W A y.length y) (hc:y.length<=c) :
  Kd.C (Kd.slice 5 (Kd.int .u8)) W (some ⟨g,0,none⟩) 1 [y]:=by
 refine ⟨rfl,(by omega),λ_=>⟨_,rfl,λj p hj=>?_⟩⟩
 have hj0:j=0:=by
  have:=(List.getElem?_eq_some_iff.1 hj).1
  simp at this
  omega
 subst hj0
 have hp:y=p:=by simpa using hj
 subst hp
 refine ⟨[.slice A y.length c],rfl,⟨A,c,rfl,hc,hC⟩,λi u hu=>?_⟩
 have hi0:i=0:=by
  have:=(List.getElem?_eq_some_iff.1 hu).1
  simp at this
  omega
 subst hi0
 have hu':Value.slice A y.length c=u:=by simpa using hu
 subst hu'
 simp [World.cell?,hb,Addr.add]
theorem wire_Record.sum_one (k:Nat) (A:Option Addr) (c:Nat) (y:List Int) (r:Int) (W:World) (g:Nat) {e:Nat} {fr:Nat×Nat} (hb:W.heap[g]? = some (.cells #[.slice A y.length c] e fr)) (hC:Kd.C (Kd.int .u8) W A y.length y) (hc:y.length<=c) (h:sum_Of.f k [y]=some r) :
  Calls Try.prog 104 #[.slice (some ⟨g,0,none⟩) 1 1] W λe w'=>e = .returned (.int .u32 r)/\Drawn0 W w' :=
 sum_Of.calls k (some ⟨g,0,none⟩) 1 [y] r W (wire_Record.one_row hb hC hc) (Nat.le_refl _) h
theorem wire_Record.calls (k:Nat) (a0:Int) (A1:Option Addr) (c1:Nat) (l1:List Int) (r1:List Int) (r2:Int) (w:World) (hr1:Kd.C (Kd.int .u8) w A1 l1.length l1) (hc1:l1.length<=c1) (h:wire_Record.f k a0 l1=some (r1,r2)) :
  Calls Try.prog 65 #[.int .i64 a0,.slice A1 l1.length c1] w λe w'=>∃ v0_:Value,e = .returned (.tuple #[v0_,.int .i64 r2])/\Kd.R (Kd.int .u8) 5 w' w.heap.size (λ_=>True) v0_ r1/\Below w.heap.size w w':=by
 have HR1:=Aside0.mk hr1
 have HC1:=Aside0.mk hc1
 clear hr1 hc1
 have HB:=U (Below.refl w.heap.size w)
 unfold wire_Record.f at h
 by_cases c1_:a0<1
 ·rw [if_pos c1_] at h
  simp only [Option.some.injEq,Prod.mk.injEq] at h
  obtain ⟨rfl,rfl⟩:=h
  have b1:decide (a0<1)=true:=dT_ c1_
  clear c1_
  go_enter Try.func65,Try.ntmps65
  go_wp2
  go_ret2
  exact ⟨_,rfl,Kd.R_nil _ _ _ _ _,HB.out⟩
 rw [if_neg c1_] at h
 have b1:decide (a0<1)=false:=dF_ c1_
 by_cases c2_:a0 > 200
 ·rw [if_pos c2_] at h
  simp only [Option.some.injEq,Prod.mk.injEq] at h
  obtain ⟨rfl,rfl⟩:=h
  have b2:decide (200<a0)=true:=dT_ c2_
  clear c1_ c2_
  go_enter Try.func65,Try.ntmps65
  go_wp2
  go_ret2
  exact ⟨_,rfl,Kd.R_nil _ _ _ _ _,HB.out⟩
 rw [if_neg c2_] at h
 have b2:decide (200<a0)=false:=dF_ c2_
 by_cases c3_:(l1.length:Int) > 65536
 ·rw [if_pos c3_] at h
  simp only [Option.some.injEq,Prod.mk.injEq] at h
  obtain ⟨rfl,rfl⟩:=h
  have b3:decide (65536<(l1.length:Int))=true:=dT_ c3_
  clear c1_ c2_ c3_
  go_enter Try.func65,Try.ntmps65
  go_wp2
  go_ret2
  exact ⟨_,rfl,Kd.R_nil _ _ _ _ _,HB.out⟩
 rw [if_neg c3_] at h
 have b3:decide (65536<(l1.length:Int))=false:=dF_ c3_
 clear c1_ c2_ c3_
 obtain ⟨t,A3,h⟩:=Option.bind_eq_some_iff.1 h
 have HA3:=Aside0.mk A3
 clear A3
 by_cases c4_:1+t.length<140737488355328
 rotate_left
 ·rw [if_neg c4_] at h
  cases h
 rw [if_pos c4_] at h
 obtain ⟨s,A5,h⟩:=Option.bind_eq_some_iff.1 h
 by_cases c6_:(1+t.length)+4<140737488355328
 rotate_left
 ·rw [if_neg c6_] at h
  cases h
 rw [if_pos c6_] at h
 simp only [Option.some.injEq,Prod.mk.injEq] at h
 obtain ⟨rfl,rfl⟩:=h
 obtain ⟨y0,hy0⟩:∃ y_:List Int,y_=[a0 % 256]:=⟨_,rfl⟩
 rw [<-hy0] at A5 ⊢
 obtain ⟨y1,hy1⟩:∃ y_:List Int,y_=y0++t:=⟨_,rfl⟩
 rw [<-hy1] at A5 ⊢
 obtain ⟨y2,hy2⟩:∃ y_:List Int,y_=[(s / 16777216) % 256,(s / 65536) % 256,(s / 256) % 256,s % 256]:=⟨_,rfl⟩
 rw [<-hy2]
 have hl1:y0.length=1:=by rw [hy0];rfl
 have hl2:y1.length=1+t.length:=by rw [hy1,List.length_append,hl1]
 have hl3:y2.length=4:=by rw [hy2];rfl
 have L4:=U (show y0.length+t.length<140737488355328 by omega)
 have L6:=U (show y1.length+y2.length<140737488355328 by omega)
 have HA5:=Aside0.mk A5
 have N0:=Aside0.mk hy0
 have N1:=Aside0.mk hy1
 have N2:=Aside0.mk hy2
 clear A5 hy0 hy1 hy2 hl1 hl2 hl3 c4_ c6_
 go_enter Try.func65,Try.ntmps65
 go_wp2_with (first|((with_reducible refine gate_dst (N:=21) rfl ?_);refine Kd.R_lit (Kd.int .u8) _ 5 ?hg (N:=21) ?hd (xs:=([a0 % 256]:List Int)) (inner:=[.int .u8 (a0 % 256)]) (ok:=λ_=>True) (okp:=λ_=>True) ?hr ?hp (λ_ hk=>hk) trivial (Below.refl _ _) (Nat.le_refl _) (by simp) ?_;(case hd=>rfl);(case hg=>rfl);(case hr=>exact z1_11);(case hp=>exact(Reps.one (show Kd.M (Kd.int .u8) _ _ _ (a0 % 256) [.int .u8 (a0 % 256)] from rfl) (Reps.none _ _)));intro v261 w7 ho8 hb hg_ hnew_;clear hg_ hnew_;rw [<-N0.out] at ho8;have HO262:=Aside0.mk ho8;replace HB:=U (below_step HB.out hb);clear hb ho8)|((with_reducible refine gate_callee (f:=103) rfl ?_);refine goesL_ (some 23) rfl rfl Try.func103 (by kernel_rfl) rfl #[.slice A1 l1.length c1] rfl (by(try simp only [List.map_toArray,List.map_cons,List.map_nil]);first|done|rfl) ?_;(with_reducible refine(wire_Text.calls k _ _ l1 t _ ?side1 ?side2 HA3.out).mono ?_);(case side1=>exact(Kd.C_below HR1.out HB.out));(case side2=>exact HC1.out);rintro e w9 ⟨v264,rfl,ho0,hb⟩;refine ⟨_,rfl,?_⟩;replace HO262:=U (Kd.R_elder' HO262.out (Kd.R_base ho0) hb);have HO265:=Aside0.mk ho0;have HZ:=U (HB.out.size);replace HB:=U (below_step HB.out hb);(try clear hb);(try clear ho0);obtain ⟨Ao11,co11,eo11⟩:=Kd.R_slice HO265.out;subst eo11)|((with_reducible refine gate_builtin (b:=.append) (xs:=#[.tmp 21,.tmp 23]) rfl ?_);at_builtin;refine Kd.R_append_rows (Kd.int .u8) (w0:=w) w.heap.size rfl (.tmp 21) (.tmp 23) 38 5 (.int .u8 0) 1 rfl Try.underlying38 info5 rfl (by decide) (by omega) v261 y0 t _ _ _ (λk_=>some k_≠(.slice Ao11 t.length co11:Value).ownBlock) (λ_=>False) rfl rfl ?aO ?aR (λ_ _ h=>h) (λ_ h=>h.elim) ?aF ?aB ?aS ?aL ?_;(case aR=>exact(Kd.R_reads' HO265.out).2.2);(case aB=>exact HB.out);(case aF=>exact(λk_ hk=>Kd.fresh' (Kd.R_lt HO265.out) k_ hk));(case aO=>exact Kd.R_lower (Kd.R_mono HO262.out (λ_ hk=>hk.2)) (Nat.le_refl _));(case aS=>exact HB.out.size);(case aL=>have:=L4.out;omega);intro v267 w10 ho hb hg hat;rw [<-N1.out] at ho;have n1_:=U (hb);have n2_:=U (Kd.R_mono (ok':=λ_=>True) ho (λ_ _=>trivial));clear HO265;clear HB;clear HO262;have HB:=n1_;have HO268:=n2_;clear n1_ n2_;clear ho hb hg hat;obtain ⟨Ao12,co12,eo12⟩:=Kd.R_slice HO268.out;subst eo12)|((with_reducible refine gate_callee (f:=104) rfl ?_);refine goesL_ (some 27) rfl rfl Try.func104 (by kernel_rfl) rfl #[.slice (some ⟨w10.heap.size,0,none⟩) 1 1] rfl (by(try simp only [List.map_toArray,List.map_cons,List.map_nil]);first|done|rfl) ?_;(refine(wire_Record.sum_one k Ao12 co12 y1 s _ w10.heap.size (e:=38) (fr:=(0,0)) ?side0 ?side1 ?side2 HA5.out).mono ?_);(case side0=>exact heap_alloc_new _ _);(case side1=>exact Kd.C_alloc (Kd.R_reads' HO268.out).2.2 _);(case side2=>exact(Kd.R_reads' HO268.out).2.1);rintro e w13 ⟨rfl,⟨nd,rfl⟩⟩;refine ⟨_,rfl,?_⟩;have n1_:=U (Kd.R_drewN (Kd.R_alloc HO268.out (.cells #[.slice Ao12 y1.length co12] 38)) nd);have n2_:=U (pw_below_drewN (below_alloc HB.out (.cells #[.slice Ao12 y1.length co12] 38)) nd);clear HO268;clear HB;have HO268:=n1_;have HB:=n2_;clear n1_ n2_)|((with_reducible refine gate_dst (N:=40) rfl ?_);refine Kd.R_lit (Kd.int .u8) _ 5 ?hg (N:=40) ?hd (xs:=([(s / 16777216) % 256,(s / 65536) % 256,(s / 256) % 256,s % 256]:List Int)) (inner:=[.int .u8 ((s / 16777216) % 256),.int .u8 ((s / 65536) % 256),.int .u8 ((s / 256) % 256),.int .u8 (s % 256)]) (ok:=λ_=>True) (okp:=λ_=>True) ?hr ?hp (λ_ hk=>hk) trivial (Below.refl _ _) (Nat.le_refl _) (by simp) ?_;(case hd=>rfl);(case hg=>rfl);(case hr=>exact z1_11);(case hp=>exact(Reps.one (show Kd.M (Kd.int .u8) _ _ _ ((s / 16777216) % 256) [.int .u8 ((s / 16777216) % 256)] from rfl) (Reps.one (show Kd.M (Kd.int .u8) _ _ _ ((s / 65536) % 256) [.int .u8 ((s / 65536) % 256)] from rfl) (Reps.one (show Kd.M (Kd.int .u8) _ _ _ ((s / 256) % 256) [.int .u8 ((s / 256) % 256)] from rfl) (Reps.one (show Kd.M (Kd.int .u8) _ _ _ (s % 256) [.int .u8 (s % 256)] from rfl) (Reps.none _ _))))));intro v271 w14 ho15 hb hg_ hnew_;clear hg_ hnew_;rw [<-N2.out] at ho15;have n1_:=U (Kd.R_elder' HO268.out (Kd.R_base ho15) hb);have n2_:=Aside0.mk ho15;have n3_:=U (below_step HB.out hb);clear HO268;clear HB;have HO268:=n1_;have HO272:=n2_;have HB:=n3_;clear n1_ n2_ n3_;clear hb ho15;obtain ⟨Ao17,co17,eo17⟩:=Kd.R_slice HO272.out;subst eo17)|((with_reducible refine gate_builtin (b:=.append) (xs:=#[.tmp 28,.tmp 40]) rfl ?_);at_builtin;refine Kd.R_append_rows (Kd.int .u8) (w0:=w) w.heap.size rfl (.tmp 28) (.tmp 40) 38 5 (.int .u8 0) 1 rfl Try.underlying38 info5 rfl (by decide) (by omega) (.slice Ao12 y1.length co12) y1 y2 _ _ _ (λk_=>some k_≠(.slice Ao17 y2.length co17:Value).ownBlock) (λ_=>False) rfl rfl ?aO ?aR (λ_ _ h=>h) (λ_ h=>h.elim) ?aF ?aB ?aS ?aL ?_;(case aR=>exact(Kd.R_reads' HO272.out).2.2);(case aB=>exact HB.out);(case aF=>exact(λk_ hk=>Kd.fresh' (Kd.R_lt HO272.out) k_ hk));(case aO=>exact Kd.R_mono HO268.out (λ_ hk=>hk.2));(case aS=>exact HB.out.size);(case aL=>have:=L6.out;omega);intro v274 w16 ho hb hg hat;have n2_:=U (hb);have n3_:=U (ho);clear HO272;clear HB;clear HO268;have HB:=n2_;have HO275:=n3_;clear n2_ n3_;clear ho hb hg hat))
 go_ret2
 exact ⟨_,rfl,Kd.R_mono HO275.out (λ_ _=>trivial),HB.out⟩
def journal_put.l0:Nat->List Int->List (S92)->Int->Int->Option (List Int×Int)
 | 0,_,_,_,_=>none
 | k+1,x4,x9,x10,x11=>if x11<x10 then(if 0<=x11 then(if x11<(x9.length:Int) then(if ((rd_T92 x9 x11).f0)<10 then(some (([]:List Int),1)) else((wire_Record.f k ((rd_T92 x9 x11).f0) ((rd_T92 x9 x11).f1)).bind λbt119=>(if bt119.2=0 then(if x4.length+bt119.1.length<140737488355328 then(journal_put.l0 k (x4++bt119.1) x9 x10 (wrap64 (x11+1))) else(none)) else(some (([]:List Int),bt119.2))))) else(none)) else(none)) else(some (x4,0))
def journal_put.f (k:Nat) (l0:List (S92)):Option (List Int×Int):=journal_put.l0 k ([]:List Int) l0 (l0.length:Int) 0
theorem journal_put.calls (k:Nat) (A0:Option Addr) (c0:Nat) (l0:List (S92)) (r1:List Int) (r2:Int) (w:World) (hr0:Kd.C k92 w A0 l0.length l0) (hc0:l0.length<=c0) (h:journal_put.f k l0=some (r1,r2)) :
  Calls Try.prog 62 #[.slice A0 l0.length c0] w λe w'=>∃ v0_:Value,e = .returned (.tuple #[v0_,.int .i64 r2])/\Kd.R (Kd.int .u8) 5 w' w.heap.size (λ_=>True) v0_ r1/\Below w.heap.size w w':=by
 have hu92:=Try.underlying92
 have HR0:=Aside0.mk hr0
 have HC0:=Aside0.mk hc0
 clear hr0 hc0
 have HB:=U (Below.refl w.heap.size w)
 have H:(journal_put.l0 k ([]:List Int) l0 (l0.length:Int) 0)=some (r1,r2):=h
 clear h
 have H':=Aside0.mk H
 clear H
 go_enter Try.func62,Try.ntmps62
 go_wp2
 go_loopg [4,11] k (λkq v4 v11 w'=>∃ (x4_1:List Int) (x11_1:Int),v11 = .int .i64 x11_1/\Aside0 (journal_put.l0 kq x4_1 l0 (l0.length:Int) x11_1=some (r1,r2))/\Aside0 (kq<=k)/\Aside0 (Kd.R (Kd.int .u8) 5 w' w.heap.size (λ_=>True) v4 x4_1)/\Aside0 (Below w.heap.size w w'))
 case atStart=>exact ⟨(([]:List Int)),(0),z1_3,H',⟨Nat.le_refl _⟩,⟨z1_9⟩,⟨z1_0⟩⟩
 case round =>
 clear H'
 obtain ⟨x4_1,x11_1,rfl,HA,HK1,HO_4,HB⟩:=hrel
 cases gk with
 | zero=>exact absurd HA.out (by simp [journal_put.l0])
 | succ k1 =>
 have H:=HA.out
 clear HA
 simp only [journal_put.l0] at H
 by_cases c2:x11_1<(l0.length:Int)
 rotate_left
 ·rw [if_neg c2] at H
  have c2b0:decide (x11_1<(l0.length:Int))=false:=dF_ c2
  clear c2
  simp only [Option.some.injEq,Prod.mk.injEq] at H
  obtain ⟨rfl,rfl⟩:=H
  go_wp2
  go_ret2
  exact ⟨_,z1_10,z1_8,z1_0⟩
 rw [if_pos c2] at H
 have c2b0:decide (x11_1<(l0.length:Int))=true:=dT_ c2
 clear c2
 by_cases c3:0<=x11_1
 rotate_left
 ·rw [if_neg c3] at H
  exact absurd H (by simp)
 rw [if_pos c3] at H
 have c3b0:decide (0<=x11_1)=true:=dT_ c3
 clear c3
 by_cases c4:x11_1<(l0.length:Int)
 rotate_left
 ·rw [if_neg c4] at H
  exact absurd H (by simp)
 rw [if_pos c4] at H
 have c4b0:decide (x11_1<(l0.length:Int))=true:=dT_ c4
 clear c4
 by_cases c5:((rd_T92 l0 x11_1).f0)<10
 ·rw [if_pos c5] at H
  have c5b0:decide (((rd_T92 l0 x11_1).f0)<10)=true:=dT_ c5
  clear c5
  simp only [Option.some.injEq,Prod.mk.injEq] at H
  obtain ⟨rfl,rfl⟩:=H
  have p117:0<=(x11_1:Int):=oD_ z1_5
  have q117:x11_1<(l0.length:Int):=oD_ z1_5
  obtain ⟨ad117,A117_1,c117_1,e117,hx117_0,hx117_1,hl117_1,hi117_1⟩:=at_T92 HR0.out x11_1 p117 q117
  cases e117
  replace hx117_0:=(HB.out.cell (World.block_lt_of_cell? w _ hx117_0)).trans hx117_0
  replace hx117_1:=(HB.out.cell (World.block_lt_of_cell? w _ hx117_1)).trans hx117_1
  have HR117_1:=Aside0.mk hi117_1
  have HC117_1:=Aside0.mk hl117_1
  clear hi117_1 hl117_1
  replace p117:=eq_true p117
  replace q117:=eq_true q117
  go_wp2_with (first|((with_reducible refine gate_dst (N:=6) rfl ?_);refine box_event ?hg (N:=6) ?hd (cs:=#[.int .i64 0,.slice none 0 0]) (t:=92) ?hr ?_;(case hd=>rfl);(case hg=>rfl);(case hr=>exact z1_11);intro gb118 hg w6 hbox hb;replace HO_4:=U (Kd.R_below z1_8 hb);have BK118:=U (hbox);have GW118:=U ((by rw [hg];exact(below_size z1_0):w.heap.size<=gb118));have GE118:=U ((by rw [hg];exact(below_size z1_0):w.heap.size<=gb118));replace HB:=U (below_step z1_0 hb);clear hb hbox hg;obtain ⟨hcz7_0,hcz7_1,hfz7_0,hfz7_1⟩:=cz2_ BK118.out))
  go_ret2
  exact ⟨_,z1_10,z1_9,z1_1⟩
 rw [if_neg c5] at H
 have c5b0:decide (((rd_T92 l0 x11_1).f0)<10)=false:=dF_ c5
 clear c5
 replace H:=oB_ H
 obtain ⟨⟨t119,t120⟩,A80,H⟩:=H
 replace H:(if t120=0 then(if x4_1.length+t119.length<140737488355328 then(journal_put.l0 k1 (x4_1++t119) l0 (l0.length:Int) (wrap64 (x11_1+1))) else(none)) else(some (([]:List Int),t120)))=some (r1,r2):=H
 have A8:=Aside0.mk A80
 clear A80
 by_cases c9:t120=0
 rotate_left
 ·rw [if_neg c9] at H
  have c9b0:(t120 == 0)=false:=beq_eq_false_iff_ne.mpr c9
  have c9b1:(t120 != 0)=true:=bne_iff_ne.mpr c9
  simp only [Option.some.injEq,Prod.mk.injEq] at H
  obtain ⟨rfl,rfl⟩:=H
  have p117:0<=(x11_1:Int):=oD_ z1_5
  have q117:x11_1<(l0.length:Int):=oD_ z1_5
  obtain ⟨ad117,A117_1,c117_1,e117,hx117_0,hx117_1,hl117_1,hi117_1⟩:=at_T92 HR0.out x11_1 p117 q117
  cases e117
  replace hx117_0:=(HB.out.cell (World.block_lt_of_cell? w _ hx117_0)).trans hx117_0
  replace hx117_1:=(HB.out.cell (World.block_lt_of_cell? w _ hx117_1)).trans hx117_1
  have HR117_1:=Aside0.mk hi117_1
  have HC117_1:=Aside0.mk hl117_1
  clear hi117_1 hl117_1
  replace p117:=eq_true p117
  replace q117:=eq_true q117
  go_wp2_with (first|((with_reducible refine gate_dst (N:=6) rfl ?_);refine box_event ?hg (N:=6) ?hd (cs:=#[.int .i64 0,.slice none 0 0]) (t:=92) ?hr ?_;(case hd=>rfl);(case hg=>rfl);(case hr=>exact z1_11);intro gb118 hg w16 hbox hb;replace HO_4:=U (Kd.R_below z1_8 hb);have BK118:=U (hbox);have GW118:=U ((by rw [hg];exact(below_size z1_0):w.heap.size<=gb118));have GE118:=U ((by rw [hg];exact(below_size z1_0):w.heap.size<=gb118));replace HB:=U (below_step z1_0 hb);clear hb hbox hg;obtain ⟨hcz17_0,hcz17_1,hfz17_0,hfz17_1⟩:=cz2_ BK118.out)|((with_reducible refine gate_callee (f:=65) rfl ?_);refine goesL_ (some 23) rfl rfl Try.func65 (by kernel_rfl) rfl #[.int .i64 ((rd_T92 l0 x11_1).f0),.slice A117_1 ((rd_T92 l0 x11_1).f1).length c117_1] rfl z1_4 ?_;(with_reducible refine(wire_Record.calls k1 ((rd_T92 l0 x11_1).f0) _ _ ((rd_T92 l0 x11_1).f1) t119 t120 _ ?side1 ?side2 A8.out).mono ?_);(case side1=>exact Kd.C_below HR117_1.out z1_1);(case side2=>exact HC117_1.out);rintro e w18 ⟨v121,rfl,ho0,hb⟩;refine ⟨_,rfl,?_⟩;have HO122:=U (Kd.R_lower (Kd.R_new' ho0 (Kd.R_lt z1_2)) (below_size z1_1));replace HO_4:=U (Kd.R_elder' z1_2 (Kd.R_base ho0) hb);replace BK118:=U (blk_below (g:=gb118) (o:=.cells #[.int .i64 ((rd_T92 l0 x11_1).f0),.slice A117_1 ((rd_T92 l0 x11_1).f1).length c117_1] 92 (0,0)) z1_6 hb);replace HB:=U (below_step z1_1 hb);(try clear hb);(try clear hb2);(try clear hk);(try clear hi);(try clear ho0)))
  go_ret2
  exact ⟨_,z1_10,z1_9,z1_1⟩
 rw [if_pos c9] at H
 have c9b0:(t120 == 0)=true:=beq_iff_eq.mpr c9
 have c9b1:(t120 != 0)=false:=bne_eq_false_iff_eq.mpr c9
 clear c9
 by_cases c10:x4_1.length+t119.length<140737488355328
 rotate_left
 ·rw [if_neg c10] at H
  exact absurd H (by simp)
 rw [if_pos c10] at H
 have LMc10:=Aside0.mk c10
 clear c10
 obtain ⟨y123,hy123⟩:∃ y_:List Int,y_=(x4_1++t119):=⟨_,rfl⟩
 replace H:(journal_put.l0 k1 y123 l0 (l0.length:Int) (wrap64 (x11_1+1)))=some (r1,r2):=by first|(rw [hy123];with_reducible exact H)|(have H2_:=(Option.bind_some _ _).symm.trans H;rw [hy123];with_reducible exact H2_)|(have H2_:=(Option.bind_some _ _).symm.trans H;with_reducible exact H2_)|with_reducible exact H|(rw [hy123];exact H)|exact H
 have Ny123:=Aside0.mk hy123
 clear hy123
 have H':=Aside0.mk H
 clear H
 have p117:0<=(x11_1:Int):=oD_ z1_5
 have q117:x11_1<(l0.length:Int):=oD_ z1_5
 obtain ⟨ad117,A117_1,c117_1,e117,hx117_0,hx117_1,hl117_1,hi117_1⟩:=at_T92 HR0.out x11_1 p117 q117
 cases e117
 replace hx117_0:=(HB.out.cell (World.block_lt_of_cell? w _ hx117_0)).trans hx117_0
 replace hx117_1:=(HB.out.cell (World.block_lt_of_cell? w _ hx117_1)).trans hx117_1
 have HR117_1:=Aside0.mk hi117_1
 have HC117_1:=Aside0.mk hl117_1
 clear hi117_1 hl117_1
 replace p117:=eq_true p117
 replace q117:=eq_true q117
 go_wp2_with (first|((with_reducible refine gate_dst (N:=6) rfl ?_);refine box_event ?hg (N:=6) ?hd (cs:=#[.int .i64 0,.slice none 0 0]) (t:=92) ?hr ?_;(case hd=>rfl);(case hg=>rfl);(case hr=>exact z1_11);intro gb118 hg w11 hbox hb;replace HO_4:=U (Kd.R_below z1_8 hb);have BK118:=U (hbox);have GW118:=U ((by rw [hg];exact(below_size z1_0):w.heap.size<=gb118));have GE118:=U ((by rw [hg];exact(below_size z1_0):w.heap.size<=gb118));replace HB:=U (below_step z1_0 hb);clear hb hbox hg;obtain ⟨hcz12_0,hcz12_1,hfz12_0,hfz12_1⟩:=cz2_ BK118.out)|((with_reducible refine gate_callee (f:=65) rfl ?_);refine goesL_ (some 23) rfl rfl Try.func65 (by kernel_rfl) rfl #[.int .i64 ((rd_T92 l0 x11_1).f0),.slice A117_1 ((rd_T92 l0 x11_1).f1).length c117_1] rfl z1_4 ?_;(with_reducible refine(wire_Record.calls k1 ((rd_T92 l0 x11_1).f0) _ _ ((rd_T92 l0 x11_1).f1) t119 t120 _ ?side1 ?side2 A8.out).mono ?_);(case side1=>exact Kd.C_below HR117_1.out z1_1);(case side2=>exact HC117_1.out);rintro e w13 ⟨v121,rfl,ho0,hb⟩;refine ⟨_,rfl,?_⟩;have HO122:=U (Kd.R_lower (Kd.R_new' ho0 (Kd.R_lt z1_2)) (below_size z1_1));replace HO_4:=U (Kd.R_elder' z1_2 (Kd.R_base ho0) hb);replace BK118:=U (blk_below (g:=gb118) (o:=.cells #[.int .i64 ((rd_T92 l0 x11_1).f0),.slice A117_1 ((rd_T92 l0 x11_1).f1).length c117_1] 92 (0,0)) z1_6 hb);replace HB:=U (below_step z1_1 hb);(try clear hb);(try clear hb2);(try clear hk);(try clear hi);(try clear ho0);obtain ⟨Ao15,co15,eo15⟩:=Kd.R_slice HO122.out;subst eo15)|((with_reducible refine gate_builtin (b:=.append) (xs:=#[.tmp 29,.tmp 30]) rfl ?_);at_builtin;refine Kd.R_append_rows (Kd.int .u8) (w0:=w) w.heap.size rfl (.tmp 29) (.tmp 30) 38 5 (.int .u8 0) 1 rfl Try.underlying38 info5 rfl (by decide) (by omega) u4 x4_1 t119 _ _ _ (λk_=>some k_≠(.slice Ao15 t119.length co15:Value).ownBlock) (λ_=>False) rfl rfl ?aO ?aR (λ_ _ h=>h) (λ_ h=>h.elim) ?aF ?aB ?aS ?aL ?_;(case aR=>repeat(first|exact(Kd.R_reads' HO122.out).2.2|(with_reducible refine Kd.C_alloc ?_ _)|(with_reducible refine Kd.C_drewN ?_ _)|(with_reducible refine Kd.C_drew ?_)));(case aB=>exact z1_1);(case aF=>exact(λk_ hk=>Kd.fresh' (Kd.R_lt (by(with_reducible repeat(first|apply Kd.R_alloc|apply Kd.R_drewN|apply Kd.R_drew));exact HO122.out)) k_ hk));(case aO=>exact(by(with_reducible repeat(first|apply Kd.R_alloc|apply Kd.R_drewN|apply Kd.R_drew));exact Kd.R_mono HO_4.out (λ_ hk=>hk.2)));(case aS=>exact(below_size z1_1));(case aL=>have:=LMc10.out;omega);intro v124 w14 ho hb hg hat;rw [<-Ny123.out] at ho;replace BK118:=U (blk_grown (g:=gb118) (o:=.cells #[.int .i64 ((rd_T92 l0 x11_1).f0),.slice A117_1 ((rd_T92 l0 x11_1).f1).length c117_1] 92 (0,0)) (by(with_reducible repeat(first|refine blk_drewN ?_ _|refine blk_drew ?_|refine blk_alloc ?_ _));exact BK118.out) hg (Kd.R_ne HO_4.out BK118.out (by decide)));replace HO122:=U (Kd.R_after (ok:=(λ_=>True)) (by(with_reducible repeat(first|apply Kd.R_alloc|apply Kd.R_drewN|apply Kd.R_drew));exact HO122.out) hg hat);replace HB:=U (hb);have HO125:=U (ho);clear HO_4;clear ho hb hg hat))
 go_roundg k1
 case measure=>have:=HK1.out;omega
 case rel=>exact ⟨(y123),(wrap64 (x11_1+1)),z1_3,H',⟨(by have:=HK1.out;omega)⟩,⟨(by(with_reducible repeat(first|apply Kd.R_alloc|apply Kd.R_drewN|apply Kd.R_drew));exact Kd.R_mono HO125.out (λ_ hk=>trivial))⟩,⟨z1_1⟩⟩
end Go.Proofs.Ytfhamdobagjakaa.PJo
