/- a part -/
import Derived.Test.YtgocnchjpecafaaPEvx10
namespace Go.Proofs.Ytgocnchjpecafaa.PEv
open Go.RowKit Go.Proofs.YtgocnchjpecafaaW.PrintWords Go.Proofs.YtgocnchjpecafaaW.PrintLast Go.Proofs.YtgocnchjpecafaaW.PrintMore
attribute [local go_sem] max2_int min2_int max_two min_two max_three min_three max_four min_four
set_option linter.unusedVariables false
set_option linter.unusedSimpArgs false
set_option maxHeartbeats 8000000
set_option maxRecDepth 100000
theorem z12_5 {P:Prop} (h:P:=by(with_reducible repeat(first|apply Kd.S_alloc|apply Kd.S_drewN|apply Kd.S_drew));exact HO_3.out):P:=h
theorem z12_7 {P:Prop} (h:P:=by(with_reducible repeat(first|apply Kd.R_alloc|apply Kd.R_drewN|apply Kd.R_drew));exact HO_0.out):P:=h
theorem z12_9 {P:Prop} (h:P:=by repeat(first|exact(Kd.R_reads' HO_3.out).2.2|(with_reducible refine Kd.C_alloc ?_ _)|(with_reducible refine Kd.C_drewN ?_ _)|(with_reducible refine Kd.C_drew ?_))):P:=h
theorem z12_10 {P:Prop} (h:P:=by exact(by(with_reducible repeat(first|apply Kd.S_alloc|apply Kd.S_drewN|apply Kd.S_drew));exact Kd.S_mono HO_3.out (λk_ hk=>⟨trivial,λe_=>hk.2 e_⟩))):P:=h
def r02_Bytes.l0:Nat->List Int->List Int->Int->Option (Bool)
 | 0,_,_,_=>none
 | k+1,x0,x1,x5=>if x5<(x0.length:Int) then(if 0<=x5 then(if x5<(x1.length:Int) then(if (rd x0 x5)=(rd x1 x5) then(r02_Bytes.l0 k x0 x1 (wrap64 (x5+1))) else(some false)) else(none)) else(none)) else(some true)
def r02_Bytes.f (k:Nat) (l0:List Int) (l1:List Int):Option (Bool):=if (l0.length:Int)=(l1.length:Int) then(r02_Bytes.l0 k l0 l1 0) else(some false)
theorem r02_Bytes.calls (k:Nat) (A0:Option Addr) (c0:Nat) (l0:List Int) (A1:Option Addr) (c1:Nat) (l1:List Int) (r:Bool) (w:World) (hr0:Kd.C (Kd.int .u8) w A0 l0.length l0) (hc0:l0.length<=c0) (hr1:Kd.C (Kd.int .u8) w A1 l1.length l1) (hc1:l1.length<=c1) (h:r02_Bytes.f k l0 l1=some r) :
  Calls Try.prog 23 #[.slice A0 l0.length c0,.slice A1 l1.length c1] w λe w'=>e = .returned (.bool r)/\Drawn0 w w':=by
 have HR0:=Aside0.mk hr0
 have HC0:=Aside0.mk hc0
 clear hr0 hc0
 have HR1:=Aside0.mk hr1
 have HC1:=Aside0.mk hc1
 clear hr1 hc1
 have H:(if (l0.length:Int)=(l1.length:Int) then(r02_Bytes.l0 k l0 l1 0) else(some false))=some r:=h
 clear h
 by_cases c3:(l0.length:Int)=(l1.length:Int)
 rotate_left
 ·rw [if_neg c3] at H
  have c3b0:((l0.length:Int) == (l1.length:Int))=false:=beq_eq_false_iff_ne.mpr c3
  have c3b1:((l0.length:Int) != (l1.length:Int))=true:=bne_iff_ne.mpr c3
  have c3b2:(l0.length == l1.length)=false:=by first|simpa using c3|(simp at c3 ⊢;omega)
  obtain rfl:=sI_ H
  go_enter Try.func23,Try.ntmps23
  go_wp2
  repeat(go_quiet (fail);try go_wp2)
  go_ret
  exact ⟨z10_4,z10_3⟩
 rw [if_pos c3] at H
 have c3b0:((l0.length:Int) == (l1.length:Int))=true:=beq_iff_eq.mpr c3
 have c3b1:((l0.length:Int) != (l1.length:Int))=false:=bne_eq_false_iff_eq.mpr c3
 have c3b2:(l0.length == l1.length)=true:=by first|simpa using c3|(simp at c3 ⊢;omega)
 clear c3
 have H':=Aside0.mk H
 clear H
 go_enter Try.func23,Try.ntmps23
 go_wp2
 repeat(go_quiet (fail);try go_wp2)
 go_loopg [5] k (λkq v5 w'=>∃ (x5_1:Int),v5 = .int .i64 x5_1/\Aside0 (r02_Bytes.l0 kq l0 l1 x5_1=some r)/\Aside0 (kq<=k)/\Drawn0 w w')
 case atStart=>exact ⟨(0),z10_4,H',⟨Nat.le_refl _⟩,z10_3⟩
 case round =>
 clear H'
 try clear c1
 try clear c2
 try clear p2
 try clear c3
 try clear c3b0
 try clear c3b1
 try clear c3b2
 obtain ⟨x5_1,rfl,HA,HK1,⟨m1,rfl⟩⟩:=hrel
 cases gk with
 | zero=>exact absurd HA.out (by simp [r02_Bytes.l0])
 | succ k1 =>
 have H:=HA.out
 clear HA
 simp only [r02_Bytes.l0] at H
 by_cases c4:x5_1<(l0.length:Int)
 rotate_left
 ·rw [if_neg c4] at H
  have c4b0:decide (x5_1<(l0.length:Int))=false:=dF_ c4
  clear c4
  obtain rfl:=sI_ H
  go_wp2
  repeat(go_quiet (fail);try go_wp2)
  go_ret
  exact ⟨z10_4,z10_3⟩
 rw [if_pos c4] at H
 have c4b0:decide (x5_1<(l0.length:Int))=true:=dT_ c4
 clear c4
 by_cases c5:0<=x5_1
 rotate_left
 ·rw [if_neg c5] at H
  exact absurd H (by simp)
 rw [if_pos c5] at H
 have c5b0:decide (0<=x5_1)=true:=dT_ c5
 clear c5
 by_cases c6:x5_1<(l1.length:Int)
 rotate_left
 ·rw [if_neg c6] at H
  exact absurd H (by simp)
 rw [if_pos c6] at H
 have c6b0:decide (x5_1<(l1.length:Int))=true:=dT_ c6
 clear c6
 by_cases c7:(rd l0 x5_1)=(rd l1 x5_1)
 rotate_left
 ·rw [if_neg c7] at H
  have c7b0:((rd l0 x5_1) == (rd l1 x5_1))=false:=beq_eq_false_iff_ne.mpr c7
  have c7b1:((rd l0 x5_1) != (rd l1 x5_1))=true:=bne_iff_ne.mpr c7
  obtain rfl:=sI_ H
  have p242:0<=(x5_1:Int):=oD_ z10_1
  have q242:x5_1<(l0.length:Int):=oD_ z10_1
  obtain ⟨ad242,e242,hx242_0⟩:=Kd.at_int HR0.out x5_1 p242 q242
  cases e242
  replace p242:=eq_true p242
  replace q242:=eq_true q242
  have p243:0<=(x5_1:Int):=oD_ z10_1
  have q243:x5_1<(l1.length:Int):=oD_ z10_1
  obtain ⟨ad243,e243,hx243_0⟩:=Kd.at_int HR1.out x5_1 p243 q243
  cases e243
  replace p243:=eq_true p243
  replace q243:=eq_true q243
  go_wp2
  repeat(go_quiet (fail);try go_wp2)
  go_ret
  exact ⟨z10_4,z10_3⟩
 rw [if_pos c7] at H
 have c7b0:((rd l0 x5_1) == (rd l1 x5_1))=true:=beq_iff_eq.mpr c7
 have c7b1:((rd l0 x5_1) != (rd l1 x5_1))=false:=bne_eq_false_iff_eq.mpr c7
 clear c7
 have H':=Aside0.mk H
 clear H
 have p242:0<=(x5_1:Int):=oD_ z10_1
 have q242:x5_1<(l0.length:Int):=oD_ z10_1
 obtain ⟨ad242,e242,hx242_0⟩:=Kd.at_int HR0.out x5_1 p242 q242
 cases e242
 replace p242:=eq_true p242
 replace q242:=eq_true q242
 have p243:0<=(x5_1:Int):=oD_ z10_1
 have q243:x5_1<(l1.length:Int):=oD_ z10_1
 obtain ⟨ad243,e243,hx243_0⟩:=Kd.at_int HR1.out x5_1 p243 q243
 cases e243
 replace p243:=eq_true p243
 replace q243:=eq_true q243
 go_wp2
 repeat(go_quiet (fail);try go_wp2)
 go_roundg k1
 case measure=>have:=HK1.out;omega
 case rel=>exact ⟨(wrap64 (x5_1+1)),z10_4,H',⟨(by have:=HK1.out;omega)⟩,z10_3⟩
def r02_Num.l0:Nat->Int->List Int->Option (List Int)
 | 0,_,_=>none
 | k+1,x0,x3=>if x0 > 0 then((some (([(Int.tmod x0 256) % 256]:List Int):List Int)).bind λy247=>(if y247.length+x3.length<140737488355328 then(r02_Num.l0 k (IntKind.u64.wrap (Int.tdiv x0 256)) (y247++x3)) else(none))) else((some (([((x3.length:Int)) % 256]:List Int):List Int)).bind λy253=>(if y253.length+x3.length<140737488355328 then(some (y253++x3)) else(none)))
def r02_Num.f (k:Nat) (a0:Int):Option (List Int):=r02_Num.l0 k a0 (([]:List Int))
theorem r02_Num.calls (k:Nat) (a0:Int) (r:List Int) (w:World) (h:r02_Num.f k a0=some r) :
  Calls Try.prog 98 #[.int .u64 a0] w λe w'=>∃ v0_:Value,e = .returned (v0_)/\Kd.R (Kd.int .u8) 5 w' w.heap.size (λ_=>True) v0_ r/\Below w.heap.size w w':=by
 have HB:=U (Below.refl w.heap.size w)
 have H:(r02_Num.l0 k a0 (([]:List Int)))=some r:=h
 clear h
 obtain ⟨y244,hy244⟩:∃ y_:List Int,y_=(([]:List Int)):=⟨_,rfl⟩
 replace H:(r02_Num.l0 k a0 y244)=some r:=by first|(rw [hy244];with_reducible exact H)|(have H2_:=(Option.bind_some _ _).symm.trans H;rw [hy244];with_reducible exact H2_)|(have H2_:=(Option.bind_some _ _).symm.trans H;with_reducible exact H2_)|with_reducible exact H|(rw [hy244];exact H)|exact H
 have Ny244:=Aside0.mk hy244
 clear hy244
 have H':=Aside0.mk H
 clear H
 go_enter Try.func98,Try.ntmps98
 go_wp2_with (first|((with_reducible refine gate_dst (N:=4) rfl ?_);refine Kd.R_lit (Kd.int .u8) _ 5 ?hg (N:=4) ?hd (xs:=([]:List Int)) (inner:=[]) (ok:=λ_=>True) (okp:=λ_=>True) ?hr ?hp (λ_ hk=>hk) trivial (Below.refl _ _) (Nat.le_refl _) (by simp) ?_;(case hd=>rfl);(case hg=>rfl);(case hr=>exact z10_10);(case hp=>exact(Reps.none _ _));intro v245 w2 ho3 hb hg_ hnew_;clear hg_ hnew_;(first|rw [<-Ny244.out] at ho3|(simp only [Int.reduceToNat] at ho3;rw [<-Ny244.out] at ho3));have HO246:=U (Kd.R_lower ho3 (below_size z10_0));replace HB:=U (below_step z10_0 hb);clear hb ho3))
 go_loopg [0,3] k (λkq v0 v3 w'=>∃ (x0_1:Int) (x3_1:List Int),v0 = .int .u64 x0_1/\Aside0 (r02_Num.l0 kq x0_1 x3_1=some r)/\Aside0 (kq<=k)/\Aside0 (Kd.R (Kd.int .u8) 5 w' w.heap.size (λ_=>True) v3 x3_1)/\Aside0 (Below w.heap.size w w'))
 case atStart=>exact ⟨(a0),(y244),z10_4,H',⟨Nat.le_refl _⟩,⟨(by(with_reducible repeat(first|apply Kd.R_alloc|apply Kd.R_drewN|apply Kd.R_drew));exact HO246.out)⟩,⟨z10_0⟩⟩
 case round =>
 clear H'
 try clear p2
 obtain ⟨x0_1,x3_1,rfl,HA,HK1,HO_3,HB⟩:=hrel
 cases gk with
 | zero=>exact absurd HA.out (by simp [r02_Num.l0])
 | succ k1 =>
 have H:=HA.out
 clear HA
 simp only [r02_Num.l0] at H
 by_cases c4:x0_1 > 0
 ·rw [if_pos c4] at H
  have c4b0:decide (0<x0_1)=true:=dT_ c4
  clear c4
  obtain ⟨y247,hy247⟩:∃ y_:List Int,y_=(([(Int.tmod x0_1 256) % 256]:List Int)):=⟨_,rfl⟩
  replace H:(if y247.length+x3_1.length<140737488355328 then(r02_Num.l0 k1 (IntKind.u64.wrap (Int.tdiv x0_1 256)) (y247++x3_1)) else(none))=some r:=by first|(rw [hy247];with_reducible exact H)|(have H2_:=(Option.bind_some _ _).symm.trans H;rw [hy247];with_reducible exact H2_)|(have H2_:=(Option.bind_some _ _).symm.trans H;with_reducible exact H2_)|with_reducible exact H|(rw [hy247];exact H)|exact H
  have Ny247:=Aside0.mk hy247
  clear hy247
  by_cases c5:y247.length+x3_1.length<140737488355328
  rotate_left
  ·rw [if_neg c5] at H
   exact absurd H (by simp)
  rw [if_pos c5] at H
  have LMc5:=Aside0.mk c5
  clear c5
  obtain ⟨y250,hy250⟩:∃ y_:List Int,y_=(y247++x3_1):=⟨_,rfl⟩
  replace H:(r02_Num.l0 k1 (IntKind.u64.wrap (Int.tdiv x0_1 256)) y250)=some r:=by first|(rw [hy250];with_reducible exact H)|(have H2_:=(Option.bind_some _ _).symm.trans H;rw [hy250];with_reducible exact H2_)|(have H2_:=(Option.bind_some _ _).symm.trans H;with_reducible exact H2_)|with_reducible exact H|(rw [hy250];exact H)|exact H
  have Ny250:=Aside0.mk hy250
  clear hy250
  have H':=Aside0.mk H
  clear H
  go_wp2_with (first|((with_reducible refine gate_dst (N:=10) rfl ?_);refine Kd.R_lit (Kd.int .u8) _ 5 ?hg (N:=10) ?hd (xs:=([(Int.tmod x0_1 256) % 256]:List Int)) (inner:=[.int .u8 ((Int.tmod x0_1 256) % 256)]) (ok:=λ_=>True) (okp:=λ_=>True) ?hr ?hp (λ_ hk=>hk) trivial (Below.refl _ _) (Nat.le_refl _) (by simp) ?_;(case hd=>rfl);(case hg=>rfl);(case hr=>exact z10_10);(case hp=>exact(Reps.one (show Kd.M (Kd.int .u8) _ _ _ ((Int.tmod x0_1 256) % 256) [.int .u8 ((Int.tmod x0_1 256) % 256)] from rfl) (Reps.none _ _)));intro v248 w6 ho7 hb hg_ hnew_;clear hg_ hnew_;(first|rw [<-Ny247.out] at ho7|(simp only [Int.reduceToNat] at ho7;rw [<-Ny247.out] at ho7));have HO249:=U (Kd.R_lower (Kd.R_new' ho7 (Kd.R_lt z10_7)) (below_size z10_0));replace HO_3:=U (Kd.R_elder' z10_7 (Kd.R_base ho7) hb);replace HB:=U (below_step z10_0 hb);clear hb ho7;obtain ⟨Ao9,co9,eo9⟩:=Kd.R_slice HO_3.out;subst eo9)|((with_reducible refine gate_builtin (b:=.append) (xs:=#[.tmp 10,.tmp 11]) rfl ?_);at_builtin;refine Kd.R_append_rows (Kd.int .u8) (w0:=w) w.heap.size rfl (.tmp 10) (.tmp 11) 22 5 (.int .u8 0) 1 rfl Try.underlying22 info5 rfl (by decide) (by omega) v248 y247 x3_1 _ _ _ (λk_=>some k_≠(.slice Ao9 x3_1.length co9:Value).ownBlock) (λ_=>False) rfl rfl ?aO ?aR (λ_ _ h=>h) (λ_ h=>h.elim) ?aF ?aB ?aS ?aL ?_;(case aR=>exact z12_9);(case aB=>exact z10_0);(case aF=>exact(λk_ hk=>Kd.fresh' (Kd.R_lt z10_7) k_ hk));(case aO=>exact(by(with_reducible repeat(first|apply Kd.R_alloc|apply Kd.R_drewN|apply Kd.R_drew));exact Kd.R_mono HO249.out (λ_ hk=>hk.2)));(case aS=>exact(below_size z10_0));(case aL=>have:=LMc5.out;omega);intro v251 w8 ho hb hg hat;rw [<-Ny250.out] at ho;replace HO_3:=U (Kd.R_after (ok:=(λ_=>True)) z10_7 hg hat);replace HB:=U (hb);have HO252:=U (ho);clear HO249;clear ho hb hg hat))
  go_roundg k1
  case measure=>have:=HK1.out;omega
  case rel=>exact ⟨(IntKind.u64.wrap (Int.tdiv x0_1 256)),(y250),z10_4,H',⟨(by have:=HK1.out;omega)⟩,⟨(by(with_reducible repeat(first|apply Kd.R_alloc|apply Kd.R_drewN|apply Kd.R_drew));exact Kd.R_mono HO252.out (λ_ hk=>trivial))⟩,⟨z10_0⟩⟩
 rw [if_neg c4] at H
 have c4b0:decide (0<x0_1)=false:=dF_ c4
 clear c4
 obtain ⟨y253,hy253⟩:∃ y_:List Int,y_=(([((x3_1.length:Int)) % 256]:List Int)):=⟨_,rfl⟩
 replace H:(if y253.length+x3_1.length<140737488355328 then(some (y253++x3_1)) else(none))=some r:=by first|(rw [hy253];with_reducible exact H)|(have H2_:=(Option.bind_some _ _).symm.trans H;rw [hy253];with_reducible exact H2_)|(have H2_:=(Option.bind_some _ _).symm.trans H;with_reducible exact H2_)|with_reducible exact H|(rw [hy253];exact H)|exact H
 have Ny253:=Aside0.mk hy253
 clear hy253
 by_cases c10:y253.length+x3_1.length<140737488355328
 rotate_left
 ·rw [if_neg c10] at H
  exact absurd H (by simp)
 rw [if_pos c10] at H
 have LMc10:=Aside0.mk c10
 clear c10
 obtain ⟨y256,hy256⟩:∃ y_:List Int,y_=(y253++x3_1):=⟨_,rfl⟩
 replace H:(some y256)=some r:=by first|(rw [hy256];with_reducible exact H)|(have H2_:=(Option.bind_some _ _).symm.trans H;rw [hy256];with_reducible exact H2_)|(have H2_:=(Option.bind_some _ _).symm.trans H;with_reducible exact H2_)|with_reducible exact H|(rw [hy256];exact H)|exact H
 have Ny256:=Aside0.mk hy256
 clear hy256
 obtain rfl:=sI_ H
 obtain ⟨Ao11,co11,eo11⟩:=Kd.R_slice HO_3.out
 subst eo11
 go_wp2_with (first|((with_reducible refine gate_dst (N:=18) rfl ?_);refine Kd.R_lit (Kd.int .u8) _ 5 ?hg (N:=18) ?hd (xs:=([((x3_1.length:Int)) % 256]:List Int)) (inner:=[.int .u8 (((x3_1.length:Int)) % 256)]) (ok:=λ_=>True) (okp:=λ_=>True) ?hr ?hp (λ_ hk=>hk) trivial (Below.refl _ _) (Nat.le_refl _) (by simp) ?_;(case hd=>rfl);(case hg=>rfl);(case hr=>exact z10_10);(case hp=>exact(Reps.one (show Kd.M (Kd.int .u8) _ _ _ (((x3_1.length:Int)) % 256) [.int .u8 (((x3_1.length:Int)) % 256)] from rfl) (Reps.none _ _)));intro v254 w12 ho13 hb hg_ hnew_;clear hg_ hnew_;(first|rw [<-Ny253.out] at ho13|(simp only [Int.reduceToNat] at ho13;rw [<-Ny253.out] at ho13));have HO255:=U (Kd.R_lower (Kd.R_new' ho13 (Kd.R_lt z10_7)) (below_size z10_0));replace HO_3:=U (Kd.R_elder' z10_7 (Kd.R_base ho13) hb);replace HB:=U (below_step z10_0 hb);clear hb ho13)|((with_reducible refine gate_builtin (b:=.append) (xs:=#[.tmp 18,.tmp 19]) rfl ?_);at_builtin;refine Kd.R_append_rows (Kd.int .u8) (w0:=w) w.heap.size rfl (.tmp 18) (.tmp 19) 22 5 (.int .u8 0) 1 rfl Try.underlying22 info5 rfl (by decide) (by omega) v254 y253 x3_1 _ _ _ (λk_=>some k_≠(.slice Ao11 x3_1.length co11:Value).ownBlock) (λ_=>False) rfl rfl ?aO ?aR (λ_ _ h=>h) (λ_ h=>h.elim) ?aF ?aB ?aS ?aL ?_;(case aR=>exact z12_9);(case aB=>exact z10_0);(case aF=>exact(λk_ hk=>Kd.fresh' (Kd.R_lt z10_7) k_ hk));(case aO=>exact(by(with_reducible repeat(first|apply Kd.R_alloc|apply Kd.R_drewN|apply Kd.R_drew));exact Kd.R_mono HO255.out (λ_ hk=>hk.2)));(case aS=>exact(below_size z10_0));(case aL=>have:=LMc10.out;omega);intro v257 w14 ho hb hg hat;rw [<-Ny256.out] at ho;replace HO_3:=U (Kd.R_after (ok:=(λ_=>True)) z10_7 hg hat);replace HB:=U (hb);have HO258:=U (ho);clear HO255;clear ho hb hg hat))
 go_ret
 exact ⟨_,z10_8,(by(with_reducible repeat(first|apply Kd.R_alloc|apply Kd.R_drewN|apply Kd.R_drew));exact Kd.R_mono HO258.out (λ_ hk=>trivial)),z10_0⟩
def r02_Text.f (k:Nat) (l0:List Int):Option (List Int):=(r02_Num.f k (IntKind.u64.wrap ((l0.length:Int)))).bind λt259=>(if t259.length+l0.length<140737488355328 then(some (t259++l0)) else(none))
theorem r02_Text.calls (k:Nat) (A0:Option Addr) (c0:Nat) (l0:List Int) (r:List Int) (w:World) (hr0:Kd.C (Kd.int .u8) w A0 l0.length l0) (hc0:l0.length<=c0) (h:r02_Text.f k l0=some r) :
  Calls Try.prog 99 #[.slice A0 l0.length c0] w λe w'=>∃ v0_:Value,e = .returned (v0_)/\Kd.R (Kd.int .u8) 5 w' w.heap.size (λ_=>True) v0_ r/\Below w.heap.size w w':=by
 have HR0:=Aside0.mk hr0
 have HC0:=Aside0.mk hc0
 clear hr0 hc0
 have HB:=U (Below.refl w.heap.size w)
 have H:((r02_Num.f k (IntKind.u64.wrap ((l0.length:Int)))).bind λt259=>(if t259.length+l0.length<140737488355328 then(some (t259++l0)) else(none)))=some r:=h
 clear h
 replace H:=oB_ H
 obtain ⟨t259,A20,H⟩:=H
 replace H:(if t259.length+l0.length<140737488355328 then(some (t259++l0)) else(none))=some r:=H
 have A2:=Aside0.mk A20
 clear A20
 by_cases c3:t259.length+l0.length<140737488355328
 rotate_left
 ·rw [if_neg c3] at H
  exact absurd H (by simp)
 rw [if_pos c3] at H
 have LMc3:=Aside0.mk c3
 clear c3
 obtain ⟨y262,hy262⟩:∃ y_:List Int,y_=(t259++l0):=⟨_,rfl⟩
 replace H:(some y262)=some r:=by first|(rw [hy262];with_reducible exact H)|(have H2_:=(Option.bind_some _ _).symm.trans H;rw [hy262];with_reducible exact H2_)|(have H2_:=(Option.bind_some _ _).symm.trans H;with_reducible exact H2_)|with_reducible exact H|(rw [hy262];exact H)|exact H
 have Ny262:=Aside0.mk hy262
 clear hy262
 obtain rfl:=sI_ H
 go_enter Try.func99,Try.ntmps99
 go_wp2_with (first|((with_reducible refine gate_callee (f:=98) rfl ?_);refine goesL_ (some 6) rfl rfl Try.func98 (by kernel_rfl) rfl #[.int .u64 (IntKind.u64.wrap ((l0.length:Int)))] rfl z10_2 ?_;(with_reducible refine(r02_Num.calls k (IntKind.u64.wrap ((l0.length:Int))) t259 _ A2.out).mono ?_);rintro e w4 ⟨v260,rfl,ho0,hb⟩;refine ⟨_,rfl,?_⟩;have HO261:=U (Kd.R_lower ho0 (below_size z10_0));replace HB:=U (below_step z10_0 hb);(try clear hb);(try clear hb2);(try clear hk);(try clear hi);(try clear ho0))|((with_reducible refine gate_builtin (b:=.append) (xs:=#[.tmp 6,.tmp 7]) rfl ?_);at_builtin;refine Kd.R_append_rows (Kd.int .u8) (w0:=w) w.heap.size rfl (.tmp 6) (.tmp 7) 22 5 (.int .u8 0) 1 rfl Try.underlying22 info5 rfl (by decide) (by omega) v260 t259 l0 _ _ _ (λ_=>True) (λ_=>False) rfl rfl ?aO ?aR (λ_ _ h=>h) (λ_ h=>h.elim) ?aF ?aB ?aS ?aL ?_;(case aR=>repeat(first|exact(Kd.C_below HR0.out HB.out)|(with_reducible refine Kd.C_alloc ?_ _)|(with_reducible refine Kd.C_drewN ?_ _)|(with_reducible refine Kd.C_drew ?_)));(case aB=>exact z10_0);(case aF=>exact(λ_ _=>trivial));(case aO=>exact(by(with_reducible repeat(first|apply Kd.R_alloc|apply Kd.R_drewN|apply Kd.R_drew));exact HO261.out));(case aS=>exact(below_size z10_0));(case aL=>have:=LMc3.out;omega);intro v263 w5 ho hb hg hat;rw [<-Ny262.out] at ho;replace HB:=U (hb);have HO264:=U (ho);clear HO261;clear ho hb hg hat))
 go_ret
 exact ⟨_,z10_8,(by(with_reducible repeat(first|apply Kd.R_alloc|apply Kd.R_drewN|apply Kd.R_drew));exact HO264.out),z10_0⟩
def r02_Pack.l0:Nat->List (List Int)->List Int->Int->Option (List Int)
 | 0,_,_,_=>none
 | k+1,x0,x3,x4=>if x4<(x0.length:Int) then(if 0<=x4 then((r02_Text.f k (rd_L10 x0 x4)).bind λt269=>(if x3.length+t269.length<140737488355328 then(r02_Pack.l0 k x0 (x3++t269) (wrap64 (x4+1))) else(none))) else(none)) else(some x3)
def r02_Pack.f (k:Nat) (l0:List (List Int)):Option (List Int):=(r02_Num.f k (IntKind.u64.wrap ((l0.length:Int)))).bind λt265=>(r02_Pack.l0 k l0 t265 0)
theorem r02_Pack.calls (k:Nat) (A0:Option Addr) (c0:Nat) (l0:List (List Int)) (r:List Int) (w:World) (hr0:Kd.C (Kd.slice 5 (Kd.int .u8)) w A0 l0.length l0) (hc0:l0.length<=c0) (h:r02_Pack.f k l0=some r) :
  Calls Try.prog 75 #[.slice A0 l0.length c0] w λe w'=>∃ v0_:Value,e = .returned (v0_)/\Kd.R (Kd.int .u8) 5 w' w.heap.size (λ_=>True) v0_ r/\Below w.heap.size w w':=by
 have HR0:=Aside0.mk hr0
 have HC0:=Aside0.mk hc0
 clear hr0 hc0
 have HB:=U (Below.refl w.heap.size w)
 have H:((r02_Num.f k (IntKind.u64.wrap ((l0.length:Int)))).bind λt265=>(r02_Pack.l0 k l0 t265 0))=some r:=h
 clear h
 replace H:=oB_ H
 obtain ⟨t265,A20,H⟩:=H
 replace H:(r02_Pack.l0 k l0 t265 0)=some r:=H
 have A2:=Aside0.mk A20
 clear A20
 have H':=Aside0.mk H
 clear H
 go_enter Try.func75,Try.ntmps75
 go_wp2_with (first|((with_reducible refine gate_callee (f:=98) rfl ?_);refine goesL_ (some 8) rfl rfl Try.func98 (by kernel_rfl) rfl #[.int .u64 (IntKind.u64.wrap ((l0.length:Int)))] rfl z10_2 ?_;(with_reducible refine(r02_Num.calls k (IntKind.u64.wrap ((l0.length:Int))) t265 _ A2.out).mono ?_);rintro e w3 ⟨v266,rfl,ho0,hb⟩;refine ⟨_,rfl,?_⟩;have HO267:=U (Kd.R_lower ho0 (below_size z10_0));replace HB:=U (below_step z10_0 hb);(try clear hb);(try clear hb2);(try clear hk);(try clear hi);(try clear ho0)))
 go_loopg [3,4] k (λkq v3 v4 w'=>∃ (x3_1:List Int) (x4_1:Int),v4 = .int .i64 x4_1/\Aside0 (r02_Pack.l0 kq l0 x3_1 x4_1=some r)/\Aside0 (kq<=k)/\Aside0 (Kd.R (Kd.int .u8) 5 w' w.heap.size (λ_=>True) v3 x3_1)/\Aside0 (Below w.heap.size w w'))
 case atStart=>exact ⟨(t265),(0),z10_4,H',⟨Nat.le_refl _⟩,⟨(by(with_reducible repeat(first|apply Kd.R_alloc|apply Kd.R_drewN|apply Kd.R_drew));exact HO267.out)⟩,⟨z10_0⟩⟩
 case round =>
 clear H'
 try clear p2
 obtain ⟨x3_1,x4_1,rfl,HA,HK1,HO_3,HB⟩:=hrel
 cases gk with
 | zero=>exact absurd HA.out (by simp [r02_Pack.l0])
 | succ k1 =>
 have H:=HA.out
 clear HA
 simp only [r02_Pack.l0] at H
 by_cases c4:x4_1<(l0.length:Int)
 rotate_left
 ·rw [if_neg c4] at H
  have c4b0:decide (x4_1<(l0.length:Int))=false:=dF_ c4
  clear c4
  obtain rfl:=sI_ H
  go_wp2
  go_ret
  exact ⟨_,z10_8,z10_7,z10_0⟩
 rw [if_pos c4] at H
 have c4b0:decide (x4_1<(l0.length:Int))=true:=dT_ c4
 clear c4
 by_cases c5:0<=x4_1
 rotate_left
 ·rw [if_neg c5] at H
  exact absurd H (by simp)
 rw [if_pos c5] at H
 have c5b0:decide (0<=x4_1)=true:=dT_ c5
 clear c5
 replace H:=oB_ H
 obtain ⟨t269,A60,H⟩:=H
 replace H:(if x3_1.length+t269.length<140737488355328 then(r02_Pack.l0 k1 l0 (x3_1++t269) (wrap64 (x4_1+1))) else(none))=some r:=H
 have A6:=Aside0.mk A60
 clear A60
 by_cases c7:x3_1.length+t269.length<140737488355328
 rotate_left
 ·rw [if_neg c7] at H
  exact absurd H (by simp)
 rw [if_pos c7] at H
 have LMc7:=Aside0.mk c7
 clear c7
 obtain ⟨y272,hy272⟩:∃ y_:List Int,y_=(x3_1++t269):=⟨_,rfl⟩
 replace H:(r02_Pack.l0 k1 l0 y272 (wrap64 (x4_1+1)))=some r:=by first|(rw [hy272];with_reducible exact H)|(have H2_:=(Option.bind_some _ _).symm.trans H;rw [hy272];with_reducible exact H2_)|(have H2_:=(Option.bind_some _ _).symm.trans H;with_reducible exact H2_)|with_reducible exact H|(rw [hy272];exact H)|exact H
 have Ny272:=Aside0.mk hy272
 clear hy272
 have H':=Aside0.mk H
 clear H
 have p268:0<=(x4_1:Int):=oD_ z10_1
 have q268:x4_1<(l0.length:Int):=oD_ z10_1
 obtain ⟨ad268,A268_0,c268_0,e268,hx268_0,hl268_0,hi268_0⟩:=at_L10 HR0.out x4_1 p268 q268
 cases e268
 replace hx268_0:=(HB.out.cell (World.block_lt_of_cell? w _ hx268_0)).trans hx268_0
 have HR268_0:=Aside0.mk hi268_0
 have HC268_0:=Aside0.mk hl268_0
 clear hi268_0 hl268_0
 replace p268:=eq_true p268
 replace q268:=eq_true q268
 go_wp2_with (first|((with_reducible refine gate_callee (f:=99) rfl ?_);refine goesL_ (some 20) rfl rfl Try.func99 (by kernel_rfl) rfl #[.slice A268_0 (rd_L10 l0 x4_1).length c268_0] rfl z10_2 ?_;(with_reducible refine(r02_Text.calls k1 _ _ (rd_L10 l0 x4_1) t269 _ ?side1 ?side2 A6.out).mono ?_);(case side1=>repeat(first|exact(Kd.C_below HR268_0.out HB.out)|(with_reducible refine Kd.C_alloc ?_ _)|(with_reducible refine Kd.C_drewN ?_ _)|(with_reducible refine Kd.C_drew ?_)));(case side2=>exact HC268_0.out);rintro e w8 ⟨v270,rfl,ho0,hb⟩;refine ⟨_,rfl,?_⟩;have HO271:=U (Kd.R_lower (Kd.R_new' ho0 (Kd.R_lt z10_7)) (below_size z10_0));replace HO_3:=U (Kd.R_elder' z10_7 (Kd.R_base ho0) hb);replace HB:=U (below_step z10_0 hb);(try clear hb);(try clear hb2);(try clear hk);(try clear hi);(try clear ho0);obtain ⟨Ao10,co10,eo10⟩:=Kd.R_slice HO271.out;subst eo10)|((with_reducible refine gate_builtin (b:=.append) (xs:=#[.tmp 15,.tmp 20]) rfl ?_);at_builtin;refine Kd.R_append_rows (Kd.int .u8) (w0:=w) w.heap.size rfl (.tmp 15) (.tmp 20) 22 5 (.int .u8 0) 1 rfl Try.underlying22 info5 rfl (by decide) (by omega) u3 x3_1 t269 _ _ _ (λk_=>some k_≠(.slice Ao10 t269.length co10:Value).ownBlock) (λ_=>False) rfl rfl ?aO ?aR (λ_ _ h=>h) (λ_ h=>h.elim) ?aF ?aB ?aS ?aL ?_;(case aR=>repeat(first|exact(Kd.R_reads' HO271.out).2.2|(with_reducible refine Kd.C_alloc ?_ _)|(with_reducible refine Kd.C_drewN ?_ _)|(with_reducible refine Kd.C_drew ?_)));(case aB=>exact z10_0);(case aF=>exact(λk_ hk=>Kd.fresh' (Kd.R_lt (by(with_reducible repeat(first|apply Kd.R_alloc|apply Kd.R_drewN|apply Kd.R_drew));exact HO271.out)) k_ hk));(case aO=>exact(by(with_reducible repeat(first|apply Kd.R_alloc|apply Kd.R_drewN|apply Kd.R_drew));exact Kd.R_mono HO_3.out (λ_ hk=>hk.2)));(case aS=>exact(below_size z10_0));(case aL=>have:=LMc7.out;omega);intro v273 w9 ho hb hg hat;rw [<-Ny272.out] at ho;replace HO271:=U (Kd.R_after (ok:=(λ_=>True)) (by(with_reducible repeat(first|apply Kd.R_alloc|apply Kd.R_drewN|apply Kd.R_drew));exact HO271.out) hg hat);replace HB:=U (hb);have HO274:=U (ho);clear HO_3;clear ho hb hg hat))
 go_roundg k1
 case measure=>have:=HK1.out;omega
 case rel=>exact ⟨(y272),(wrap64 (x4_1+1)),z10_4,H',⟨(by have:=HK1.out;omega)⟩,⟨(by(with_reducible repeat(first|apply Kd.R_alloc|apply Kd.R_drewN|apply Kd.R_drew));exact Kd.R_mono HO274.out (λ_ hk=>trivial))⟩,⟨z10_0⟩⟩
def r05_nums.l0:Nat->List Int->List (List Int)->Int->Option ((List (List Int)))
 | 0,_,_,_=>none
 | k+1,x0,x3,x4=>if x4<(x0.length:Int) then(if 0<=x4 then((r02_Num.f k (IntKind.u64.wrap (rd x0 x4))).bind λt279=>(if x3.length<5864062014805 then(r05_nums.l0 k x0 (x3++[t279]) (wrap64 (x4+1))) else(none))) else(none)) else(some x3)
def r05_nums.f (k:Nat) (l0:List Int):Option ((List (List Int))):=r05_nums.l0 k l0 (([]:List (List Int))) 0
theorem r05_nums.calls (k:Nat) (A0:Option Addr) (c0:Nat) (l0:List Int) (r:List (List Int)) (w:World) (hr0:Kd.C (Kd.int .i64) w A0 l0.length l0) (hc0:l0.length<=c0) (h:r05_nums.f k l0=some r) :
  Calls Try.prog 76 #[.slice A0 l0.length c0] w λe w'=>∃ v0_:Value,e = .returned (v0_)/\Kd.S (Kd.slice 5 (Kd.int .u8)) 22 w' w.heap.size (λ_=>True) v0_ r/\Below w.heap.size w w':=by
 have HR0:=Aside0.mk hr0
 have HC0:=Aside0.mk hc0
 clear hr0 hc0
 have HB:=U (Below.refl w.heap.size w)
 have H:(r05_nums.l0 k l0 (([]:List (List Int))) 0)=some r:=h
 clear h
 obtain ⟨y275,hy275⟩:∃ y_:List (List Int),y_=(([]:List (List Int))):=⟨_,rfl⟩
 replace H:(r05_nums.l0 k l0 y275 0)=some r:=by first|(rw [hy275];with_reducible exact H)|(have H2_:=(Option.bind_some _ _).symm.trans H;rw [hy275];with_reducible exact H2_)|(have H2_:=(Option.bind_some _ _).symm.trans H;with_reducible exact H2_)|with_reducible exact H|(rw [hy275];exact H)|exact H
 have Ny275:=Aside0.mk hy275
 clear hy275
 have H':=Aside0.mk H
 clear H
 go_enter Try.func76,Try.ntmps76
 go_wp2_with (first|((with_reducible refine gate_dst (N:=5) rfl ?_);refine Kd.S_lit (Kd.slice 5 (Kd.int .u8)) _ 22 ?hg (N:=5) ?hd (xs:=([]:List (List Int))) (inner:=[]) (ok:=λ_=>True) (okp:=λ_=>True) ?hr ?hp (λ_ hk=>hk) trivial (Below.refl _ _) (Nat.le_refl _) (by simp) ?_;(case hd=>rfl);(case hg=>rfl);(case hr=>exact z10_10);(case hp=>exact(Reps.none _ _));intro v276 w2 ho3 hb hg_ hnew_;clear hg_ hnew_;(first|rw [<-Ny275.out] at ho3|(simp only [Int.reduceToNat] at ho3;rw [<-Ny275.out] at ho3));have HO277:=U (Kd.S_lower ho3 (below_size z10_0));replace HB:=U (below_step z10_0 hb);clear hb ho3))
 go_loopg [3,4] k (λkq v3 v4 w'=>∃ (x3_1:List (List Int)) (x4_1:Int),v4 = .int .i64 x4_1/\Aside0 (r05_nums.l0 kq l0 x3_1 x4_1=some r)/\Aside0 (kq<=k)/\Aside0 (Kd.S (Kd.slice 5 (Kd.int .u8)) 22 w' w.heap.size (λ_=>True) v3 x3_1)/\Aside0 (Below w.heap.size w w'))
 case atStart=>exact ⟨(y275),(0),z10_4,H',⟨Nat.le_refl _⟩,⟨(by(with_reducible repeat(first|apply Kd.S_alloc|apply Kd.S_drewN|apply Kd.S_drew));exact HO277.out)⟩,⟨z10_0⟩⟩
 case round =>
 clear H'
 try clear p2
 obtain ⟨x3_1,x4_1,rfl,HA,HK1,HO_3,HB⟩:=hrel
 cases gk with
 | zero=>exact absurd HA.out (by simp [r05_nums.l0])
 | succ k1 =>
 have H:=HA.out
 clear HA
 simp only [r05_nums.l0] at H
 by_cases c4:x4_1<(l0.length:Int)
 rotate_left
 ·rw [if_neg c4] at H
  have c4b0:decide (x4_1<(l0.length:Int))=false:=dF_ c4
  clear c4
  obtain rfl:=sI_ H
  go_wp2
  go_ret
  exact ⟨_,z10_8,z12_5,z10_0⟩
 rw [if_pos c4] at H
 have c4b0:decide (x4_1<(l0.length:Int))=true:=dT_ c4
 clear c4
 by_cases c5:0<=x4_1
 rotate_left
 ·rw [if_neg c5] at H
  exact absurd H (by simp)
 rw [if_pos c5] at H
 have c5b0:decide (0<=x4_1)=true:=dT_ c5
 clear c5
 replace H:=oB_ H
 obtain ⟨t279,A60,H⟩:=H
 replace H:(if x3_1.length<5864062014805 then(r05_nums.l0 k1 l0 (x3_1++[t279]) (wrap64 (x4_1+1))) else(none))=some r:=H
 have A6:=Aside0.mk A60
 clear A60
 by_cases c7:x3_1.length<5864062014805
 rotate_left
 ·rw [if_neg c7] at H
  exact absurd H (by simp)
 rw [if_pos c7] at H
 have LMc7:=Aside0.mk c7
 clear c7
 obtain ⟨y282,hy282⟩:∃ y_:List (List Int),y_=(x3_1++[t279]):=⟨_,rfl⟩
 replace H:(r05_nums.l0 k1 l0 y282 (wrap64 (x4_1+1)))=some r:=by first|(rw [hy282];with_reducible exact H)|(have H2_:=(Option.bind_some _ _).symm.trans H;rw [hy282];with_reducible exact H2_)|(have H2_:=(Option.bind_some _ _).symm.trans H;with_reducible exact H2_)|with_reducible exact H|(rw [hy282];exact H)|exact H
 have Ny282:=Aside0.mk hy282
 clear hy282
 have H':=Aside0.mk H
 clear H
 have p278:0<=(x4_1:Int):=oD_ z10_1
 have q278:x4_1<(l0.length:Int):=oD_ z10_1
 obtain ⟨ad278,e278,hx278_0⟩:=Kd.at_int HR0.out x4_1 p278 q278
 cases e278
 replace hx278_0:=(HB.out.cell (World.block_lt_of_cell? w _ hx278_0)).trans hx278_0
 replace p278:=eq_true p278
 replace q278:=eq_true q278
 go_wp2_with (first|((with_reducible refine gate_callee (f:=98) rfl ?_);refine goesL_ (some 18) rfl rfl Try.func98 (by kernel_rfl) rfl #[.int .u64 (IntKind.u64.wrap (rd l0 x4_1))] rfl z10_2 ?_;(with_reducible refine(r02_Num.calls k1 (IntKind.u64.wrap (rd l0 x4_1)) t279 _ A6.out).mono ?_);rintro e w8 ⟨v280,rfl,ho0,hb⟩;refine ⟨_,rfl,?_⟩;replace HO_3:=U (Kd.S_elder' z12_5 (Kd.R_base ho0) hb);have HO281:=U (Kd.R_lower ho0 (below_size z10_0));replace HB:=U (below_step z10_0 hb);(try clear hb);(try clear hb2);(try clear hk);(try clear hi);(try clear ho0);obtain ⟨Ao10,co10,eo10⟩:=Kd.R_slice HO281.out;subst eo10)|((with_reducible refine gate_builtin (b:=.append) (xs:=#[.tmp 12,.tmp 19]) rfl ?_);at_builtin;refine Kd.S_append (Kd.slice 5 (Kd.int .u8)) (w0:=w) w.heap.size rfl (.tmp 12) (.tmp 19) 73 22 (.slice none 0 0) 24 rfl Try.underlying73 info22 rfl (by decide) (by omega) u3 x3_1 t279 [.slice Ao10 t279.length co10] (λ_=>True) (λk_=>some k_=(.slice Ao10 t279.length co10:Value).ownBlock) rfl rfl ?aP (λk_ hk_=>((Kd.R_mono (ok':=λk_=>((λ_=>True)) k_/\some k_≠(u3:Value).ownBlock) (Kd.R_apart' (HO281.out) (Kd.S_typed HO_3.out) (by decide)) (λk_ hk=>⟨trivial,hk.2⟩))).1 k_ hk_.symm) ?aF ?aO ?aB ?aS ?aL ?_;(case aP=>exact Kd.M_row (Kd.R_mono (Kd.R_tight rfl (Kd.R_mono (ok':=λk_=>((λ_=>True)) k_/\some k_≠(u3:Value).ownBlock) (Kd.R_apart' (HO281.out) (Kd.S_typed HO_3.out) (by decide)) (λk_ hk=>⟨trivial,hk.2⟩))) (λ_ h_=>h_)));(case aB=>exact z10_0);(case aF=>exact(λ_ _=>trivial));(case aO=>exact z12_10);(case aS=>exact(below_size z10_0));(case aL=>have:=LMc7.out;omega);intro v283 w9 ho hb hg hat;rw [<-Ny282.out] at ho;replace HB:=U (hb);have HO284:=U (ho);clear HO_3 HO281;clear ho hb hg hat))
 go_roundg k1
 case measure=>have:=HK1.out;omega
 case rel=>exact ⟨(y282),(wrap64 (x4_1+1)),z10_4,H',⟨(by have:=HK1.out;omega)⟩,⟨(by(with_reducible repeat(first|apply Kd.S_alloc|apply Kd.S_drewN|apply Kd.S_drew));exact HO284.out)⟩,⟨z10_0⟩⟩
def r03_Put.l0:Nat->List Int->List (List Int)->Int->Option (List Int)
 | 0,_,_,_=>none
 | k+1,x0,x3,x4=>if x4<(x0.length:Int) then(if 0<=x4 then((r02_Num.f k (IntKind.u64.wrap (rd x0 x4))).bind λt292=>(if x3.length<5864062014805 then(r03_Put.l0 k x0 (x3++[t292]) (wrap64 (x4+1))) else(none))) else(none)) else((r02_Pack.f k x3).bind λt298=>(some t298))
def r03_Put.f (k:Nat) (l0:List Int):Option (List Int):=(r03_Plain.f k l0).bind λt285=>(r03_Put.l0 k t285 (([]:List (List Int))) 0)
theorem r03_Put.calls (k:Nat) (A0:Option Addr) (c0:Nat) (l0:List Int) (r:List Int) (w:World) (hr0:Kd.C (Kd.int .i64) w A0 l0.length l0) (hc0:l0.length<=c0) (h:r03_Put.f k l0=some r) :
  Calls Try.prog 77 #[.slice A0 l0.length c0] w λe w'=>∃ v0_:Value,e = .returned (v0_)/\Kd.R (Kd.int .u8) 5 w' w.heap.size (λ_=>True) v0_ r/\Below w.heap.size w w':=by
 have HR0:=Aside0.mk hr0
 have HC0:=Aside0.mk hc0
 clear hr0 hc0
 have HB:=U (Below.refl w.heap.size w)
 have H:((r03_Plain.f k l0).bind λt285=>(r03_Put.l0 k t285 (([]:List (List Int))) 0))=some r:=h
 clear h
 replace H:=oB_ H
 obtain ⟨t285,A20,H⟩:=H
 replace H:(r03_Put.l0 k t285 (([]:List (List Int))) 0)=some r:=H
 have A2:=Aside0.mk A20
 clear A20
 obtain ⟨y288,hy288⟩:∃ y_:List (List Int),y_=(([]:List (List Int))):=⟨_,rfl⟩
 replace H:(r03_Put.l0 k t285 y288 0)=some r:=by first|(rw [hy288];with_reducible exact H)|(have H2_:=(Option.bind_some _ _).symm.trans H;rw [hy288];with_reducible exact H2_)|(have H2_:=(Option.bind_some _ _).symm.trans H;with_reducible exact H2_)|with_reducible exact H|(rw [hy288];exact H)|exact H
 have Ny288:=Aside0.mk hy288
 clear hy288
 have H':=Aside0.mk H
 clear H
 go_enter Try.func77,Try.ntmps77
 go_wp2_with (first|((with_reducible refine gate_callee (f:=44) rfl ?_);refine goesL_ (some 6) rfl rfl Try.func44 (by kernel_rfl) rfl #[.slice A0 l0.length c0] rfl z10_2 ?_;(with_reducible refine(r03_Plain.calls k _ _ l0 t285 _ ?side1 ?side2 A2.out).mono ?_);(case side1=>repeat(first|exact HR0.out|(with_reducible refine Kd.C_alloc ?_ _)|(with_reducible refine Kd.C_drewN ?_ _)|(with_reducible refine Kd.C_drew ?_)));(case side2=>exact HC0.out);rintro e w3 ⟨v286,rfl,ho0,hb⟩;refine ⟨_,rfl,?_⟩;have HO287:=U (Kd.R_lower ho0 (below_size z10_0));replace HB:=U (below_step z10_0 hb);(try clear hb);(try clear hb2);(try clear hk);(try clear hi);(try clear ho0))|((with_reducible refine gate_dst (N:=7) rfl ?_);refine Kd.S_lit (Kd.slice 5 (Kd.int .u8)) _ 22 ?hg (N:=7) ?hd (xs:=([]:List (List Int))) (inner:=[]) (ok:=λ_=>True) (okp:=λ_=>True) ?hr ?hp (λ_ hk=>hk) trivial (Below.refl _ _) (Nat.le_refl _) (by simp) ?_;(case hd=>rfl);(case hg=>rfl);(case hr=>exact z10_10);(case hp=>exact(Reps.none _ _));intro v289 w4 ho5 hb hg_ hnew_;clear hg_ hnew_;(first|rw [<-Ny288.out] at ho5|(simp only [Int.reduceToNat] at ho5;rw [<-Ny288.out] at ho5));replace HO287:=U (Kd.R_below (by(with_reducible repeat(first|apply Kd.R_alloc|apply Kd.R_drewN|apply Kd.R_drew));exact HO287.out) hb);have HO290:=U (Kd.S_lower ho5 (below_size z10_0));replace HB:=U (below_step z10_0 hb);clear hb ho5))
 go_loopg [3,4] k (λkq v3 v4 w'=>∃ (x3_1:List (List Int)) (x4_1:Int),v4 = .int .i64 x4_1/\Aside0 (r03_Put.l0 kq t285 x3_1 x4_1=some r)/\Aside0 (kq<=k)/\Aside0 (Kd.R (Kd.int .i64) 3 w' w.heap.size (λ_=>True) v286 t285)/\Aside0 (Kd.S (Kd.slice 5 (Kd.int .u8)) 22 w' w.heap.size (λ_=>True) v3 x3_1)/\Aside0 (Below w.heap.size w w'))
 case atStart=>exact ⟨(y288),(0),z10_4,H',⟨Nat.le_refl _⟩,⟨(by(with_reducible repeat(first|apply Kd.R_alloc|apply Kd.R_drewN|apply Kd.R_drew));exact HO287.out)⟩,⟨(by(with_reducible repeat(first|apply Kd.S_alloc|apply Kd.S_drewN|apply Kd.S_drew));exact HO290.out)⟩,⟨z10_0⟩⟩
 case round =>
 clear H'
 try clear p2
 try clear c4
 obtain ⟨x3_1,x4_1,rfl,HA,HK1,HO_0,HO_3,HB⟩:=hrel
 cases gk with
 | zero=>exact absurd HA.out (by simp [r03_Put.l0])
 | succ k1 =>
 have H:=HA.out
 clear HA
 simp only [r03_Put.l0] at H
 by_cases c6:x4_1<(t285.length:Int)
 rotate_left
 ·rw [if_neg c6] at H
  have c6b0:decide (x4_1<(t285.length:Int))=false:=dF_ c6
  clear c6
  replace H:=oB_ H
  obtain ⟨t298,A140,H⟩:=H
  replace H:(some t298)=some r:=H
  have A14:=Aside0.mk A140
  clear A140
  obtain rfl:=sI_ H
  obtain ⟨Ao15,co15,eo15⟩:=Kd.R_slice HO_0.out
  subst eo15
  obtain ⟨Ao16,co16,eo16⟩:=Kd.S_slice HO_3.out
  subst eo16
  go_wp2_with (first|((with_reducible refine gate_callee (f:=75) rfl ?_);refine goesL_ (some 24) rfl rfl Try.func75 (by kernel_rfl) rfl #[.slice Ao16 x3_1.length co16] rfl z10_2 ?_;(with_reducible refine(r02_Pack.calls k1 _ _ x3_1 t298 _ ?side1 ?side2 A14.out).mono ?_);(case side1=>repeat(first|exact(Kd.S_reads' HO_3.out).2.2|(with_reducible refine Kd.C_alloc ?_ _)|(with_reducible refine Kd.C_drewN ?_ _)|(with_reducible refine Kd.C_drew ?_)));(case side2=>exact(Kd.S_reads' HO_3.out).2.1);rintro e w17 ⟨v299,rfl,ho0,hb⟩;refine ⟨_,rfl,?_⟩;replace HO_0:=U (Kd.R_below z12_7 hb);replace HO_3:=U (Kd.S_elder' z12_5 (Kd.R_base ho0) hb);have HO300:=U (Kd.R_lower ho0 (below_size z10_0));replace HB:=U (below_step z10_0 hb);(try clear hb);(try clear hb2);(try clear hk);(try clear hi);(try clear ho0)))
  go_ret
  exact ⟨_,z10_8,(by(with_reducible repeat(first|apply Kd.R_alloc|apply Kd.R_drewN|apply Kd.R_drew));exact HO300.out),z10_0⟩
 rw [if_pos c6] at H
 have c6b0:decide (x4_1<(t285.length:Int))=true:=dT_ c6
 clear c6
 by_cases c7:0<=x4_1
 rotate_left
 ·rw [if_neg c7] at H
  exact absurd H (by simp)
 rw [if_pos c7] at H
 have c7b0:decide (0<=x4_1)=true:=dT_ c7
 clear c7
 replace H:=oB_ H
 obtain ⟨t292,A80,H⟩:=H
 replace H:(if x3_1.length<5864062014805 then(r03_Put.l0 k1 t285 (x3_1++[t292]) (wrap64 (x4_1+1))) else(none))=some r:=H
 have A8:=Aside0.mk A80
 clear A80
 by_cases c9:x3_1.length<5864062014805
 rotate_left
 ·rw [if_neg c9] at H
  exact absurd H (by simp)
 rw [if_pos c9] at H
 have LMc9:=Aside0.mk c9
 clear c9
 obtain ⟨y295,hy295⟩:∃ y_:List (List Int),y_=(x3_1++[t292]):=⟨_,rfl⟩
 replace H:(r03_Put.l0 k1 t285 y295 (wrap64 (x4_1+1)))=some r:=by first|(rw [hy295];with_reducible exact H)|(have H2_:=(Option.bind_some _ _).symm.trans H;rw [hy295];with_reducible exact H2_)|(have H2_:=(Option.bind_some _ _).symm.trans H;with_reducible exact H2_)|with_reducible exact H|(rw [hy295];exact H)|exact H
 have Ny295:=Aside0.mk hy295
 clear hy295
 have H':=Aside0.mk H
 clear H
 obtain ⟨Ao10,co10,eo10⟩:=Kd.R_slice HO_0.out
 subst eo10
 have p291:0<=(x4_1:Int):=oD_ z10_1
 have q291:x4_1<(t285.length:Int):=oD_ z10_1
 obtain ⟨ad291,e291,hx291_0⟩:=Kd.at_int (Kd.R_reads' HO_0.out).2.2 x4_1 p291 q291
 cases e291
 replace p291:=eq_true p291
 replace q291:=eq_true q291
 go_wp2_with (first|((with_reducible refine gate_callee (f:=98) rfl ?_);refine goesL_ (some 20) rfl rfl Try.func98 (by kernel_rfl) rfl #[.int .u64 (IntKind.u64.wrap (rd t285 x4_1))] rfl z10_2 ?_;(with_reducible refine(r02_Num.calls k1 (IntKind.u64.wrap (rd t285 x4_1)) t292 _ A8.out).mono ?_);rintro e w11 ⟨v293,rfl,ho0,hb⟩;refine ⟨_,rfl,?_⟩;replace HO_0:=U (Kd.R_below z12_7 hb);replace HO_3:=U (Kd.S_elder' z12_5 (Kd.R_base ho0) hb);have HO294:=U (Kd.R_lower ho0 (below_size z10_0));replace HB:=U (below_step z10_0 hb);(try clear hb);(try clear hb2);(try clear hk);(try clear hi);(try clear ho0);obtain ⟨Ao13,co13,eo13⟩:=Kd.R_slice HO294.out;subst eo13)|((with_reducible refine gate_builtin (b:=.append) (xs:=#[.tmp 14,.tmp 21]) rfl ?_);at_builtin;refine Kd.S_append (Kd.slice 5 (Kd.int .u8)) (w0:=w) w.heap.size rfl (.tmp 14) (.tmp 21) 73 22 (.slice none 0 0) 24 rfl Try.underlying73 info22 rfl (by decide) (by omega) u3 x3_1 t292 [.slice Ao13 t292.length co13] (λ_=>True) (λk_=>some k_=(.slice Ao13 t292.length co13:Value).ownBlock) rfl rfl ?aP (λk_ hk_=>((Kd.R_mono (ok':=λk_=>((λ_=>True)) k_/\some k_≠(u3:Value).ownBlock) (Kd.R_apart' (HO294.out) (Kd.S_typed HO_3.out) (by decide)) (λk_ hk=>⟨trivial,hk.2⟩))).1 k_ hk_.symm) ?aF ?aO ?aB ?aS ?aL ?_;(case aP=>exact Kd.M_row (Kd.R_mono (Kd.R_tight rfl (Kd.R_mono (ok':=λk_=>((λ_=>True)) k_/\some k_≠(u3:Value).ownBlock) (Kd.R_apart' (HO294.out) (Kd.S_typed HO_3.out) (by decide)) (λk_ hk=>⟨trivial,hk.2⟩))) (λ_ h_=>h_)));(case aB=>exact z10_0);(case aF=>exact(λ_ _=>trivial));(case aO=>exact z12_10);(case aS=>exact(below_size z10_0));(case aL=>have:=LMc9.out;omega);intro v296 w12 ho hb hg hat;rw [<-Ny295.out] at ho;replace HO_0:=U (Kd.R_over' z12_7 (Kd.S_typed z12_5) (by decide) hg);replace HB:=U (hb);have HO297:=U (ho);clear HO_3 HO294;clear ho hb hg hat))
 go_roundg k1
 case measure=>have:=HK1.out;omega
 case rel=>exact ⟨(y295),(wrap64 (x4_1+1)),z10_4,H',⟨(by have:=HK1.out;omega)⟩,⟨z12_7⟩,⟨(by(with_reducible repeat(first|apply Kd.S_alloc|apply Kd.S_drewN|apply Kd.S_drew));exact HO297.out)⟩,⟨z10_0⟩⟩
end Go.Proofs.Ytgocnchjpecafaa.PEv
