/- a part -/
import Derived.Test.YtgocnchjpecafaaPEvx17
namespace Go.Proofs.Ytgocnchjpecafaa.PEv
open Go.RowKit Go.Proofs.YtgocnchjpecafaaW.PrintWords Go.Proofs.YtgocnchjpecafaaW.PrintLast Go.Proofs.YtgocnchjpecafaaW.PrintMore
attribute [local go_sem] max2_int min2_int max_two min_two max_three min_three max_four min_four
set_option linter.unusedVariables false
set_option linter.unusedSimpArgs false
set_option maxHeartbeats 8000000
set_option maxRecDepth 100000
theorem z18_3 {P:Prop} (h:P:=by(with_reducible repeat(first|apply Kd.S_alloc|apply Kd.S_drewN|apply Kd.S_drew));exact HO_3.out):P:=h
theorem z18_4 {P:Prop} (h:P:=by(with_reducible repeat(first|apply Kd.R_alloc|apply Kd.R_drewN|apply Kd.R_drew));exact HO_7.out):P:=h
theorem z18_11 {P:Prop} (h:P:=by exact(by(with_reducible repeat(first|apply Kd.S_alloc|apply Kd.S_drewN|apply Kd.S_drew));exact Kd.S_mono HO_3.out (λk_ hk=>⟨trivial,λe_=>hk.2 e_⟩))):P:=h
def wire_Pack.l0:Nat->List Int->List (List Int)->Int->Int->Option (List Int)
 | 0,_,_,_,_=>none
 | k+1,x3,x10,x11,x12=>if x12<x11 then(if 0<=x12 then(if x12<(x10.length:Int) then((wire_Text.f k (rd_L10 x10 x12)).bind λt402=>(if x3.length+t402.length<140737488355328 then(wire_Pack.l0 k (x3++t402) x10 x11 (wrap64 (x12+1))) else(none))) else(none)) else(none)) else(some x3)
def wire_Pack.f (k:Nat) (l0:List (List Int)):Option (List Int):=(wire_Num.f k (IntKind.u64.wrap ((l0.length:Int)))).bind λt398=>(wire_Pack.l0 k t398 l0 (l0.length:Int) 0)
theorem wire_Pack.mono_l:∀ k,(∀ y0 y1 y2 y3,LeO (wire_Pack.l0 k y0 y1 y2 y3) (wire_Pack.l0 (k+1) y0 y1 y2 y3))
 | 0=>λ_ _ _ _ r h=>by simp [wire_Pack.l0] at h
 | k+1=>by
  have ih0:=wire_Pack.mono_l k
  ·intro y0 y1 y2 y3
   unfold wire_Pack.l0
   repeat' first
   | (with_reducible exact ih0 _ _ _ _)
   | (with_reducible exact wire_Num.mono _ _)
   | (with_reducible exact wire_Text.mono _ _)
   | (with_reducible exact LeO.refl _)
   | (with_reducible exact LeO.none _)
   | (with_reducible refine LeO.ite ?_ ?_)
   | (with_reducible refine LeO.bind ?_ (λ_=>?_))
theorem wire_Pack.mono:∀ a0 k,LeO (wire_Pack.f k a0) (wire_Pack.f (k+1) a0):=by
 intro a0 k
 have ih0:=wire_Pack.mono_l k
 unfold wire_Pack.f
 repeat' first
  | (with_reducible exact ih0 _ _ _ _)
  | (with_reducible exact wire_Num.mono _ _)
  | (with_reducible exact wire_Text.mono _ _)
  | (with_reducible exact LeO.refl _)
  | (with_reducible exact LeO.none _)
  | (with_reducible refine LeO.ite ?_ ?_)
  | (with_reducible refine LeO.bind ?_ (λ_=>?_))
theorem wire_Pack.calls (k:Nat) (A0:Option Addr) (c0:Nat) (l0:List (List Int)) (r:List Int) (w:World) (hr0:Kd.C (Kd.slice 5 (Kd.int .u8)) w A0 l0.length l0) (hc0:l0.length<=c0) (h:wire_Pack.f k l0=some r) :
  Calls Try.prog 66 #[.slice A0 l0.length c0] w λe w'=>∃ v0_:Value,e = .returned (v0_)/\Kd.R (Kd.int .u8) 5 w' w.heap.size (λ_=>True) v0_ r/\Below w.heap.size w w':=by
 have HR0:=Aside0.mk hr0
 have HC0:=Aside0.mk hc0
 clear hr0 hc0
 have HB:=U (Below.refl w.heap.size w)
 have H:((wire_Num.f k (IntKind.u64.wrap ((l0.length:Int)))).bind λt398=>(wire_Pack.l0 k t398 l0 (l0.length:Int) 0))=some r:=h
 clear h
 replace H:=oB_ H
 obtain ⟨t398,A20,H⟩:=H
 replace H:(wire_Pack.l0 k t398 l0 (l0.length:Int) 0)=some r:=H
 have A2:=Aside0.mk A20
 clear A20
 have H':=Aside0.mk H
 clear H
 go_enter Try.func66,Try.ntmps66
 go_wp2_with (first|((with_reducible refine gate_callee (f:=92) rfl ?_);refine goesL_ (some 9) rfl rfl Try.func92 z3_17 rfl #[.int .u64 (IntKind.u64.wrap ((l0.length:Int)))] rfl z6_5 ?_;(with_reducible refine(wire_Num.calls k (IntKind.u64.wrap ((l0.length:Int))) t398 _ A2.out).mono ?_);rintro e w3 ⟨v399,rfl,ho0,hb⟩;refine ⟨_,rfl,?_⟩;have HO400:=U (Kd.R_lower ho0 (below_size z9_4));replace HB:=U (below_step z9_4 hb);(try clear hb);(try clear hb2);(try clear hk);(try clear hi);(try clear ho0)))
 go_loopg [3,12] k (λkq v3 v12 w'=>∃ (x3_1:List Int) (x12_1:Int),v12 = .int .i64 x12_1/\Aside0 (wire_Pack.l0 kq x3_1 l0 (l0.length:Int) x12_1=some r)/\Aside0 (kq<=k)/\Aside0 (Kd.R (Kd.int .u8) 5 w' w.heap.size (λ_=>True) v3 x3_1)/\Aside0 (Below w.heap.size w w'))
 case atStart=>exact ⟨(t398),(0),z9_3,H',⟨Nat.le_refl _⟩,⟨(by(with_reducible repeat(first|apply Kd.R_alloc|apply Kd.R_drewN|apply Kd.R_drew));exact HO400.out)⟩,⟨z9_4⟩⟩
 case round =>
 clear H'
 try clear p2
 obtain ⟨x3_1,x12_1,rfl,HA,HK1,HO_3,HB⟩:=hrel
 cases gk with
 | zero=>exact absurd HA.out (by simp [wire_Pack.l0])
 | succ k1 =>
 have H:=HA.out
 clear HA
 simp only [wire_Pack.l0] at H
 by_cases c4:x12_1<(l0.length:Int)
 rotate_left
 ·rw [if_neg c4] at H
  have c4b0:decide (x12_1<(l0.length:Int))=false:=dF_ c4
  clear c4
  obtain rfl:=sI_ H
  go_wp2
  go_ret
  exact ⟨_,z9_2,z10_7,z9_4⟩
 rw [if_pos c4] at H
 have c4b0:decide (x12_1<(l0.length:Int))=true:=dT_ c4
 clear c4
 by_cases c5:0<=x12_1
 rotate_left
 ·rw [if_neg c5] at H
  exact absurd H (by simp)
 rw [if_pos c5] at H
 have c5b0:decide (0<=x12_1)=true:=dT_ c5
 clear c5
 by_cases c6:x12_1<(l0.length:Int)
 rotate_left
 ·rw [if_neg c6] at H
  exact absurd H (by simp)
 rw [if_pos c6] at H
 have c6b0:decide (x12_1<(l0.length:Int))=true:=dT_ c6
 clear c6
 replace H:=oB_ H
 obtain ⟨t402,A70,H⟩:=H
 replace H:(if x3_1.length+t402.length<140737488355328 then(wire_Pack.l0 k1 (x3_1++t402) l0 (l0.length:Int) (wrap64 (x12_1+1))) else(none))=some r:=H
 have A7:=Aside0.mk A70
 clear A70
 by_cases c8:x3_1.length+t402.length<140737488355328
 rotate_left
 ·rw [if_neg c8] at H
  exact absurd H (by simp)
 rw [if_pos c8] at H
 have LMc8:=Aside0.mk c8
 clear c8
 obtain ⟨y405,hy405⟩:∃ y_:List Int,y_=(x3_1++t402):=⟨_,rfl⟩
 replace H:(wire_Pack.l0 k1 y405 l0 (l0.length:Int) (wrap64 (x12_1+1)))=some r:=by first|(rw [hy405];with_reducible exact H)|(have H2_:=(Option.bind_some _ _).symm.trans H;rw [hy405];with_reducible exact H2_)|(have H2_:=(Option.bind_some _ _).symm.trans H;with_reducible exact H2_)|with_reducible exact H|(rw [hy405];exact H)|exact H
 have Ny405:=Aside0.mk hy405
 clear hy405
 have H':=Aside0.mk H
 clear H
 have p401:0<=(x12_1:Int):=oD_ z6_1
 have q401:x12_1<(l0.length:Int):=oD_ z6_1
 obtain ⟨ad401,A401_0,c401_0,e401,hx401_0,hl401_0,hi401_0⟩:=at_L10 HR0.out x12_1 p401 q401
 cases e401
 replace hx401_0:=(HB.out.cell (World.block_lt_of_cell? w _ hx401_0)).trans hx401_0
 have HR401_0:=Aside0.mk hi401_0
 have HC401_0:=Aside0.mk hl401_0
 clear hi401_0 hl401_0
 replace p401:=eq_true p401
 replace q401:=eq_true q401
 go_wp2_with (first|((with_reducible refine gate_callee (f:=93) rfl ?_);refine goesL_ (some 18) rfl rfl Try.func93 z3_17 rfl #[.slice A401_0 (rd_L10 l0 x12_1).length c401_0] rfl z6_5 ?_;(with_reducible refine(wire_Text.calls k1 _ _ (rd_L10 l0 x12_1) t402 _ ?side1 ?side2 A7.out).mono ?_);(case side1=>repeat(first|exact(Kd.C_below HR401_0.out HB.out)|(with_reducible refine Kd.C_alloc ?_ _)|(with_reducible refine Kd.C_drewN ?_ _)|(with_reducible refine Kd.C_drew ?_)));(case side2=>exact HC401_0.out);rintro e w9 ⟨v403,rfl,ho0,hb⟩;refine ⟨_,rfl,?_⟩;have HO404:=U (Kd.R_lower (Kd.R_new' ho0 (Kd.R_lt z10_7)) (below_size z9_4));replace HO_3:=U (Kd.R_elder' z10_7 (Kd.R_base ho0) hb);replace HB:=U (below_step z9_4 hb);(try clear hb);(try clear hb2);(try clear hk);(try clear hi);(try clear ho0);obtain ⟨Ao11,co11,eo11⟩:=Kd.R_slice HO404.out;subst eo11)|((with_reducible refine gate_builtin (b:=.append) (xs:=#[.tmp 16,.tmp 18]) rfl ?_);at_builtin;refine Kd.R_append_rows (Kd.int .u8) (w0:=w) w.heap.size rfl (.tmp 16) (.tmp 18) 22 5 (.int .u8 0) 1 rfl Try.underlying22 info5 rfl (by decide) (by omega) u3 x3_1 t402 _ _ _ (λk_=>some k_≠(.slice Ao11 t402.length co11:Value).ownBlock) (λ_=>False) rfl rfl ?aO ?aR (λ_ _ h=>h) (λ_ h=>h.elim) ?aF ?aB ?aS ?aL ?_;(case aR=>repeat(first|exact(Kd.R_reads' HO404.out).2.2|(with_reducible refine Kd.C_alloc ?_ _)|(with_reducible refine Kd.C_drewN ?_ _)|(with_reducible refine Kd.C_drew ?_)));(case aB=>exact z9_4);(case aF=>exact(λk_ hk=>Kd.fresh' (Kd.R_lt (by(with_reducible repeat(first|apply Kd.R_alloc|apply Kd.R_drewN|apply Kd.R_drew));exact HO404.out)) k_ hk));(case aO=>exact(by(with_reducible repeat(first|apply Kd.R_alloc|apply Kd.R_drewN|apply Kd.R_drew));exact Kd.R_mono HO_3.out (λ_ hk=>hk.2)));(case aS=>exact(below_size z9_4));(case aL=>have:=LMc8.out;omega);intro v406 w10 ho hb hg hat;rw [<-Ny405.out] at ho;replace HO404:=U (Kd.R_after (ok:=(λ_=>True)) (by(with_reducible repeat(first|apply Kd.R_alloc|apply Kd.R_drewN|apply Kd.R_drew));exact HO404.out) hg hat);replace HB:=U (hb);have HO407:=U (ho);clear HO_3;clear ho hb hg hat))
 go_roundg k1
 case measure=>have:=HK1.out;omega
 case rel=>exact ⟨(y405),(wrap64 (x12_1+1)),z9_3,H',⟨(by have:=HK1.out;omega)⟩,⟨(by(with_reducible repeat(first|apply Kd.R_alloc|apply Kd.R_drewN|apply Kd.R_drew));exact Kd.R_mono HO407.out (λ_ hk=>trivial))⟩,⟨z9_4⟩⟩
def event_nums.l0:Nat->List (List Int)->List Int->Int->Int->Option ((List (List Int)))
 | 0,_,_,_,_=>none
 | k+1,x3,x6,x7,x8=>if x8<x7 then(if 0<=x8 then(if x8<(x6.length:Int) then((wire_Num.f k (IntKind.u64.wrap (rd x6 x8))).bind λt409=>(if x3.length<5864062014805 then(event_nums.l0 k (x3++[t409]) x6 x7 (wrap64 (x8+1))) else(none))) else(none)) else(none)) else(some x3)
def event_nums.f (k:Nat) (l0:List Int):Option ((List (List Int))):=event_nums.l0 k ([]:List (List Int)) l0 (l0.length:Int) 0
theorem event_nums.mono_l:∀ k,(∀ y0 y1 y2 y3,LeO (event_nums.l0 k y0 y1 y2 y3) (event_nums.l0 (k+1) y0 y1 y2 y3))
 | 0=>λ_ _ _ _ r h=>by simp [event_nums.l0] at h
 | k+1=>by
  have ih0:=event_nums.mono_l k
  ·intro y0 y1 y2 y3
   unfold event_nums.l0
   repeat' first
   | (with_reducible exact ih0 _ _ _ _)
   | (with_reducible exact wire_Num.mono _ _)
   | (with_reducible exact LeO.refl _)
   | (with_reducible exact LeO.none _)
   | (with_reducible refine LeO.ite ?_ ?_)
   | (with_reducible refine LeO.bind ?_ (λ_=>?_))
theorem event_nums.mono:∀ a0 k,LeO (event_nums.f k a0) (event_nums.f (k+1) a0):=by
 intro a0 k
 have ih0:=event_nums.mono_l k
 unfold event_nums.f
 repeat' first
  | (with_reducible exact ih0 _ _ _ _)
  | (with_reducible exact wire_Num.mono _ _)
  | (with_reducible exact LeO.refl _)
  | (with_reducible exact LeO.none _)
  | (with_reducible refine LeO.ite ?_ ?_)
  | (with_reducible refine LeO.bind ?_ (λ_=>?_))
theorem event_nums.calls (k:Nat) (A0:Option Addr) (c0:Nat) (l0:List Int) (r:List (List Int)) (w:World) (hr0:Kd.C (Kd.int .i64) w A0 l0.length l0) (hc0:l0.length<=c0) (h:event_nums.f k l0=some r) :
  Calls Try.prog 67 #[.slice A0 l0.length c0] w λe w'=>∃ v0_:Value,e = .returned (v0_)/\Kd.S (Kd.slice 5 (Kd.int .u8)) 22 w' w.heap.size (λ_=>True) v0_ r/\Below w.heap.size w w':=by
 have HR0:=Aside0.mk hr0
 have HC0:=Aside0.mk hc0
 clear hr0 hc0
 have HB:=U (Below.refl w.heap.size w)
 have H:(event_nums.l0 k ([]:List (List Int)) l0 (l0.length:Int) 0)=some r:=h
 clear h
 have H':=Aside0.mk H
 clear H
 go_enter Try.func67,Try.ntmps67
 go_wp2
 go_loopg [3,8] k (λkq v3 v8 w'=>∃ (x3_1:List (List Int)) (x8_1:Int),v8 = .int .i64 x8_1/\Aside0 (event_nums.l0 kq x3_1 l0 (l0.length:Int) x8_1=some r)/\Aside0 (kq<=k)/\Aside0 (Kd.S (Kd.slice 5 (Kd.int .u8)) 22 w' w.heap.size (λ_=>True) v3 x3_1)/\Aside0 (Below w.heap.size w w'))
 case atStart=>exact ⟨(([]:List (List Int))),(0),z9_3,H',⟨Nat.le_refl _⟩,⟨z7_10⟩,⟨z9_4⟩⟩
 case round =>
 clear H'
 obtain ⟨x3_1,x8_1,rfl,HA,HK1,HO_3,HB⟩:=hrel
 cases gk with
 | zero=>exact absurd HA.out (by simp [event_nums.l0])
 | succ k1 =>
 have H:=HA.out
 clear HA
 simp only [event_nums.l0] at H
 by_cases c2:x8_1<(l0.length:Int)
 rotate_left
 ·rw [if_neg c2] at H
  have c2b0:decide (x8_1<(l0.length:Int))=false:=dF_ c2
  clear c2
  obtain rfl:=sI_ H
  go_wp2
  go_ret
  exact ⟨_,z9_2,z18_3,z9_4⟩
 rw [if_pos c2] at H
 have c2b0:decide (x8_1<(l0.length:Int))=true:=dT_ c2
 clear c2
 by_cases c3:0<=x8_1
 rotate_left
 ·rw [if_neg c3] at H
  exact absurd H (by simp)
 rw [if_pos c3] at H
 have c3b0:decide (0<=x8_1)=true:=dT_ c3
 clear c3
 by_cases c4:x8_1<(l0.length:Int)
 rotate_left
 ·rw [if_neg c4] at H
  exact absurd H (by simp)
 rw [if_pos c4] at H
 have c4b0:decide (x8_1<(l0.length:Int))=true:=dT_ c4
 clear c4
 replace H:=oB_ H
 obtain ⟨t409,A50,H⟩:=H
 replace H:(if x3_1.length<5864062014805 then(event_nums.l0 k1 (x3_1++[t409]) l0 (l0.length:Int) (wrap64 (x8_1+1))) else(none))=some r:=H
 have A5:=Aside0.mk A50
 clear A50
 by_cases c6:x3_1.length<5864062014805
 rotate_left
 ·rw [if_neg c6] at H
  exact absurd H (by simp)
 rw [if_pos c6] at H
 have LMc6:=Aside0.mk c6
 clear c6
 obtain ⟨y412,hy412⟩:∃ y_:List (List Int),y_=(x3_1++[t409]):=⟨_,rfl⟩
 replace H:(event_nums.l0 k1 y412 l0 (l0.length:Int) (wrap64 (x8_1+1)))=some r:=by first|(rw [hy412];with_reducible exact H)|(have H2_:=(Option.bind_some _ _).symm.trans H;rw [hy412];with_reducible exact H2_)|(have H2_:=(Option.bind_some _ _).symm.trans H;with_reducible exact H2_)|with_reducible exact H|(rw [hy412];exact H)|exact H
 have Ny412:=Aside0.mk hy412
 clear hy412
 have H':=Aside0.mk H
 clear H
 have p408:0<=(x8_1:Int):=oD_ z6_1
 have q408:x8_1<(l0.length:Int):=oD_ z6_1
 obtain ⟨ad408,e408,hx408_0⟩:=Kd.at_int HR0.out x8_1 p408 q408
 cases e408
 replace hx408_0:=(HB.out.cell (World.block_lt_of_cell? w _ hx408_0)).trans hx408_0
 replace p408:=eq_true p408
 replace q408:=eq_true q408
 go_wp2_with (first|((with_reducible refine gate_callee (f:=92) rfl ?_);refine goesL_ (some 15) rfl rfl Try.func92 z3_17 rfl #[.int .u64 (IntKind.u64.wrap (rd l0 x8_1))] rfl z6_5 ?_;(with_reducible refine(wire_Num.calls k1 (IntKind.u64.wrap (rd l0 x8_1)) t409 _ A5.out).mono ?_);rintro e w7 ⟨v410,rfl,ho0,hb⟩;refine ⟨_,rfl,?_⟩;replace HO_3:=U (Kd.S_elder' z18_3 (Kd.R_base ho0) hb);have HO411:=U (Kd.R_lower ho0 (below_size z9_4));replace HB:=U (below_step z9_4 hb);(try clear hb);(try clear hb2);(try clear hk);(try clear hi);(try clear ho0);obtain ⟨Ao9,co9,eo9⟩:=Kd.R_slice HO411.out;subst eo9)|((with_reducible refine gate_builtin (b:=.append) (xs:=#[.tmp 12,.tmp 16]) rfl ?_);at_builtin;refine Kd.S_append (Kd.slice 5 (Kd.int .u8)) (w0:=w) w.heap.size rfl (.tmp 12) (.tmp 16) 73 22 (.slice none 0 0) 24 rfl Try.underlying73 info22 rfl (by decide) (by omega) u3 x3_1 t409 [.slice Ao9 t409.length co9] (λ_=>True) (λk_=>some k_=(.slice Ao9 t409.length co9:Value).ownBlock) rfl rfl ?aP (λk_ hk_=>((Kd.R_mono (ok':=λk_=>((λ_=>True)) k_/\some k_≠(u3:Value).ownBlock) (Kd.R_apart' (HO411.out) (Kd.S_typed HO_3.out) (by decide)) (λk_ hk=>⟨trivial,hk.2⟩))).1 k_ hk_.symm) ?aF ?aO ?aB ?aS ?aL ?_;(case aP=>exact Kd.M_row (Kd.R_mono (Kd.R_tight rfl (Kd.R_mono (ok':=λk_=>((λ_=>True)) k_/\some k_≠(u3:Value).ownBlock) (Kd.R_apart' (HO411.out) (Kd.S_typed HO_3.out) (by decide)) (λk_ hk=>⟨trivial,hk.2⟩))) (λ_ h_=>h_)));(case aB=>exact z9_4);(case aF=>exact(λ_ _=>trivial));(case aO=>exact z18_11);(case aS=>exact(below_size z9_4));(case aL=>have:=LMc6.out;omega);intro v413 w8 ho hb hg hat;rw [<-Ny412.out] at ho;replace HB:=U (hb);have HO414:=U (ho);clear HO_3 HO411;clear ho hb hg hat))
 go_roundg k1
 case measure=>have:=HK1.out;omega
 case rel=>exact ⟨(y412),(wrap64 (x8_1+1)),z9_3,H',⟨(by have:=HK1.out;omega)⟩,⟨(by(with_reducible repeat(first|apply Kd.S_alloc|apply Kd.S_drewN|apply Kd.S_drew));exact HO414.out)⟩,⟨z9_4⟩⟩
def clock_Put.l0:Nat->List (List Int)->List Int->Int->Int->Option (List Int)
 | 0,_,_,_,_=>none
 | k+1,x3,x7,x8,x9=>if x9<x8 then(if 0<=x9 then(if x9<(x7.length:Int) then((wire_Num.f k (IntKind.u64.wrap (rd x7 x9))).bind λt419=>(if x3.length<5864062014805 then(clock_Put.l0 k (x3++[t419]) x7 x8 (wrap64 (x9+1))) else(none))) else(none)) else(none)) else((wire_Pack.f k x3).bind λt425=>(some t425))
def clock_Put.f (k:Nat) (l0:List Int):Option (List Int):=(clock_Plain.f l0).bind λt415=>(clock_Put.l0 k ([]:List (List Int)) t415 (t415.length:Int) 0)
theorem clock_Put.mono_l:∀ k,(∀ y0 y1 y2 y3,LeO (clock_Put.l0 k y0 y1 y2 y3) (clock_Put.l0 (k+1) y0 y1 y2 y3))
 | 0=>λ_ _ _ _ r h=>by simp [clock_Put.l0] at h
 | k+1=>by
  have ih0:=clock_Put.mono_l k
  ·intro y0 y1 y2 y3
   unfold clock_Put.l0
   repeat' first
   | (with_reducible exact ih0 _ _ _ _)
   | (with_reducible exact wire_Num.mono _ _)
   | (with_reducible exact wire_Pack.mono _ _)
   | (with_reducible exact LeO.refl _)
   | (with_reducible exact LeO.none _)
   | (with_reducible refine LeO.ite ?_ ?_)
   | (with_reducible refine LeO.bind ?_ (λ_=>?_))
theorem clock_Put.mono:∀ a0 k,LeO (clock_Put.f k a0) (clock_Put.f (k+1) a0):=by
 intro a0 k
 have ih0:=clock_Put.mono_l k
 unfold clock_Put.f
 repeat' first
  | (with_reducible exact ih0 _ _ _ _)
  | (with_reducible exact wire_Num.mono _ _)
  | (with_reducible exact wire_Pack.mono _ _)
  | (with_reducible exact LeO.refl _)
  | (with_reducible exact LeO.none _)
  | (with_reducible refine LeO.ite ?_ ?_)
  | (with_reducible refine LeO.bind ?_ (λ_=>?_))
theorem clock_Put.calls (k:Nat) (A0:Option Addr) (c0:Nat) (l0:List Int) (r:List Int) (w:World) (hr0:Kd.C (Kd.int .i64) w A0 l0.length l0) (hc0:l0.length<=c0) (h:clock_Put.f k l0=some r) :
  Calls Try.prog 68 #[.slice A0 l0.length c0] w λe w'=>∃ v0_:Value,e = .returned (v0_)/\Kd.R (Kd.int .u8) 5 w' w.heap.size (λ_=>True) v0_ r/\Below w.heap.size w w':=by
 have HR0:=Aside0.mk hr0
 have HC0:=Aside0.mk hc0
 clear hr0 hc0
 have HB:=U (Below.refl w.heap.size w)
 have H:((clock_Plain.f l0).bind λt415=>(clock_Put.l0 k ([]:List (List Int)) t415 (t415.length:Int) 0))=some r:=h
 clear h
 replace H:=oB_ H
 obtain ⟨t415,A20,H⟩:=H
 replace H:(clock_Put.l0 k ([]:List (List Int)) t415 (t415.length:Int) 0)=some r:=H
 have A2:=Aside0.mk A20
 clear A20
 have H':=Aside0.mk H
 clear H
 go_enter Try.func68,Try.ntmps68
 go_wp2_with (first|((with_reducible refine gate_callee (f:=72) rfl ?_);refine goesL_ (some 7) rfl rfl Try.func72 z3_17 rfl #[.slice A0 l0.length c0] rfl z6_5 ?_;(with_reducible refine(clock_Plain.calls _ _ l0 t415 _ ?side1 ?side2 A2.out).mono ?_);(case side1=>repeat(first|exact HR0.out|(with_reducible refine Kd.C_alloc ?_ _)|(with_reducible refine Kd.C_drewN ?_ _)|(with_reducible refine Kd.C_drew ?_)));(case side2=>exact HC0.out);rintro e w3 ⟨v416,rfl,ho0,hb⟩;refine ⟨_,rfl,?_⟩;have HO417:=U (Kd.R_lower ho0 (below_size z9_4));replace HB:=U (below_step z9_4 hb);(try clear hb);(try clear hb2);(try clear hk);(try clear hi);(try clear ho0);obtain ⟨Ao4,co4,eo4⟩:=Kd.R_slice HO417.out;subst eo4))
 go_loopg [3,9] k (λkq v3 v9 w'=>∃ (x3_1:List (List Int)) (x9_1:Int),v9 = .int .i64 x9_1/\Aside0 (clock_Put.l0 kq x3_1 t415 (t415.length:Int) x9_1=some r)/\Aside0 (kq<=k)/\Aside0 (Kd.S (Kd.slice 5 (Kd.int .u8)) 22 w' w.heap.size (λ_=>True) v3 x3_1)/\Aside0 (Kd.R (Kd.int .i64) 3 w' w.heap.size (λ_=>True) (.slice Ao4 t415.length co4) t415)/\Aside0 (Below w.heap.size w w'))
 case atStart=>exact ⟨(([]:List (List Int))),(0),z9_3,H',⟨Nat.le_refl _⟩,⟨z7_10⟩,⟨(by(with_reducible repeat(first|apply Kd.R_alloc|apply Kd.R_drewN|apply Kd.R_drew));exact HO417.out)⟩,⟨z9_4⟩⟩
 case round =>
 clear H'
 try clear p2
 obtain ⟨x3_1,x9_1,rfl,HA,HK1,HO_3,HO_7,HB⟩:=hrel
 cases gk with
 | zero=>exact absurd HA.out (by simp [clock_Put.l0])
 | succ k1 =>
 have H:=HA.out
 clear HA
 simp only [clock_Put.l0] at H
 by_cases c5:x9_1<(t415.length:Int)
 rotate_left
 ·rw [if_neg c5] at H
  have c5b0:decide (x9_1<(t415.length:Int))=false:=dF_ c5
  clear c5
  replace H:=oB_ H
  obtain ⟨t425,A130,H⟩:=H
  replace H:(some t425)=some r:=H
  have A13:=Aside0.mk A130
  clear A130
  obtain rfl:=sI_ H
  obtain ⟨Ao14,co14,eo14⟩:=Kd.S_slice HO_3.out
  subst eo14
  go_wp2_with (first|((with_reducible refine gate_callee (f:=66) rfl ?_);refine goesL_ (some 21) rfl rfl Try.func66 z3_17 rfl #[.slice Ao14 x3_1.length co14] rfl z6_5 ?_;(with_reducible refine(wire_Pack.calls k1 _ _ x3_1 t425 _ ?side1 ?side2 A13.out).mono ?_);(case side1=>repeat(first|exact(Kd.S_reads' HO_3.out).2.2|(with_reducible refine Kd.C_alloc ?_ _)|(with_reducible refine Kd.C_drewN ?_ _)|(with_reducible refine Kd.C_drew ?_)));(case side2=>exact(Kd.S_reads' HO_3.out).2.1);rintro e w15 ⟨v426,rfl,ho0,hb⟩;refine ⟨_,rfl,?_⟩;replace HO_3:=U (Kd.S_elder' z18_3 (Kd.R_base ho0) hb);replace HO_7:=U (Kd.R_below z18_4 hb);have HO427:=U (Kd.R_lower ho0 (below_size z9_4));replace HB:=U (below_step z9_4 hb);(try clear hb);(try clear hb2);(try clear hk);(try clear hi);(try clear ho0)))
  go_ret
  exact ⟨_,z9_2,(by(with_reducible repeat(first|apply Kd.R_alloc|apply Kd.R_drewN|apply Kd.R_drew));exact HO427.out),z9_4⟩
 rw [if_pos c5] at H
 have c5b0:decide (x9_1<(t415.length:Int))=true:=dT_ c5
 clear c5
 by_cases c6:0<=x9_1
 rotate_left
 ·rw [if_neg c6] at H
  exact absurd H (by simp)
 rw [if_pos c6] at H
 have c6b0:decide (0<=x9_1)=true:=dT_ c6
 clear c6
 by_cases c7:x9_1<(t415.length:Int)
 rotate_left
 ·rw [if_neg c7] at H
  exact absurd H (by simp)
 rw [if_pos c7] at H
 have c7b0:decide (x9_1<(t415.length:Int))=true:=dT_ c7
 clear c7
 replace H:=oB_ H
 obtain ⟨t419,A80,H⟩:=H
 replace H:(if x3_1.length<5864062014805 then(clock_Put.l0 k1 (x3_1++[t419]) t415 (t415.length:Int) (wrap64 (x9_1+1))) else(none))=some r:=H
 have A8:=Aside0.mk A80
 clear A80
 by_cases c9:x3_1.length<5864062014805
 rotate_left
 ·rw [if_neg c9] at H
  exact absurd H (by simp)
 rw [if_pos c9] at H
 have LMc9:=Aside0.mk c9
 clear c9
 obtain ⟨y422,hy422⟩:∃ y_:List (List Int),y_=(x3_1++[t419]):=⟨_,rfl⟩
 replace H:(clock_Put.l0 k1 y422 t415 (t415.length:Int) (wrap64 (x9_1+1)))=some r:=by first|(rw [hy422];with_reducible exact H)|(have H2_:=(Option.bind_some _ _).symm.trans H;rw [hy422];with_reducible exact H2_)|(have H2_:=(Option.bind_some _ _).symm.trans H;with_reducible exact H2_)|with_reducible exact H|(rw [hy422];exact H)|exact H
 have Ny422:=Aside0.mk hy422
 clear hy422
 have H':=Aside0.mk H
 clear H
 have p418:0<=(x9_1:Int):=oD_ z6_1
 have q418:x9_1<(t415.length:Int):=oD_ z6_1
 obtain ⟨ad418,e418,hx418_0⟩:=Kd.at_int (Kd.R_reads' HO_7.out).2.2 x9_1 p418 q418
 cases e418
 replace p418:=eq_true p418
 replace q418:=eq_true q418
 go_wp2_with (first|((with_reducible refine gate_callee (f:=92) rfl ?_);refine goesL_ (some 16) rfl rfl Try.func92 z3_17 rfl #[.int .u64 (IntKind.u64.wrap (rd t415 x9_1))] rfl z6_5 ?_;(with_reducible refine(wire_Num.calls k1 (IntKind.u64.wrap (rd t415 x9_1)) t419 _ A8.out).mono ?_);rintro e w10 ⟨v420,rfl,ho0,hb⟩;refine ⟨_,rfl,?_⟩;replace HO_3:=U (Kd.S_elder' z18_3 (Kd.R_base ho0) hb);replace HO_7:=U (Kd.R_below z18_4 hb);have HO421:=U (Kd.R_lower ho0 (below_size z9_4));replace HB:=U (below_step z9_4 hb);(try clear hb);(try clear hb2);(try clear hk);(try clear hi);(try clear ho0);obtain ⟨Ao12,co12,eo12⟩:=Kd.R_slice HO421.out;subst eo12)|((with_reducible refine gate_builtin (b:=.append) (xs:=#[.tmp 13,.tmp 17]) rfl ?_);at_builtin;refine Kd.S_append (Kd.slice 5 (Kd.int .u8)) (w0:=w) w.heap.size rfl (.tmp 13) (.tmp 17) 73 22 (.slice none 0 0) 24 rfl Try.underlying73 info22 rfl (by decide) (by omega) u3 x3_1 t419 [.slice Ao12 t419.length co12] (λ_=>True) (λk_=>some k_=(.slice Ao12 t419.length co12:Value).ownBlock) rfl rfl ?aP (λk_ hk_=>((Kd.R_mono (ok':=λk_=>((λ_=>True)) k_/\some k_≠(u3:Value).ownBlock) (Kd.R_apart' (HO421.out) (Kd.S_typed HO_3.out) (by decide)) (λk_ hk=>⟨trivial,hk.2⟩))).1 k_ hk_.symm) ?aF ?aO ?aB ?aS ?aL ?_;(case aP=>exact Kd.M_row (Kd.R_mono (Kd.R_tight rfl (Kd.R_mono (ok':=λk_=>((λ_=>True)) k_/\some k_≠(u3:Value).ownBlock) (Kd.R_apart' (HO421.out) (Kd.S_typed HO_3.out) (by decide)) (λk_ hk=>⟨trivial,hk.2⟩))) (λ_ h_=>h_)));(case aB=>exact z9_4);(case aF=>exact(λ_ _=>trivial));(case aO=>exact z18_11);(case aS=>exact(below_size z9_4));(case aL=>have:=LMc9.out;omega);intro v423 w11 ho hb hg hat;rw [<-Ny422.out] at ho;replace HO_7:=U (Kd.R_over' z18_4 (Kd.S_typed z18_3) (by decide) hg);replace HB:=U (hb);have HO424:=U (ho);clear HO_3 HO421;clear ho hb hg hat))
 go_roundg k1
 case measure=>have:=HK1.out;omega
 case rel=>exact ⟨(y422),(wrap64 (x9_1+1)),z9_3,H',⟨(by have:=HK1.out;omega)⟩,⟨(by(with_reducible repeat(first|apply Kd.S_alloc|apply Kd.S_drewN|apply Kd.S_drew));exact HO424.out)⟩,⟨z18_4⟩,⟨z9_4⟩⟩
def event_Put.l0:Nat->List S48->List (List Int)->Int->Option (List Int)
 | 0,_,_,_=>none
 | k+1,xs,acc,i=>if i<(xs.length:Int) then(if 0<=i then((event_nums.f k [(rd_T48 xs i).f0,(rd_T48 xs i).f1,(rd_T48 xs i).f3,(rd_T48 xs i).f4]).bind λt=>if t.length+2<5864062014805/\(rd_T48 xs i).f2.size<=9223372036854775807/\(rd_T48 xs i).f5.size<=9223372036854775807 then((wire_Pack.f k (t++[bytesOf (rd_T48 xs i).f2,bytesOf (rd_T48 xs i).f5])).bind λp=>if acc.length<5864062014805 then event_Put.l0 k xs (acc++[p]) (wrap64 (i+1)) else none) else none) else none) else wire_Pack.f k acc
def event_Put.f (k:Nat) (a b:Int) (past:List Int) (xs:List S48):Option (List Int×Int) :=
 (event_Check.f k a b past xs).bind λx=>if x=0 then((event_nums.f k [a,b]).bind λt=>(wire_Pack.f k t).bind λp=>(clock_Put.f k past).bind λq=>(event_Put.l0 k xs [p,q] 0).bind λr=>some (r,0)) else some ([],x)
theorem event_Put.l0_mono:∀ k xs acc i,LeO (event_Put.l0 k xs acc i) (event_Put.l0 (k+1) xs acc i)
 | 0,_,_,_=>λr h=>by simp [event_Put.l0] at h
 | k+1,xs,acc,i=>by
  have ih:=event_Put.l0_mono k
  unfold event_Put.l0
  repeat' first
   | (with_reducible exact ih _ _ _)
   | (with_reducible exact event_nums.mono _ _)
   | (with_reducible exact wire_Pack.mono _ _)
   | (with_reducible exact LeO.refl _)
   | (with_reducible exact LeO.none _)
   | (with_reducible refine LeO.ite ?_ ?_)
   | (with_reducible refine LeO.bind ?_ (λ_=>?_))
theorem event_Put.mono:∀ a0 a1 a2 a3 k,LeO (event_Put.f k a0 a1 a2 a3) (event_Put.f (k+1) a0 a1 a2 a3):=by
 intro a0 a1 a2 a3 k
 unfold event_Put.f
 repeat' first
  | (with_reducible exact event_Check.mono _ _ _ _ _)
  | (with_reducible exact event_nums.mono _ _)
  | (with_reducible exact wire_Pack.mono _ _)
  | (with_reducible exact clock_Put.mono _ _)
  | (with_reducible exact event_Put.l0_mono _ _ _ _)
  | (with_reducible exact LeO.refl _)
  | (with_reducible exact LeO.none _)
  | (with_reducible refine LeO.ite ?_ ?_)
  | (with_reducible refine LeO.bind ?_ (λ_=>?_))
open Go.Proofs.Ytgocnchjpecafaa.Cards Go.Proofs.Ytgocnchjpecafaa.Hand in
theorem event_Put.calls (k:Nat) (a0_0:Int) (a0_1:Int) (A0_2:Option Addr) (c0_2:Nat) (l0_2:List Int) (A0_3:Option Addr) (c0_3:Nat) (l0_3:List (S48)) (r1:List Int) (r2:Int) (w:World) (hr0_2:Kd.C (Kd.int .i64) w A0_2 l0_2.length l0_2) (hc0_2:l0_2.length<=c0_2) (hr0_3:Kd.C k48 w A0_3 l0_3.length l0_3) (hc0_3:l0_3.length<=c0_3) (h:event_Put.f k a0_0 a0_1 l0_2 l0_3=some (r1,r2)) :
  Calls Try.prog 22 #[.agg #[.int .i64 a0_0,.int .i64 a0_1,.slice A0_2 l0_2.length c0_2,.slice A0_3 l0_3.length c0_3]] w λe w'=>∃ v0_:Value,e = .returned (.tuple #[v0_,.int .i64 r2])/\Kd.R (Kd.int .u8) 5 w' w.heap.size (λ_=>True) v0_ r1/\Below w.heap.size w w':=by
 have hu30:=Try.underlying30
 have hu25:=Try.underlying25
 have hu48:=Try.underlying48
 have HR2:=Aside0.mk hr0_2
 have HR3:=Aside0.mk hr0_3
 have HC2:=Aside0.mk hc0_2
 have HC3:=Aside0.mk hc0_3
 have H:=Aside0.mk h
 clear hr0_2 hr0_3 hc0_2 hc0_3 h
 go_enter Try.func22,Try.ntmps22
 go_upto_region 1 with (first|((with_reducible refine gate_dst (N:=1) rfl ?_);refine box_event ?hg (N:=1) ?hd (cs:=#[.int .i64 a0_0,.int .i64 a0_1,.slice A0_2 l0_2.length c0_2,.slice A0_3 l0_3.length c0_3]) (t:=30) ?hr ?_;(case hd=>rfl);(case hg=>rfl);(case hr=>exact z10_10);intro gb hg w3 hbox hb;have HB:=Aside0.mk hb;have BK:=Aside0.mk hbox;clear hb hbox hg))
 have HH:=H.out
 clear H
 unfold event_Put.f at HH
 obtain ⟨x0,hx0,HH⟩:=oB_ HH
 have HX:=Aside0.mk hx0
 clear hx0
 have hc0:w3.cell? ⟨gb,0,none⟩=some (.int .i64 a0_0):=(blk_cell BK.out 0).trans rfl
 have hc1:w3.cell? ⟨gb,1,none⟩=some (.int .i64 a0_1):=(blk_cell BK.out 1).trans rfl
 have hc2:w3.cell? ⟨gb,2,none⟩=some (.slice A0_2 l0_2.length c0_2):=(blk_cell BK.out 2).trans rfl
 have hc3:w3.cell? ⟨gb,3,none⟩=some (.slice A0_3 l0_3.length c0_3):=(blk_cell BK.out 3).trans rfl
 by_cases hx:x0=0
 rotate_left
 ·rw [if_neg hx] at HH
  simp only [Option.some.injEq,Prod.mk.injEq] at HH
  obtain ⟨rfl,rfl⟩:=HH
  go_wp2_with (first|((with_reducible refine gate_callee (f:=27) rfl ?_);refine goesL_ (some 9) rfl rfl Try.func27 z3_17 rfl #[.agg #[.int .i64 a0_0,.int .i64 a0_1,.slice A0_2 l0_2.length c0_2,.slice A0_3 l0_3.length c0_3]] rfl z8_3 ?_;(with_reducible refine(event_Check.calls k _ _ _ _ l0_2 _ _ l0_3 _ _ (Kd.C_below HR2.out HB.out) HC2.out (Kd.C_below HR3.out HB.out) HC3.out HX.out).mono ?_);rintro e w4 ⟨rfl,hb⟩;refine ⟨_,rfl,?_⟩;replace HB:=U (below_step HB.out hb);replace BK:=U ((hb.block _ (blk_lt BK.out)).trans BK.out);clear hb))
  go_ret2
  exact ⟨_,rfl,Kd.R_nil _ _ _ _ _,HB.out⟩
 subst hx
 rw [if_pos rfl] at HH
 obtain ⟨t,h1,HH⟩:=oB_ HH
 obtain ⟨p,h2,HH⟩:=oB_ HH
 obtain ⟨q,h3,HH⟩:=oB_ HH
 obtain ⟨r,h4,HH⟩:=oB_ HH
 simp only [Option.some.injEq,Prod.mk.injEq] at HH
 obtain ⟨rfl,rfl⟩:=HH
 have H1:=Aside0.mk h1
 have H2:=Aside0.mk h2
 have H3:=Aside0.mk h3
 have H:=Aside0.mk h4
 clear h1 h2 h3 h4
 go_upto_region 4 with (first|((with_reducible refine gate_callee (f:=27) rfl ?_);refine goesL_ (some 9) rfl rfl Try.func27 z3_17 rfl #[.agg #[.int .i64 a0_0,.int .i64 a0_1,.slice A0_2 l0_2.length c0_2,.slice A0_3 l0_3.length c0_3]] rfl z8_3 ?_;(with_reducible refine(event_Check.calls k _ _ _ _ l0_2 _ _ l0_3 _ _ (Kd.C_below HR2.out HB.out) HC2.out (Kd.C_below HR3.out HB.out) HC3.out HX.out).mono ?_);rintro e w4 ⟨rfl,hb⟩;refine ⟨_,rfl,?_⟩;replace HB:=U (below_step HB.out hb);replace BK:=U ((hb.block _ (blk_lt BK.out)).trans BK.out);clear hb))
 clear hc0 hc1 hc2 hc3
 refine region_cards (F:=?F) 12 (λw'=>Aside0 (Below w.heap.size w w')/\Aside0 (w'.heap[gb]? = some (.cells #[.int .i64 a0_0,.int .i64 a0_1,.slice A0_2 l0_2.length c0_2,.slice A0_3 l0_3.length c0_3] 30 (0,0))))
  [λv _ _ _=>v = .pointer (some ⟨gb,0,none⟩),
  λv _ _ _=>v = .pointer (some ⟨gb,0,none⟩),
  λv _ _ _=>v = .int .i64 a0_0,
  λv _ _ _=>v = .pointer (some ⟨gb,0,none⟩),
  λv _ _ _=>v = .pointer (some ⟨gb,1,none⟩),
  λv _ _ _=>v = .int .i64 a0_1,
  λv w' _ _=>(Kd.slice 0 (Kd.int .i64)).K w' [a0_0,a0_1] [v],
  λv w' _ _=>Kd.S (Kd.slice 5 (Kd.int .u8)) 22 w' w.heap.size (λ_=>True) v t,
  λv w' _ _=>Kd.R (Kd.int .u8) 5 w' w.heap.size (λ_=>True) v p,
  λv _ _ _=>v = .pointer (some ⟨gb,2,none⟩),
  λv _ _ _=>v = .slice A0_2 l0_2.length c0_2,
  λv w' _ _=>Kd.R (Kd.int .u8) 5 w' w.heap.size (λ_=>True) v q]
  z3_17 z3_17 ?hF ?hS0 ?hS ?hstay ?hsteps ?hend
 case hF =>
  intro vs
  simp only [List.take_succ_cons,List.take_zero,fill,if_true,if_false,Act.put,List.setIfInBounds_toArray,List.set_cons_zero,List.set_cons_succ,Nat.reduceAdd,List.contains_cons,List.contains_nil,Nat.reduceBEq,Bool.or_false,Bool.false_or,Bool.not_true,Bool.not_false,Bool.false_eq_true,Bool.or_self,Bool.true_or]
  rfl
 case hS0=>exact ⟨⟨below_drew HB.out⟩,⟨blk_drew BK.out⟩⟩
 case hS=>exact λw1 w2 hb hs=>⟨⟨below_step hs.1.out hb⟩,⟨(hb.block gb (blk_lt hs.2.out)).trans hs.2.out⟩⟩
 case hstay=>exact ⟨λ_ _ _ _ _ _ h=>h,λ_ _ _ _ _ _ h=>h,λ_ _ _ _ _ _ h=>h,λ_ _ _ _ _ _ h=>h,λ_ _ _ _ _ _ h=>h,λ_ _ _ _ _ _ h=>h,λ_ _ _ _ _ hb h=>(Kd.slice 0 (Kd.int .i64)).K_below hb h,λ_ _ _ _ _ hb h=>Kd.S_below h hb,λ_ _ _ _ _ hb h=>Kd.R_below h hb,λ_ _ _ _ _ _ h=>h,λ_ _ _ _ _ _ h=>h,λ_ _ _ _ _ hb h=>Kd.R_below h hb,trivial⟩
 case hsteps =>
  refine ⟨?s_0,?s_1,?s_2,?s_3,?s_4,?s_5,?s_6,?s_7,?s_8,?s_9,?s_10,?s_11,trivial⟩
  case s_0 =>
   intro _ vs lo hi W hs hp
   exact does_val z10_10 ⟨rfl,Below.refl _ _⟩
  case s_1 =>
   intro _ vs lo hi W hs hp
   have e0:vs 0 = .pointer (some ⟨gb,0,none⟩):=hp 0 z3_17 rfl
   exact does_val z10_10 ⟨rfl,Below.refl _ _⟩
  case s_2 =>
   intro _ vs lo hi W hs hp
   have e1:vs 1 = .pointer (some ⟨gb,0,none⟩):=hp 1 z3_17 rfl
   have hc:W.cell? ⟨gb,0,none⟩=some (.int .i64 a0_0):=(blk_cell hs.2.out 0).trans rfl
   exact does_val z10_10 ⟨rfl,Below.refl _ _⟩
  case s_3 =>
   intro _ vs lo hi W hs hp
   exact does_val z10_10 ⟨rfl,Below.refl _ _⟩
  case s_4 =>
   intro _ vs lo hi W hs hp
   have e3:vs 3 = .pointer (some ⟨gb,0,none⟩):=hp 3 z3_17 rfl
   exact does_val z10_10 ⟨rfl,Below.refl _ _⟩
  case s_5 =>
   intro _ vs lo hi W hs hp
   have e4:vs 4 = .pointer (some ⟨gb,1,none⟩):=hp 4 z3_17 rfl
   have hc:W.cell? ⟨gb,1,none⟩=some (.int .i64 a0_1):=(blk_cell hs.2.out 1).trans rfl
   exact does_val z10_10 ⟨rfl,Below.refl _ _⟩
  case s_6 =>
   intro _ vs lo hi W hs hp
   have e2:vs 2 = .int .i64 a0_0:=hp 2 z3_17 rfl
   have e5:vs 5 = .int .i64 a0_1:=hp 5 z3_17 rfl
   exact does_val z10_10 ⟨fresh_ints W 3 .i64 [a0_0,a0_1] (by simp),below_alloc (Below.refl _ _) _⟩
  case s_7 =>
   intro _ vs lo hi W hs hp
   obtain ⟨A,c,e6,hl,hC⟩:(Kd.slice 0 (Kd.int .i64)).K W [a0_0,a0_1] [vs 6]:=hp 6 z3_17 rfl
   have e6:=List.cons.inj e6 |>.1
   refine does_call Try.func67 z3_17 rfl #[.slice A [a0_0,a0_1].length c] rfl rfl (by rw [<-e6];simp only [List.map_toArray,List.map_cons,List.map_nil];rfl) ?_
   refine(event_nums.calls k A c [a0_0,a0_1] t W hC hl H1.out).mono ?_
   rintro e w' ⟨v,rfl,hv,hb⟩
   exact ⟨v,rfl,Kd.S_lower hv (below_size hs.1.out),hb⟩
  case s_8 =>
   intro _ vs lo hi W hs hp
   have hv7:Kd.S (Kd.slice 5 (Kd.int .u8)) 22 W w.heap.size (λ_=>True) (vs 7) t:=hp 7 z3_17 rfl
   obtain ⟨A,c,e7⟩:=Kd.S_slice hv7
   have hC:=(Kd.S_reads' (e7 ▸ hv7))
   refine does_call Try.func66 z3_17 rfl #[.slice A t.length c] rfl rfl (by rw [<-e7];simp only [List.map_toArray,List.map_cons,List.map_nil];rfl) ?_
   refine(wire_Pack.calls k A c t p W hC.2.2 hC.2.1 H2.out).mono ?_
   rintro e w' ⟨v,rfl,hv,hb⟩
   exact ⟨v,rfl,Kd.R_lower hv (below_size hs.1.out),hb⟩
  case s_9 =>
   intro _ vs lo hi W hs hp
   exact does_val z10_10 ⟨rfl,Below.refl _ _⟩
  case s_10 =>
   intro _ vs lo hi W hs hp
   have e9:vs 9 = .pointer (some ⟨gb,2,none⟩):=hp 9 z3_17 rfl
   have hc:W.cell? ⟨gb,2,none⟩=some (.slice A0_2 l0_2.length c0_2):=(blk_cell hs.2.out 2).trans rfl
   exact does_val z10_10 ⟨rfl,Below.refl _ _⟩
  case s_11 =>
  intro _ vs lo hi W hs hp
  have e10:vs 10 = .slice A0_2 l0_2.length c0_2:=hp 10 z3_17 rfl
  refine does_call Try.func68 z3_17 rfl #[.slice A0_2 l0_2.length c0_2] rfl rfl (by rw [<-e10];simp only [List.map_toArray,List.map_cons,List.map_nil];rfl) ?_
  refine(clock_Put.calls k A0_2 c0_2 l0_2 q W (Kd.C_below HR2.out hs.1.out) HC2.out H3.out).mono ?_
  rintro e w' ⟨v,rfl,hv,hb⟩
  exact ⟨v,rfl,Kd.R_lower hv (below_size hs.1.out),hb⟩
 case hend =>
 intro vs lo hi W hs hp _
 simp only [List.drop_succ_cons,List.drop_zero]
 have hv8:=U (show Kd.R (Kd.int .u8) 5 W w.heap.size (λ_=>True) (vs 8) p from hp 8 (by decide))
 have hv11:=U (show Kd.R (Kd.int .u8) 5 W w.heap.size (λ_=>True) (vs 11) q from hp 11 (by decide))
 clear hp HB BK
 obtain ⟨HB,BK⟩:=hs
 generalize vs 8=v14 at hv8 ⊢
 generalize vs 11=v17 at hv11 ⊢
 obtain ⟨A14,c14,rfl⟩:=Kd.R_slice hv8.out
 obtain ⟨A17,c17,rfl⟩:=Kd.R_slice hv11.out
 go_wp2_with (first|((with_reducible refine gate_dst (N:=25) rfl ?_);refine Kd.N_lit (Kd.slice 5 (Kd.int .u8)) w.heap.size 22 ?hg (N':=25) ?hd (xs:=[p,q]) (inner:=[.slice A14 p.length c14,.slice A17 q.length c17]) (ok:=λ_=>True) (okp:=typed 5 W) ?hr ?hp (λ_ _=>trivial) trivial HB.out (below_size HB.out) (by simp) ?_;(case hd=>rfl);(case hg=>rfl);(case hr=>exact z10_10);(case hp=>exact(Reps.none _ _).snoc (own_FKt hv8.out) rfl |>.snoc (own_FKt hv11.out) rfl);intro v25 w4 ho hb hg_ _;have hcq:w4.cell? ⟨gb,3,none⟩=some (.slice A0_3 l0_3.length c0_3):=(blk_cell (blk_grown BK.out hg_ (by simp)) 3).trans rfl;have BK4:=U (blk_grown BK.out hg_ (by simp));have HO:=Aside0.mk ho;clear HB BK hv8 hv11;have HB:=Aside0.mk hb;have BK:=BK4;clear BK4 hb ho hg_))
 try clear hcq
 go_loopg [5,29] k (λkq v3 v4 w'=>∃ (acc:List (List Int)) (i:Int),v4 = .int .i64 i/\Aside0 (event_Put.l0 kq l0_3 acc i=some r)/\Aside0 (kq<=k)/\Aside0 (Kd.N (Kd.slice 5 (Kd.int .u8)) 22 w' w.heap.size (λ_=>True) v3 acc)/\Aside0 (w'.heap[gb]? = some (.cells #[.int .i64 a0_0,.int .i64 a0_1,.slice A0_2 l0_2.length c0_2,.slice A0_3 l0_3.length c0_3] 30 (0,0)))/\Aside0 (Below w.heap.size w w'))
 case atStart=>exact ⟨[p,q],0,rfl,H,⟨Nat.le_refl _⟩,HO,BK,HB⟩
 case round =>
 clear H HO BK HB
 obtain ⟨acc,i,rfl,HA,HK,HO,BK,HB⟩:=hrel
 cases gk with
 | zero=>exact absurd HA.out (by simp [event_Put.l0])
 | succ k1 =>
 have H:=HA.out
 clear HA
 simp only [event_Put.l0] at H
 by_cases ci:i<(l0_3.length:Int)
 rotate_left
 ·rw [if_neg ci] at H
  have ci1:decide (i<(l0_3.length:Int))=false:=dF_ ci
  have ci2:(i<(l0_3.length:Int))=False:=eq_false ci
  clear ci
  have H6:=Aside0.mk H
  clear H
  obtain ⟨A18,c18,e18⟩:=Kd.N_slice HO.out
  subst e18
  go_wp2_with (first|((with_reducible refine gate_callee (f:=66) rfl ?_);refine goesL_ (some 57) rfl rfl Try.func66 z3_17 rfl #[.slice A18 acc.length c18] rfl z8_3 ?_;(with_reducible refine(wire_Pack.calls k1 _ _ acc r _ ?side1 ?side2 H6.out).mono ?_);(case side1=>exact(Kd.N_reads' HO.out).2.2);(case side2=>have:=(Kd.N_reads' HO.out);omega);rintro e w2 ⟨v50,rfl,ho,hb⟩;refine ⟨_,rfl,?_⟩;have HP:=U (Kd.R_lower ho (below_size HB.out));have HB2:=U (below_step HB.out hb);clear ho hb))
  go_ret2
  exact ⟨_,rfl,HP.out,HB2.out⟩
 rw [if_pos ci] at H
 by_cases c0:0<=i
 rotate_left
 ·rw [if_neg c0] at H
  exact absurd H (by simp)
 rw [if_pos c0] at H
 obtain ⟨t6,h1,H⟩:=oB_ H
 by_cases cs:t6.length+2<5864062014805/\(rd_T48 l0_3 i).f2.size<=9223372036854775807/\(rd_T48 l0_3 i).f5.size<=9223372036854775807
 rotate_left
 ·rw [if_neg cs] at H
  exact absurd H (by simp)
 rw [if_pos cs] at H
 obtain ⟨p6,h2,H⟩:=oB_ H
 by_cases cl:acc.length<5864062014805
 rotate_left
 ·rw [if_neg cl] at H
  exact absurd H (by simp)
 rw [if_pos cl] at H
 have H4:=Aside0.mk h1
 have H5:=Aside0.mk h2
 have H':=Aside0.mk H
 have CS:=Aside0.mk cs
 have CL:=Aside0.mk cl
 clear h1 h2 H cs cl
 obtain ⟨ad,eA,x0,x1,x2,x3,x4,x5⟩:=at_T48 (Kd.C_below HR3.out HB.out) i c0 ci
 cases eA
 have ci1:decide (i<(l0_3.length:Int))=true:=dT_ ci
 have ci2:(i<(l0_3.length:Int))=True:=eq_true ci
 have c01:(0<=i)=True:=eq_true c0
 clear ci c0
 go_wp2
 have BX:=U (heap_alloc_new wr (.cells #[.int .i64 (rd_T48 l0_3 i).f0,.int .i64 (rd_T48 l0_3 i).f1,.string (rd_T48 l0_3 i).f2,.int .i64 (rd_T48 l0_3 i).f3,.int .i64 (rd_T48 l0_3 i).f4,.string (rd_T48 l0_3 i).f5] 48))
 obtain ⟨B0,hB0⟩:∃ B0,B0=wr.heap.size:=⟨_,rfl⟩
 have HO1:=U (Kd.N_alloc (Kd.N_bound HO.out) (.cells #[.int .i64 (rd_T48 l0_3 i).f0,.int .i64 (rd_T48 l0_3 i).f1,.string (rd_T48 l0_3 i).f2,.int .i64 (rd_T48 l0_3 i).f3,.int .i64 (rd_T48 l0_3 i).f4,.string (rd_T48 l0_3 i).f5] 48))
 have HB1:=U (below_alloc HB.out (.cells #[.int .i64 (rd_T48 l0_3 i).f0,.int .i64 (rd_T48 l0_3 i).f1,.string (rd_T48 l0_3 i).f2,.int .i64 (rd_T48 l0_3 i).f3,.int .i64 (rd_T48 l0_3 i).f4,.string (rd_T48 l0_3 i).f5] 48))
 have BK1:=U (blk_alloc BK.out (.cells #[.int .i64 (rd_T48 l0_3 i).f0,.int .i64 (rd_T48 l0_3 i).f1,.string (rd_T48 l0_3 i).f2,.int .i64 (rd_T48 l0_3 i).f3,.int .i64 (rd_T48 l0_3 i).f4,.string (rd_T48 l0_3 i).f5] 48))
 have LE1:=U (below_size (below_alloc (Below.refl wr.heap.size wr) (.cells #[.int .i64 (rd_T48 l0_3 i).f0,.int .i64 (rd_T48 l0_3 i).f1,.string (rd_T48 l0_3 i).f2,.int .i64 (rd_T48 l0_3 i).f3,.int .i64 (rd_T48 l0_3 i).f4,.string (rd_T48 l0_3 i).f5] 48)))
 rw [<-hB0] at BX HO1 LE1 ⊢
 generalize wr.alloc (.cells #[.int .i64 (rd_T48 l0_3 i).f0,.int .i64 (rd_T48 l0_3 i).f1,.string (rd_T48 l0_3 i).f2,.int .i64 (rd_T48 l0_3 i).f3,.int .i64 (rd_T48 l0_3 i).f4,.string (rd_T48 l0_3 i).f5] 48)=wx at BX HO1 HB1 BK1 LE1 ⊢
 clear x0 x1 x2 x3 x4 x5 HB HO BK hB0
 generalize rd_T48 l0_3 i=x at *
 refine wp_region_any z3_17 ?_
 refine take_pre (i:=0) (N:=some 33) (v:=u5) rfl rfl z3_17 z3_17 z3_17 (λ_ _ _ h=>h) (by rfl) ?_ ?_
 ·intro w_
  first|(go_simp;done)|(go_simp;rfl)
 (try simp only [Act.put,List.setIfInBounds_toArray,List.set_cons_zero,List.set_cons_succ])
 refine any_cards (F:=?F6) [0] 18 (λw'=>Aside0 (Below w.heap.size w w')/\Aside0 (w'.heap[B0]? = some (.cells #[.int .i64 x.f0,.int .i64 x.f1,.string x.f2,.int .i64 x.f3,.int .i64 x.f4,.string x.f5] 48 (0,0)))/\Aside0 (Kd.N (Kd.slice 5 (Kd.int .u8)) 22 w' w.heap.size (λk=>True/\k<B0) u5 acc)/\Aside0 (w'.heap[gb]? = some (.cells #[.int .i64 a0_0,.int .i64 a0_1,.slice A0_2 l0_2.length c0_2,.slice (some ad) l0_3.length c0_3] 30 (0,0)))/\Aside0 (B0<=w'.heap.size))
  [λ_ _ _ _=>True,
  λv _ _ _=>v = .pointer (some ⟨B0,0,none⟩),
  λv _ _ _=>v = .int .i64 x.f0,
  λv _ _ _=>v = .pointer (some ⟨B0,1,none⟩),
  λv _ _ _=>v = .int .i64 x.f1,
  λv _ _ _=>v = .pointer (some ⟨B0,3,none⟩),
  λv _ _ _=>v = .int .i64 x.f3,
  λv _ _ _=>v = .pointer (some ⟨B0,4,none⟩),
  λv _ _ _=>v = .int .i64 x.f4,
  λv w' _ _=>(Kd.slice 0 (Kd.int .i64)).K w' [x.f0,x.f1,x.f3,x.f4] [v],
  λv w' lo hi=>Kd.N (Kd.slice 5 (Kd.int .u8)) 22 w' lo (λk=>k<hi) v t6/\B0<=lo/\w.heap.size<=lo,
  λv _ _ _=>v = .pointer (some ⟨B0,2,none⟩),
  λv _ _ _=>v = .string x.f2,
  λv w' _ _=>Kd.FK (Kd.slice 5 (Kd.int .u8)) w' (typed 5 w') (bytesOf x.f2) [v],
  λv _ _ _=>v = .pointer (some ⟨B0,5,none⟩),
  λv _ _ _=>v = .string x.f5,
  λv w' _ _=>Kd.FK (Kd.slice 5 (Kd.int .u8)) w' (typed 5 w') (bytesOf x.f5) [v],
  λv w' lo hi=>Kd.FK (Kd.slice 22 (Kd.slice 5 (Kd.int .u8))) w' (λj=>typed 5 w' j\/lo<=j/\j<hi) [bytesOf x.f2,bytesOf x.f5] [v]]
  z3_17 z3_17 z3_17 ?hF6 ?hS06 ?hS6 ?hstay6 ?hsteps6 ?hend6
 case hF6 =>
  intro vs
  simp only [List.take_succ_cons,List.take_zero,fill,if_true,if_false,Act.put,List.setIfInBounds_toArray,List.set_cons_zero,List.set_cons_succ,Nat.reduceAdd,List.contains_cons,List.contains_nil,Nat.reduceBEq,Bool.or_false,Bool.false_or,Bool.not_true,Bool.not_false,Bool.false_eq_true,Bool.or_self,Bool.true_or]
  rfl
 case hS06=>exact ⟨⟨below_drew HB1.out⟩,⟨blk_drew BX.out⟩,⟨Kd.N_drew HO1.out⟩,⟨blk_drew BK1.out⟩,⟨LE1.out⟩⟩
 case hS6=>exact λw1 w2 hb hs=>⟨⟨below_step hs.1.out hb⟩,⟨(hb.block _ (blk_lt hs.2.1.out)).trans hs.2.1.out⟩,⟨Kd.N_below hs.2.2.1.out hb⟩,⟨(hb.block _ (blk_lt hs.2.2.2.1.out)).trans hs.2.2.2.1.out⟩,⟨Nat.le_trans hs.2.2.2.2.out hb.size⟩⟩
 case hstay6=>exact ⟨λ_ _ _ _ _ _ h=>h,λ_ _ _ _ _ _ h=>h,λ_ _ _ _ _ _ h=>h,λ_ _ _ _ _ _ h=>h,λ_ _ _ _ _ _ h=>h,λ_ _ _ _ _ _ h=>h,λ_ _ _ _ _ _ h=>h,λ_ _ _ _ _ _ h=>h,λ_ _ _ _ _ _ h=>h,λ_ _ _ _ _ hb h=>(Kd.slice 0 (Kd.int .i64)).K_below hb h,λ_ _ _ _ _ hb h=>⟨Kd.N_below h.1 hb,h.2⟩,λ_ _ _ _ _ _ h=>h,λ_ _ _ _ _ _ h=>h,λ_ _ _ _ _ hb h=>FKt_below h hb,λ_ _ _ _ _ _ h=>h,λ_ _ _ _ _ _ h=>h,λ_ _ _ _ _ hb h=>FKt_below h hb,λ_ _ _ _ _ hb h=>Kd.FK_mono (Kd.FK_below h hb) (λ_ ht=>ht.imp (λht=>typed_below ht hb) id),trivial⟩
 case hsteps6 =>
  refine ⟨?s6_0,?s6_1,?s6_2,?s6_3,?s6_4,?s6_5,?s6_6,?s6_7,?s6_8,?s6_9,?s6_10,?s6_11,?s6_12,?s6_13,?s6_14,?s6_15,?s6_16,?s6_17,trivial⟩
  case s6_0=>exact λhk=>absurd hk (by decide)
  case s6_1 =>
   intro _ vs lo hi W hs hp
   exact does_val z10_10 ⟨rfl,Below.refl _ _⟩
  case s6_2 =>
   intro _ vs lo hi W hs hp
   have e1:vs 1 = .pointer (some ⟨B0,0,none⟩):=hp 1 z3_17 rfl
   have hc:W.cell? ⟨B0,0,none⟩=some (.int .i64 x.f0):=(blk_cell hs.2.1.out 0).trans rfl
   exact does_val z10_10 ⟨rfl,Below.refl _ _⟩
  case s6_3 =>
   intro _ vs lo hi W hs hp
   exact does_val z10_10 ⟨rfl,Below.refl _ _⟩
  case s6_4 =>
   intro _ vs lo hi W hs hp
   have e3:vs 3 = .pointer (some ⟨B0,1,none⟩):=hp 3 z3_17 rfl
   have hc:W.cell? ⟨B0,1,none⟩=some (.int .i64 x.f1):=(blk_cell hs.2.1.out 1).trans rfl
   exact does_val z10_10 ⟨rfl,Below.refl _ _⟩
  case s6_5 =>
   intro _ vs lo hi W hs hp
   exact does_val z10_10 ⟨rfl,Below.refl _ _⟩
  case s6_6 =>
   intro _ vs lo hi W hs hp
   have e5:vs 5 = .pointer (some ⟨B0,3,none⟩):=hp 5 z3_17 rfl
   have hc:W.cell? ⟨B0,3,none⟩=some (.int .i64 x.f3):=(blk_cell hs.2.1.out 3).trans rfl
   exact does_val z10_10 ⟨rfl,Below.refl _ _⟩
  case s6_7 =>
   intro _ vs lo hi W hs hp
   exact does_val z10_10 ⟨rfl,Below.refl _ _⟩
  case s6_8 =>
   intro _ vs lo hi W hs hp
   have e7:vs 7 = .pointer (some ⟨B0,4,none⟩):=hp 7 z3_17 rfl
   have hc:W.cell? ⟨B0,4,none⟩=some (.int .i64 x.f4):=(blk_cell hs.2.1.out 4).trans rfl
   exact does_val z10_10 ⟨rfl,Below.refl _ _⟩
  case s6_9 =>
   intro _ vs lo hi W hs hp
   have e2:vs 2 = .int .i64 x.f0:=hp 2 z3_17 rfl
   have e4:vs 4 = .int .i64 x.f1:=hp 4 z3_17 rfl
   have e6:vs 6 = .int .i64 x.f3:=hp 6 z3_17 rfl
   have e8:vs 8 = .int .i64 x.f4:=hp 8 z3_17 rfl
   exact does_val z10_10 ⟨fresh_ints W 3 .i64 [x.f0,x.f1,x.f3,x.f4] (by simp),below_alloc (Below.refl _ _) _⟩
  case s6_10 =>
   intro _ vs lo hi W hs hp
   obtain ⟨A,c,e9,hl,hC⟩:(Kd.slice 0 (Kd.int .i64)).K W [x.f0,x.f1,x.f3,x.f4] [vs 9]:=hp 9 z3_17 rfl
   have e9:=List.cons.inj e9 |>.1
   refine does_call Try.func67 z3_17 rfl #[.slice A [x.f0,x.f1,x.f3,x.f4].length c] rfl rfl (by rw [<-e9];simp only [List.map_toArray,List.map_cons,List.map_nil];rfl) ?_
   refine(event_nums.calls k1 A c [x.f0,x.f1,x.f3,x.f4] t6 W hC hl H4.out).mono ?_
   rintro e w' ⟨v,rfl,hv,hb⟩
   exact ⟨v,rfl,⟨Kd.N_mono (Kd.N_bound (Kd.S_N hv)) (λ_ hk=>hk.2),hs.2.2.2.2.out,below_size hs.1.out⟩,hb⟩
  case s6_11 =>
   intro _ vs lo hi W hs hp
   exact does_val z10_10 ⟨rfl,Below.refl _ _⟩
  case s6_12 =>
   intro _ vs lo hi W hs hp
   have e11:vs 11 = .pointer (some ⟨B0,2,none⟩):=hp 11 z3_17 rfl
   have hc:W.cell? ⟨B0,2,none⟩=some (.string x.f2):=(blk_cell hs.2.1.out 2).trans rfl
   exact does_val z10_10 ⟨rfl,Below.refl _ _⟩
  case s6_13 =>
   intro _ vs lo hi W hs hp
   have e12:vs 12 = .string x.f2:=hp 12 z3_17 rfl
   have kb:=print_bytes (P:=Try.prog) 9 22 5 Try.underlying9 Try.underlying22 Try.underlying5 x.f2 W
   exact does_val z10_10 ⟨bytes_FK W 5 x.f2 CS.out.2.1,bytes_below' W 5 x.f2⟩
  case s6_14 =>
   intro _ vs lo hi W hs hp
   exact does_val z10_10 ⟨rfl,Below.refl _ _⟩
  case s6_15 =>
   intro _ vs lo hi W hs hp
   have e14:vs 14 = .pointer (some ⟨B0,5,none⟩):=hp 14 z3_17 rfl
   have hc:W.cell? ⟨B0,5,none⟩=some (.string x.f5):=(blk_cell hs.2.1.out 5).trans rfl
   exact does_val z10_10 ⟨rfl,Below.refl _ _⟩
  case s6_16 =>
   intro _ vs lo hi W hs hp
   have e15:vs 15 = .string x.f5:=hp 15 z3_17 rfl
   have kb:=print_bytes (P:=Try.prog) 9 22 5 Try.underlying9 Try.underlying22 Try.underlying5 x.f5 W
   exact does_val z10_10 ⟨bytes_FK W 5 x.f5 CS.out.2.2,bytes_below' W 5 x.f5⟩
  case s6_17 =>
  intro _ vs lo hi W hs hp
  have h13:Kd.FK (Kd.slice 5 (Kd.int .u8)) W (typed 5 W) (bytesOf x.f2) [vs 13]:=hp 13 z3_17 rfl
  have h16:Kd.FK (Kd.slice 5 (Kd.int .u8)) W (typed 5 W) (bytesOf x.f5) [vs 16]:=hp 16 z3_17 rfl
  obtain ⟨A13,c13,e13,_⟩:=Kd.FK_slice_open h13
  obtain ⟨A16,c16,e16,_⟩:=Kd.FK_slice_open h16
  have e13:=List.cons.inj e13 |>.1
  have e16:=List.cons.inj e16 |>.1
  rw [e13] at h13
  rw [e16] at h16
  refine does_val (v:=.slice (some ⟨W.heap.size,0,none⟩) 2 2) (w1:=W.alloc (.cells #[.slice A13 (bytesOf x.f2).length c13,.slice A16 (bytesOf x.f5).length c16] 22)) z10_10 ⟨Kd.FK_mono (lit2_FK W 22 h13 h16) (λj hj=>hj.imp (λht=>typed_below ht (below_alloc (Below.refl _ _) _)) (λe=>by subst e;simp)),below_alloc (Below.refl _ _) _⟩
 case hend6 =>
 intro vs6 lo hi W hs hp hap
 simp only [List.drop_succ_cons,List.drop_zero]
 have h10:Kd.N (Kd.slice 5 (Kd.int .u8)) 22 W (lo 10) (λk=>k<hi 10) (vs6 10) t6/\B0<=lo 10/\w.heap.size<=lo 10:=hp 10 (by decide) rfl
 have h17:Kd.FK (Kd.slice 22 (Kd.slice 5 (Kd.int .u8))) W (λj=>typed 5 W j\/lo 17<=j/\j<hi 17) [bytesOf x.f2,bytesOf x.f5] [vs6 17]:=hp 17 (by decide) rfl
 have hdis:=hap 10 17 (by decide) (by decide) rfl rfl (by decide)
 clear hp hap
 obtain ⟨HB,BX,HO,BK,LE⟩:=hs
 generalize vs6 10=v41 at h10 ⊢
 obtain ⟨A48,c48,e48,hl48,hF48⟩:=Kd.FK_slice_open h17
 have e48:=List.cons.inj e48 |>.1
 rw [e48]
 obtain ⟨A41,c41,e41⟩:=Kd.N_slice h10.1
 subst e41
 have hown:∀ j,some j=(Value.slice A41 t6.length c41).ownBlock->lo 10<=j/\j<hi 10:=λj hj=>⟨Kd.N_base h10.1 j hj.symm,h10.1.1 j hj.symm⟩
 have hap48:∀ j,(typed 5 W j\/lo 17<=j/\j<hi 17)->some j≠(Value.slice A41 t6.length c41).ownBlock:=by
  intro j hj he
  have h1:=hown j he
  rcases hj with hj|hj
  ·exact typed_ne (N_typed' h10.1 he) hj (by decide)
  ·omega
 have hapu:∀ j,j<B0->some j≠(Value.slice A41 t6.length c41).ownBlock:=λj hj he=>by have h1:=hown j he;omega
 have HT:=U (Kd.N_mono (Kd.N_lower h10.1 h10.2.2) (ok':=λ_=>True) (λ_ _=>trivial))
 have HF:=Aside0.mk hF48
 have HA1:=Aside0.mk hap48
 have HA2:=Aside0.mk hapu
 have HW:=Aside0.mk h10.2.2
 clear h10 h17 hdis e48 hl48 hF48 hown hap48 hapu
 have CS1:=U (show t6.length+2<5864062014805 from CS.out.1)
 go_wp2_with (first|((with_reducible refine gate_builtin (b:=.append) (xs:=#[.tmp 43,.tmp 50]) rfl ?_);at_builtin;refine Kd.N_append_rows (Kd.slice 5 (Kd.int .u8)) (w0:=w) w.heap.size rfl (.tmp 43) (.tmp 50) 73 22 (.slice none 0 0) 24 rfl Try.underlying73 info22 rfl (by decide) (by decide) (.slice A41 t6.length c41) t6 [bytesOf x.f2,bytesOf x.f5] A48 2 c48 (λ_=>True) _ rfl rfl HT.out HF.out (λj hj=>⟨trivial,HA1.out j hj⟩) (λ_ _=>trivial) HB.out (below_size HB.out) (by have:=CS1.out;omega) ?_;intro v49 w1 ho hb hg hat;have n1:=U (Kd.N_grown HO.out hg (λj hj=>HA2.out j hj.2));have n2:=U (blk_grown BK.out hg (Kd.N_ne HT.out BK.out (by decide)));clear HT HF HA1 HA2 HB HO BX LE BK;have HT:=Aside0.mk ho;have HO:=n1;have BK:=n2;have HB:=Aside0.mk hb;clear n1 n2 hb hg hat;obtain ⟨A49,c49,e49⟩:=Kd.N_slice ho;subst e49;clear ho)|((with_reducible refine gate_callee (f:=66) rfl ?_);refine goesL_ (some 52) rfl rfl Try.func66 z3_17 rfl #[.slice A49 (t6++[bytesOf x.f2,bytesOf x.f5]).length c49] rfl z8_3 ?_;(with_reducible refine(wire_Pack.calls k1 _ _ (t6++[bytesOf x.f2,bytesOf x.f5]) p6 _ ?side1 ?side2 H5.out).mono ?_);(case side1=>exact(Kd.N_reads' HT.out).2.2);(case side2=>have:=(Kd.N_reads' HT.out);omega);rintro e w2 ⟨v50,rfl,ho,hb⟩;refine ⟨_,rfl,?_⟩;have n1:=U (Kd.N_below HO.out hb);have n2:=U ((hb.block _ (blk_lt BK.out)).trans BK.out);have n3:=U (below_step HB.out hb);clear HO BK HB HT;have HO:=n1;have BK:=n2;have HB:=n3;have HP:=Aside0.mk ho;clear n1 n2 n3 hb;obtain ⟨A50,c50,e50⟩:=Kd.R_slice ho;subst e50;clear ho)|((with_reducible refine gate_builtin (b:=.append) (xs:=#[.tmp 33,.tmp 53]) rfl ?_);at_builtin;refine Kd.N_append (Kd.slice 5 (Kd.int .u8)) (w0:=w) w.heap.size rfl (.tmp 33) (.tmp 53) 73 22 (.slice none 0 0) 24 rfl Try.underlying73 info22 rfl (by decide) (by decide) u5 acc p6 [.slice A50 p6.length c50] (λ_=>True) (typed 5 _) rfl rfl (own_FKt HP.out) (λj hj=>⟨trivial,λhe=>typed_ne (N_typed' HO.out he) hj (by decide)⟩) (λ_ _=>trivial) (Kd.N_mono HO.out (λ_ _=>trivial)) HB.out (below_size HB.out) (by have:=CL.out;omega) ?_;intro v52 w3 ho hb hg hat;have n2:=U (blk_grown BK.out hg (Kd.N_ne HO.out BK.out (by decide)));clear HO BK HB HP;have HO:=Aside0.mk ho;have BK:=n2;have HB:=Aside0.mk hb;clear n2 hb hg hat ho))
 go_roundg k1
 case measure=>have:=HK.out;omega
 case rel=>exact ⟨acc++[p6],wrap64 (i+1),rfl,H',⟨(by have:=HK.out;omega)⟩,HO,BK,HB⟩
end Go.Proofs.Ytgocnchjpecafaa.PEv
