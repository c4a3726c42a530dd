/- a part -/
import Derived.Test.YtpahdlgpiecdkaaDkRef
namespace Go.Proofs.Ytpahdlgpiecdkaa.Dsk
open Go.RowKit Go.Proofs.YtpahdlgpiecdkaaW.PrintWords Go.Proofs.YtpahdlgpiecdkaaW.PrintLast Go.Proofs.YtpahdlgpiecdkaaW.PrintMore Go.Proofs.Ytpahdlgpiecdkaa.Hand Go.Proofs.Ytpahdlgpiecdkaa.Cards Go.Proofs.Ytpahdlgpiecdkaa.PDk
set_option linter.unusedVariables false
set_option linter.unusedSimpArgs false
section
variable {w0 W : World} {D : Nat -> Prop} {d : Dk} {A0 A1 : Option Addr} {c0 c1 : Nat}
set_option maxHeartbeats 8000000 in
set_option maxRecDepth 100000 in
theorem refDo0_0_0 (h:RawV W D A0 A1 c0 c1 d) (hD:∀ k,D k->k<W.heap.size) (hg:d.Good) (i:Int) (A:Option Addr) (m c:Nat) (b:List Int) (hm:m=b.length) (hc:m<=c) (hA:Kd.F U8 W (λk=>¬ D k) A m b) (hd:d.dead=false) (hi:i=0) (hf:¬ d.left<(b.length:Int)) (hs:d.stop≠0) (hp:¬ 0<d.stop) :
  Calls Try.prog 24 #[dkV A0 A1 c0 c1 d,.int .i64 0,.int .i64 i,.slice A m c] W λe w'=>∃ v,e = .returned (.tuple #[v,.int .i64 (d.act 0 i b).2])/\Is w' D v (d.act 0 i b).1/\Below W.heap.size W w':=by
 have ea:d.act 0 i b=(d.tick.put 0 (d.b0++b) d.s0,0):=by unfold Dk.act;rw [if_pos rfl];unfold Dk.app;rw [Dk.why_ok hd (by omega),if_neg (by decide),if_neg hf];unfold Dk.did;rw [if_neg hs,hi];rfl
 rw [ea]
 clear ea
 obtain ⟨b0,s0,b1,s1,room,stop,dead⟩:=d
 obtain rfl:dead=false:=hd
 have z0:(stop == 0)=false:=beq_eq_false_iff_ne.2 hs
 have p1:decide (stop > 0)=false:=decide_eq_false hp
 have p2:decide (0<stop)=false:=decide_eq_false hp
 rw [Dk.tick_neg hp]
 subst hi
 have l1:decide ((m:Int) > Dk.left ⟨b0,s0,b1,s1,room,stop,false⟩)=false:=decide_eq_false (by rw [hm];exact hf)
 have l2:decide (Dk.left ⟨b0,s0,b1,s1,room,stop,false⟩<(m:Int))=false:=decide_eq_false (by rw [hm];exact hf)
 clear hs hp hf
 have H:=Aside0.mk h
 have HD:=Aside0.mk hD
 have HA:=Aside0.mk hA
 have HG:=Aside0.mk hg
 have HM:=Aside0.mk hm
 clear h hD hA hg hm
 go_enter Try.func24,Try.ntmps24
 go_upto_region 5 with (fail)
 have hb:Below W.heap.size W ((W.alloc (.cells #[.slice A0 b0.length c0,.int .i64 s0,.slice A1 b1.length c1,.int .i64 s1,.int .i64 room,.int .i64 (stop),.bool false] 43)).alloc (.cells #[.slice none 0 0,.int .i64 0,.slice none 0 0,.int .i64 0,.int .i64 0,.int .i64 0,.bool false] 43)):=below_alloc (below_alloc (Below.refl _ _) _) _
 have x4:((W.alloc (.cells #[.slice A0 b0.length c0,.int .i64 s0,.slice A1 b1.length c1,.int .i64 s1,.int .i64 room,.int .i64 (stop),.bool false] 43)).alloc (.cells #[.slice none 0 0,.int .i64 0,.slice none 0 0,.int .i64 0,.int .i64 0,.int .i64 0,.bool false] 43)).heap[W.heap.size]? = some (.cells #[.slice A0 b0.length c0,.int .i64 s0,.slice A1 b1.length c1,.int .i64 s1,.int .i64 room,.int .i64 (stop),.bool false] 43 (0,0)):=blk_below (heap_alloc_new W _) (below_alloc (Below.refl _ _) _)
 have x8:((W.alloc (.cells #[.slice A0 b0.length c0,.int .i64 s0,.slice A1 b1.length c1,.int .i64 s1,.int .i64 room,.int .i64 (stop),.bool false] 43)).alloc (.cells #[.slice none 0 0,.int .i64 0,.slice none 0 0,.int .i64 0,.int .i64 0,.int .i64 0,.bool false] 43)).heap[W.heap.size+1]? = some (.cells #[.slice none 0 0,.int .i64 0,.slice none 0 0,.int .i64 0,.int .i64 0,.int .i64 0,.bool false] 43 (0,0)):=by have h_:=heap_alloc_new (W.alloc (.cells #[.slice A0 b0.length c0,.int .i64 s0,.slice A1 b1.length c1,.int .i64 s1,.int .i64 room,.int .i64 (stop),.bool false] 43)) (.cells #[.slice none 0 0,.int .i64 0,.slice none 0 0,.int .i64 0,.int .i64 0,.int .i64 0,.bool false] 43);rwa [show(W.alloc (.cells #[.slice A0 b0.length c0,.int .i64 s0,.slice A1 b1.length c1,.int .i64 s1,.int .i64 room,.int .i64 (stop),.bool false] 43)).heap.size=W.heap.size+1 by simp] at h_
 have HB:=Aside0.mk hb
 have X4:=Aside0.mk x4
 have X8:=Aside0.mk x8
 clear hb x4 x8
 generalize (W.alloc (.cells #[.slice A0 b0.length c0,.int .i64 s0,.slice A1 b1.length c1,.int .i64 s1,.int .i64 room,.int .i64 (stop),.bool false] 43)).alloc (.cells #[.slice none 0 0,.int .i64 0,.slice none 0 0,.int .i64 0,.int .i64 0,.int .i64 0,.bool false] 43)=w1 at HB X4 X8 ⊢
 have hL:Calls Try.prog 36 #[.agg #[.slice A0 b0.length c0,.int .i64 s0,.slice A1 b1.length c1,.int .i64 s1,.int .i64 room,.int .i64 (stop),.bool false]] w1 λe w'=>e = .returned (.int .i64 (Dk.left ⟨b0,s0,b1,s1,room,stop,false⟩))/\Below w1.heap.size w1 w':=refLeft (H.out.step (Step.of_below (D:=D) HB.out)) HG.out
 have HL:=Aside0.mk hL
 clear hL
 have k0:=(blk_cell X4.out 0).trans (rfl:_=some (Value.slice A0 b0.length c0))
 have k1:=(blk_cell X4.out 1).trans (rfl:_=some (Value.int .i64 s0))
 have k2:=(blk_cell X4.out 2).trans (rfl:_=some (Value.slice A1 b1.length c1))
 have k3:=(blk_cell X4.out 3).trans (rfl:_=some (Value.int .i64 s1))
 have k4:=(blk_cell X4.out 4).trans (rfl:_=some (Value.int .i64 room))
 have k5:=(blk_cell X4.out 5).trans (rfl:_=some (Value.int .i64 (stop)))
 have k6:=(blk_cell X4.out 6).trans (rfl:_=some (Value.bool false))
 go_upto_region 12 with (first|(go_at_call 36;(with_reducible refine Calls.mono HL.out ?_);rintro e w2 ⟨rfl,hb⟩;clear k0 k1 k2 k3 k4 k5 k6;have x4:=blk_below X4.out hb;have x8:=blk_below X8.out hb;have hb2:=below_step HB.out hb;clear X4 X8 HB;have X4:=Aside0.mk x4;have X8:=Aside0.mk x8;have HB:=Aside0.mk hb2;clear x4 x8 hb2 hb;have k0:=(blk_cell X4.out 0).trans (rfl:_=some (Value.slice A0 b0.length c0));have k1:=(blk_cell X4.out 1).trans (rfl:_=some (Value.int .i64 s0));have k2:=(blk_cell X4.out 2).trans (rfl:_=some (Value.slice A1 b1.length c1));have k3:=(blk_cell X4.out 3).trans (rfl:_=some (Value.int .i64 s1));have k4:=(blk_cell X4.out 4).trans (rfl:_=some (Value.int .i64 room));have k5:=(blk_cell X4.out 5).trans (rfl:_=some (Value.int .i64 (stop)));have k6:=(blk_cell X4.out 6).trans (rfl:_=some (Value.bool false));have f5:=blk_frozen X4.out 5))
 clear k0 k1 k2 k3 k4 k5 k6 f5
 generalize w2=w3 at X4 X8 HB ⊢
 have k0:=(blk_cell X4.out 0).trans (rfl:_=some (Value.slice A0 b0.length c0))
 have k1:=(blk_cell X4.out 1).trans (rfl:_=some (Value.int .i64 s0))
 have k2:=(blk_cell X4.out 2).trans (rfl:_=some (Value.slice A1 b1.length c1))
 have k3:=(blk_cell X4.out 3).trans (rfl:_=some (Value.int .i64 s1))
 have k4:=(blk_cell X4.out 4).trans (rfl:_=some (Value.int .i64 room))
 have k5:=(blk_cell X4.out 5).trans (rfl:_=some (Value.int .i64 (stop)))
 have k6:=(blk_cell X4.out 6).trans (rfl:_=some (Value.bool false))
 go_upto_region 15 with (first|(go_at_call 25;(with_reducible refine Calls.mono (refGet_zero w3 A0 A1 c0 c1 (⟨b0,s0,b1,s1,room,stop,false⟩:Dk)) ?_);rintro e w4 ⟨rfl,hb⟩;clear k0 k1 k2 k3 k4 k5 k6;have x4:=blk_below X4.out hb;have x8:=blk_below X8.out hb;have hb2:=below_step HB.out hb;clear X4 X8 HB;have X4:=Aside0.mk x4;have X8:=Aside0.mk x8;have HB:=Aside0.mk hb2;clear x4 x8 hb2 hb))
 have lt8:=Aside0.mk (blk_lt X8.out)
 have hb:=below_alloc (Below.refl w4.heap.size w4) (.cells #[.slice A0 b0.length c0,.int .i64 s0] 41)
 have X10:=Aside0.mk (heap_alloc_new w4 (.cells #[.slice A0 b0.length c0,.int .i64 s0] 41))
 have x4:=blk_below X4.out hb
 have x8:=blk_below X8.out hb
 have hb2:=below_step HB.out hb
 clear X4 X8 HB
 have X4:=Aside0.mk x4
 have X8:=Aside0.mk x8
 have HB:=Aside0.mk hb2
 clear x4 x8 hb2 hb
 obtain ⟨b10,hb10⟩:∃ b10,b10=w4.heap.size:=⟨_,rfl⟩
 generalize w4.alloc (.cells #[.slice A0 b0.length c0,.int .i64 s0] 41)=w5 at HB X4 X8 X10 ⊢
 rw [<-hb10] at X10 lt8 ⊢
 clear hb10
 have j0:=(blk_cell X10.out 0).trans (rfl:_=some (Value.slice A0 b0.length c0))
 have q5:=Aside0.mk (H.out.step (Step.of_below (D:=D) HB.out))
 have a5:=Aside0.mk ((Step.of_below (D:=D) HB.out).foot HA.out)
 have LB:=Aside0.mk (show(b0.length:Int)<=1048576 from HG.out.len0)
 have LM:=Aside0.mk (show(m:Int)<=1048576 by have h1:=HM.out;have h2:=of_decide_eq_false l2;have h3:=HG.out.r1;have h4:room<=1048576:=h3;unfold Dk.left at h2;simp only at h2;omega)
 go_upto_region 20 with (first|((with_reducible refine gate_builtin (b:=.append) (xs:=#[.tmp 52,.tmp 53]) rfl ?_);at_builtin;refine Kd.R_append_rows U8 (w0:=w5) w5.heap.size rfl (.tmp 52) (.tmp 53) 23 5 (.int .u8 0) 1 rfl Try.underlying23 info5 rfl (by decide) (by omega) _ b0 b _ _ _ (λ_=>True) (λ_=>False) rfl rfl O2.out (by have a_:=Kd.C_below (Kd.F_now a5.out) B2.out;rw [HM.out] at a_ ⊢;exact a_) (λ_ _ h=>h) (λ_ h=>h.elim) (λ_ _=>trivial) B2.out (below_size B2.out) (by have:=LB.out;have:=LM.out;omega) ?_;intro v54 w9 ho hb hg hat;obtain ⟨bb,hbb⟩:∃ bb,bb=b0++b:=⟨_,rfl⟩;rw [<-hbb] at ho;have BB:=Aside0.mk hbb;clear hbb;obtain ⟨A5,c5,e5⟩:=Kd.R_slice ho;subst e5;have O3:=Aside0.mk ho;have B3:=Aside0.mk hb;have x10:=blk_below X10.out hb;clear j0;have j0:=(blk_cell x10 0).trans (rfl:_=some (Value.slice A0 b0.length c0));have g0:=blk_frozen x10 0;clear ho hb hg hat x10)|((with_reducible refine gate_builtin (b:=.append) (xs:=#[.tmp 49,.tmp 51]) rfl ?_);at_builtin;refine Kd.R_append_rows U8 (w0:=w5) w5.heap.size rfl (.tmp 49) (.tmp 51) 23 5 (.int .u8 0) 1 rfl Try.underlying23 info5 rfl (by decide) (by omega) _ [] b0 _ _ _ (λ_=>True) (λ_=>False) rfl rfl O1.out (Kd.C_below (Kd.F_now q5.out.f0) B1.out) (λ_ _ h=>h) (λ_ h=>h.elim) (λ_ _=>trivial) B1.out (below_size B1.out) (by have:=LB.out;simp;omega) ?_;intro v52 w8 ho hb hg hat;rw [List.nil_append] at ho;have O2:=Aside0.mk ho;have B2:=Aside0.mk hb;have x10:=blk_below X10.out hb;clear j0;have j0:=(blk_cell x10 0).trans (rfl:_=some (Value.slice A0 b0.length c0));clear ho hb hg hat x10)|((with_reducible refine gate_dst (N:=49) rfl ?_);refine Kd.R_lit U8 (w0:=w5) w5.heap.size 5 ?hg (N:=49) ?hd (xs:=([]:List Int)) (inner:=[]) (ok:=λ_=>True) (okp:=λ_=>True) ?hr ?hp (λ_ hk=>hk) trivial (Below.refl _ _) (Nat.le_refl _) (by simp) ?_;(case hd=>rfl);(case hg=>rfl);(case hr=>first|(go_simp;done)|(go_simp;rfl));(case hp=>exact(Reps.none _ _));intro v49 w6 ho hb hg_ hnew_;have O1:=Aside0.mk ho;have B1:=Aside0.mk hb;have x10:=blk_below X10.out hb;clear j0;have j0:=(blk_cell x10 0).trans (rfl:_=some (Value.slice A0 b0.length c0));clear ho hb hg_ hnew_ x10))
 have lt10:=blk_lt X10.out
 have hb:=B3.out
 have x4:=blk_below X4.out hb
 have x8:=blk_below X8.out hb
 have x10:=blk_below X10.out hb
 have hb2:=below_step HB.out hb
 clear X4 X8 X10 HB
 have X4:=Aside0.mk x4
 have X8:=Aside0.mk x8
 have X10:=Aside0.mk x10
 have HB:=Aside0.mk hb2
 clear x4 x8 x10 hb2
 have x10:=blk_put (cs':=#[.slice A5 bb.length c5,.int .i64 s0]) X10.out 0 (.slice A5 bb.length c5) rfl
 have hf:∀ k,k≠b10->(w9.setCell ⟨b10,0,none⟩ (.slice A5 bb.length c5)).heap[k]? = w9.heap[k]?:=λk hk=>Below.heap_setCell w9 ⟨b10,0,none⟩ (.slice A5 bb.length c5) k hk
 have x4:=(hf W.heap.size (by have:=lt8.out;omega)).trans X4.out
 have x8:=(hf (W.heap.size+1) (by have:=lt8.out;omega)).trans X8.out
 have hb2:=below_set (j:=0) (v:=.slice A5 bb.length c5) HB.out (show W.heap.size<=b10 by have:=lt8.out;omega)
 have o3:=Kd.R_step (Kd.R_mono (Kd.R_bound O3.out) (ok':=λk=>w5.heap.size<=k) (λk hk=>hk.2.1)) (λk hk _=>hf k (by omega))
 clear X4 X8 X10 HB hf j0 g0 O1 O2 O3 B1 B2 B3 hb
 generalize w9.setCell ⟨b10,0,none⟩ (.slice A5 bb.length c5)=w10 at x4 x8 x10 hb2 o3 ⊢
 have X4:=Aside0.mk x4
 have X8:=Aside0.mk x8
 have X10:=Aside0.mk x10
 have HB:=Aside0.mk hb2
 have O3:=Aside0.mk o3
 have LT5:=Aside0.mk lt10
 clear x4 x8 x10 hb2 o3 lt10
 have k0:=(blk_cell X4.out 0).trans (rfl:_=some (Value.slice A0 b0.length c0))
 have k1:=(blk_cell X4.out 1).trans (rfl:_=some (Value.int .i64 s0))
 have k2:=(blk_cell X4.out 2).trans (rfl:_=some (Value.slice A1 b1.length c1))
 have k3:=(blk_cell X4.out 3).trans (rfl:_=some (Value.int .i64 s1))
 have k4:=(blk_cell X4.out 4).trans (rfl:_=some (Value.int .i64 room))
 have k5:=(blk_cell X4.out 5).trans (rfl:_=some (Value.int .i64 (stop)))
 have k6:=(blk_cell X4.out 6).trans (rfl:_=some (Value.bool false))
 have j0:=(blk_cell X10.out 0).trans (rfl:_=some (Value.slice A5 bb.length c5))
 have j1:=(blk_cell X10.out 1).trans (rfl:_=some (Value.int .i64 s0))
 have hS:Calls Try.prog 37 #[.agg #[.slice A0 b0.length c0,.int .i64 s0,.slice A1 b1.length c1,.int .i64 s1,.int .i64 room,.int .i64 (stop),.bool false],.int .i64 0,.agg #[.slice A5 bb.length c5,.int .i64 s0]] w10 λe w'=>e = .returned (.agg #[Value.slice A5 bb.length c5,Value.int .i64 s0,Value.slice A1 b1.length c1,Value.int .i64 s1,Value.int .i64 room,Value.int .i64 (stop),Value.bool false])/\Below w10.heap.size w10 w':=refSet_zero w10 A0 A1 c0 c1 (⟨b0,s0,b1,s1,room,stop,false⟩:Dk) A5 c5 bb s0
 go_wp2_with (first|(go_at_call 37;(with_reducible refine Calls.mono hS ?_);rintro e w6 ⟨rfl,hb⟩;clear k0 k1 k2 k3 k4 k5 k6 j0 j1 X10;have o4:=Kd.R_below O3.out hb;have O4:=Aside0.mk o4;clear o4;have x4:=blk_below X4.out hb;have x8:=blk_below X8.out hb;have hb2:=below_step HB.out hb;clear X4 X8 HB;have X4:=Aside0.mk x4;have X8:=Aside0.mk x8;have HB:=Aside0.mk hb2;clear x4 x8 hb2 hb;have z0:=(blk_cell X8.out 0).trans (rfl:_=some (Value.slice none 0 0));have z1:=(blk_cell X8.out 1).trans (rfl:_=some (Value.int .i64 0));have z2:=(blk_cell X8.out 2).trans (rfl:_=some (Value.slice none 0 0));have z3:=(blk_cell X8.out 3).trans (rfl:_=some (Value.int .i64 0));have z4:=(blk_cell X8.out 4).trans (rfl:_=some (Value.int .i64 0));have z5:=(blk_cell X8.out 5).trans (rfl:_=some (Value.int .i64 0));have z6:=(blk_cell X8.out 6).trans (rfl:_=some (Value.bool false));have f0:=blk_frozen X8.out 0;have f1:=blk_frozen X8.out 1;have f2:=blk_frozen X8.out 2;have f3:=blk_frozen X8.out 3;have f4:=blk_frozen X8.out 4;have f5:=blk_frozen X8.out 5;have f6:=blk_frozen X8.out 6)|((with_reducible refine store_event (t:=43) (p:=8) rfl rfl rfl (w1:=(((((((w6.setCell ⟨W.heap.size+1,0,none⟩ (Value.slice A5 bb.length c5)).setCell ⟨W.heap.size+1,1,none⟩ (Value.int .i64 s0)).setCell ⟨W.heap.size+1,2,none⟩ (Value.slice A1 b1.length c1)).setCell ⟨W.heap.size+1,3,none⟩ (Value.int .i64 s1)).setCell ⟨W.heap.size+1,4,none⟩ (Value.int .i64 room)).setCell ⟨W.heap.size+1,5,none⟩ (Value.int .i64 (stop))).setCell ⟨W.heap.size+1,6,none⟩ (Value.bool false))) ?hrun ?_);(case hrun=>first|(go_simp;done)|(go_simp;rfl));intro w7 hw7;have Y8:=Aside0.mk (show w7.heap[W.heap.size+1]? = some (.cells #[Value.slice A5 bb.length c5,Value.int .i64 s0,Value.slice A1 b1.length c1,Value.int .i64 s1,Value.int .i64 room,Value.int .i64 (stop),Value.bool false] 43 (0,0)) by rw [hw7];exact(blk_put ((blk_put ((blk_put ((blk_put ((blk_put ((blk_put ((blk_put (X8.out) 0 (Value.slice A5 bb.length c5) rfl)) 1 (Value.int .i64 s0) rfl)) 2 (Value.slice A1 b1.length c1) rfl)) 3 (Value.int .i64 s1) rfl)) 4 (Value.int .i64 room) rfl)) 5 (Value.int .i64 (stop)) rfl)) 6 (Value.bool false) rfl));have HB7:=Aside0.mk (show Below W.heap.size W w7 by rw [hw7];exact(below_set ((below_set ((below_set ((below_set ((below_set ((below_set ((below_set (HB.out) (Nat.le_succ _))) (Nat.le_succ _))) (Nat.le_succ _))) (Nat.le_succ _))) (Nat.le_succ _))) (Nat.le_succ _))) (Nat.le_succ _)));have CH7:=Aside0.mk (show ∀ k,k≠W.heap.size+1->w7.heap[k]? = w6.heap[k]? from λk hk=>by rw [hw7];exact((Below.heap_setCell ((((((w6.setCell ⟨W.heap.size+1,0,none⟩ (Value.slice A5 bb.length c5)).setCell ⟨W.heap.size+1,1,none⟩ (Value.int .i64 s0)).setCell ⟨W.heap.size+1,2,none⟩ (Value.slice A1 b1.length c1)).setCell ⟨W.heap.size+1,3,none⟩ (Value.int .i64 s1)).setCell ⟨W.heap.size+1,4,none⟩ (Value.int .i64 room)).setCell ⟨W.heap.size+1,5,none⟩ (Value.int .i64 (stop))) ⟨W.heap.size+1,6,none⟩ (Value.bool false) k hk).trans (((Below.heap_setCell (((((w6.setCell ⟨W.heap.size+1,0,none⟩ (Value.slice A5 bb.length c5)).setCell ⟨W.heap.size+1,1,none⟩ (Value.int .i64 s0)).setCell ⟨W.heap.size+1,2,none⟩ (Value.slice A1 b1.length c1)).setCell ⟨W.heap.size+1,3,none⟩ (Value.int .i64 s1)).setCell ⟨W.heap.size+1,4,none⟩ (Value.int .i64 room)) ⟨W.heap.size+1,5,none⟩ (Value.int .i64 (stop)) k hk).trans (((Below.heap_setCell ((((w6.setCell ⟨W.heap.size+1,0,none⟩ (Value.slice A5 bb.length c5)).setCell ⟨W.heap.size+1,1,none⟩ (Value.int .i64 s0)).setCell ⟨W.heap.size+1,2,none⟩ (Value.slice A1 b1.length c1)).setCell ⟨W.heap.size+1,3,none⟩ (Value.int .i64 s1)) ⟨W.heap.size+1,4,none⟩ (Value.int .i64 room) k hk).trans (((Below.heap_setCell (((w6.setCell ⟨W.heap.size+1,0,none⟩ (Value.slice A5 bb.length c5)).setCell ⟨W.heap.size+1,1,none⟩ (Value.int .i64 s0)).setCell ⟨W.heap.size+1,2,none⟩ (Value.slice A1 b1.length c1)) ⟨W.heap.size+1,3,none⟩ (Value.int .i64 s1) k hk).trans (((Below.heap_setCell ((w6.setCell ⟨W.heap.size+1,0,none⟩ (Value.slice A5 bb.length c5)).setCell ⟨W.heap.size+1,1,none⟩ (Value.int .i64 s0)) ⟨W.heap.size+1,2,none⟩ (Value.slice A1 b1.length c1) k hk).trans (((Below.heap_setCell (w6.setCell ⟨W.heap.size+1,0,none⟩ (Value.slice A5 bb.length c5)) ⟨W.heap.size+1,1,none⟩ (Value.int .i64 s0) k hk).trans (((Below.heap_setCell w6 ⟨W.heap.size+1,0,none⟩ (Value.slice A5 bb.length c5) k hk).trans (rfl)))))))))))))));clear hw7;have r0:=(blk_cell Y8.out 0).trans (rfl:_=some (Value.slice A5 bb.length c5));have r1:=(blk_cell Y8.out 1).trans (rfl:_=some (Value.int .i64 s0));have r2:=(blk_cell Y8.out 2).trans (rfl:_=some (Value.slice A1 b1.length c1));have r3:=(blk_cell Y8.out 3).trans (rfl:_=some (Value.int .i64 s1));have r4:=(blk_cell Y8.out 4).trans (rfl:_=some (Value.int .i64 room));have r5:=(blk_cell Y8.out 5).trans (rfl:_=some (Value.int .i64 (stop)));have r6:=(blk_cell Y8.out 6).trans (rfl:_=some (Value.bool false))))
 refine bodyPost_ret (v:=.tuple #[.agg #[Value.slice A5 bb.length c5,Value.int .i64 s0,Value.slice A1 b1.length c1,Value.int .i64 s1,Value.int .i64 room,Value.int .i64 (stop),Value.bool false],.int .i64 0]) ?hres rfl ?_
 case hres =>
  simp only [results,r0,r1,r2,r3,r4,r5,r6]
  first|rfl|(simp [r0,r1,r2,r3,r4,r5,r6];done)|(go_simp;done)|(go_simp;rfl)
 have hbF:=HB7.out
 have q:=H.out.step (Step.of_below (D:=D) hbF)
 have rw_:=F_fresh (D:=D) (W:=w7) (v:=.bool true) (Kd.R_mono (Kd.R_step O4.out (λk hk _=>CH7.out k (by have h_:=lt8.out;have h2_:=LT5.out;have h3_:w5.heap.size<=k:=hk;omega))) (λ_ _=>trivial)) (λk hk=>Nat.lt_of_lt_of_le (HD.out k hk) (Nat.le_trans (Nat.le_of_lt (Nat.lt_of_succ_lt lt8.out)) (Nat.le_of_lt LT5.out)))
 obtain rfl:=BB.out
 exact ⟨_,rfl,⟨_,_,_,_,rfl,⟨rw_.2.1,rw_.2.2,q.l1,q.f1⟩⟩,hbF⟩
set_option maxHeartbeats 8000000 in
set_option maxRecDepth 100000 in
theorem refDo0_0_1 (h:RawV W D A0 A1 c0 c1 d) (hD:∀ k,D k->k<W.heap.size) (hg:d.Good) (i:Int) (A:Option Addr) (m c:Nat) (b:List Int) (hm:m=b.length) (hc:m<=c) (hA:Kd.F U8 W (λk=>¬ D k) A m b) (hd:d.dead=false) (hi:i=0) (hf:¬ d.left<(b.length:Int)) (hs:d.stop≠0) (hp:0<d.stop) :
  Calls Try.prog 24 #[dkV A0 A1 c0 c1 d,.int .i64 0,.int .i64 i,.slice A m c] W λe w'=>∃ v,e = .returned (.tuple #[v,.int .i64 (d.act 0 i b).2])/\Is w' D v (d.act 0 i b).1/\Below W.heap.size W w':=by
 have ea:d.act 0 i b=(d.tick.put 0 (d.b0++b) d.s0,0):=by unfold Dk.act;rw [if_pos rfl];unfold Dk.app;rw [Dk.why_ok hd (by omega),if_neg (by decide),if_neg hf];unfold Dk.did;rw [if_neg hs,hi];rfl
 rw [ea]
 clear ea
 obtain ⟨b0,s0,b1,s1,room,stop,dead⟩:=d
 obtain rfl:dead=false:=hd
 have z0:(stop == 0)=false:=beq_eq_false_iff_ne.2 hs
 have p1:decide (stop > 0)=true:=decide_eq_true hp
 have p2:decide (0<stop)=true:=decide_eq_true hp
 rw [Dk.tick_pos hp]
 subst hi
 have l1:decide ((m:Int) > Dk.left ⟨b0,s0,b1,s1,room,stop,false⟩)=false:=decide_eq_false (by rw [hm];exact hf)
 have l2:decide (Dk.left ⟨b0,s0,b1,s1,room,stop,false⟩<(m:Int))=false:=decide_eq_false (by rw [hm];exact hf)
 clear hs hp hf
 have H:=Aside0.mk h
 have HD:=Aside0.mk hD
 have HA:=Aside0.mk hA
 have HG:=Aside0.mk hg
 have HM:=Aside0.mk hm
 clear h hD hA hg hm
 go_enter Try.func24,Try.ntmps24
 go_upto_region 5 with (fail)
 have hb:Below W.heap.size W ((W.alloc (.cells #[.slice A0 b0.length c0,.int .i64 s0,.slice A1 b1.length c1,.int .i64 s1,.int .i64 room,.int .i64 (stop),.bool false] 43)).alloc (.cells #[.slice none 0 0,.int .i64 0,.slice none 0 0,.int .i64 0,.int .i64 0,.int .i64 0,.bool false] 43)):=below_alloc (below_alloc (Below.refl _ _) _) _
 have x4:((W.alloc (.cells #[.slice A0 b0.length c0,.int .i64 s0,.slice A1 b1.length c1,.int .i64 s1,.int .i64 room,.int .i64 (stop),.bool false] 43)).alloc (.cells #[.slice none 0 0,.int .i64 0,.slice none 0 0,.int .i64 0,.int .i64 0,.int .i64 0,.bool false] 43)).heap[W.heap.size]? = some (.cells #[.slice A0 b0.length c0,.int .i64 s0,.slice A1 b1.length c1,.int .i64 s1,.int .i64 room,.int .i64 (stop),.bool false] 43 (0,0)):=blk_below (heap_alloc_new W _) (below_alloc (Below.refl _ _) _)
 have x8:((W.alloc (.cells #[.slice A0 b0.length c0,.int .i64 s0,.slice A1 b1.length c1,.int .i64 s1,.int .i64 room,.int .i64 (stop),.bool false] 43)).alloc (.cells #[.slice none 0 0,.int .i64 0,.slice none 0 0,.int .i64 0,.int .i64 0,.int .i64 0,.bool false] 43)).heap[W.heap.size+1]? = some (.cells #[.slice none 0 0,.int .i64 0,.slice none 0 0,.int .i64 0,.int .i64 0,.int .i64 0,.bool false] 43 (0,0)):=by have h_:=heap_alloc_new (W.alloc (.cells #[.slice A0 b0.length c0,.int .i64 s0,.slice A1 b1.length c1,.int .i64 s1,.int .i64 room,.int .i64 (stop),.bool false] 43)) (.cells #[.slice none 0 0,.int .i64 0,.slice none 0 0,.int .i64 0,.int .i64 0,.int .i64 0,.bool false] 43);rwa [show(W.alloc (.cells #[.slice A0 b0.length c0,.int .i64 s0,.slice A1 b1.length c1,.int .i64 s1,.int .i64 room,.int .i64 (stop),.bool false] 43)).heap.size=W.heap.size+1 by simp] at h_
 have HB:=Aside0.mk hb
 have X4:=Aside0.mk x4
 have X8:=Aside0.mk x8
 clear hb x4 x8
 generalize (W.alloc (.cells #[.slice A0 b0.length c0,.int .i64 s0,.slice A1 b1.length c1,.int .i64 s1,.int .i64 room,.int .i64 (stop),.bool false] 43)).alloc (.cells #[.slice none 0 0,.int .i64 0,.slice none 0 0,.int .i64 0,.int .i64 0,.int .i64 0,.bool false] 43)=w1 at HB X4 X8 ⊢
 have hL:Calls Try.prog 36 #[.agg #[.slice A0 b0.length c0,.int .i64 s0,.slice A1 b1.length c1,.int .i64 s1,.int .i64 room,.int .i64 (stop),.bool false]] w1 λe w'=>e = .returned (.int .i64 (Dk.left ⟨b0,s0,b1,s1,room,stop,false⟩))/\Below w1.heap.size w1 w':=refLeft (H.out.step (Step.of_below (D:=D) HB.out)) HG.out
 have HL:=Aside0.mk hL
 clear hL
 have k0:=(blk_cell X4.out 0).trans (rfl:_=some (Value.slice A0 b0.length c0))
 have k1:=(blk_cell X4.out 1).trans (rfl:_=some (Value.int .i64 s0))
 have k2:=(blk_cell X4.out 2).trans (rfl:_=some (Value.slice A1 b1.length c1))
 have k3:=(blk_cell X4.out 3).trans (rfl:_=some (Value.int .i64 s1))
 have k4:=(blk_cell X4.out 4).trans (rfl:_=some (Value.int .i64 room))
 have k5:=(blk_cell X4.out 5).trans (rfl:_=some (Value.int .i64 (stop)))
 have k6:=(blk_cell X4.out 6).trans (rfl:_=some (Value.bool false))
 go_upto_region 12 with (first|(go_at_call 36;(with_reducible refine Calls.mono HL.out ?_);rintro e w2 ⟨rfl,hb⟩;clear k0 k1 k2 k3 k4 k5 k6;have x4:=blk_below X4.out hb;have x8:=blk_below X8.out hb;have hb2:=below_step HB.out hb;clear X4 X8 HB;have X4:=Aside0.mk x4;have X8:=Aside0.mk x8;have HB:=Aside0.mk hb2;clear x4 x8 hb2 hb;have k0:=(blk_cell X4.out 0).trans (rfl:_=some (Value.slice A0 b0.length c0));have k1:=(blk_cell X4.out 1).trans (rfl:_=some (Value.int .i64 s0));have k2:=(blk_cell X4.out 2).trans (rfl:_=some (Value.slice A1 b1.length c1));have k3:=(blk_cell X4.out 3).trans (rfl:_=some (Value.int .i64 s1));have k4:=(blk_cell X4.out 4).trans (rfl:_=some (Value.int .i64 room));have k5:=(blk_cell X4.out 5).trans (rfl:_=some (Value.int .i64 (stop)));have k6:=(blk_cell X4.out 6).trans (rfl:_=some (Value.bool false));have f5:=blk_frozen X4.out 5))
 have x4:=blk_put (cs':=#[.slice A0 b0.length c0,.int .i64 s0,.slice A1 b1.length c1,.int .i64 s1,.int .i64 room,.int .i64 (wrap64 (stop - 1)),.bool false]) X4.out 5 (.int .i64 (wrap64 (stop - 1))) rfl
 have x8:=(Below.heap_setCell w2 ⟨W.heap.size,5,none⟩ (.int .i64 (wrap64 (stop - 1))) (W.heap.size+1) (by simp)).trans X8.out
 have hb2:=below_set (j:=5) (v:=.int .i64 (wrap64 (stop - 1))) HB.out (Nat.le_refl W.heap.size)
 clear X4 X8 HB k0 k1 k2 k3 k4 k5 k6 f5
 generalize w2.setCell ⟨W.heap.size,5,none⟩ (.int .i64 (wrap64 (stop - 1)))=w3 at x4 x8 hb2 ⊢
 have X4:=Aside0.mk x4
 have X8:=Aside0.mk x8
 have HB:=Aside0.mk hb2
 clear x4 x8 hb2
 have k0:=(blk_cell X4.out 0).trans (rfl:_=some (Value.slice A0 b0.length c0))
 have k1:=(blk_cell X4.out 1).trans (rfl:_=some (Value.int .i64 s0))
 have k2:=(blk_cell X4.out 2).trans (rfl:_=some (Value.slice A1 b1.length c1))
 have k3:=(blk_cell X4.out 3).trans (rfl:_=some (Value.int .i64 s1))
 have k4:=(blk_cell X4.out 4).trans (rfl:_=some (Value.int .i64 room))
 have k5:=(blk_cell X4.out 5).trans (rfl:_=some (Value.int .i64 (wrap64 (stop - 1))))
 have k6:=(blk_cell X4.out 6).trans (rfl:_=some (Value.bool false))
 go_upto_region 15 with (first|(go_at_call 25;(with_reducible refine Calls.mono (refGet_zero w3 A0 A1 c0 c1 (⟨b0,s0,b1,s1,room,wrap64 (stop - 1),false⟩:Dk)) ?_);rintro e w4 ⟨rfl,hb⟩;clear k0 k1 k2 k3 k4 k5 k6;have x4:=blk_below X4.out hb;have x8:=blk_below X8.out hb;have hb2:=below_step HB.out hb;clear X4 X8 HB;have X4:=Aside0.mk x4;have X8:=Aside0.mk x8;have HB:=Aside0.mk hb2;clear x4 x8 hb2 hb))
 have lt8:=Aside0.mk (blk_lt X8.out)
 have hb:=below_alloc (Below.refl w4.heap.size w4) (.cells #[.slice A0 b0.length c0,.int .i64 s0] 41)
 have X10:=Aside0.mk (heap_alloc_new w4 (.cells #[.slice A0 b0.length c0,.int .i64 s0] 41))
 have x4:=blk_below X4.out hb
 have x8:=blk_below X8.out hb
 have hb2:=below_step HB.out hb
 clear X4 X8 HB
 have X4:=Aside0.mk x4
 have X8:=Aside0.mk x8
 have HB:=Aside0.mk hb2
 clear x4 x8 hb2 hb
 obtain ⟨b10,hb10⟩:∃ b10,b10=w4.heap.size:=⟨_,rfl⟩
 generalize w4.alloc (.cells #[.slice A0 b0.length c0,.int .i64 s0] 41)=w5 at HB X4 X8 X10 ⊢
 rw [<-hb10] at X10 lt8 ⊢
 clear hb10
 have j0:=(blk_cell X10.out 0).trans (rfl:_=some (Value.slice A0 b0.length c0))
 have q5:=Aside0.mk (H.out.step (Step.of_below (D:=D) HB.out))
 have a5:=Aside0.mk ((Step.of_below (D:=D) HB.out).foot HA.out)
 have LB:=Aside0.mk (show(b0.length:Int)<=1048576 from HG.out.len0)
 have LM:=Aside0.mk (show(m:Int)<=1048576 by have h1:=HM.out;have h2:=of_decide_eq_false l2;have h3:=HG.out.r1;have h4:room<=1048576:=h3;unfold Dk.left at h2;simp only at h2;omega)
 go_upto_region 20 with (first|((with_reducible refine gate_builtin (b:=.append) (xs:=#[.tmp 52,.tmp 53]) rfl ?_);at_builtin;refine Kd.R_append_rows U8 (w0:=w5) w5.heap.size rfl (.tmp 52) (.tmp 53) 23 5 (.int .u8 0) 1 rfl Try.underlying23 info5 rfl (by decide) (by omega) _ b0 b _ _ _ (λ_=>True) (λ_=>False) rfl rfl O2.out (by have a_:=Kd.C_below (Kd.F_now a5.out) B2.out;rw [HM.out] at a_ ⊢;exact a_) (λ_ _ h=>h) (λ_ h=>h.elim) (λ_ _=>trivial) B2.out (below_size B2.out) (by have:=LB.out;have:=LM.out;omega) ?_;intro v54 w9 ho hb hg hat;obtain ⟨bb,hbb⟩:∃ bb,bb=b0++b:=⟨_,rfl⟩;rw [<-hbb] at ho;have BB:=Aside0.mk hbb;clear hbb;obtain ⟨A5,c5,e5⟩:=Kd.R_slice ho;subst e5;have O3:=Aside0.mk ho;have B3:=Aside0.mk hb;have x10:=blk_below X10.out hb;clear j0;have j0:=(blk_cell x10 0).trans (rfl:_=some (Value.slice A0 b0.length c0));have g0:=blk_frozen x10 0;clear ho hb hg hat x10)|((with_reducible refine gate_builtin (b:=.append) (xs:=#[.tmp 49,.tmp 51]) rfl ?_);at_builtin;refine Kd.R_append_rows U8 (w0:=w5) w5.heap.size rfl (.tmp 49) (.tmp 51) 23 5 (.int .u8 0) 1 rfl Try.underlying23 info5 rfl (by decide) (by omega) _ [] b0 _ _ _ (λ_=>True) (λ_=>False) rfl rfl O1.out (Kd.C_below (Kd.F_now q5.out.f0) B1.out) (λ_ _ h=>h) (λ_ h=>h.elim) (λ_ _=>trivial) B1.out (below_size B1.out) (by have:=LB.out;simp;omega) ?_;intro v52 w8 ho hb hg hat;rw [List.nil_append] at ho;have O2:=Aside0.mk ho;have B2:=Aside0.mk hb;have x10:=blk_below X10.out hb;clear j0;have j0:=(blk_cell x10 0).trans (rfl:_=some (Value.slice A0 b0.length c0));clear ho hb hg hat x10)|((with_reducible refine gate_dst (N:=49) rfl ?_);refine Kd.R_lit U8 (w0:=w5) w5.heap.size 5 ?hg (N:=49) ?hd (xs:=([]:List Int)) (inner:=[]) (ok:=λ_=>True) (okp:=λ_=>True) ?hr ?hp (λ_ hk=>hk) trivial (Below.refl _ _) (Nat.le_refl _) (by simp) ?_;(case hd=>rfl);(case hg=>rfl);(case hr=>first|(go_simp;done)|(go_simp;rfl));(case hp=>exact(Reps.none _ _));intro v49 w6 ho hb hg_ hnew_;have O1:=Aside0.mk ho;have B1:=Aside0.mk hb;have x10:=blk_below X10.out hb;clear j0;have j0:=(blk_cell x10 0).trans (rfl:_=some (Value.slice A0 b0.length c0));clear ho hb hg_ hnew_ x10))
 have lt10:=blk_lt X10.out
 have hb:=B3.out
 have x4:=blk_below X4.out hb
 have x8:=blk_below X8.out hb
 have x10:=blk_below X10.out hb
 have hb2:=below_step HB.out hb
 clear X4 X8 X10 HB
 have X4:=Aside0.mk x4
 have X8:=Aside0.mk x8
 have X10:=Aside0.mk x10
 have HB:=Aside0.mk hb2
 clear x4 x8 x10 hb2
 have x10:=blk_put (cs':=#[.slice A5 bb.length c5,.int .i64 s0]) X10.out 0 (.slice A5 bb.length c5) rfl
 have hf:∀ k,k≠b10->(w9.setCell ⟨b10,0,none⟩ (.slice A5 bb.length c5)).heap[k]? = w9.heap[k]?:=λk hk=>Below.heap_setCell w9 ⟨b10,0,none⟩ (.slice A5 bb.length c5) k hk
 have x4:=(hf W.heap.size (by have:=lt8.out;omega)).trans X4.out
 have x8:=(hf (W.heap.size+1) (by have:=lt8.out;omega)).trans X8.out
 have hb2:=below_set (j:=0) (v:=.slice A5 bb.length c5) HB.out (show W.heap.size<=b10 by have:=lt8.out;omega)
 have o3:=Kd.R_step (Kd.R_mono (Kd.R_bound O3.out) (ok':=λk=>w5.heap.size<=k) (λk hk=>hk.2.1)) (λk hk _=>hf k (by omega))
 clear X4 X8 X10 HB hf j0 g0 O1 O2 O3 B1 B2 B3 hb
 generalize w9.setCell ⟨b10,0,none⟩ (.slice A5 bb.length c5)=w10 at x4 x8 x10 hb2 o3 ⊢
 have X4:=Aside0.mk x4
 have X8:=Aside0.mk x8
 have X10:=Aside0.mk x10
 have HB:=Aside0.mk hb2
 have O3:=Aside0.mk o3
 have LT5:=Aside0.mk lt10
 clear x4 x8 x10 hb2 o3 lt10
 have k0:=(blk_cell X4.out 0).trans (rfl:_=some (Value.slice A0 b0.length c0))
 have k1:=(blk_cell X4.out 1).trans (rfl:_=some (Value.int .i64 s0))
 have k2:=(blk_cell X4.out 2).trans (rfl:_=some (Value.slice A1 b1.length c1))
 have k3:=(blk_cell X4.out 3).trans (rfl:_=some (Value.int .i64 s1))
 have k4:=(blk_cell X4.out 4).trans (rfl:_=some (Value.int .i64 room))
 have k5:=(blk_cell X4.out 5).trans (rfl:_=some (Value.int .i64 (wrap64 (stop - 1))))
 have k6:=(blk_cell X4.out 6).trans (rfl:_=some (Value.bool false))
 have j0:=(blk_cell X10.out 0).trans (rfl:_=some (Value.slice A5 bb.length c5))
 have j1:=(blk_cell X10.out 1).trans (rfl:_=some (Value.int .i64 s0))
 have hS:Calls Try.prog 37 #[.agg #[.slice A0 b0.length c0,.int .i64 s0,.slice A1 b1.length c1,.int .i64 s1,.int .i64 room,.int .i64 (wrap64 (stop - 1)),.bool false],.int .i64 0,.agg #[.slice A5 bb.length c5,.int .i64 s0]] w10 λe w'=>e = .returned (.agg #[Value.slice A5 bb.length c5,Value.int .i64 s0,Value.slice A1 b1.length c1,Value.int .i64 s1,Value.int .i64 room,Value.int .i64 (wrap64 (stop - 1)),Value.bool false])/\Below w10.heap.size w10 w':=refSet_zero w10 A0 A1 c0 c1 (⟨b0,s0,b1,s1,room,wrap64 (stop - 1),false⟩:Dk) A5 c5 bb s0
 go_wp2_with (first|(go_at_call 37;(with_reducible refine Calls.mono hS ?_);rintro e w6 ⟨rfl,hb⟩;clear k0 k1 k2 k3 k4 k5 k6 j0 j1 X10;have o4:=Kd.R_below O3.out hb;have O4:=Aside0.mk o4;clear o4;have x4:=blk_below X4.out hb;have x8:=blk_below X8.out hb;have hb2:=below_step HB.out hb;clear X4 X8 HB;have X4:=Aside0.mk x4;have X8:=Aside0.mk x8;have HB:=Aside0.mk hb2;clear x4 x8 hb2 hb;have z0:=(blk_cell X8.out 0).trans (rfl:_=some (Value.slice none 0 0));have z1:=(blk_cell X8.out 1).trans (rfl:_=some (Value.int .i64 0));have z2:=(blk_cell X8.out 2).trans (rfl:_=some (Value.slice none 0 0));have z3:=(blk_cell X8.out 3).trans (rfl:_=some (Value.int .i64 0));have z4:=(blk_cell X8.out 4).trans (rfl:_=some (Value.int .i64 0));have z5:=(blk_cell X8.out 5).trans (rfl:_=some (Value.int .i64 0));have z6:=(blk_cell X8.out 6).trans (rfl:_=some (Value.bool false));have f0:=blk_frozen X8.out 0;have f1:=blk_frozen X8.out 1;have f2:=blk_frozen X8.out 2;have f3:=blk_frozen X8.out 3;have f4:=blk_frozen X8.out 4;have f5:=blk_frozen X8.out 5;have f6:=blk_frozen X8.out 6)|((with_reducible refine store_event (t:=43) (p:=8) rfl rfl rfl (w1:=(((((((w6.setCell ⟨W.heap.size+1,0,none⟩ (Value.slice A5 bb.length c5)).setCell ⟨W.heap.size+1,1,none⟩ (Value.int .i64 s0)).setCell ⟨W.heap.size+1,2,none⟩ (Value.slice A1 b1.length c1)).setCell ⟨W.heap.size+1,3,none⟩ (Value.int .i64 s1)).setCell ⟨W.heap.size+1,4,none⟩ (Value.int .i64 room)).setCell ⟨W.heap.size+1,5,none⟩ (Value.int .i64 (wrap64 (stop - 1)))).setCell ⟨W.heap.size+1,6,none⟩ (Value.bool false))) ?hrun ?_);(case hrun=>first|(go_simp;done)|(go_simp;rfl));intro w7 hw7;have Y8:=Aside0.mk (show w7.heap[W.heap.size+1]? = some (.cells #[Value.slice A5 bb.length c5,Value.int .i64 s0,Value.slice A1 b1.length c1,Value.int .i64 s1,Value.int .i64 room,Value.int .i64 (wrap64 (stop - 1)),Value.bool false] 43 (0,0)) by rw [hw7];exact(blk_put ((blk_put ((blk_put ((blk_put ((blk_put ((blk_put ((blk_put (X8.out) 0 (Value.slice A5 bb.length c5) rfl)) 1 (Value.int .i64 s0) rfl)) 2 (Value.slice A1 b1.length c1) rfl)) 3 (Value.int .i64 s1) rfl)) 4 (Value.int .i64 room) rfl)) 5 (Value.int .i64 (wrap64 (stop - 1))) rfl)) 6 (Value.bool false) rfl));have HB7:=Aside0.mk (show Below W.heap.size W w7 by rw [hw7];exact(below_set ((below_set ((below_set ((below_set ((below_set ((below_set ((below_set (HB.out) (Nat.le_succ _))) (Nat.le_succ _))) (Nat.le_succ _))) (Nat.le_succ _))) (Nat.le_succ _))) (Nat.le_succ _))) (Nat.le_succ _)));have CH7:=Aside0.mk (show ∀ k,k≠W.heap.size+1->w7.heap[k]? = w6.heap[k]? from λk hk=>by rw [hw7];exact((Below.heap_setCell ((((((w6.setCell ⟨W.heap.size+1,0,none⟩ (Value.slice A5 bb.length c5)).setCell ⟨W.heap.size+1,1,none⟩ (Value.int .i64 s0)).setCell ⟨W.heap.size+1,2,none⟩ (Value.slice A1 b1.length c1)).setCell ⟨W.heap.size+1,3,none⟩ (Value.int .i64 s1)).setCell ⟨W.heap.size+1,4,none⟩ (Value.int .i64 room)).setCell ⟨W.heap.size+1,5,none⟩ (Value.int .i64 (wrap64 (stop - 1)))) ⟨W.heap.size+1,6,none⟩ (Value.bool false) k hk).trans (((Below.heap_setCell (((((w6.setCell ⟨W.heap.size+1,0,none⟩ (Value.slice A5 bb.length c5)).setCell ⟨W.heap.size+1,1,none⟩ (Value.int .i64 s0)).setCell ⟨W.heap.size+1,2,none⟩ (Value.slice A1 b1.length c1)).setCell ⟨W.heap.size+1,3,none⟩ (Value.int .i64 s1)).setCell ⟨W.heap.size+1,4,none⟩ (Value.int .i64 room)) ⟨W.heap.size+1,5,none⟩ (Value.int .i64 (wrap64 (stop - 1))) k hk).trans (((Below.heap_setCell ((((w6.setCell ⟨W.heap.size+1,0,none⟩ (Value.slice A5 bb.length c5)).setCell ⟨W.heap.size+1,1,none⟩ (Value.int .i64 s0)).setCell ⟨W.heap.size+1,2,none⟩ (Value.slice A1 b1.length c1)).setCell ⟨W.heap.size+1,3,none⟩ (Value.int .i64 s1)) ⟨W.heap.size+1,4,none⟩ (Value.int .i64 room) k hk).trans (((Below.heap_setCell (((w6.setCell ⟨W.heap.size+1,0,none⟩ (Value.slice A5 bb.length c5)).setCell ⟨W.heap.size+1,1,none⟩ (Value.int .i64 s0)).setCell ⟨W.heap.size+1,2,none⟩ (Value.slice A1 b1.length c1)) ⟨W.heap.size+1,3,none⟩ (Value.int .i64 s1) k hk).trans (((Below.heap_setCell ((w6.setCell ⟨W.heap.size+1,0,none⟩ (Value.slice A5 bb.length c5)).setCell ⟨W.heap.size+1,1,none⟩ (Value.int .i64 s0)) ⟨W.heap.size+1,2,none⟩ (Value.slice A1 b1.length c1) k hk).trans (((Below.heap_setCell (w6.setCell ⟨W.heap.size+1,0,none⟩ (Value.slice A5 bb.length c5)) ⟨W.heap.size+1,1,none⟩ (Value.int .i64 s0) k hk).trans (((Below.heap_setCell w6 ⟨W.heap.size+1,0,none⟩ (Value.slice A5 bb.length c5) k hk).trans (rfl)))))))))))))));clear hw7;have r0:=(blk_cell Y8.out 0).trans (rfl:_=some (Value.slice A5 bb.length c5));have r1:=(blk_cell Y8.out 1).trans (rfl:_=some (Value.int .i64 s0));have r2:=(blk_cell Y8.out 2).trans (rfl:_=some (Value.slice A1 b1.length c1));have r3:=(blk_cell Y8.out 3).trans (rfl:_=some (Value.int .i64 s1));have r4:=(blk_cell Y8.out 4).trans (rfl:_=some (Value.int .i64 room));have r5:=(blk_cell Y8.out 5).trans (rfl:_=some (Value.int .i64 (wrap64 (stop - 1))));have r6:=(blk_cell Y8.out 6).trans (rfl:_=some (Value.bool false))))
 refine bodyPost_ret (v:=.tuple #[.agg #[Value.slice A5 bb.length c5,Value.int .i64 s0,Value.slice A1 b1.length c1,Value.int .i64 s1,Value.int .i64 room,Value.int .i64 (wrap64 (stop - 1)),Value.bool false],.int .i64 0]) ?hres rfl ?_
 case hres =>
  simp only [results,r0,r1,r2,r3,r4,r5,r6]
  first|rfl|(simp [r0,r1,r2,r3,r4,r5,r6];done)|(go_simp;done)|(go_simp;rfl)
 have hbF:=HB7.out
 have q:=H.out.step (Step.of_below (D:=D) hbF)
 have rw_:=F_fresh (D:=D) (W:=w7) (v:=.bool true) (Kd.R_mono (Kd.R_step O4.out (λk hk _=>CH7.out k (by have h_:=lt8.out;have h2_:=LT5.out;have h3_:w5.heap.size<=k:=hk;omega))) (λ_ _=>trivial)) (λk hk=>Nat.lt_of_lt_of_le (HD.out k hk) (Nat.le_trans (Nat.le_of_lt (Nat.lt_of_succ_lt lt8.out)) (Nat.le_of_lt LT5.out)))
 obtain rfl:=BB.out
 exact ⟨_,rfl,⟨_,_,_,_,rfl,⟨rw_.2.1,rw_.2.2,q.l1,q.f1⟩⟩,hbF⟩
set_option maxHeartbeats 8000000 in
set_option maxRecDepth 100000 in
theorem refDo0_1_0 (h:RawV W D A0 A1 c0 c1 d) (hD:∀ k,D k->k<W.heap.size) (hg:d.Good) (i:Int) (A:Option Addr) (m c:Nat) (b:List Int) (hm:m=b.length) (hc:m<=c) (hA:Kd.F U8 W (λk=>¬ D k) A m b) (hd:d.dead=false) (hi:i=1) (hf:¬ d.left<(b.length:Int)) (hs:d.stop≠0) (hp:¬ 0<d.stop) :
  Calls Try.prog 24 #[dkV A0 A1 c0 c1 d,.int .i64 0,.int .i64 i,.slice A m c] W λe w'=>∃ v,e = .returned (.tuple #[v,.int .i64 (d.act 0 i b).2])/\Is w' D v (d.act 0 i b).1/\Below W.heap.size W w':=by
 have ea:d.act 0 i b=(d.tick.put 1 (d.b1++b) d.s1,0):=by unfold Dk.act;rw [if_pos rfl];unfold Dk.app;rw [Dk.why_ok hd (by omega),if_neg (by decide),if_neg hf];unfold Dk.did;rw [if_neg hs,hi];rfl
 rw [ea]
 clear ea
 obtain ⟨b0,s0,b1,s1,room,stop,dead⟩:=d
 obtain rfl:dead=false:=hd
 have z0:(stop == 0)=false:=beq_eq_false_iff_ne.2 hs
 have p1:decide (stop > 0)=false:=decide_eq_false hp
 have p2:decide (0<stop)=false:=decide_eq_false hp
 rw [Dk.tick_neg hp]
 subst hi
 have l1:decide ((m:Int) > Dk.left ⟨b0,s0,b1,s1,room,stop,false⟩)=false:=decide_eq_false (by rw [hm];exact hf)
 have l2:decide (Dk.left ⟨b0,s0,b1,s1,room,stop,false⟩<(m:Int))=false:=decide_eq_false (by rw [hm];exact hf)
 clear hs hp hf
 have H:=Aside0.mk h
 have HD:=Aside0.mk hD
 have HA:=Aside0.mk hA
 have HG:=Aside0.mk hg
 have HM:=Aside0.mk hm
 clear h hD hA hg hm
 go_enter Try.func24,Try.ntmps24
 go_upto_region 5 with (fail)
 have hb:Below W.heap.size W ((W.alloc (.cells #[.slice A0 b0.length c0,.int .i64 s0,.slice A1 b1.length c1,.int .i64 s1,.int .i64 room,.int .i64 (stop),.bool false] 43)).alloc (.cells #[.slice none 0 0,.int .i64 0,.slice none 0 0,.int .i64 0,.int .i64 0,.int .i64 0,.bool false] 43)):=below_alloc (below_alloc (Below.refl _ _) _) _
 have x4:((W.alloc (.cells #[.slice A0 b0.length c0,.int .i64 s0,.slice A1 b1.length c1,.int .i64 s1,.int .i64 room,.int .i64 (stop),.bool false] 43)).alloc (.cells #[.slice none 0 0,.int .i64 0,.slice none 0 0,.int .i64 0,.int .i64 0,.int .i64 0,.bool false] 43)).heap[W.heap.size]? = some (.cells #[.slice A0 b0.length c0,.int .i64 s0,.slice A1 b1.length c1,.int .i64 s1,.int .i64 room,.int .i64 (stop),.bool false] 43 (0,0)):=blk_below (heap_alloc_new W _) (below_alloc (Below.refl _ _) _)
 have x8:((W.alloc (.cells #[.slice A0 b0.length c0,.int .i64 s0,.slice A1 b1.length c1,.int .i64 s1,.int .i64 room,.int .i64 (stop),.bool false] 43)).alloc (.cells #[.slice none 0 0,.int .i64 0,.slice none 0 0,.int .i64 0,.int .i64 0,.int .i64 0,.bool false] 43)).heap[W.heap.size+1]? = some (.cells #[.slice none 0 0,.int .i64 0,.slice none 0 0,.int .i64 0,.int .i64 0,.int .i64 0,.bool false] 43 (0,0)):=by have h_:=heap_alloc_new (W.alloc (.cells #[.slice A0 b0.length c0,.int .i64 s0,.slice A1 b1.length c1,.int .i64 s1,.int .i64 room,.int .i64 (stop),.bool false] 43)) (.cells #[.slice none 0 0,.int .i64 0,.slice none 0 0,.int .i64 0,.int .i64 0,.int .i64 0,.bool false] 43);rwa [show(W.alloc (.cells #[.slice A0 b0.length c0,.int .i64 s0,.slice A1 b1.length c1,.int .i64 s1,.int .i64 room,.int .i64 (stop),.bool false] 43)).heap.size=W.heap.size+1 by simp] at h_
 have HB:=Aside0.mk hb
 have X4:=Aside0.mk x4
 have X8:=Aside0.mk x8
 clear hb x4 x8
 generalize (W.alloc (.cells #[.slice A0 b0.length c0,.int .i64 s0,.slice A1 b1.length c1,.int .i64 s1,.int .i64 room,.int .i64 (stop),.bool false] 43)).alloc (.cells #[.slice none 0 0,.int .i64 0,.slice none 0 0,.int .i64 0,.int .i64 0,.int .i64 0,.bool false] 43)=w1 at HB X4 X8 ⊢
 have hL:Calls Try.prog 36 #[.agg #[.slice A0 b0.length c0,.int .i64 s0,.slice A1 b1.length c1,.int .i64 s1,.int .i64 room,.int .i64 (stop),.bool false]] w1 λe w'=>e = .returned (.int .i64 (Dk.left ⟨b0,s0,b1,s1,room,stop,false⟩))/\Below w1.heap.size w1 w':=refLeft (H.out.step (Step.of_below (D:=D) HB.out)) HG.out
 have HL:=Aside0.mk hL
 clear hL
 have k0:=(blk_cell X4.out 0).trans (rfl:_=some (Value.slice A0 b0.length c0))
 have k1:=(blk_cell X4.out 1).trans (rfl:_=some (Value.int .i64 s0))
 have k2:=(blk_cell X4.out 2).trans (rfl:_=some (Value.slice A1 b1.length c1))
 have k3:=(blk_cell X4.out 3).trans (rfl:_=some (Value.int .i64 s1))
 have k4:=(blk_cell X4.out 4).trans (rfl:_=some (Value.int .i64 room))
 have k5:=(blk_cell X4.out 5).trans (rfl:_=some (Value.int .i64 (stop)))
 have k6:=(blk_cell X4.out 6).trans (rfl:_=some (Value.bool false))
 go_upto_region 12 with (first|(go_at_call 36;(with_reducible refine Calls.mono HL.out ?_);rintro e w2 ⟨rfl,hb⟩;clear k0 k1 k2 k3 k4 k5 k6;have x4:=blk_below X4.out hb;have x8:=blk_below X8.out hb;have hb2:=below_step HB.out hb;clear X4 X8 HB;have X4:=Aside0.mk x4;have X8:=Aside0.mk x8;have HB:=Aside0.mk hb2;clear x4 x8 hb2 hb;have k0:=(blk_cell X4.out 0).trans (rfl:_=some (Value.slice A0 b0.length c0));have k1:=(blk_cell X4.out 1).trans (rfl:_=some (Value.int .i64 s0));have k2:=(blk_cell X4.out 2).trans (rfl:_=some (Value.slice A1 b1.length c1));have k3:=(blk_cell X4.out 3).trans (rfl:_=some (Value.int .i64 s1));have k4:=(blk_cell X4.out 4).trans (rfl:_=some (Value.int .i64 room));have k5:=(blk_cell X4.out 5).trans (rfl:_=some (Value.int .i64 (stop)));have k6:=(blk_cell X4.out 6).trans (rfl:_=some (Value.bool false));have f5:=blk_frozen X4.out 5))
 clear k0 k1 k2 k3 k4 k5 k6 f5
 generalize w2=w3 at X4 X8 HB ⊢
 have k0:=(blk_cell X4.out 0).trans (rfl:_=some (Value.slice A0 b0.length c0))
 have k1:=(blk_cell X4.out 1).trans (rfl:_=some (Value.int .i64 s0))
 have k2:=(blk_cell X4.out 2).trans (rfl:_=some (Value.slice A1 b1.length c1))
 have k3:=(blk_cell X4.out 3).trans (rfl:_=some (Value.int .i64 s1))
 have k4:=(blk_cell X4.out 4).trans (rfl:_=some (Value.int .i64 room))
 have k5:=(blk_cell X4.out 5).trans (rfl:_=some (Value.int .i64 (stop)))
 have k6:=(blk_cell X4.out 6).trans (rfl:_=some (Value.bool false))
 go_upto_region 15 with (first|(go_at_call 25;(with_reducible refine Calls.mono (refGet_one w3 A0 A1 c0 c1 (⟨b0,s0,b1,s1,room,stop,false⟩:Dk)) ?_);rintro e w4 ⟨rfl,hb⟩;clear k0 k1 k2 k3 k4 k5 k6;have x4:=blk_below X4.out hb;have x8:=blk_below X8.out hb;have hb2:=below_step HB.out hb;clear X4 X8 HB;have X4:=Aside0.mk x4;have X8:=Aside0.mk x8;have HB:=Aside0.mk hb2;clear x4 x8 hb2 hb))
 have lt8:=Aside0.mk (blk_lt X8.out)
 have hb:=below_alloc (Below.refl w4.heap.size w4) (.cells #[.slice A1 b1.length c1,.int .i64 s1] 41)
 have X10:=Aside0.mk (heap_alloc_new w4 (.cells #[.slice A1 b1.length c1,.int .i64 s1] 41))
 have x4:=blk_below X4.out hb
 have x8:=blk_below X8.out hb
 have hb2:=below_step HB.out hb
 clear X4 X8 HB
 have X4:=Aside0.mk x4
 have X8:=Aside0.mk x8
 have HB:=Aside0.mk hb2
 clear x4 x8 hb2 hb
 obtain ⟨b10,hb10⟩:∃ b10,b10=w4.heap.size:=⟨_,rfl⟩
 generalize w4.alloc (.cells #[.slice A1 b1.length c1,.int .i64 s1] 41)=w5 at HB X4 X8 X10 ⊢
 rw [<-hb10] at X10 lt8 ⊢
 clear hb10
 have j0:=(blk_cell X10.out 0).trans (rfl:_=some (Value.slice A1 b1.length c1))
 have q5:=Aside0.mk (H.out.step (Step.of_below (D:=D) HB.out))
 have a5:=Aside0.mk ((Step.of_below (D:=D) HB.out).foot HA.out)
 have LB:=Aside0.mk (show(b1.length:Int)<=1048576 from HG.out.len1)
 have LM:=Aside0.mk (show(m:Int)<=1048576 by have h1:=HM.out;have h2:=of_decide_eq_false l2;have h3:=HG.out.r1;have h4:room<=1048576:=h3;unfold Dk.left at h2;simp only at h2;omega)
 go_upto_region 20 with (first|((with_reducible refine gate_builtin (b:=.append) (xs:=#[.tmp 52,.tmp 53]) rfl ?_);at_builtin;refine Kd.R_append_rows U8 (w0:=w5) w5.heap.size rfl (.tmp 52) (.tmp 53) 23 5 (.int .u8 0) 1 rfl Try.underlying23 info5 rfl (by decide) (by omega) _ b1 b _ _ _ (λ_=>True) (λ_=>False) rfl rfl O2.out (by have a_:=Kd.C_below (Kd.F_now a5.out) B2.out;rw [HM.out] at a_ ⊢;exact a_) (λ_ _ h=>h) (λ_ h=>h.elim) (λ_ _=>trivial) B2.out (below_size B2.out) (by have:=LB.out;have:=LM.out;omega) ?_;intro v54 w9 ho hb hg hat;obtain ⟨bb,hbb⟩:∃ bb,bb=b1++b:=⟨_,rfl⟩;rw [<-hbb] at ho;have BB:=Aside0.mk hbb;clear hbb;obtain ⟨A5,c5,e5⟩:=Kd.R_slice ho;subst e5;have O3:=Aside0.mk ho;have B3:=Aside0.mk hb;have x10:=blk_below X10.out hb;clear j0;have j0:=(blk_cell x10 0).trans (rfl:_=some (Value.slice A1 b1.length c1));have g0:=blk_frozen x10 0;clear ho hb hg hat x10)|((with_reducible refine gate_builtin (b:=.append) (xs:=#[.tmp 49,.tmp 51]) rfl ?_);at_builtin;refine Kd.R_append_rows U8 (w0:=w5) w5.heap.size rfl (.tmp 49) (.tmp 51) 23 5 (.int .u8 0) 1 rfl Try.underlying23 info5 rfl (by decide) (by omega) _ [] b1 _ _ _ (λ_=>True) (λ_=>False) rfl rfl O1.out (Kd.C_below (Kd.F_now q5.out.f1) B1.out) (λ_ _ h=>h) (λ_ h=>h.elim) (λ_ _=>trivial) B1.out (below_size B1.out) (by have:=LB.out;simp;omega) ?_;intro v52 w8 ho hb hg hat;rw [List.nil_append] at ho;have O2:=Aside0.mk ho;have B2:=Aside0.mk hb;have x10:=blk_below X10.out hb;clear j0;have j0:=(blk_cell x10 0).trans (rfl:_=some (Value.slice A1 b1.length c1));clear ho hb hg hat x10)|((with_reducible refine gate_dst (N:=49) rfl ?_);refine Kd.R_lit U8 (w0:=w5) w5.heap.size 5 ?hg (N:=49) ?hd (xs:=([]:List Int)) (inner:=[]) (ok:=λ_=>True) (okp:=λ_=>True) ?hr ?hp (λ_ hk=>hk) trivial (Below.refl _ _) (Nat.le_refl _) (by simp) ?_;(case hd=>rfl);(case hg=>rfl);(case hr=>first|(go_simp;done)|(go_simp;rfl));(case hp=>exact(Reps.none _ _));intro v49 w6 ho hb hg_ hnew_;have O1:=Aside0.mk ho;have B1:=Aside0.mk hb;have x10:=blk_below X10.out hb;clear j0;have j0:=(blk_cell x10 0).trans (rfl:_=some (Value.slice A1 b1.length c1));clear ho hb hg_ hnew_ x10))
 have lt10:=blk_lt X10.out
 have hb:=B3.out
 have x4:=blk_below X4.out hb
 have x8:=blk_below X8.out hb
 have x10:=blk_below X10.out hb
 have hb2:=below_step HB.out hb
 clear X4 X8 X10 HB
 have X4:=Aside0.mk x4
 have X8:=Aside0.mk x8
 have X10:=Aside0.mk x10
 have HB:=Aside0.mk hb2
 clear x4 x8 x10 hb2
 have x10:=blk_put (cs':=#[.slice A5 bb.length c5,.int .i64 s1]) X10.out 0 (.slice A5 bb.length c5) rfl
 have hf:∀ k,k≠b10->(w9.setCell ⟨b10,0,none⟩ (.slice A5 bb.length c5)).heap[k]? = w9.heap[k]?:=λk hk=>Below.heap_setCell w9 ⟨b10,0,none⟩ (.slice A5 bb.length c5) k hk
 have x4:=(hf W.heap.size (by have:=lt8.out;omega)).trans X4.out
 have x8:=(hf (W.heap.size+1) (by have:=lt8.out;omega)).trans X8.out
 have hb2:=below_set (j:=0) (v:=.slice A5 bb.length c5) HB.out (show W.heap.size<=b10 by have:=lt8.out;omega)
 have o3:=Kd.R_step (Kd.R_mono (Kd.R_bound O3.out) (ok':=λk=>w5.heap.size<=k) (λk hk=>hk.2.1)) (λk hk _=>hf k (by omega))
 clear X4 X8 X10 HB hf j0 g0 O1 O2 O3 B1 B2 B3 hb
 generalize w9.setCell ⟨b10,0,none⟩ (.slice A5 bb.length c5)=w10 at x4 x8 x10 hb2 o3 ⊢
 have X4:=Aside0.mk x4
 have X8:=Aside0.mk x8
 have X10:=Aside0.mk x10
 have HB:=Aside0.mk hb2
 have O3:=Aside0.mk o3
 have LT5:=Aside0.mk lt10
 clear x4 x8 x10 hb2 o3 lt10
 have k0:=(blk_cell X4.out 0).trans (rfl:_=some (Value.slice A0 b0.length c0))
 have k1:=(blk_cell X4.out 1).trans (rfl:_=some (Value.int .i64 s0))
 have k2:=(blk_cell X4.out 2).trans (rfl:_=some (Value.slice A1 b1.length c1))
 have k3:=(blk_cell X4.out 3).trans (rfl:_=some (Value.int .i64 s1))
 have k4:=(blk_cell X4.out 4).trans (rfl:_=some (Value.int .i64 room))
 have k5:=(blk_cell X4.out 5).trans (rfl:_=some (Value.int .i64 (stop)))
 have k6:=(blk_cell X4.out 6).trans (rfl:_=some (Value.bool false))
 have j0:=(blk_cell X10.out 0).trans (rfl:_=some (Value.slice A5 bb.length c5))
 have j1:=(blk_cell X10.out 1).trans (rfl:_=some (Value.int .i64 s1))
 have hS:Calls Try.prog 37 #[.agg #[.slice A0 b0.length c0,.int .i64 s0,.slice A1 b1.length c1,.int .i64 s1,.int .i64 room,.int .i64 (stop),.bool false],.int .i64 1,.agg #[.slice A5 bb.length c5,.int .i64 s1]] w10 λe w'=>e = .returned (.agg #[Value.slice A0 b0.length c0,Value.int .i64 s0,Value.slice A5 bb.length c5,Value.int .i64 s1,Value.int .i64 room,Value.int .i64 (stop),Value.bool false])/\Below w10.heap.size w10 w':=refSet_one w10 A0 A1 c0 c1 (⟨b0,s0,b1,s1,room,stop,false⟩:Dk) A5 c5 bb s1
 go_wp2_with (first|(go_at_call 37;(with_reducible refine Calls.mono hS ?_);rintro e w6 ⟨rfl,hb⟩;clear k0 k1 k2 k3 k4 k5 k6 j0 j1 X10;have o4:=Kd.R_below O3.out hb;have O4:=Aside0.mk o4;clear o4;have x4:=blk_below X4.out hb;have x8:=blk_below X8.out hb;have hb2:=below_step HB.out hb;clear X4 X8 HB;have X4:=Aside0.mk x4;have X8:=Aside0.mk x8;have HB:=Aside0.mk hb2;clear x4 x8 hb2 hb;have z0:=(blk_cell X8.out 0).trans (rfl:_=some (Value.slice none 0 0));have z1:=(blk_cell X8.out 1).trans (rfl:_=some (Value.int .i64 0));have z2:=(blk_cell X8.out 2).trans (rfl:_=some (Value.slice none 0 0));have z3:=(blk_cell X8.out 3).trans (rfl:_=some (Value.int .i64 0));have z4:=(blk_cell X8.out 4).trans (rfl:_=some (Value.int .i64 0));have z5:=(blk_cell X8.out 5).trans (rfl:_=some (Value.int .i64 0));have z6:=(blk_cell X8.out 6).trans (rfl:_=some (Value.bool false));have f0:=blk_frozen X8.out 0;have f1:=blk_frozen X8.out 1;have f2:=blk_frozen X8.out 2;have f3:=blk_frozen X8.out 3;have f4:=blk_frozen X8.out 4;have f5:=blk_frozen X8.out 5;have f6:=blk_frozen X8.out 6)|((with_reducible refine store_event (t:=43) (p:=8) rfl rfl rfl (w1:=(((((((w6.setCell ⟨W.heap.size+1,0,none⟩ (Value.slice A0 b0.length c0)).setCell ⟨W.heap.size+1,1,none⟩ (Value.int .i64 s0)).setCell ⟨W.heap.size+1,2,none⟩ (Value.slice A5 bb.length c5)).setCell ⟨W.heap.size+1,3,none⟩ (Value.int .i64 s1)).setCell ⟨W.heap.size+1,4,none⟩ (Value.int .i64 room)).setCell ⟨W.heap.size+1,5,none⟩ (Value.int .i64 (stop))).setCell ⟨W.heap.size+1,6,none⟩ (Value.bool false))) ?hrun ?_);(case hrun=>first|(go_simp;done)|(go_simp;rfl));intro w7 hw7;have Y8:=Aside0.mk (show w7.heap[W.heap.size+1]? = some (.cells #[Value.slice A0 b0.length c0,Value.int .i64 s0,Value.slice A5 bb.length c5,Value.int .i64 s1,Value.int .i64 room,Value.int .i64 (stop),Value.bool false] 43 (0,0)) by rw [hw7];exact(blk_put ((blk_put ((blk_put ((blk_put ((blk_put ((blk_put ((blk_put (X8.out) 0 (Value.slice A0 b0.length c0) rfl)) 1 (Value.int .i64 s0) rfl)) 2 (Value.slice A5 bb.length c5) rfl)) 3 (Value.int .i64 s1) rfl)) 4 (Value.int .i64 room) rfl)) 5 (Value.int .i64 (stop)) rfl)) 6 (Value.bool false) rfl));have HB7:=Aside0.mk (show Below W.heap.size W w7 by rw [hw7];exact(below_set ((below_set ((below_set ((below_set ((below_set ((below_set ((below_set (HB.out) (Nat.le_succ _))) (Nat.le_succ _))) (Nat.le_succ _))) (Nat.le_succ _))) (Nat.le_succ _))) (Nat.le_succ _))) (Nat.le_succ _)));have CH7:=Aside0.mk (show ∀ k,k≠W.heap.size+1->w7.heap[k]? = w6.heap[k]? from λk hk=>by rw [hw7];exact((Below.heap_setCell ((((((w6.setCell ⟨W.heap.size+1,0,none⟩ (Value.slice A0 b0.length c0)).setCell ⟨W.heap.size+1,1,none⟩ (Value.int .i64 s0)).setCell ⟨W.heap.size+1,2,none⟩ (Value.slice A5 bb.length c5)).setCell ⟨W.heap.size+1,3,none⟩ (Value.int .i64 s1)).setCell ⟨W.heap.size+1,4,none⟩ (Value.int .i64 room)).setCell ⟨W.heap.size+1,5,none⟩ (Value.int .i64 (stop))) ⟨W.heap.size+1,6,none⟩ (Value.bool false) k hk).trans (((Below.heap_setCell (((((w6.setCell ⟨W.heap.size+1,0,none⟩ (Value.slice A0 b0.length c0)).setCell ⟨W.heap.size+1,1,none⟩ (Value.int .i64 s0)).setCell ⟨W.heap.size+1,2,none⟩ (Value.slice A5 bb.length c5)).setCell ⟨W.heap.size+1,3,none⟩ (Value.int .i64 s1)).setCell ⟨W.heap.size+1,4,none⟩ (Value.int .i64 room)) ⟨W.heap.size+1,5,none⟩ (Value.int .i64 (stop)) k hk).trans (((Below.heap_setCell ((((w6.setCell ⟨W.heap.size+1,0,none⟩ (Value.slice A0 b0.length c0)).setCell ⟨W.heap.size+1,1,none⟩ (Value.int .i64 s0)).setCell ⟨W.heap.size+1,2,none⟩ (Value.slice A5 bb.length c5)).setCell ⟨W.heap.size+1,3,none⟩ (Value.int .i64 s1)) ⟨W.heap.size+1,4,none⟩ (Value.int .i64 room) k hk).trans (((Below.heap_setCell (((w6.setCell ⟨W.heap.size+1,0,none⟩ (Value.slice A0 b0.length c0)).setCell ⟨W.heap.size+1,1,none⟩ (Value.int .i64 s0)).setCell ⟨W.heap.size+1,2,none⟩ (Value.slice A5 bb.length c5)) ⟨W.heap.size+1,3,none⟩ (Value.int .i64 s1) k hk).trans (((Below.heap_setCell ((w6.setCell ⟨W.heap.size+1,0,none⟩ (Value.slice A0 b0.length c0)).setCell ⟨W.heap.size+1,1,none⟩ (Value.int .i64 s0)) ⟨W.heap.size+1,2,none⟩ (Value.slice A5 bb.length c5) k hk).trans (((Below.heap_setCell (w6.setCell ⟨W.heap.size+1,0,none⟩ (Value.slice A0 b0.length c0)) ⟨W.heap.size+1,1,none⟩ (Value.int .i64 s0) k hk).trans (((Below.heap_setCell w6 ⟨W.heap.size+1,0,none⟩ (Value.slice A0 b0.length c0) k hk).trans (rfl)))))))))))))));clear hw7;have r0:=(blk_cell Y8.out 0).trans (rfl:_=some (Value.slice A0 b0.length c0));have r1:=(blk_cell Y8.out 1).trans (rfl:_=some (Value.int .i64 s0));have r2:=(blk_cell Y8.out 2).trans (rfl:_=some (Value.slice A5 bb.length c5));have r3:=(blk_cell Y8.out 3).trans (rfl:_=some (Value.int .i64 s1));have r4:=(blk_cell Y8.out 4).trans (rfl:_=some (Value.int .i64 room));have r5:=(blk_cell Y8.out 5).trans (rfl:_=some (Value.int .i64 (stop)));have r6:=(blk_cell Y8.out 6).trans (rfl:_=some (Value.bool false))))
 refine bodyPost_ret (v:=.tuple #[.agg #[Value.slice A0 b0.length c0,Value.int .i64 s0,Value.slice A5 bb.length c5,Value.int .i64 s1,Value.int .i64 room,Value.int .i64 (stop),Value.bool false],.int .i64 0]) ?hres rfl ?_
 case hres =>
  simp only [results,r0,r1,r2,r3,r4,r5,r6]
  first|rfl|(simp [r0,r1,r2,r3,r4,r5,r6];done)|(go_simp;done)|(go_simp;rfl)
 have hbF:=HB7.out
 have q:=H.out.step (Step.of_below (D:=D) hbF)
 have rw_:=F_fresh (D:=D) (W:=w7) (v:=.bool true) (Kd.R_mono (Kd.R_step O4.out (λk hk _=>CH7.out k (by have h_:=lt8.out;have h2_:=LT5.out;have h3_:w5.heap.size<=k:=hk;omega))) (λ_ _=>trivial)) (λk hk=>Nat.lt_of_lt_of_le (HD.out k hk) (Nat.le_trans (Nat.le_of_lt (Nat.lt_of_succ_lt lt8.out)) (Nat.le_of_lt LT5.out)))
 obtain rfl:=BB.out
 exact ⟨_,rfl,⟨_,_,_,_,rfl,⟨q.l0,q.f0,rw_.2.1,rw_.2.2⟩⟩,hbF⟩
set_option maxHeartbeats 8000000 in
set_option maxRecDepth 100000 in
theorem refDo0_1_1 (h:RawV W D A0 A1 c0 c1 d) (hD:∀ k,D k->k<W.heap.size) (hg:d.Good) (i:Int) (A:Option Addr) (m c:Nat) (b:List Int) (hm:m=b.length) (hc:m<=c) (hA:Kd.F U8 W (λk=>¬ D k) A m b) (hd:d.dead=false) (hi:i=1) (hf:¬ d.left<(b.length:Int)) (hs:d.stop≠0) (hp:0<d.stop) :
  Calls Try.prog 24 #[dkV A0 A1 c0 c1 d,.int .i64 0,.int .i64 i,.slice A m c] W λe w'=>∃ v,e = .returned (.tuple #[v,.int .i64 (d.act 0 i b).2])/\Is w' D v (d.act 0 i b).1/\Below W.heap.size W w':=by
 have ea:d.act 0 i b=(d.tick.put 1 (d.b1++b) d.s1,0):=by unfold Dk.act;rw [if_pos rfl];unfold Dk.app;rw [Dk.why_ok hd (by omega),if_neg (by decide),if_neg hf];unfold Dk.did;rw [if_neg hs,hi];rfl
 rw [ea]
 clear ea
 obtain ⟨b0,s0,b1,s1,room,stop,dead⟩:=d
 obtain rfl:dead=false:=hd
 have z0:(stop == 0)=false:=beq_eq_false_iff_ne.2 hs
 have p1:decide (stop > 0)=true:=decide_eq_true hp
 have p2:decide (0<stop)=true:=decide_eq_true hp
 rw [Dk.tick_pos hp]
 subst hi
 have l1:decide ((m:Int) > Dk.left ⟨b0,s0,b1,s1,room,stop,false⟩)=false:=decide_eq_false (by rw [hm];exact hf)
 have l2:decide (Dk.left ⟨b0,s0,b1,s1,room,stop,false⟩<(m:Int))=false:=decide_eq_false (by rw [hm];exact hf)
 clear hs hp hf
 have H:=Aside0.mk h
 have HD:=Aside0.mk hD
 have HA:=Aside0.mk hA
 have HG:=Aside0.mk hg
 have HM:=Aside0.mk hm
 clear h hD hA hg hm
 go_enter Try.func24,Try.ntmps24
 go_upto_region 5 with (fail)
 have hb:Below W.heap.size W ((W.alloc (.cells #[.slice A0 b0.length c0,.int .i64 s0,.slice A1 b1.length c1,.int .i64 s1,.int .i64 room,.int .i64 (stop),.bool false] 43)).alloc (.cells #[.slice none 0 0,.int .i64 0,.slice none 0 0,.int .i64 0,.int .i64 0,.int .i64 0,.bool false] 43)):=below_alloc (below_alloc (Below.refl _ _) _) _
 have x4:((W.alloc (.cells #[.slice A0 b0.length c0,.int .i64 s0,.slice A1 b1.length c1,.int .i64 s1,.int .i64 room,.int .i64 (stop),.bool false] 43)).alloc (.cells #[.slice none 0 0,.int .i64 0,.slice none 0 0,.int .i64 0,.int .i64 0,.int .i64 0,.bool false] 43)).heap[W.heap.size]? = some (.cells #[.slice A0 b0.length c0,.int .i64 s0,.slice A1 b1.length c1,.int .i64 s1,.int .i64 room,.int .i64 (stop),.bool false] 43 (0,0)):=blk_below (heap_alloc_new W _) (below_alloc (Below.refl _ _) _)
 have x8:((W.alloc (.cells #[.slice A0 b0.length c0,.int .i64 s0,.slice A1 b1.length c1,.int .i64 s1,.int .i64 room,.int .i64 (stop),.bool false] 43)).alloc (.cells #[.slice none 0 0,.int .i64 0,.slice none 0 0,.int .i64 0,.int .i64 0,.int .i64 0,.bool false] 43)).heap[W.heap.size+1]? = some (.cells #[.slice none 0 0,.int .i64 0,.slice none 0 0,.int .i64 0,.int .i64 0,.int .i64 0,.bool false] 43 (0,0)):=by have h_:=heap_alloc_new (W.alloc (.cells #[.slice A0 b0.length c0,.int .i64 s0,.slice A1 b1.length c1,.int .i64 s1,.int .i64 room,.int .i64 (stop),.bool false] 43)) (.cells #[.slice none 0 0,.int .i64 0,.slice none 0 0,.int .i64 0,.int .i64 0,.int .i64 0,.bool false] 43);rwa [show(W.alloc (.cells #[.slice A0 b0.length c0,.int .i64 s0,.slice A1 b1.length c1,.int .i64 s1,.int .i64 room,.int .i64 (stop),.bool false] 43)).heap.size=W.heap.size+1 by simp] at h_
 have HB:=Aside0.mk hb
 have X4:=Aside0.mk x4
 have X8:=Aside0.mk x8
 clear hb x4 x8
 generalize (W.alloc (.cells #[.slice A0 b0.length c0,.int .i64 s0,.slice A1 b1.length c1,.int .i64 s1,.int .i64 room,.int .i64 (stop),.bool false] 43)).alloc (.cells #[.slice none 0 0,.int .i64 0,.slice none 0 0,.int .i64 0,.int .i64 0,.int .i64 0,.bool false] 43)=w1 at HB X4 X8 ⊢
 have hL:Calls Try.prog 36 #[.agg #[.slice A0 b0.length c0,.int .i64 s0,.slice A1 b1.length c1,.int .i64 s1,.int .i64 room,.int .i64 (stop),.bool false]] w1 λe w'=>e = .returned (.int .i64 (Dk.left ⟨b0,s0,b1,s1,room,stop,false⟩))/\Below w1.heap.size w1 w':=refLeft (H.out.step (Step.of_below (D:=D) HB.out)) HG.out
 have HL:=Aside0.mk hL
 clear hL
 have k0:=(blk_cell X4.out 0).trans (rfl:_=some (Value.slice A0 b0.length c0))
 have k1:=(blk_cell X4.out 1).trans (rfl:_=some (Value.int .i64 s0))
 have k2:=(blk_cell X4.out 2).trans (rfl:_=some (Value.slice A1 b1.length c1))
 have k3:=(blk_cell X4.out 3).trans (rfl:_=some (Value.int .i64 s1))
 have k4:=(blk_cell X4.out 4).trans (rfl:_=some (Value.int .i64 room))
 have k5:=(blk_cell X4.out 5).trans (rfl:_=some (Value.int .i64 (stop)))
 have k6:=(blk_cell X4.out 6).trans (rfl:_=some (Value.bool false))
 go_upto_region 12 with (first|(go_at_call 36;(with_reducible refine Calls.mono HL.out ?_);rintro e w2 ⟨rfl,hb⟩;clear k0 k1 k2 k3 k4 k5 k6;have x4:=blk_below X4.out hb;have x8:=blk_below X8.out hb;have hb2:=below_step HB.out hb;clear X4 X8 HB;have X4:=Aside0.mk x4;have X8:=Aside0.mk x8;have HB:=Aside0.mk hb2;clear x4 x8 hb2 hb;have k0:=(blk_cell X4.out 0).trans (rfl:_=some (Value.slice A0 b0.length c0));have k1:=(blk_cell X4.out 1).trans (rfl:_=some (Value.int .i64 s0));have k2:=(blk_cell X4.out 2).trans (rfl:_=some (Value.slice A1 b1.length c1));have k3:=(blk_cell X4.out 3).trans (rfl:_=some (Value.int .i64 s1));have k4:=(blk_cell X4.out 4).trans (rfl:_=some (Value.int .i64 room));have k5:=(blk_cell X4.out 5).trans (rfl:_=some (Value.int .i64 (stop)));have k6:=(blk_cell X4.out 6).trans (rfl:_=some (Value.bool false));have f5:=blk_frozen X4.out 5))
 have x4:=blk_put (cs':=#[.slice A0 b0.length c0,.int .i64 s0,.slice A1 b1.length c1,.int .i64 s1,.int .i64 room,.int .i64 (wrap64 (stop - 1)),.bool false]) X4.out 5 (.int .i64 (wrap64 (stop - 1))) rfl
 have x8:=(Below.heap_setCell w2 ⟨W.heap.size,5,none⟩ (.int .i64 (wrap64 (stop - 1))) (W.heap.size+1) (by simp)).trans X8.out
 have hb2:=below_set (j:=5) (v:=.int .i64 (wrap64 (stop - 1))) HB.out (Nat.le_refl W.heap.size)
 clear X4 X8 HB k0 k1 k2 k3 k4 k5 k6 f5
 generalize w2.setCell ⟨W.heap.size,5,none⟩ (.int .i64 (wrap64 (stop - 1)))=w3 at x4 x8 hb2 ⊢
 have X4:=Aside0.mk x4
 have X8:=Aside0.mk x8
 have HB:=Aside0.mk hb2
 clear x4 x8 hb2
 have k0:=(blk_cell X4.out 0).trans (rfl:_=some (Value.slice A0 b0.length c0))
 have k1:=(blk_cell X4.out 1).trans (rfl:_=some (Value.int .i64 s0))
 have k2:=(blk_cell X4.out 2).trans (rfl:_=some (Value.slice A1 b1.length c1))
 have k3:=(blk_cell X4.out 3).trans (rfl:_=some (Value.int .i64 s1))
 have k4:=(blk_cell X4.out 4).trans (rfl:_=some (Value.int .i64 room))
 have k5:=(blk_cell X4.out 5).trans (rfl:_=some (Value.int .i64 (wrap64 (stop - 1))))
 have k6:=(blk_cell X4.out 6).trans (rfl:_=some (Value.bool false))
 go_upto_region 15 with (first|(go_at_call 25;(with_reducible refine Calls.mono (refGet_one w3 A0 A1 c0 c1 (⟨b0,s0,b1,s1,room,wrap64 (stop - 1),false⟩:Dk)) ?_);rintro e w4 ⟨rfl,hb⟩;clear k0 k1 k2 k3 k4 k5 k6;have x4:=blk_below X4.out hb;have x8:=blk_below X8.out hb;have hb2:=below_step HB.out hb;clear X4 X8 HB;have X4:=Aside0.mk x4;have X8:=Aside0.mk x8;have HB:=Aside0.mk hb2;clear x4 x8 hb2 hb))
 have lt8:=Aside0.mk (blk_lt X8.out)
 have hb:=below_alloc (Below.refl w4.heap.size w4) (.cells #[.slice A1 b1.length c1,.int .i64 s1] 41)
 have X10:=Aside0.mk (heap_alloc_new w4 (.cells #[.slice A1 b1.length c1,.int .i64 s1] 41))
 have x4:=blk_below X4.out hb
 have x8:=blk_below X8.out hb
 have hb2:=below_step HB.out hb
 clear X4 X8 HB
 have X4:=Aside0.mk x4
 have X8:=Aside0.mk x8
 have HB:=Aside0.mk hb2
 clear x4 x8 hb2 hb
 obtain ⟨b10,hb10⟩:∃ b10,b10=w4.heap.size:=⟨_,rfl⟩
 generalize w4.alloc (.cells #[.slice A1 b1.length c1,.int .i64 s1] 41)=w5 at HB X4 X8 X10 ⊢
 rw [<-hb10] at X10 lt8 ⊢
 clear hb10
 have j0:=(blk_cell X10.out 0).trans (rfl:_=some (Value.slice A1 b1.length c1))
 have q5:=Aside0.mk (H.out.step (Step.of_below (D:=D) HB.out))
 have a5:=Aside0.mk ((Step.of_below (D:=D) HB.out).foot HA.out)
 have LB:=Aside0.mk (show(b1.length:Int)<=1048576 from HG.out.len1)
 have LM:=Aside0.mk (show(m:Int)<=1048576 by have h1:=HM.out;have h2:=of_decide_eq_false l2;have h3:=HG.out.r1;have h4:room<=1048576:=h3;unfold Dk.left at h2;simp only at h2;omega)
 go_upto_region 20 with (first|((with_reducible refine gate_builtin (b:=.append) (xs:=#[.tmp 52,.tmp 53]) rfl ?_);at_builtin;refine Kd.R_append_rows U8 (w0:=w5) w5.heap.size rfl (.tmp 52) (.tmp 53) 23 5 (.int .u8 0) 1 rfl Try.underlying23 info5 rfl (by decide) (by omega) _ b1 b _ _ _ (λ_=>True) (λ_=>False) rfl rfl O2.out (by have a_:=Kd.C_below (Kd.F_now a5.out) B2.out;rw [HM.out] at a_ ⊢;exact a_) (λ_ _ h=>h) (λ_ h=>h.elim) (λ_ _=>trivial) B2.out (below_size B2.out) (by have:=LB.out;have:=LM.out;omega) ?_;intro v54 w9 ho hb hg hat;obtain ⟨bb,hbb⟩:∃ bb,bb=b1++b:=⟨_,rfl⟩;rw [<-hbb] at ho;have BB:=Aside0.mk hbb;clear hbb;obtain ⟨A5,c5,e5⟩:=Kd.R_slice ho;subst e5;have O3:=Aside0.mk ho;have B3:=Aside0.mk hb;have x10:=blk_below X10.out hb;clear j0;have j0:=(blk_cell x10 0).trans (rfl:_=some (Value.slice A1 b1.length c1));have g0:=blk_frozen x10 0;clear ho hb hg hat x10)|((with_reducible refine gate_builtin (b:=.append) (xs:=#[.tmp 49,.tmp 51]) rfl ?_);at_builtin;refine Kd.R_append_rows U8 (w0:=w5) w5.heap.size rfl (.tmp 49) (.tmp 51) 23 5 (.int .u8 0) 1 rfl Try.underlying23 info5 rfl (by decide) (by omega) _ [] b1 _ _ _ (λ_=>True) (λ_=>False) rfl rfl O1.out (Kd.C_below (Kd.F_now q5.out.f1) B1.out) (λ_ _ h=>h) (λ_ h=>h.elim) (λ_ _=>trivial) B1.out (below_size B1.out) (by have:=LB.out;simp;omega) ?_;intro v52 w8 ho hb hg hat;rw [List.nil_append] at ho;have O2:=Aside0.mk ho;have B2:=Aside0.mk hb;have x10:=blk_below X10.out hb;clear j0;have j0:=(blk_cell x10 0).trans (rfl:_=some (Value.slice A1 b1.length c1));clear ho hb hg hat x10)|((with_reducible refine gate_dst (N:=49) rfl ?_);refine Kd.R_lit U8 (w0:=w5) w5.heap.size 5 ?hg (N:=49) ?hd (xs:=([]:List Int)) (inner:=[]) (ok:=λ_=>True) (okp:=λ_=>True) ?hr ?hp (λ_ hk=>hk) trivial (Below.refl _ _) (Nat.le_refl _) (by simp) ?_;(case hd=>rfl);(case hg=>rfl);(case hr=>first|(go_simp;done)|(go_simp;rfl));(case hp=>exact(Reps.none _ _));intro v49 w6 ho hb hg_ hnew_;have O1:=Aside0.mk ho;have B1:=Aside0.mk hb;have x10:=blk_below X10.out hb;clear j0;have j0:=(blk_cell x10 0).trans (rfl:_=some (Value.slice A1 b1.length c1));clear ho hb hg_ hnew_ x10))
 have lt10:=blk_lt X10.out
 have hb:=B3.out
 have x4:=blk_below X4.out hb
 have x8:=blk_below X8.out hb
 have x10:=blk_below X10.out hb
 have hb2:=below_step HB.out hb
 clear X4 X8 X10 HB
 have X4:=Aside0.mk x4
 have X8:=Aside0.mk x8
 have X10:=Aside0.mk x10
 have HB:=Aside0.mk hb2
 clear x4 x8 x10 hb2
 have x10:=blk_put (cs':=#[.slice A5 bb.length c5,.int .i64 s1]) X10.out 0 (.slice A5 bb.length c5) rfl
 have hf:∀ k,k≠b10->(w9.setCell ⟨b10,0,none⟩ (.slice A5 bb.length c5)).heap[k]? = w9.heap[k]?:=λk hk=>Below.heap_setCell w9 ⟨b10,0,none⟩ (.slice A5 bb.length c5) k hk
 have x4:=(hf W.heap.size (by have:=lt8.out;omega)).trans X4.out
 have x8:=(hf (W.heap.size+1) (by have:=lt8.out;omega)).trans X8.out
 have hb2:=below_set (j:=0) (v:=.slice A5 bb.length c5) HB.out (show W.heap.size<=b10 by have:=lt8.out;omega)
 have o3:=Kd.R_step (Kd.R_mono (Kd.R_bound O3.out) (ok':=λk=>w5.heap.size<=k) (λk hk=>hk.2.1)) (λk hk _=>hf k (by omega))
 clear X4 X8 X10 HB hf j0 g0 O1 O2 O3 B1 B2 B3 hb
 generalize w9.setCell ⟨b10,0,none⟩ (.slice A5 bb.length c5)=w10 at x4 x8 x10 hb2 o3 ⊢
 have X4:=Aside0.mk x4
 have X8:=Aside0.mk x8
 have X10:=Aside0.mk x10
 have HB:=Aside0.mk hb2
 have O3:=Aside0.mk o3
 have LT5:=Aside0.mk lt10
 clear x4 x8 x10 hb2 o3 lt10
 have k0:=(blk_cell X4.out 0).trans (rfl:_=some (Value.slice A0 b0.length c0))
 have k1:=(blk_cell X4.out 1).trans (rfl:_=some (Value.int .i64 s0))
 have k2:=(blk_cell X4.out 2).trans (rfl:_=some (Value.slice A1 b1.length c1))
 have k3:=(blk_cell X4.out 3).trans (rfl:_=some (Value.int .i64 s1))
 have k4:=(blk_cell X4.out 4).trans (rfl:_=some (Value.int .i64 room))
 have k5:=(blk_cell X4.out 5).trans (rfl:_=some (Value.int .i64 (wrap64 (stop - 1))))
 have k6:=(blk_cell X4.out 6).trans (rfl:_=some (Value.bool false))
 have j0:=(blk_cell X10.out 0).trans (rfl:_=some (Value.slice A5 bb.length c5))
 have j1:=(blk_cell X10.out 1).trans (rfl:_=some (Value.int .i64 s1))
 have hS:Calls Try.prog 37 #[.agg #[.slice A0 b0.length c0,.int .i64 s0,.slice A1 b1.length c1,.int .i64 s1,.int .i64 room,.int .i64 (wrap64 (stop - 1)),.bool false],.int .i64 1,.agg #[.slice A5 bb.length c5,.int .i64 s1]] w10 λe w'=>e = .returned (.agg #[Value.slice A0 b0.length c0,Value.int .i64 s0,Value.slice A5 bb.length c5,Value.int .i64 s1,Value.int .i64 room,Value.int .i64 (wrap64 (stop - 1)),Value.bool false])/\Below w10.heap.size w10 w':=refSet_one w10 A0 A1 c0 c1 (⟨b0,s0,b1,s1,room,wrap64 (stop - 1),false⟩:Dk) A5 c5 bb s1
 go_wp2_with (first|(go_at_call 37;(with_reducible refine Calls.mono hS ?_);rintro e w6 ⟨rfl,hb⟩;clear k0 k1 k2 k3 k4 k5 k6 j0 j1 X10;have o4:=Kd.R_below O3.out hb;have O4:=Aside0.mk o4;clear o4;have x4:=blk_below X4.out hb;have x8:=blk_below X8.out hb;have hb2:=below_step HB.out hb;clear X4 X8 HB;have X4:=Aside0.mk x4;have X8:=Aside0.mk x8;have HB:=Aside0.mk hb2;clear x4 x8 hb2 hb;have z0:=(blk_cell X8.out 0).trans (rfl:_=some (Value.slice none 0 0));have z1:=(blk_cell X8.out 1).trans (rfl:_=some (Value.int .i64 0));have z2:=(blk_cell X8.out 2).trans (rfl:_=some (Value.slice none 0 0));have z3:=(blk_cell X8.out 3).trans (rfl:_=some (Value.int .i64 0));have z4:=(blk_cell X8.out 4).trans (rfl:_=some (Value.int .i64 0));have z5:=(blk_cell X8.out 5).trans (rfl:_=some (Value.int .i64 0));have z6:=(blk_cell X8.out 6).trans (rfl:_=some (Value.bool false));have f0:=blk_frozen X8.out 0;have f1:=blk_frozen X8.out 1;have f2:=blk_frozen X8.out 2;have f3:=blk_frozen X8.out 3;have f4:=blk_frozen X8.out 4;have f5:=blk_frozen X8.out 5;have f6:=blk_frozen X8.out 6)|((with_reducible refine store_event (t:=43) (p:=8) rfl rfl rfl (w1:=(((((((w6.setCell ⟨W.heap.size+1,0,none⟩ (Value.slice A0 b0.length c0)).setCell ⟨W.heap.size+1,1,none⟩ (Value.int .i64 s0)).setCell ⟨W.heap.size+1,2,none⟩ (Value.slice A5 bb.length c5)).setCell ⟨W.heap.size+1,3,none⟩ (Value.int .i64 s1)).setCell ⟨W.heap.size+1,4,none⟩ (Value.int .i64 room)).setCell ⟨W.heap.size+1,5,none⟩ (Value.int .i64 (wrap64 (stop - 1)))).setCell ⟨W.heap.size+1,6,none⟩ (Value.bool false))) ?hrun ?_);(case hrun=>first|(go_simp;done)|(go_simp;rfl));intro w7 hw7;have Y8:=Aside0.mk (show w7.heap[W.heap.size+1]? = some (.cells #[Value.slice A0 b0.length c0,Value.int .i64 s0,Value.slice A5 bb.length c5,Value.int .i64 s1,Value.int .i64 room,Value.int .i64 (wrap64 (stop - 1)),Value.bool false] 43 (0,0)) by rw [hw7];exact(blk_put ((blk_put ((blk_put ((blk_put ((blk_put ((blk_put ((blk_put (X8.out) 0 (Value.slice A0 b0.length c0) rfl)) 1 (Value.int .i64 s0) rfl)) 2 (Value.slice A5 bb.length c5) rfl)) 3 (Value.int .i64 s1) rfl)) 4 (Value.int .i64 room) rfl)) 5 (Value.int .i64 (wrap64 (stop - 1))) rfl)) 6 (Value.bool false) rfl));have HB7:=Aside0.mk (show Below W.heap.size W w7 by rw [hw7];exact(below_set ((below_set ((below_set ((below_set ((below_set ((below_set ((below_set (HB.out) (Nat.le_succ _))) (Nat.le_succ _))) (Nat.le_succ _))) (Nat.le_succ _))) (Nat.le_succ _))) (Nat.le_succ _))) (Nat.le_succ _)));have CH7:=Aside0.mk (show ∀ k,k≠W.heap.size+1->w7.heap[k]? = w6.heap[k]? from λk hk=>by rw [hw7];exact((Below.heap_setCell ((((((w6.setCell ⟨W.heap.size+1,0,none⟩ (Value.slice A0 b0.length c0)).setCell ⟨W.heap.size+1,1,none⟩ (Value.int .i64 s0)).setCell ⟨W.heap.size+1,2,none⟩ (Value.slice A5 bb.length c5)).setCell ⟨W.heap.size+1,3,none⟩ (Value.int .i64 s1)).setCell ⟨W.heap.size+1,4,none⟩ (Value.int .i64 room)).setCell ⟨W.heap.size+1,5,none⟩ (Value.int .i64 (wrap64 (stop - 1)))) ⟨W.heap.size+1,6,none⟩ (Value.bool false) k hk).trans (((Below.heap_setCell (((((w6.setCell ⟨W.heap.size+1,0,none⟩ (Value.slice A0 b0.length c0)).setCell ⟨W.heap.size+1,1,none⟩ (Value.int .i64 s0)).setCell ⟨W.heap.size+1,2,none⟩ (Value.slice A5 bb.length c5)).setCell ⟨W.heap.size+1,3,none⟩ (Value.int .i64 s1)).setCell ⟨W.heap.size+1,4,none⟩ (Value.int .i64 room)) ⟨W.heap.size+1,5,none⟩ (Value.int .i64 (wrap64 (stop - 1))) k hk).trans (((Below.heap_setCell ((((w6.setCell ⟨W.heap.size+1,0,none⟩ (Value.slice A0 b0.length c0)).setCell ⟨W.heap.size+1,1,none⟩ (Value.int .i64 s0)).setCell ⟨W.heap.size+1,2,none⟩ (Value.slice A5 bb.length c5)).setCell ⟨W.heap.size+1,3,none⟩ (Value.int .i64 s1)) ⟨W.heap.size+1,4,none⟩ (Value.int .i64 room) k hk).trans (((Below.heap_setCell (((w6.setCell ⟨W.heap.size+1,0,none⟩ (Value.slice A0 b0.length c0)).setCell ⟨W.heap.size+1,1,none⟩ (Value.int .i64 s0)).setCell ⟨W.heap.size+1,2,none⟩ (Value.slice A5 bb.length c5)) ⟨W.heap.size+1,3,none⟩ (Value.int .i64 s1) k hk).trans (((Below.heap_setCell ((w6.setCell ⟨W.heap.size+1,0,none⟩ (Value.slice A0 b0.length c0)).setCell ⟨W.heap.size+1,1,none⟩ (Value.int .i64 s0)) ⟨W.heap.size+1,2,none⟩ (Value.slice A5 bb.length c5) k hk).trans (((Below.heap_setCell (w6.setCell ⟨W.heap.size+1,0,none⟩ (Value.slice A0 b0.length c0)) ⟨W.heap.size+1,1,none⟩ (Value.int .i64 s0) k hk).trans (((Below.heap_setCell w6 ⟨W.heap.size+1,0,none⟩ (Value.slice A0 b0.length c0) k hk).trans (rfl)))))))))))))));clear hw7;have r0:=(blk_cell Y8.out 0).trans (rfl:_=some (Value.slice A0 b0.length c0));have r1:=(blk_cell Y8.out 1).trans (rfl:_=some (Value.int .i64 s0));have r2:=(blk_cell Y8.out 2).trans (rfl:_=some (Value.slice A5 bb.length c5));have r3:=(blk_cell Y8.out 3).trans (rfl:_=some (Value.int .i64 s1));have r4:=(blk_cell Y8.out 4).trans (rfl:_=some (Value.int .i64 room));have r5:=(blk_cell Y8.out 5).trans (rfl:_=some (Value.int .i64 (wrap64 (stop - 1))));have r6:=(blk_cell Y8.out 6).trans (rfl:_=some (Value.bool false))))
 refine bodyPost_ret (v:=.tuple #[.agg #[Value.slice A0 b0.length c0,Value.int .i64 s0,Value.slice A5 bb.length c5,Value.int .i64 s1,Value.int .i64 room,Value.int .i64 (wrap64 (stop - 1)),Value.bool false],.int .i64 0]) ?hres rfl ?_
 case hres =>
  simp only [results,r0,r1,r2,r3,r4,r5,r6]
  first|rfl|(simp [r0,r1,r2,r3,r4,r5,r6];done)|(go_simp;done)|(go_simp;rfl)
 have hbF:=HB7.out
 have q:=H.out.step (Step.of_below (D:=D) hbF)
 have rw_:=F_fresh (D:=D) (W:=w7) (v:=.bool true) (Kd.R_mono (Kd.R_step O4.out (λk hk _=>CH7.out k (by have h_:=lt8.out;have h2_:=LT5.out;have h3_:w5.heap.size<=k:=hk;omega))) (λ_ _=>trivial)) (λk hk=>Nat.lt_of_lt_of_le (HD.out k hk) (Nat.le_trans (Nat.le_of_lt (Nat.lt_of_succ_lt lt8.out)) (Nat.le_of_lt LT5.out)))
 obtain rfl:=BB.out
 exact ⟨_,rfl,⟨_,_,_,_,rfl,⟨q.l0,q.f0,rw_.2.1,rw_.2.2⟩⟩,hbF⟩
end
end Go.Proofs.Ytpahdlgpiecdkaa.Dsk
