/- a part -/
import Derived.Test.YtgocnchjpecafaaPEvx16
import Derived.Test.YtgocnchjpecafaaPEvx28
namespace Go.Proofs.Ytgocnchjpecafaa.PEv
open Go.RowKit Go.Proofs.YtgocnchjpecafaaW.PrintWords Go.Proofs.YtgocnchjpecafaaW.PrintLast Go.Proofs.YtgocnchjpecafaaW.PrintMore
attribute [local go_sem] max2_int min2_int max_two min_two max_three min_three max_four min_four
set_option linter.unusedVariables false
set_option linter.unusedSimpArgs false
set_option maxHeartbeats 8000000
set_option maxRecDepth 100000
theorem z29_0 {P:Prop} (h:P:=by repeat(first|(with_reducible first|exact HB.out|apply below_alloc|apply pw_below_drewN|apply below_drew1|refine below_set ?_ GE583.out)|exact HB.out)):P:=h
theorem z29_1 {P:Prop} (h:P:=by(with_reducible repeat(first|refine blk_drewN ?_ _|refine blk_drew ?_|refine blk_alloc ?_ _));exact BK583.out):P:=h
mutual
def r28_Put.j0:Nat->Int->List Int->Bool->List (S30)->Option (List Int)
 | 0,_,_,_,_=>none
 | k+1,x3,x584000,x584001,x584002=>(r03_Put.f k x584000).bind λt587=>(r28_Put.l0 k (([(([x3]:List Int)),t587]:List (List Int))) 0 x584000 x584001 x584002)
def r28_Put.l0:Nat->List (List Int)->Int->List Int->Bool->List (S30)->Option (List Int)
 | 0,_,_,_,_,_=>none
 | k+1,x4,x5,x584000,x584001,x584002=>if x5<(x584002.length:Int) then(if 0<=x5 then((r05_Put.f k ((rd_T30 x584002 x5).f0.f0) ((rd_T30 x584002 x5).f0.f1) ((rd_T30 x584002 x5).f1) ((rd_T30 x584002 x5).f2)).bind λt594=>(if x4.length<5864062014805 then(r28_Put.l0 k (x4++[t594]) (wrap64 (x5+1)) x584000 x584001 x584002) else(none))) else(none)) else((r02_Pack.f k x4).bind λt600=>(some t600))
end
def r28_Put.f (k:Nat) (l0_0:List Int) (a0_1:Bool) (l0_2:List (S30)):Option (List Int):=if a0_1=true then(r28_Put.j0 k 1 l0_0 a0_1 l0_2) else(r28_Put.j0 k 0 l0_0 a0_1 l0_2)
theorem r28_Put.calls (k:Nat) (A0_0:Option Addr) (c0_0:Nat) (l0_0:List Int) (a0_1:Bool) (A0_2:Option Addr) (c0_2:Nat) (l0_2:List (S30)) (r:List Int) (w:World) (hr0_0:Kd.C (Kd.int .i64) w A0_0 l0_0.length l0_0) (hc0_0:l0_0.length<=c0_0) (hr0_2:Kd.C k30 w A0_2 l0_2.length l0_2) (hc0_2:l0_2.length<=c0_2) (h:r28_Put.f k l0_0 a0_1 l0_2=some r) :
  Calls Try.prog 47 #[.agg #[.slice A0_0 l0_0.length c0_0,.bool a0_1,.slice A0_2 l0_2.length c0_2]] w λe w'=>∃ v0_:Value,e = .returned (v0_)/\Kd.R (Kd.int .u8) 5 w' w.heap.size (λ_=>True) v0_ r/\Below w.heap.size w w':=by
 have hu53:=Try.underlying53
 have hu30:=Try.underlying30
 have HR0_0:=Aside0.mk hr0_0
 have HC0_0:=Aside0.mk hc0_0
 clear hr0_0 hc0_0
 have HR0_2:=Aside0.mk hr0_2
 have HC0_2:=Aside0.mk hc0_2
 clear hr0_2 hc0_2
 have HB:=U (Below.refl w.heap.size w)
 have H:(if a0_1=true then(r28_Put.j0 k 1 l0_0 a0_1 l0_2) else(r28_Put.j0 k 0 l0_0 a0_1 l0_2))=some r:=h
 clear h
 have HC2:=Aside0.mk H
 clear H
 go_enter Try.func47,Try.ntmps47
 go_upto_if 7 with (first|((with_reducible refine gate_dst (N:=1) rfl ?_);refine box_event ?hg (N:=1) ?hd (cs:=#[.slice A0_0 l0_0.length c0_0,.bool a0_1,.slice A0_2 l0_2.length c0_2]) (t:=53) ?hr ?_;(case hd=>rfl);(case hg=>rfl);(case hr=>exact z10_10);intro gb583 hg w3 hbox hb;have BK583:=U (hbox);have GW583:=U ((by rw [hg];exact(below_size z9_4):w.heap.size<=gb583));have GE583:=U ((by rw [hg];exact(below_size z9_4):w.heap.size<=gb583));replace HB:=U (below_step z9_4 hb);clear hb hbox hg;obtain ⟨hcz4_0,hcz4_1,hcz4_2,hfz4_0,hfz4_1,hfz4_2⟩:=cz3_ BK583.out))
 (try simp only [Act.put,List.setIfInBounds_toArray,List.set_cons_zero,List.set_cons_succ])
 go_cut [3] (λv3 wc=>∃ (kq:Nat) (x3_1:Int),v3 = .int .u8 x3_1/\Aside0 (r28_Put.j0 kq x3_1 l0_0 a0_1 l0_2=some r)/\Aside0 (kq<=k)/\Aside0 (wc.heap[gb583]? = some (.cells #[(.slice A0_0 l0_0.length c0_0),.bool a0_1,(.slice A0_2 l0_2.length c0_2)] 53 (0,0)))/\Aside0 (Below w.heap.size w wc))
 case first =>
  have H:=HC2.out
  clear HC2
  by_cases c5:a0_1=true
  ·subst c5
   have H1:(r28_Put.j0 k 1 l0_0 true l0_2)=some r:=by rw [if_pos rfl] at H;exact H
   clear H
   have H:=H1
   clear H1
   have H':=Aside0.mk H
   clear H
   go_wp2
   go_meet
   case rel=>exact ⟨_,(1),z9_3,H',⟨(by first|omega|exact Nat.le_refl _)⟩,⟨z29_1⟩,⟨z29_0⟩⟩
  replace c5:=Bool.eq_false_iff.mpr c5
  subst c5
  have H1:(r28_Put.j0 k 0 l0_0 false l0_2)=some r:=by rw [if_neg (show ¬ (false=true) by decide)] at H;exact H
  clear H
  have H:=H1
  clear H1
  have H':=Aside0.mk H
  clear H
  go_wp2
  go_meet
  case rel=>exact ⟨_,(0),z9_3,H',⟨(by first|omega|exact Nat.le_refl _)⟩,⟨z29_1⟩,⟨z29_0⟩⟩
 case rest =>
 clear HC2
 try clear p2
 try clear c4
 try clear c5
 try clear hcz4_0 hcz4_1 hcz4_2
 try clear hfz4_0 hfz4_1 hfz4_2
 obtain ⟨kq,x3_1,rfl,HA,HJ1,BK583,HB⟩:=hcut
 cases kq with
 | zero=>exact absurd HA.out (by simp [r28_Put.j0])
 | succ kj1 =>
 have H:=HA.out
 clear HA
 simp only [r28_Put.j0] at H
 obtain ⟨y584,hy584⟩:∃ y_:List Int,y_=(([x3_1]:List Int)):=⟨_,rfl⟩
 replace H:((r03_Put.f kj1 l0_0).bind λt587=>(r28_Put.l0 kj1 (([y584,t587]:List (List Int))) 0 l0_0 a0_1 l0_2))=some r:=by first|(rw [hy584];with_reducible exact H)|(have H2_:=(Option.bind_some _ _).symm.trans H;rw [hy584];with_reducible exact H2_)|(have H2_:=(Option.bind_some _ _).symm.trans H;with_reducible exact H2_)|with_reducible exact H|(rw [hy584];exact H)|exact H
 have Ny584:=Aside0.mk hy584
 clear hy584
 replace H:=oB_ H
 obtain ⟨t587,A60,H⟩:=H
 replace H:(r28_Put.l0 kj1 (([y584,t587]:List (List Int))) 0 l0_0 a0_1 l0_2)=some r:=H
 have A6:=Aside0.mk A60
 clear A60
 obtain ⟨y590,hy590⟩:∃ y_:List (List Int),y_=(([y584,t587]:List (List Int))):=⟨_,rfl⟩
 replace H:(r28_Put.l0 kj1 y590 0 l0_0 a0_1 l0_2)=some r:=by first|(rw [hy590];with_reducible exact H)|(have H2_:=(Option.bind_some _ _).symm.trans H;rw [hy590];with_reducible exact H2_)|(have H2_:=(Option.bind_some _ _).symm.trans H;with_reducible exact H2_)|with_reducible exact H|(rw [hy590];exact H)|exact H
 have Ny590:=Aside0.mk hy590
 clear hy590
 have H':=Aside0.mk H
 clear H
 go_wp2_with (first|((with_reducible refine gate_dst (N:=9) rfl ?_);refine Kd.R_lit (Kd.int .u8) _ 5 ?hg (N:=9) ?hd (xs:=([x3_1]:List Int)) (inner:=[.int .u8 x3_1]) (ok:=λ_=>True) (okp:=λ_=>True) ?hr ?hp (λ_ hk=>hk) trivial (Below.refl _ _) (Nat.le_refl _) (by simp) ?_;(case hd=>rfl);(case hg=>rfl);(case hr=>exact z10_10);(case hp=>exact(Reps.one (show Kd.M (Kd.int .u8) _ _ _ x3_1 [.int .u8 x3_1] from rfl) (Reps.none _ _)));intro v585 w7 ho8 hb hg_ hnew_;clear hg_ hnew_;(first|rw [<-Ny584.out] at ho8|(simp only [Int.reduceToNat] at ho8;rw [<-Ny584.out] at ho8));have HO586:=U (Kd.R_lower ho8 (below_size z29_0));replace BK583:=U (blk_below (g:=gb583) (o:=.cells #[.slice A0_0 l0_0.length c0_0,.bool a0_1,.slice A0_2 l0_2.length c0_2] 53 (0,0)) z29_1 hb);replace HB:=U (below_step z29_0 hb);clear hb ho8;obtain ⟨hcz9_0,hcz9_1,hcz9_2,hfz9_0,hfz9_1,hfz9_2⟩:=cz3_ BK583.out)|((with_reducible refine gate_callee (f:=77) rfl ?_);refine goesL_ (some 12) rfl rfl Try.func77 (by kernel_rfl) rfl #[.slice A0_0 l0_0.length c0_0] rfl z10_2 ?_;(with_reducible refine(r03_Put.calls kj1 _ _ l0_0 t587 _ ?side1 ?side2 A6.out).mono ?_);(case side1=>repeat(first|exact(Kd.C_below HR0_0.out HB.out)|(with_reducible refine Kd.C_alloc ?_ _)|(with_reducible refine Kd.C_drewN ?_ _)|(with_reducible refine Kd.C_drew ?_)));(case side2=>exact HC0_0.out);rintro e w10 ⟨v588,rfl,ho0,hb⟩;refine ⟨_,rfl,?_⟩;have HO589:=U (Kd.R_lower (Kd.R_new' ho0 (Kd.R_lt (by(with_reducible repeat(first|apply Kd.R_alloc|apply Kd.R_drewN|apply Kd.R_drew));exact HO586.out))) (below_size z29_0));replace HO586:=U (Kd.R_elder' (by(with_reducible repeat(first|apply Kd.R_alloc|apply Kd.R_drewN|apply Kd.R_drew));exact HO586.out) (Kd.R_base ho0) hb);replace BK583:=U (blk_below (g:=gb583) (o:=.cells #[.slice A0_0 l0_0.length c0_0,.bool a0_1,.slice A0_2 l0_2.length c0_2] 53 (0,0)) z29_1 hb);replace HB:=U (below_step z29_0 hb);(try clear hb);(try clear hb2);(try clear hk);(try clear hi);(try clear ho0);obtain ⟨Ao11,co11,eo11⟩:=Kd.R_slice HO586.out;subst eo11;obtain ⟨Ao12,co12,eo12⟩:=Kd.R_slice HO589.out;subst eo12)|((with_reducible refine gate_dst (N:=13) rfl ?_);refine Kd.N_lit (Kd.slice 5 (Kd.int .u8)) _ 22 ?hg (N':=13) ?hd (xs:=([y584,t587]:List (List Int))) (inner:=[.slice Ao11 y584.length co11,.slice Ao12 t587.length co12]) (ok:=(λk_=>k_≠gb583)) (okp:=(λk_=>k_≠gb583)) ?hr ?hp (λ_ hk=>hk) ((show ∀ k_,w10.heap.size<=k_->(λk_=>k_≠gb583) k_ from λk_ hk=>Kd.freshB (g:=gb583) (o:=.cells #[.slice A0_0 l0_0.length c0_0,.bool a0_1,.slice A0_2 l0_2.length c0_2] 53 (0,0)) z29_1 k_ hk) _ (Nat.le_refl _)) (Below.refl _ _) (Nat.le_refl _) (by simp) ?_;(case hd=>rfl);(case hg=>rfl);(case hr=>exact z10_10);(case hp=>exact(Reps.one (show Kd.FK (Kd.slice 5 (Kd.int .u8)) _ _ y584 [.slice Ao11 y584.length co11] from(by first|(obtain ⟨A_,c_,e_⟩:=Kd.R_slice HO586.out;have hq_:=HO586.out;rw [e_] at hq_ ⊢;exact Kd.FK_slice_mk (Kd.R_reads' (Kd.R_mono (ok':=(λk_=>k_≠gb583)) (Kd.R_types (hq_) BK583.out (by decide)) (λk_ hk=>hk.2))).2.1 (Kd.R_F (Kd.R_mono (ok':=(λk_=>k_≠gb583)) (Kd.R_types (hq_) BK583.out (by decide)) (λk_ hk=>hk.2))))|exact Kd.FK_slice_mk (Kd.R_reads' (Kd.R_mono (ok':=(λk_=>k_≠gb583)) (Kd.R_types (HO586.out) BK583.out (by decide)) (λk_ hk=>hk.2))).2.1 (Kd.R_F (Kd.R_mono (ok':=(λk_=>k_≠gb583)) (Kd.R_types (HO586.out) BK583.out (by decide)) (λk_ hk=>hk.2))))) (Reps.one (show Kd.FK (Kd.slice 5 (Kd.int .u8)) _ _ t587 [.slice Ao12 t587.length co12] from(by first|(obtain ⟨A_,c_,e_⟩:=Kd.R_slice HO589.out;have hq_:=HO589.out;rw [e_] at hq_ ⊢;exact Kd.FK_slice_mk (Kd.R_reads' (Kd.R_mono (ok':=(λk_=>k_≠gb583)) (Kd.R_types (hq_) BK583.out (by decide)) (λk_ hk=>hk.2))).2.1 (Kd.R_F (Kd.R_mono (ok':=(λk_=>k_≠gb583)) (Kd.R_types (hq_) BK583.out (by decide)) (λk_ hk=>hk.2))))|exact Kd.FK_slice_mk (Kd.R_reads' (Kd.R_mono (ok':=(λk_=>k_≠gb583)) (Kd.R_types (HO589.out) BK583.out (by decide)) (λk_ hk=>hk.2))).2.1 (Kd.R_F (Kd.R_mono (ok':=(λk_=>k_≠gb583)) (Kd.R_types (HO589.out) BK583.out (by decide)) (λk_ hk=>hk.2))))) (Reps.none _ _))));intro v591 w13 ho14 hb hg_ hnew_;clear hg_ hnew_;(first|rw [<-Ny590.out] at ho14|(simp only [Int.reduceToNat] at ho14;rw [<-Ny590.out] at ho14));have HO592:=U (Kd.N_lower ho14 (below_size z29_0));replace BK583:=U (blk_below (g:=gb583) (o:=.cells #[.slice A0_0 l0_0.length c0_0,.bool a0_1,.slice A0_2 l0_2.length c0_2] 53 (0,0)) z29_1 hb);replace HB:=U (below_step z29_0 hb);clear HO586 HO589;clear hb ho14))
 go_loopg [4,5] kj1 (λkq v4 v5 w'=>∃ (x4_2:List (List Int)) (x5_2:Int),v5 = .int .i64 x5_2/\Aside0 (r28_Put.l0 kq x4_2 x5_2 l0_0 a0_1 l0_2=some r)/\Aside0 (kq<=kj1)/\Aside0 (Kd.N (Kd.slice 5 (Kd.int .u8)) 22 w' w.heap.size (λk_=>k_≠gb583) v4 x4_2)/\Aside0 (w'.heap[gb583]? = some (.cells #[(.slice A0_0 l0_0.length c0_0),.bool a0_1,(.slice A0_2 l0_2.length c0_2)] 53 (0,0)))/\Aside0 (Below w.heap.size w w'))
 case atStart=>exact ⟨(y590),(0),z9_3,H',⟨Nat.le_refl _⟩,⟨(by(with_reducible repeat(first|apply Kd.N_alloc|apply Kd.N_drewN|apply Kd.N_drew));exact HO592.out)⟩,⟨z29_1⟩,⟨z29_0⟩⟩
 case round =>
 clear H'
 try clear p2
 try clear c4
 try clear c5
 try clear c7
 try clear hcz4_0 hcz4_1 hcz4_2
 try clear hcz9_0 hcz9_1 hcz9_2
 try clear hfz4_0 hfz4_1 hfz4_2
 try clear hfz9_0 hfz9_1 hfz9_2
 try clear p2
 obtain ⟨x4_2,x5_2,rfl,HA,HK2,HO_4,BK583,HB⟩:=hrel
 cases gk with
 | zero=>exact absurd HA.out (by simp [r28_Put.l0])
 | succ k2 =>
 have H:=HA.out
 clear HA
 simp only [r28_Put.l0] at H
 by_cases c15:x5_2<(l0_2.length:Int)
 rotate_left
 ·rw [if_neg c15] at H
  have c15b0:decide (x5_2<(l0_2.length:Int))=false:=dF_ c15
  clear c15
  replace H:=oB_ H
  obtain ⟨t600,A230,H⟩:=H
  replace H:(some t600)=some r:=H
  have A23:=Aside0.mk A230
  clear A230
  obtain rfl:=sI_ H
  obtain ⟨hcz24_0,hcz24_1,hcz24_2,hfz24_0,hfz24_1,hfz24_2⟩:=cz3_ BK583.out
  obtain ⟨Ao25,co25,eo25⟩:=Kd.N_slice HO_4.out
  subst eo25
  go_wp2_with (first|((with_reducible refine gate_callee (f:=75) rfl ?_);refine goesL_ (some 31) rfl rfl Try.func75 (by kernel_rfl) rfl #[.slice Ao25 x4_2.length co25] rfl z10_2 ?_;(with_reducible refine(r02_Pack.calls k2 _ _ x4_2 t600 _ ?side1 ?side2 A23.out).mono ?_);(case side1=>repeat(first|exact(Kd.N_reads' HO_4.out).2.2|(with_reducible refine Kd.C_alloc ?_ _)|(with_reducible refine Kd.C_drewN ?_ _)|(with_reducible refine Kd.C_drew ?_)));(case side2=>exact(Kd.N_reads' HO_4.out).2.1);rintro e w26 ⟨v601,rfl,ho0,hb⟩;refine ⟨_,rfl,?_⟩;replace HO_4:=U (Kd.N_elder' (by(with_reducible repeat(first|apply Kd.N_alloc|apply Kd.N_drewN|apply Kd.N_drew));exact HO_4.out) (Kd.R_base ho0) hb);have HO602:=U (Kd.R_lower ho0 (below_size z29_0));replace BK583:=U (blk_below (g:=gb583) (o:=.cells #[.slice A0_0 l0_0.length c0_0,.bool a0_1,.slice A0_2 l0_2.length c0_2] 53 (0,0)) z29_1 hb);replace HB:=U (below_step z29_0 hb);(try clear hb);(try clear hb2);(try clear hk);(try clear hi);(try clear ho0)))
  go_ret
  exact ⟨_,(by first|rfl|(simp [errW_none,errW_some]<;>rfl)|(simp [*,errW_none,errW_some]<;>rfl)),(by(with_reducible repeat(first|apply Kd.R_alloc|apply Kd.R_drewN|apply Kd.R_drew));exact HO602.out),z29_0⟩
 rw [if_pos c15] at H
 have c15b0:decide (x5_2<(l0_2.length:Int))=true:=dT_ c15
 clear c15
 by_cases c16:0<=x5_2
 rotate_left
 ·rw [if_neg c16] at H
  exact absurd H (by simp)
 rw [if_pos c16] at H
 have c16b0:decide (0<=x5_2)=true:=dT_ c16
 clear c16
 replace H:=oB_ H
 obtain ⟨t594,A170,H⟩:=H
 replace H:(if x4_2.length<5864062014805 then(r28_Put.l0 k2 (x4_2++[t594]) (wrap64 (x5_2+1)) l0_0 a0_1 l0_2) else(none))=some r:=H
 have A17:=Aside0.mk A170
 clear A170
 by_cases c18:x4_2.length<5864062014805
 rotate_left
 ·rw [if_neg c18] at H
  exact absurd H (by simp)
 rw [if_pos c18] at H
 have LMc18:=Aside0.mk c18
 clear c18
 obtain ⟨y597,hy597⟩:∃ y_:List (List Int),y_=(x4_2++[t594]):=⟨_,rfl⟩
 replace H:(r28_Put.l0 k2 y597 (wrap64 (x5_2+1)) l0_0 a0_1 l0_2)=some r:=by first|(rw [hy597];with_reducible exact H)|(have H2_:=(Option.bind_some _ _).symm.trans H;rw [hy597];with_reducible exact H2_)|(have H2_:=(Option.bind_some _ _).symm.trans H;with_reducible exact H2_)|with_reducible exact H|(rw [hy597];exact H)|exact H
 have Ny597:=Aside0.mk hy597
 clear hy597
 have H':=Aside0.mk H
 clear H
 obtain ⟨hcz19_0,hcz19_1,hcz19_2,hfz19_0,hfz19_1,hfz19_2⟩:=cz3_ BK583.out
 have p593:0<=(x5_2:Int):=oD_ (by first|(with_reducible assumption)|assumption)
 have q593:x5_2<(l0_2.length:Int):=oD_ (by first|(with_reducible assumption)|assumption)
 obtain ⟨ad593,A593_2,c593_2,A593_3,c593_3,e593,hx593_0,hx593_1,hx593_2,hx593_3,hl593_2,hi593_2,hl593_3,hi593_3⟩:=at_T30 HR0_2.out x5_2 p593 q593
 cases e593
 replace hx593_0:=(HB.out.cell (World.block_lt_of_cell? w _ hx593_0)).trans hx593_0
 replace hx593_1:=(HB.out.cell (World.block_lt_of_cell? w _ hx593_1)).trans hx593_1
 replace hx593_2:=(HB.out.cell (World.block_lt_of_cell? w _ hx593_2)).trans hx593_2
 replace hx593_3:=(HB.out.cell (World.block_lt_of_cell? w _ hx593_3)).trans hx593_3
 have HR593_2:=Aside0.mk hi593_2
 have HC593_2:=Aside0.mk hl593_2
 clear hi593_2 hl593_2
 have HR593_3:=Aside0.mk hi593_3
 have HC593_3:=Aside0.mk hl593_3
 clear hi593_3 hl593_3
 replace p593:=eq_true p593
 replace q593:=eq_true q593
 go_wp2_with (first|((with_reducible refine gate_callee (f:=28) rfl ?_);refine goesL_ (some 27) rfl rfl Try.func28 (by kernel_rfl) rfl #[.agg #[.int .i64 ((rd_T30 l0_2 x5_2).f0.f0),.int .i64 ((rd_T30 l0_2 x5_2).f0.f1),.slice A593_2 ((rd_T30 l0_2 x5_2).f1).length c593_2,.slice A593_3 ((rd_T30 l0_2 x5_2).f2).length c593_3]] rfl z10_2 ?_;(with_reducible refine(r05_Put.calls k2 ((rd_T30 l0_2 x5_2).f0.f0) ((rd_T30 l0_2 x5_2).f0.f1) _ _ ((rd_T30 l0_2 x5_2).f1) _ _ ((rd_T30 l0_2 x5_2).f2) t594 _ ?side1 ?side2 ?side3 ?side4 A17.out).mono ?_);(case side1=>repeat(first|exact(Kd.C_below HR593_2.out HB.out)|(with_reducible refine Kd.C_alloc ?_ _)|(with_reducible refine Kd.C_drewN ?_ _)|(with_reducible refine Kd.C_drew ?_)));(case side2=>exact HC593_2.out);(case side3=>repeat(first|exact(Kd.C_below HR593_3.out HB.out)|(with_reducible refine Kd.C_alloc ?_ _)|(with_reducible refine Kd.C_drewN ?_ _)|(with_reducible refine Kd.C_drew ?_)));(case side4=>exact HC593_3.out);rintro e w20 ⟨v595,rfl,ho0,hb⟩;refine ⟨_,rfl,?_⟩;replace HO_4:=U (Kd.N_elder' (by(with_reducible repeat(first|apply Kd.N_alloc|apply Kd.N_drewN|apply Kd.N_drew));exact HO_4.out) (Kd.R_base ho0) hb);have HO596:=U (Kd.R_lower ho0 (below_size z29_0));replace BK583:=U (blk_below (g:=gb583) (o:=.cells #[.slice A0_0 l0_0.length c0_0,.bool a0_1,.slice (some ad593) l0_2.length c0_2] 53 (0,0)) z29_1 hb);replace HB:=U (below_step z29_0 hb);(try clear hb);(try clear hb2);(try clear hk);(try clear hi);(try clear ho0);obtain ⟨Ao22,co22,eo22⟩:=Kd.R_slice HO596.out;subst eo22)|((with_reducible refine gate_builtin (b:=.append) (xs:=#[.tmp 21,.tmp 28]) rfl ?_);at_builtin;refine Kd.N_append (Kd.slice 5 (Kd.int .u8)) (w0:=w) w.heap.size rfl (.tmp 21) (.tmp 28) 73 22 (.slice none 0 0) 24 rfl Try.underlying73 info22 rfl (by decide) (by omega) u4 x4_2 t594 [.slice Ao22 t594.length co22] (λk_=>k_≠gb583) (λk_=>((λk_=>k_≠gb583)) k_/\some k_≠(u4:Value).ownBlock) rfl rfl ?aP (λ_ hk=>hk) ?aF ?aO ?aB ?aS ?aL ?_;(case aP=>exact(by first|(obtain ⟨A_,c_,e_⟩:=Kd.R_slice HO596.out;have hq_:=HO596.out;rw [e_] at hq_ ⊢;exact Kd.FK_slice_mk (Kd.R_reads' (Kd.R_mono (ok':=(λk_=>((λk_=>k_≠gb583)) k_/\some k_≠(u4:Value).ownBlock)) (Kd.R_types (Kd.R_apart' (hq_) (Kd.N_typed HO_4.out) (by decide)) BK583.out (by decide)) (λk_ hk=>⟨hk.2,hk.1.2⟩))).2.1 (Kd.R_F (Kd.R_mono (ok':=(λk_=>((λk_=>k_≠gb583)) k_/\some k_≠(u4:Value).ownBlock)) (Kd.R_types (Kd.R_apart' (hq_) (Kd.N_typed HO_4.out) (by decide)) BK583.out (by decide)) (λk_ hk=>⟨hk.2,hk.1.2⟩))))|exact Kd.FK_slice_mk (Kd.R_reads' (Kd.R_mono (ok':=(λk_=>((λk_=>k_≠gb583)) k_/\some k_≠(u4:Value).ownBlock)) (Kd.R_types (Kd.R_apart' (HO596.out) (Kd.N_typed HO_4.out) (by decide)) BK583.out (by decide)) (λk_ hk=>⟨hk.2,hk.1.2⟩))).2.1 (Kd.R_F (Kd.R_mono (ok':=(λk_=>((λk_=>k_≠gb583)) k_/\some k_≠(u4:Value).ownBlock)) (Kd.R_types (Kd.R_apart' (HO596.out) (Kd.N_typed HO_4.out) (by decide)) BK583.out (by decide)) (λk_ hk=>⟨hk.2,hk.1.2⟩)))));(case aB=>exact z29_0);(case aF=>exact(λk_ hk=>Kd.freshB (g:=gb583) (o:=.cells #[.slice A0_0 l0_0.length c0_0,.bool a0_1,.slice (some ad593) l0_2.length c0_2] 53 (0,0)) z29_1 k_ hk));(case aO=>exact(by(with_reducible repeat(first|apply Kd.N_alloc|apply Kd.N_drewN|apply Kd.N_drew));exact Kd.N_mono HO_4.out (λ_ hk=>hk.1)));(case aS=>exact(below_size z29_0));(case aL=>have:=LMc18.out;omega);intro v598 w21 ho hb hg hat;rw [<-Ny597.out] at ho;replace BK583:=U (blk_grown (g:=gb583) (o:=.cells #[.slice A0_0 l0_0.length c0_0,.bool a0_1,.slice (some ad593) l0_2.length c0_2] 53 (0,0)) z29_1 hg (Kd.N_ne HO_4.out BK583.out (by decide)));replace HB:=U (hb);have HO599:=U (ho);clear HO_4 HO596;clear ho hb hg hat))
 go_roundg k2
 case measure=>have:=HJ1.out;have:=HK2.out;omega
 case rel=>exact ⟨(y597),(wrap64 (x5_2+1)),z9_3,H',⟨(by have:=HJ1.out;have:=HK2.out;omega)⟩,⟨(by(with_reducible repeat(first|apply Kd.N_alloc|apply Kd.N_drewN|apply Kd.N_drew));exact HO599.out)⟩,⟨z29_1⟩,⟨z29_0⟩⟩
theorem r28_Get.put3 {w:World} {g t:Nat} {a b c a' b' c':Value} (h:w.heap[g]? = some (.cells #[a,b,c] t (0,0))):(((w.setCell ⟨g,0,none⟩ a').setCell ⟨g,1,none⟩ b').setCell ⟨g,2,none⟩ c').heap[g]? = some (.cells #[a',b',c'] t (0,0)) :=
 blk_put (cs:=#[a',b',c]) (blk_put (cs:=#[a',b,c]) (blk_put (cs:=#[a,b,c]) h 0 _ rfl) 1 _ rfl) 2 _ rfl
theorem r28_Get.below_put3 {w0 w:World} {g:Nat} {a' b' c':Value} (h:Below w0.heap.size w0 w) (hg:w0.heap.size<=g):Below w0.heap.size w0 (((w.setCell ⟨g,0,none⟩ a').setCell ⟨g,1,none⟩ b').setCell ⟨g,2,none⟩ c') :=
 below_set (below_set (below_set h hg) hg) hg
def r28_Get.l0:Nat->List (List Int)->List S30->Int->Option (Option (List S30))
 | 0,_,_,_=>none
 | k+1,ts,acc,i=>if i<(ts.length:Int) then(if 0<=i then((r05_Get.f k (Go.Proofs.Ytgocnchjpecafaa.Hand.rdB ts i)).bind λx=>if x.2.2.2.2=true then(if acc.length+1<2199023255552 then r28_Get.l0 k ts (acc++[⟨⟨x.1,x.2.1⟩,x.2.2.1,x.2.2.2.1⟩]) (wrap64 (i+1)) else none) else some none) else none) else some (some acc)
def r28_Get.asks (ts:List (List Int)):Bool:=if ((Go.Proofs.Ytgocnchjpecafaa.Hand.rdB ts 0).length:Int)=1 then(rd (Go.Proofs.Ytgocnchjpecafaa.Hand.rdB ts 0) 0 == 1) else false
def r28_Get.fail:List Int×Bool×List S30×Bool:=([],false,[],false)
def r28_Get.f (k:Nat) (b:List Int):Option (List Int×Bool×List S30×Bool) :=
 (r02_Unpack.f k b 18).bind λx=>if (x.1.length:Int)<2 then some r28_Get.fail else
  ((r03_Read.f k (Go.Proofs.Ytgocnchjpecafaa.Hand.rdB x.1 1)).bind λp=>(r28_Get.l0 k x.1 [] 2).bind λo=>match o with
   | none=>some r28_Get.fail
   | some es=>(r28_May.f k p.1 (r28_Get.asks x.1) es).bind λm=>if m=true then((r28_Put.f k p.1 (r28_Get.asks x.1) es).bind λc=>(r02_Bytes.f k c b).bind λs=>if s=true then some (p.1,r28_Get.asks x.1,es,true) else some r28_Get.fail) else some r28_Get.fail)
open Go.Proofs.Ytgocnchjpecafaa.Cards Go.Proofs.Ytgocnchjpecafaa.Hand in
theorem r28_Get.calls (k:Nat) (A0:Option Addr) (c0:Nat) (l0:List Int) (r1:List Int) (r2:Bool) (r3:List S30) (r4:Bool) (w:World) (hr0:Kd.C (Kd.int .u8) w A0 l0.length l0) (hc0:l0.length<=c0) (h:r28_Get.f k l0=some (r1,r2,r3,r4)) :
  Calls Try.prog 31 #[.slice A0 l0.length c0] w λe w'=>∃ v0_ v2_:Value,e = .returned (.tuple #[.agg #[v0_,.bool r2,v2_],.bool r4])/\Kd.R (Kd.int .i64) 3 w' w.heap.size (λk_=>(w.heap.size<=k_)) v0_ r1/\Kd.N k30 30 w' w.heap.size (λk_=>(w.heap.size<=k_)/\some k_≠(v0_:Value).ownBlock) v2_ r3/\Below w.heap.size w w':=by
 have hu53:=Try.underlying53
 have hu30:=Try.underlying30
 have hu25:=Try.underlying25
 have HR:=Aside0.mk hr0
 have HC:=Aside0.mk hc0
 have HH:=h
 clear hr0 hc0 h
 go_enter Try.func31,Try.ntmps31
 go_upto_region 1 with (first|((with_reducible refine gate_dst (N:=2) rfl ?_);refine box_event ?hg (N:=2) ?hd (cs:=#[.slice none 0 0,.bool false,.slice none 0 0]) (t:=53) ?hr ?_;(case hd=>rfl);(case hg=>rfl);(case hr=>exact z10_10);intro gb hg w3 hbox hb;have HB:=Aside0.mk hb;have BK:=Aside0.mk hbox;have GE:=U (Nat.le_of_eq hg.symm);clear hb hbox hg))
 unfold r28_Get.f at HH
 replace HH:=oB_ HH
 obtain ⟨⟨l,n⟩,h1,HH⟩:=HH
 have H1:=Aside0.mk h1
 have H:=Aside0.mk HH
 clear h1 HH
 go_upto_region 2 with (first|((with_reducible refine gate_callee (f:=53) rfl ?_);refine goesL_ (some 14) rfl rfl Try.func53 (by kernel_rfl) rfl #[.slice A0 l0.length c0,.int .i64 18] rfl z16_0 ?_;(with_reducible refine(r02_Unpack.calls k _ _ l0 18 l n _ (Kd.C_below HR.out HB.out) HC.out H1.out).mono ?_);rintro e_ w4 ⟨v4,rfl,ho,hb⟩;refine ⟨_,rfl,?_⟩;replace HB:=U (below_step HB.out hb);replace BK:=U (blk_below BK.out hb);clear hb;obtain ⟨A4,c4,e4⟩:=Kd.S_slice ho;subst e4;have HL:=U (S_Ft ho).2.2;have CL:=U (S_Ft ho).2.1;clear ho))
 have HH:=H.out
 clear H H1
 simp only at HH
 by_cases cl:(l.length:Int)<2
 case pos =>
  rw [if_pos cl] at HH
  (simp only [r28_Get.fail,Option.some.injEq,Prod.mk.injEq] at HH;obtain ⟨rfl,rfl,rfl,rfl⟩:=HH)
  have cl1:decide ((l.length:Int)<2)=true:=dT_ cl
  obtain ⟨hz0,hz1,hz2,hf0,hf1,hf2⟩:=cz3_ BK.out
  go_wp2
  (refine bodyPost_ret (results_ct rfl _ _ gb 53 #[.slice none 0 0,.bool false,.slice none 0 0] (0,0) _ rfl (r28_Get.put3 BK.out) Try.underlying53 rfl (by kernel_rfl)) rfl ?_;exact ⟨_,_,rfl,Kd.R_nil _ _ _ _ _,Kd.N_nil _ _ _ _ _,r28_Get.below_put3 HB.out GE.out⟩)
 rw [if_neg cl] at HH
 have cl1:decide ((l.length:Int)<2)=false:=dF_ cl
 obtain ⟨ad,A6,c6,e6,hx0,hl6,hC6⟩:=at_rdB (Ft_now HL.out) 0 (by omega) (by omega)
 cases e6
 obtain ⟨adl,A9,c9,e9,hx1,hl9,hC9⟩:=at_rdB (Ft_now HL.out) 1 (by omega) (by omega)
 obtain rfl:ad=adl:=by injection e9
 simp only [show(1:Int).toNat=1 from rfl,show(0:Int).toNat=0 from rfl,Nat.reduceMul,Nat.reduceEqDiff,Go.Addr.add,↓reduceIte] at hx0 hx1
 have q0:(0<l.length)=True:=eq_true (by omega)
 have q1:(1<l.length)=True:=eq_true (by omega)
 have q0i:((0:Int)<(l.length:Int))=True:=eq_true (by omega)
 have q1i:((1:Int)<(l.length:Int))=True:=eq_true (by omega)
 clear cl e9
 replace HH:=oB_ HH
 obtain ⟨⟨past,m⟩,h2,HH⟩:=HH
 replace HH:=oB_ HH
 obtain ⟨o,h1,HH⟩:=HH
 have H1:=Aside0.mk h1
 have H2:=Aside0.mk h2
 have H:=Aside0.mk HH
 clear h1 h2 HH
 have HR9:=Aside0.mk hC9
 have HC9:=Aside0.mk hl9
 have HR6:=Aside0.mk hC6
 clear hC9 hl9 hl6 hC6
 go_upto_region 5 with (first|((with_reducible refine gate_callee (f:=55) rfl ?_);refine goesL_ (some 25) rfl rfl Try.func55 (by kernel_rfl) rfl #[.slice A9 (rdB l 1).length c9] rfl z16_0 ?_;(with_reducible refine(r03_Read.calls k _ _ (rdB l 1) past m _ HR9.out HC9.out H2.out).mono ?_);rintro e_ w7 ⟨v8,rfl,ho,hb⟩;refine ⟨_,rfl,?_⟩;have HSZ:=U (below_size HB.out);replace HB:=U (below_step HB.out hb);replace BK:=U (blk_below BK.out hb);replace HL:=U (Ft_below HL.out hb);replace hx0:=pw_cell_below hb hx0;replace HR6:=U (Kd.C_below HR6.out hb);clear hx1;obtain ⟨A10,c10,e10⟩:=Kd.R_slice ho;subst e10;have PL:=U (Kd.R_lt ho);have HP:=U (show Rp (Kd.int .i64) 3 w.heap.size _ A10 c10 past from Kd.R_lower ho HSZ.out);have CP:=U (Rp_le HP.out);clear ho HSZ hb))
 clear HR9 HC9 H2
 simp only at H
 obtain ⟨bb,hbb⟩:∃ bb,r28_Get.asks l=bb:=⟨_,rfl⟩
 rw [hbb] at H
 go_cut [8] from 28 to 42 (λv8 wx=>v8 = .pointer (some ⟨w7.heap.size,0,none⟩)/\wx=w7.alloc (.cells #[.slice A10 past.length c10,.bool bb,.slice none 0 0] 53))
 case first =>
  unfold r28_Get.asks at hbb
  by_cases c1:((rdB l 0).length:Int)=1
  rotate_left
  ·rw [if_neg c1] at hbb
   subst hbb
   have c11:(((rdB l 0).length:Int) == 1)=false:=beq_eq_false_iff_ne.2 c1
   clear c1
   go_wp2
   go_meet
   exact ⟨rfl,rfl⟩
  rw [if_pos c1] at hbb
  have c11:(((rdB l 0).length:Int) == 1)=true:=beq_iff_eq.2 c1
  obtain ⟨ad6,e6,hy0⟩:=Kd.at_int HR6.out 0 (by omega) (by omega)
  cases e6
  simp only [show(0:Int).toNat=0 from rfl,Nat.reduceMul,Go.Addr.add,↓reduceIte] at hy0
  have s0:(0<(rdB l 0).length)=True:=eq_true (by omega)
  have s0i:((0:Int)<((rdB l 0).length:Int))=True:=eq_true (by omega)
  clear c1
  go_wp2
  go_meet
  exact ⟨rfl,rfl⟩
 case rest =>
 obtain ⟨rfl,rfl⟩:=hcut
 clear hx0 cl1 q0 q1 q0i q1i hbb HR6
 have BO:=U (heap_alloc_new w7 (.cells #[.slice A10 past.length c10,.bool bb,.slice none 0 0] 53))
 have hb:=below_alloc (Below.refl w7.heap.size w7) (.cells #[.slice A10 past.length c10,.bool bb,.slice none 0 0] 53)
 obtain ⟨g,hg⟩:∃ g,g=w7.heap.size:=⟨_,rfl⟩
 generalize w7.alloc (.cells #[.slice A10 past.length c10,.bool bb,.slice none 0 0] 53)=w8 at BO hb ⊢
 rw [<-hg] at BO ⊢
 have NE:=U (show gb<g from hg ▸ blk_lt BK.out)
 have GO:=U (show w.heap.size<=g from hg ▸ below_size HB.out)
 rw [<-hg] at PL
 have n1:=U (below_step HB.out hb);have n2:=U (blk_below BK.out hb);have n3:=U (Ft_below HL.out hb);have n4:=U (Rp_below HP.out hb)
 clear HB BK HL HP hb hg
 have HB1:=n1;have BK1:=n2;have HT:=n3;have HP1:=n4;have BO1:=BO
 clear n1 n2 n3 n4 BO
 go_wp2
 go_loopg [9] k (λkq v9 wr=>∃ (acc:List S30) (i:Int) (v:Value),v9 = .int .i64 i/\Aside0 (r28_Get.l0 kq l acc i=some o)/\Aside0 (kq<=k)/\Aside0 (wr.heap[g]? = some (.cells #[.slice A10 past.length c10,.bool bb,v] 53 (0,0)))/\Aside0 (Kd.N k30 30 wr w.heap.size (λk_=>g<k_) v acc)/\Aside0 (Ft (Kd.slice 5 (Kd.int .u8)) [22,5] wr (some ad) l)/\Aside0 (Rp (Kd.int .i64) 3 w.heap.size wr A10 c10 past)/\Aside0 (wr.heap[gb]? = some (.cells #[.slice none 0 0,.bool false,.slice none 0 0] 53 (0,0)))/\Aside0 (Below w.heap.size w wr))
 case atStart=>exact ⟨[],2,.slice none 0 0,rfl,H1,⟨Nat.le_refl _⟩,BO1,⟨Kd.N_nil _ _ _ _ _⟩,HT,HP1,BK1,HB1⟩
 case round =>
 clear H1 BO1 HT HP1 BK1 HB1
 obtain ⟨acc,i,v,rfl,HA,HK,BO,HO,HT,HP,BK,HB⟩:=hrel
 cases gk with
 | zero=>exact absurd HA.out (by simp [r28_Get.l0])
 | succ k1 =>
 have HQ:=HA.out
 clear HA
 simp only [r28_Get.l0] at HQ
 obtain ⟨Av,cv,ev⟩:=Kd.N_slice HO.out
 subst ev
 by_cases ci:i<(l.length:Int)
 case neg =>
  rw [if_neg ci] at HQ
  obtain rfl:=sI_ HQ
  have HH:=H.out
  clear H
  simp only at HH
  replace HH:=oB_ HH
  obtain ⟨m_,h1,HH⟩:=HH
  have HX:=Aside0.mk h1
  clear h1
  have ci1:decide (i<(l.length:Int))=false:=dF_ ci
  have ci2:(i<(l.length:Int))=False:=eq_false ci
  clear ci HT
  obtain ⟨ho0,ho1,ho2,_,_,_⟩:=cz3_ BO.out
  obtain ⟨hz0,hz1,hz2,hf0,hf1,hf2⟩:=cz3_ BK.out
  cases m_ with
  | false =>
   rw [if_neg (show ¬ (false=true) by decide)] at HH
   (simp only [r28_Get.fail,Option.some.injEq,Prod.mk.injEq] at HH;obtain ⟨rfl,rfl,rfl,rfl⟩:=HH)
   go_wp2_with (first|((with_reducible refine gate_callee (f:=45) rfl ?_);refine goesL_ (some 67) rfl rfl Try.func45 (by kernel_rfl) rfl #[.agg #[.slice A10 past.length c10,.bool bb,.slice Av acc.length cv]] rfl z16_0 ?_;(with_reducible refine(r28_May.calls k _ _ past bb _ _ acc _ _ (Rp_now HP.out) CP.out (Kd.N_reads' HO.out).2.2 (Kd.N_reads' HO.out).2.1 HX.out).mono ?_);rintro e w12 ⟨rfl,hb⟩;refine ⟨_,rfl,?_⟩;replace HB:=U (below_step HB.out hb);replace BK:=U (blk_below BK.out hb);replace HP:=U (Rp_below HP.out hb);replace HO:=U (Kd.N_below HO.out hb);replace BO:=U (blk_below BO.out hb);clear ho0 ho1 ho2;clear hb;obtain ⟨hz0,hz1,hz2,hf0,hf1,hf2⟩:=cz3_ BK.out;obtain ⟨ho0,ho1,ho2,_,_,_⟩:=cz3_ BO.out))
   (refine bodyPost_ret (results_ct rfl _ _ gb 53 #[.slice none 0 0,.bool false,.slice none 0 0] (0,0) _ rfl (r28_Get.put3 BK.out) Try.underlying53 rfl (by kernel_rfl)) rfl ?_;exact ⟨_,_,rfl,Kd.R_nil _ _ _ _ _,Kd.N_nil _ _ _ _ _,r28_Get.below_put3 HB.out GE.out⟩)
  | true =>
  rw [if_pos rfl] at HH
  replace HH:=oB_ HH
  obtain ⟨c,h1,HH⟩:=HH
  replace HH:=oB_ HH
  obtain ⟨s,h2,HH⟩:=HH
  have HY:=Aside0.mk h1
  have HZ:=Aside0.mk h2
  clear h1 h2
  cases s with
  | false =>
   rw [if_neg (show ¬ (false=true) by decide)] at HH
   (simp only [r28_Get.fail,Option.some.injEq,Prod.mk.injEq] at HH;obtain ⟨rfl,rfl,rfl,rfl⟩:=HH)
   go_wp2_with (first|((with_reducible refine gate_callee (f:=45) rfl ?_);refine goesL_ (some 67) rfl rfl Try.func45 (by kernel_rfl) rfl #[.agg #[.slice A10 past.length c10,.bool bb,.slice Av acc.length cv]] rfl z16_0 ?_;(with_reducible refine(r28_May.calls k _ _ past bb _ _ acc _ _ (Rp_now HP.out) CP.out (Kd.N_reads' HO.out).2.2 (Kd.N_reads' HO.out).2.1 HX.out).mono ?_);rintro e w12 ⟨rfl,hb⟩;refine ⟨_,rfl,?_⟩;replace HB:=U (below_step HB.out hb);replace BK:=U (blk_below BK.out hb);replace HP:=U (Rp_below HP.out hb);replace HO:=U (Kd.N_below HO.out hb);replace BO:=U (blk_below BO.out hb);clear ho0 ho1 ho2;clear hb;obtain ⟨hz0,hz1,hz2,hf0,hf1,hf2⟩:=cz3_ BK.out;obtain ⟨ho0,ho1,ho2,_,_,_⟩:=cz3_ BO.out)|((with_reducible refine gate_callee (f:=47) rfl ?_);(try(refine gate_guard (by rfl) ?_;dsimp only));refine goesL_ (some 71) rfl rfl Try.func47 (by kernel_rfl) rfl #[.agg #[.slice A10 past.length c10,.bool bb,.slice Av acc.length cv]] rfl z16_0 ?_;(with_reducible refine(r28_Put.calls k _ _ past bb _ _ acc _ _ (Rp_now HP.out) CP.out (Kd.N_reads' HO.out).2.2 (Kd.N_reads' HO.out).2.1 HY.out).mono ?_);rintro e w13 ⟨v144,rfl,hr,hb⟩;refine ⟨_,rfl,?_⟩;replace HB:=U (below_step HB.out hb);replace BK:=U (blk_below BK.out hb);replace HP:=U (Rp_below HP.out hb);replace HO:=U (Kd.N_below HO.out hb);replace BO:=U (blk_below BO.out hb);clear ho0 ho1 ho2;clear hb;obtain ⟨hz0,hz1,hz2,hf0,hf1,hf2⟩:=cz3_ BK.out;obtain ⟨ho0,ho1,ho2,_,_,_⟩:=cz3_ BO.out;obtain ⟨A144,c144,e144⟩:=Kd.R_slice hr;subst e144;have HW:=U (Kd.R_reads' hr);clear hr)|((with_reducible refine gate_callee (f:=23) rfl ?_);(try(refine gate_guard (by rfl) ?_;dsimp only));refine goesL_ (some 73) rfl rfl Try.func23 (by kernel_rfl) rfl #[.slice A144 c.length c144,.slice A0 l0.length c0] rfl z16_0 ?_;(with_reducible refine(r02_Bytes.calls k _ _ c _ _ l0 _ _ HW.out.2.2 HW.out.2.1 (Kd.C_below HR.out HB.out) HC.out HZ.out).mono ?_);rintro e w14 ⟨rfl,hd⟩;refine ⟨_,rfl,?_⟩;have hb:=below_of_drawn hd;clear hd HW;replace HB:=U (below_step HB.out hb);replace BK:=U (blk_below BK.out hb);replace HP:=U (Rp_below HP.out hb);replace HO:=U (Kd.N_below HO.out hb);replace BO:=U (blk_below BO.out hb);clear ho0 ho1 ho2;clear hb;obtain ⟨hz0,hz1,hz2,hf0,hf1,hf2⟩:=cz3_ BK.out;obtain ⟨ho0,ho1,ho2,_,_,_⟩:=cz3_ BO.out))
   (refine bodyPost_ret (results_ct rfl _ _ gb 53 #[.slice none 0 0,.bool false,.slice none 0 0] (0,0) _ rfl (r28_Get.put3 BK.out) Try.underlying53 rfl (by kernel_rfl)) rfl ?_;exact ⟨_,_,rfl,Kd.R_nil _ _ _ _ _,Kd.N_nil _ _ _ _ _,r28_Get.below_put3 HB.out GE.out⟩)
  | true =>
  rw [if_pos rfl] at HH
  simp only [Option.some.injEq,Prod.mk.injEq] at HH
  obtain ⟨rfl,rfl,rfl,rfl⟩:=HH
  go_wp2_with (first|((with_reducible refine gate_callee (f:=45) rfl ?_);refine goesL_ (some 67) rfl rfl Try.func45 (by kernel_rfl) rfl #[.agg #[.slice A10 past.length c10,.bool bb,.slice Av acc.length cv]] rfl z16_0 ?_;(with_reducible refine(r28_May.calls k _ _ past bb _ _ acc _ _ (Rp_now HP.out) CP.out (Kd.N_reads' HO.out).2.2 (Kd.N_reads' HO.out).2.1 HX.out).mono ?_);rintro e w12 ⟨rfl,hb⟩;refine ⟨_,rfl,?_⟩;replace HB:=U (below_step HB.out hb);replace BK:=U (blk_below BK.out hb);replace HP:=U (Rp_below HP.out hb);replace HO:=U (Kd.N_below HO.out hb);replace BO:=U (blk_below BO.out hb);clear ho0 ho1 ho2;clear hb;obtain ⟨hz0,hz1,hz2,hf0,hf1,hf2⟩:=cz3_ BK.out;obtain ⟨ho0,ho1,ho2,_,_,_⟩:=cz3_ BO.out)|((with_reducible refine gate_callee (f:=47) rfl ?_);(try(refine gate_guard (by rfl) ?_;dsimp only));refine goesL_ (some 71) rfl rfl Try.func47 (by kernel_rfl) rfl #[.agg #[.slice A10 past.length c10,.bool bb,.slice Av acc.length cv]] rfl z16_0 ?_;(with_reducible refine(r28_Put.calls k _ _ past bb _ _ acc _ _ (Rp_now HP.out) CP.out (Kd.N_reads' HO.out).2.2 (Kd.N_reads' HO.out).2.1 HY.out).mono ?_);rintro e w13 ⟨v144,rfl,hr,hb⟩;refine ⟨_,rfl,?_⟩;replace HB:=U (below_step HB.out hb);replace BK:=U (blk_below BK.out hb);replace HP:=U (Rp_below HP.out hb);replace HO:=U (Kd.N_below HO.out hb);replace BO:=U (blk_below BO.out hb);clear ho0 ho1 ho2;clear hb;obtain ⟨hz0,hz1,hz2,hf0,hf1,hf2⟩:=cz3_ BK.out;obtain ⟨ho0,ho1,ho2,_,_,_⟩:=cz3_ BO.out;obtain ⟨A144,c144,e144⟩:=Kd.R_slice hr;subst e144;have HW:=U (Kd.R_reads' hr);clear hr)|((with_reducible refine gate_callee (f:=23) rfl ?_);(try(refine gate_guard (by rfl) ?_;dsimp only));refine goesL_ (some 73) rfl rfl Try.func23 (by kernel_rfl) rfl #[.slice A144 c.length c144,.slice A0 l0.length c0] rfl z16_0 ?_;(with_reducible refine(r02_Bytes.calls k _ _ c _ _ l0 _ _ HW.out.2.2 HW.out.2.1 (Kd.C_below HR.out HB.out) HC.out HZ.out).mono ?_);rintro e w14 ⟨rfl,hd⟩;refine ⟨_,rfl,?_⟩;have hb:=below_of_drawn hd;clear hd HW;replace HB:=U (below_step HB.out hb);replace BK:=U (blk_below BK.out hb);replace HP:=U (Rp_below HP.out hb);replace HO:=U (Kd.N_below HO.out hb);replace BO:=U (blk_below BO.out hb);clear ho0 ho1 ho2;clear hb;obtain ⟨hz0,hz1,hz2,hf0,hf1,hf2⟩:=cz3_ BK.out;obtain ⟨ho0,ho1,ho2,_,_,_⟩:=cz3_ BO.out))
  refine bodyPost_ret (results_ct rfl _ _ gb 53 #[.slice A10 past.length c10,.bool bb,.slice Av acc.length cv] (0,0) _ rfl (r28_Get.put3 BK.out) Try.underlying53 rfl (by kernel_rfl)) rfl ?_
  have TB:=typed_of_block BK.out
  refine ⟨_,_,rfl,Kd.R_reok rfl (Rp_set rfl (Rp_set rfl (Rp_set rfl HP.out TB (by decide) _) (typed_set TB) (by decide) _) (typed_set (typed_set TB)) (by decide) _) (λk_ hk=>Kd.R_base HP.out k_ hk),Kd.N_mono (Kd.N_far (p:=⟨gb,2,none⟩) (Kd.N_far (p:=⟨gb,1,none⟩) (Kd.N_far (p:=⟨gb,0,none⟩) HO.out (λk_ hk=>Nat.ne_of_gt (Nat.lt_trans NE.out hk)) _) (λk_ hk=>Nat.ne_of_gt (Nat.lt_trans NE.out hk)) _) (λk_ hk=>Nat.ne_of_gt (Nat.lt_trans NE.out hk)) _) (λk_ hk=>⟨Nat.le_trans GO.out (Nat.le_of_lt hk),λhe=>Nat.lt_asymm hk (PL.out k_ he.symm)⟩),r28_Get.below_put3 HB.out GE.out⟩
 rw [if_pos ci] at HQ
 by_cases c0_:0<=i
 case neg =>
  rw [if_neg c0_] at HQ
  exact absurd HQ (by simp)
 rw [if_pos c0_] at HQ
 replace HQ:=oB_ HQ
 obtain ⟨⟨x1,x2,x3,x4,x5⟩,h1,HQ⟩:=HQ
 have HE:=Aside0.mk h1
 replace HQ:=Aside0.mk HQ
 clear h1
 obtain ⟨adt,A14,c14,e14,hx,hl14,hC14⟩:=at_rdB (Ft_now HT.out) i c0_ ci
 obtain rfl:ad=adt:=by injection e14
 have ci1:decide (i<(l.length:Int))=true:=dT_ ci
 have ci2:(i<(l.length:Int))=True:=eq_true ci
 have c01:(0<=i)=True:=eq_true c0_
 have HR14:=Aside0.mk hC14
 have HC14:=Aside0.mk hl14
 have OL:=U (Kd.N_lt HO.out)
 have GL:=U (blk_lt BO.out)
 clear ci c0_ hC14 hl14 e14
 go_upto_region 10 with (first|((with_reducible refine gate_callee (f:=14) rfl ?_);refine goesL_ (some 54) rfl rfl Try.func14 (by kernel_rfl) rfl #[.slice A14 (rdB l i).length c14] rfl z16_0 ?_;(with_reducible refine(r05_Get.calls k1 _ _ (rdB l i) x1 x2 x3 x4 x5 _ HR14.out HC14.out HE.out).mono ?_);rintro e_ w9 ⟨v2,v3,rfl,hr2,hr3,hb⟩;refine ⟨_,rfl,?_⟩;obtain ⟨Ap,cp,ep⟩:=Kd.R_slice hr2;subst ep;obtain ⟨Aq,cq,eq⟩:=Kd.R_slice hr3;subst eq;have LP:=U (Kd.R_reads' hr2).2.1;have LQ:=U (Kd.R_reads' hr3).2.1;have FP:=U (Kd.R_F (Kd.R_reok (ok:=λk_=>wr.heap.size<=k_) rfl hr2 (λk_ hk=>Kd.R_base hr2 k_ hk)));have FQ:=U (Kd.R_F (Kd.R_reok (ok:=λk_=>wr.heap.size<=k_) rfl hr3 (λk_ hk=>Kd.R_base hr3 k_ hk)));clear hr2 hr3;replace HB:=U (below_step HB.out hb);replace BK:=U (blk_below BK.out hb);replace HT:=U (Ft_below HT.out hb);replace HP:=U (Rp_below HP.out hb);replace HO:=U (Kd.N_below HO.out hb);replace BO:=U (blk_below BO.out hb);clear hb hx))
 have BX:=U (heap_alloc_new w9 (.cells #[.int .i64 x1,.int .i64 x2,.slice Ap x3.length cp,.slice Aq x4.length cq] 30))
 have hbx:=below_alloc (Below.refl w9.heap.size w9) (.cells #[.int .i64 x1,.int .i64 x2,.slice Ap x3.length cp,.slice Aq x4.length cq] 30)
 generalize w9.alloc (.cells #[.int .i64 x1,.int .i64 x2,.slice Ap x3.length cp,.slice Aq x4.length cq] 30)=w10 at BX hbx ⊢
 have n1:=U (below_step HB.out hbx);have n2:=U (blk_below BK.out hbx);have n3:=U (Ft_below HT.out hbx);have n4:=U (Rp_below HP.out hbx);have n5:=U (Kd.N_below HO.out hbx);have n6:=U (blk_below BO.out hbx);have n7:=U (Kd.F_below FP.out hbx);have n8:=U (Kd.F_below FQ.out hbx)
 clear HB BK HT HP HO BO FP FQ hbx
 have HB:=n1;have BK:=n2;have HT:=n3;have HP:=n4;have HO:=n5;have BO:=n6;have FP:=n7;have FQ:=n8
 clear n1 n2 n3 n4 n5 n6 n7 n8
 replace HQ:=HQ.out
 simp only at HQ
 cases x5 with
 | false =>
  rw [if_neg (show ¬ (false=true) by decide)] at HQ
  obtain rfl:=sI_ HQ
  have HH:=H.out
  simp only at HH
  (simp only [r28_Get.fail,Option.some.injEq,Prod.mk.injEq] at HH;obtain ⟨rfl,rfl,rfl,rfl⟩:=HH)
  obtain ⟨hz0,hz1,hz2,hf0,hf1,hf2⟩:=cz3_ BK.out
  go_wp2
  (refine bodyPost_ret (results_ct rfl _ _ gb 53 #[.slice none 0 0,.bool false,.slice none 0 0] (0,0) _ rfl (r28_Get.put3 BK.out) Try.underlying53 rfl (by kernel_rfl)) rfl ?_;exact ⟨_,_,rfl,Kd.R_nil _ _ _ _ _,Kd.N_nil _ _ _ _ _,r28_Get.below_put3 HB.out GE.out⟩)
 | true =>
 rw [if_pos rfl] at HQ
 by_cases cl:acc.length+1<2199023255552
 case neg =>
  rw [if_neg cl] at HQ
  exact absurd HQ (by simp)
 rw [if_pos cl] at HQ
 have CL2:=Aside0.mk cl
 have HQ3:=Aside0.mk HQ
 clear cl HQ
 obtain ⟨hz0,hz1,hz2,hz3,_,_,_,_⟩:=cz4_ BX.out
 have ho2:=(blk_cell BO.out 2).trans (rfl:_=some (Value.slice Av acc.length cv))
 go_wp2_with (first|((with_reducible refine gate_builtin (b:=.append) (xs:=#[.tmp 61,.tmp 63]) rfl ?_);at_builtin;refine Kd.N_append k30 (w0:=w) w.heap.size rfl (.tmp 61) (.tmp 63) 38 30 (.agg #[(.int .i64 0),(.int .i64 0),(.slice none 0 0),(.slice none 0 0)]) 64 rfl Try.underlying38 info30 rfl (by decide) (by decide) (.slice Av acc.length cv) acc (⟨⟨x1,x2⟩,x3,x4⟩:S30) [.int .i64 x1,.int .i64 x2,.slice Ap x3.length cp,.slice Aq x4.length cq] (λk_=>g<k_) (λk_=>wr.heap.size<=k_) rfl rfl (k30_mkF _ _ (⟨⟨x1,x2⟩,x3,x4⟩:S30) LP.out FP.out LQ.out FQ.out) (λk_ hk=>⟨Nat.lt_of_lt_of_le GL.out hk,λhe=>by have h1:k_<wr.heap.size:=OL.out k_ he.symm;have h2:wr.heap.size<=k_:=hk;omega⟩) (λk_ hk=>Nat.lt_of_lt_of_le (blk_lt BO.out) hk) HO.out HB.out (below_size HB.out) (by have:=CL2.out;omega) ?_;intro v95 w11 ho hb hg hat;have TY:=U (λk_ (hk:(Value.slice Av acc.length cv).ownBlock=some k_)=>N_typed' HO.out hk.symm);have n2:=U (blk_grown BK.out hg (Kd.N_ne HO.out BK.out (by decide)));have n3:=U (Ft_grown HT.out hg TY.out (by decide));have n4:=U (Rp_grown rfl HP.out hg TY.out (by decide));have n6:=U (blk_grown BO.out hg (Kd.N_ne HO.out BO.out (by decide)));clear HB BK HT HP HO BO BX TY FP FQ hz0 hz1 hz2 hz3 ho2;have HB:=Aside0.mk hb;have BK:=n2;have HT:=n3;have HP:=n4;have HO:=Aside0.mk ho;have BO:=n6;clear n2 n3 n4 n6 hb hg hat;have ho2:=(blk_cell BO.out 2).trans (rfl:_=some (Value.slice Av acc.length cv));have hf2:=blk_frozen BO.out 2;obtain ⟨A100,c100,e100⟩:=Kd.N_slice ho;subst e100;clear ho;rw [List.length_append,List.length_singleton] at HO))
 go_roundg k1
 case measure=>have:=HK.out;omega
 case rel=>exact ⟨acc++[(⟨⟨x1,x2⟩,x3,x4⟩:S30)],wrap64 (i+1),.slice A100 (acc.length+1) c100,rfl,HQ3,⟨(by have:=HK.out;omega)⟩,⟨blk_put (cs:=#[.slice A10 past.length c10,.bool bb,.slice Av acc.length cv]) BO.out 2 _ rfl⟩,⟨Kd.N_far (p:=⟨g,2,none⟩) HO.out (λ_ hk=>Nat.ne_of_gt hk) _⟩,⟨Ft_set HT.out (typed_of_block BO.out) (by decide) _⟩,⟨Rp_set rfl HP.out (typed_of_block BO.out) (by decide) _⟩,⟨blk_far (p:=⟨g,2,none⟩) BK.out (Nat.ne_of_lt NE.out) _⟩,⟨below_set HB.out GO.out⟩⟩
end Go.Proofs.Ytgocnchjpecafaa.PEv
