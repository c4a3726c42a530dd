/- a part -/
import Derived.Test.YtgocnchjpecafaaPEvx16
import Derived.Test.YtgocnchjpecafaaPEvx28
namespace Go.Proofs.Ytgocnchjpecafaa.PEv
open Go.RowKit Go.Proofs.YtgocnchjpecafaaW.PrintWords Go.Proofs.YtgocnchjpecafaaW.PrintLast Go.Proofs.YtgocnchjpecafaaW.PrintMore
attribute [local go_sem] max2_int min2_int max_two min_two max_three min_three max_four min_four
set_option linter.unusedVariables false
set_option linter.unusedSimpArgs false
set_option maxHeartbeats 8000000
set_option maxRecDepth 100000
theorem z29_0 {P:Prop} (h:P:=by repeat(first|(with_reducible first|exact HB.out|apply below_alloc|apply pw_below_drewN|apply below_drew1|refine below_set ?_ GE583.out)|exact HB.out)):P:=h
theorem z29_1 {P:Prop} (h:P:=by(with_reducible repeat(first|refine blk_drewN ?_ _|refine blk_drew ?_|refine blk_alloc ?_ _));exact BK583.out):P:=h
mutual
def r28_Put.j0:Nat→Int→List Int→Bool→List (S30)→Option (List Int)
 | 0,_,_,_,_=>none
 | k+1,x3,x584000,x584001,x584002=>(r03_Put.f k x584000).bind fun t587=>(r28_Put.l0 k (([(([x3]:List Int)),t587]:List (List Int))) 0 x584000 x584001 x584002)
def r28_Put.l0:Nat→List (List Int)→Int→List Int→Bool→List (S30)→Option (List Int)
 | 0,_,_,_,_,_=>none
 | k+1,x4,x5,x584000,x584001,x584002=>if x5<(x584002.length:Int) then(if 0≤x5 then((r05_Put.f k ((rd_T30 x584002 x5).f0.f0) ((rd_T30 x584002 x5).f0.f1) ((rd_T30 x584002 x5).f1) ((rd_T30 x584002 x5).f2)).bind fun t594=>(if x4.length<5864062014805 then(r28_Put.l0 k (x4++[t594]) (wrap64 (x5+1)) x584000 x584001 x584002) else(none))) else(none)) else((r02_Pack.f k x4).bind fun t600=>(some t600))
end
def r28_Put.f (k:Nat) (l0_0:List Int) (a0_1:Bool) (l0_2:List (S30)):Option (List Int):=if a0_1=true then(r28_Put.j0 k 1 l0_0 a0_1 l0_2) else(r28_Put.j0 k 0 l0_0 a0_1 l0_2)
theorem r28_Put.calls (k:Nat) (A0_0:Option Addr) (c0_0:Nat) (l0_0:List Int) (a0_1:Bool) (A0_2:Option Addr) (c0_2:Nat) (l0_2:List (S30)) (r:List Int) (w:World) (hr0_0:Kd.C (Kd.int .i64) w A0_0 l0_0.length l0_0) (hc0_0:l0_0.length≤c0_0) (hr0_2:Kd.C k30 w A0_2 l0_2.length l0_2) (hc0_2:l0_2.length≤c0_2) (h:r28_Put.f k l0_0 a0_1 l0_2=some r) :
  Calls Try.prog 47 #[.agg #[.slice A0_0 l0_0.length c0_0,.bool a0_1,.slice A0_2 l0_2.length c0_2]] w fun e w'=>∃ v0_:Value,e = .returned (v0_)∧Kd.R (Kd.int .u8) 5 w' w.heap.size (fun _=>True) v0_ r∧Below w.heap.size w w':=by
 have hu53:=Try.underlying53
 have hu30:=Try.underlying30
 have HR0_0:=Aside0.mk hr0_0
 have HC0_0:=Aside0.mk hc0_0
 clear hr0_0 hc0_0
 have HR0_2:=Aside0.mk hr0_2
 have HC0_2:=Aside0.mk hc0_2
 clear hr0_2 hc0_2
 have HB:=U (Below.refl w.heap.size w)
 have H:(if a0_1=true then(r28_Put.j0 k 1 l0_0 a0_1 l0_2) else(r28_Put.j0 k 0 l0_0 a0_1 l0_2))=some r:=h
 clear h
 have HC2:=Aside0.mk H
 clear H
 go_enter Try.func47,Try.ntmps47
 go_upto_if 7 with (first|((with_reducible refine gate_dst (N:=1) rfl ?_);refine box_event ?hg (N:=1) ?hd (cs:=#[.slice A0_0 l0_0.length c0_0,.bool a0_1,.slice A0_2 l0_2.length c0_2]) (t:=53) ?hr ?_;(case hd=>rfl);(case hg=>rfl);(case hr=>first|(go_simp;done)|(go_simp;rfl));intro gb583 hg w3 hbox hb;have BK583:=U (hbox);have GW583:=U ((by rw [hg];exact(below_size z9_4):w.heap.size≤gb583));have GE583:=U ((by rw [hg];exact(below_size z9_4):w.heap.size≤gb583));replace HB:=U (below_step z9_4 hb);clear hb hbox hg;obtain ⟨hcz4_0,hcz4_1,hcz4_2,hfz4_0,hfz4_1,hfz4_2⟩:=cz3_ BK583.out))
 (try simp only [Act.put,List.setIfInBounds_toArray,List.set_cons_zero,List.set_cons_succ])
 go_cut [3] (fun v3 wc=>∃ (kq:Nat) (x3_1:Int),v3 = .int .u8 x3_1∧Aside0 (r28_Put.j0 kq x3_1 l0_0 a0_1 l0_2=some r)∧Aside0 (kq≤k)∧Aside0 (wc.heap[gb583]? = some (.cells #[(.slice A0_0 l0_0.length c0_0),.bool a0_1,(.slice A0_2 l0_2.length c0_2)] 53 (0,0)))∧Aside0 (Below w.heap.size w wc))
 case first =>
  have H:=HC2.out
  clear HC2
  by_cases c5:a0_1=true
  ·subst c5
   have H1:(r28_Put.j0 k 1 l0_0 true l0_2)=some r:=by rw [if_pos rfl] at H;exact H
   clear H
   have H:=H1
   clear H1
   have H':=Aside0.mk H
   clear H
   go_wp2
   go_meet
   case rel=>exact ⟨_,(1),z9_3,H',⟨(by first|omega|exact Nat.le_refl _)⟩,⟨z29_1⟩,⟨z29_0⟩⟩
  replace c5:=Bool.eq_false_iff.mpr c5
  subst c5
  have H1:(r28_Put.j0 k 0 l0_0 false l0_2)=some r:=by rw [if_neg (show ¬ (false=true) by decide)] at H;exact H
  clear H
  have H:=H1
  clear H1
  have H':=Aside0.mk H
  clear H
  go_wp2
  go_meet
  case rel=>exact ⟨_,(0),z9_3,H',⟨(by first|omega|exact Nat.le_refl _)⟩,⟨z29_1⟩,⟨z29_0⟩⟩
 case rest =>
 clear HC2
 try clear p2
 try clear c4
 try clear c5
 try clear hcz4_0 hcz4_1 hcz4_2
 try clear hfz4_0 hfz4_1 hfz4_2
 obtain ⟨kq,x3_1,rfl,HA,HJ1,BK583,HB⟩:=hcut
 cases kq with
 | zero=>exact absurd HA.out (by simp [r28_Put.j0])
 | succ kj1 =>
 have H:=HA.out
 clear HA
 simp only [r28_Put.j0] at H
 obtain ⟨y584,hy584⟩:∃ y_:List Int,y_=(([x3_1]:List Int)):=⟨_,rfl⟩
 replace H:((r03_Put.f kj1 l0_0).bind fun t587=>(r28_Put.l0 kj1 (([y584,t587]:List (List Int))) 0 l0_0 a0_1 l0_2))=some r:=by first|(rw [hy584];with_reducible exact H)|(have H2_:=(Option.bind_some _ _).symm.trans H;rw [hy584];with_reducible exact H2_)|(have H2_:=(Option.bind_some _ _).symm.trans H;with_reducible exact H2_)|with_reducible exact H|(rw [hy584];exact H)|exact H
 have Ny584:=Aside0.mk hy584
 clear hy584
 replace H:=Option.bind_eq_some_iff.mp H
 obtain ⟨t587,A60,H⟩:=H
 replace H:(r28_Put.l0 kj1 (([y584,t587]:List (List Int))) 0 l0_0 a0_1 l0_2)=some r:=H
 have A6:=Aside0.mk A60
 clear A60
 obtain ⟨y590,hy590⟩:∃ y_:List (List Int),y_=(([y584,t587]:List (List Int))):=⟨_,rfl⟩
 replace H:(r28_Put.l0 kj1 y590 0 l0_0 a0_1 l0_2)=some r:=by first|(rw [hy590];with_reducible exact H)|(have H2_:=(Option.bind_some _ _).symm.trans H;rw [hy590];with_reducible exact H2_)|(have H2_:=(Option.bind_some _ _).symm.trans H;with_reducible exact H2_)|with_reducible exact H|(rw [hy590];exact H)|exact H
 have Ny590:=Aside0.mk hy590
 clear hy590
 have H':=Aside0.mk H
 clear H
 go_wp2_with (first|((with_reducible refine gate_dst (N:=9) rfl ?_);refine Kd.R_lit (Kd.int .u8) _ 5 ?hg (N:=9) ?hd (xs:=([x3_1]:List Int)) (inner:=[.int .u8 x3_1]) (ok:=fun _=>True) (okp:=fun _=>True) ?hr ?hp (fun _ hk=>hk) trivial (Below.refl _ _) (Nat.le_refl _) (by simp) ?_;(case hd=>rfl);(case hg=>rfl);(case hr=>first|(go_simp;done)|(go_simp;rfl));(case hp=>exact(Reps.one (show Kd.M (Kd.int .u8) _ _ _ x3_1 [.int .u8 x3_1] from rfl) (Reps.none _ _)));intro v585 w7 ho8 hb hg_ hnew_;clear hg_ hnew_;(first|rw [←Ny584.out] at ho8|(simp only [Int.reduceToNat] at ho8;rw [←Ny584.out] at ho8));have HO586:=U (Kd.R_lower ho8 (below_size z29_0));replace BK583:=U (blk_below (g:=gb583) (o:=.cells #[.slice A0_0 l0_0.length c0_0,.bool a0_1,.slice A0_2 l0_2.length c0_2] 53 (0,0)) z29_1 hb);replace HB:=U (below_step z29_0 hb);clear hb ho8;obtain ⟨hcz9_0,hcz9_1,hcz9_2,hfz9_0,hfz9_1,hfz9_2⟩:=cz3_ BK583.out)|((with_reducible refine gate_callee (f:=77) rfl ?_);refine goesL_ (some 12) rfl rfl Try.func77 (by kernel_rfl) rfl #[.slice A0_0 l0_0.length c0_0] rfl z10_2 ?_;(with_reducible refine(r03_Put.calls kj1 _ _ l0_0 t587 _ ?side1 ?side2 A6.out).mono ?_);(case side1=>repeat(first|exact(Kd.C_below HR0_0.out HB.out)|(with_reducible refine Kd.C_alloc ?_ _)|(with_reducible refine Kd.C_drewN ?_ _)|(with_reducible refine Kd.C_drew ?_)));(case side2=>exact HC0_0.out);rintro e w10 ⟨v588,rfl,ho0,hb⟩;refine ⟨_,rfl,?_⟩;have HO589:=U (Kd.R_lower (Kd.R_new' ho0 (Kd.R_lt (by(with_reducible repeat(first|apply Kd.R_alloc|apply Kd.R_drewN|apply Kd.R_drew));exact HO586.out))) (below_size z29_0));replace HO586:=U (Kd.R_elder' (by(with_reducible repeat(first|apply Kd.R_alloc|apply Kd.R_drewN|apply Kd.R_drew));exact HO586.out) (Kd.R_base ho0) hb);replace BK583:=U (blk_below (g:=gb583) (o:=.cells #[.slice A0_0 l0_0.length c0_0,.bool a0_1,.slice A0_2 l0_2.length c0_2] 53 (0,0)) z29_1 hb);replace HB:=U (below_step z29_0 hb);(try clear hb);(try clear hb2);(try clear hk);(try clear hi);(try clear ho0);obtain ⟨Ao11,co11,eo11⟩:=Kd.R_slice HO586.out;subst eo11;obtain ⟨Ao12,co12,eo12⟩:=Kd.R_slice HO589.out;subst eo12)|((with_reducible refine gate_dst (N:=13) rfl ?_);refine Kd.N_lit (Kd.slice 5 (Kd.int .u8)) _ 22 ?hg (N':=13) ?hd (xs:=([y584,t587]:List (List Int))) (inner:=[.slice Ao11 y584.length co11,.slice Ao12 t587.length co12]) (ok:=(fun k_=>k_≠gb583)) (okp:=(fun k_=>k_≠gb583)) ?hr ?hp (fun _ hk=>hk) ((show ∀ k_,w10.heap.size≤k_→(fun k_=>k_≠gb583) k_ from fun k_ hk=>Kd.freshB (g:=gb583) (o:=.cells #[.slice A0_0 l0_0.length c0_0,.bool a0_1,.slice A0_2 l0_2.length c0_2] 53 (0,0)) z29_1 k_ hk) _ (Nat.le_refl _)) (Below.refl _ _) (Nat.le_refl _) (by simp) ?_;(case hd=>rfl);(case hg=>rfl);(case hr=>first|(go_simp;done)|(go_simp;rfl));(case hp=>exact(Reps.one (show Kd.FK (Kd.slice 5 (Kd.int .u8)) _ _ y584 [.slice Ao11 y584.length co11] from(by first|(obtain ⟨A_,c_,e_⟩:=Kd.R_slice HO586.out;have hq_:=HO586.out;rw [e_] at hq_ ⊢;exact Kd.FK_slice_mk (Kd.R_reads' (Kd.R_mono (ok':=(fun k_=>k_≠gb583)) (Kd.R_types (hq_) BK583.out (by decide)) (fun k_ hk=>hk.2))).2.1 (Kd.R_F (Kd.R_mono (ok':=(fun k_=>k_≠gb583)) (Kd.R_types (hq_) BK583.out (by decide)) (fun k_ hk=>hk.2))))|exact Kd.FK_slice_mk (Kd.R_reads' (Kd.R_mono (ok':=(fun k_=>k_≠gb583)) (Kd.R_types (HO586.out) BK583.out (by decide)) (fun k_ hk=>hk.2))).2.1 (Kd.R_F (Kd.R_mono (ok':=(fun k_=>k_≠gb583)) (Kd.R_types (HO586.out) BK583.out (by decide)) (fun k_ hk=>hk.2))))) (Reps.one (show Kd.FK (Kd.slice 5 (Kd.int .u8)) _ _ t587 [.slice Ao12 t587.length co12] from(by first|(obtain ⟨A_,c_,e_⟩:=Kd.R_slice HO589.out;have hq_:=HO589.out;rw [e_] at hq_ ⊢;exact Kd.FK_slice_mk (Kd.R_reads' (Kd.R_mono (ok':=(fun k_=>k_≠gb583)) (Kd.R_types (hq_) BK583.out (by decide)) (fun k_ hk=>hk.2))).2.1 (Kd.R_F (Kd.R_mono (ok':=(fun k_=>k_≠gb583)) (Kd.R_types (hq_) BK583.out (by decide)) (fun k_ hk=>hk.2))))|exact Kd.FK_slice_mk (Kd.R_reads' (Kd.R_mono (ok':=(fun k_=>k_≠gb583)) (Kd.R_types (HO589.out) BK583.out (by decide)) (fun k_ hk=>hk.2))).2.1 (Kd.R_F (Kd.R_mono (ok':=(fun k_=>k_≠gb583)) (Kd.R_types (HO589.out) BK583.out (by decide)) (fun k_ hk=>hk.2))))) (Reps.none _ _))));intro v591 w13 ho14 hb hg_ hnew_;clear hg_ hnew_;(first|rw [←Ny590.out] at ho14|(simp only [Int.reduceToNat] at ho14;rw [←Ny590.out] at ho14));have HO592:=U (Kd.N_lower ho14 (below_size z29_0));replace BK583:=U (blk_below (g:=gb583) (o:=.cells #[.slice A0_0 l0_0.length c0_0,.bool a0_1,.slice A0_2 l0_2.length c0_2] 53 (0,0)) z29_1 hb);replace HB:=U (below_step z29_0 hb);clear HO586;clear HO589;clear hb ho14))
 go_loopg [4,5] kj1 (fun kq v4 v5 w'=>∃ (x4_2:List (List Int)) (x5_2:Int),v5 = .int .i64 x5_2∧Aside0 (r28_Put.l0 kq x4_2 x5_2 l0_0 a0_1 l0_2=some r)∧Aside0 (kq≤kj1)∧Aside0 (Kd.N (Kd.slice 5 (Kd.int .u8)) 22 w' w.heap.size (fun k_=>k_≠gb583) v4 x4_2)∧Aside0 (w'.heap[gb583]? = some (.cells #[(.slice A0_0 l0_0.length c0_0),.bool a0_1,(.slice A0_2 l0_2.length c0_2)] 53 (0,0)))∧Aside0 (Below w.heap.size w w'))
 case atStart=>exact ⟨(y590),(0),z9_3,H',⟨Nat.le_refl _⟩,⟨(by(with_reducible repeat(first|apply Kd.N_alloc|apply Kd.N_drewN|apply Kd.N_drew));exact HO592.out)⟩,⟨z29_1⟩,⟨z29_0⟩⟩
 case round =>
 clear H'
 try clear p2
 try clear c4
 try clear c5
 try clear c7
 try clear hcz4_0 hcz4_1 hcz4_2
 try clear hcz9_0 hcz9_1 hcz9_2
 try clear hfz4_0 hfz4_1 hfz4_2
 try clear hfz9_0 hfz9_1 hfz9_2
 try clear p2
 obtain ⟨x4_2,x5_2,rfl,HA,HK2,HO_4,BK583,HB⟩:=hrel
 cases gk with
 | zero=>exact absurd HA.out (by simp [r28_Put.l0])
 | succ k2 =>
 have H:=HA.out
 clear HA
 simp only [r28_Put.l0] at H
 by_cases c15:x5_2<(l0_2.length:Int)
 rotate_left
 ·rw [if_neg c15] at H
  have c15b0:decide (x5_2<(l0_2.length:Int))=false:=decide_eq_false c15
  clear c15
  replace H:=Option.bind_eq_some_iff.mp H
  obtain ⟨t600,A230,H⟩:=H
  replace H:(some t600)=some r:=H
  have A23:=Aside0.mk A230
  clear A230
  obtain rfl:=Option.some.inj H
  obtain ⟨hcz24_0,hcz24_1,hcz24_2,hfz24_0,hfz24_1,hfz24_2⟩:=cz3_ BK583.out
  obtain ⟨Ao25,co25,eo25⟩:=Kd.N_slice HO_4.out
  subst eo25
  go_wp2_with (first|((with_reducible refine gate_callee (f:=75) rfl ?_);refine goesL_ (some 31) rfl rfl Try.func75 (by kernel_rfl) rfl #[.slice Ao25 x4_2.length co25] rfl z10_2 ?_;(with_reducible refine(r02_Pack.calls k2 _ _ x4_2 t600 _ ?side1 ?side2 A23.out).mono ?_);(case side1=>repeat(first|exact(Kd.N_reads' HO_4.out).2.2|(with_reducible refine Kd.C_alloc ?_ _)|(with_reducible refine Kd.C_drewN ?_ _)|(with_reducible refine Kd.C_drew ?_)));(case side2=>exact(Kd.N_reads' HO_4.out).2.1);rintro e w26 ⟨v601,rfl,ho0,hb⟩;refine ⟨_,rfl,?_⟩;replace HO_4:=U (Kd.N_elder' (by(with_reducible repeat(first|apply Kd.N_alloc|apply Kd.N_drewN|apply Kd.N_drew));exact HO_4.out) (Kd.R_base ho0) hb);have HO602:=U (Kd.R_lower ho0 (below_size z29_0));replace BK583:=U (blk_below (g:=gb583) (o:=.cells #[.slice A0_0 l0_0.length c0_0,.bool a0_1,.slice A0_2 l0_2.length c0_2] 53 (0,0)) z29_1 hb);replace HB:=U (below_step z29_0 hb);(try clear hb);(try clear hb2);(try clear hk);(try clear hi);(try clear ho0)))
  go_ret
  exact ⟨_,(by first|rfl|(simp [errW_none,errW_some]<;>rfl)|(simp [*,errW_none,errW_some]<;>rfl)),(by(with_reducible repeat(first|apply Kd.R_alloc|apply Kd.R_drewN|apply Kd.R_drew));exact HO602.out),z29_0⟩
 rw [if_pos c15] at H
 have c15b0:decide (x5_2<(l0_2.length:Int))=true:=decide_eq_true c15
 clear c15
 by_cases c16:0≤x5_2
 rotate_left
 ·rw [if_neg c16] at H
  exact absurd H (by simp)
 rw [if_pos c16] at H
 have c16b0:decide (0≤x5_2)=true:=decide_eq_true c16
 clear c16
 replace H:=Option.bind_eq_some_iff.mp H
 obtain ⟨t594,A170,H⟩:=H
 replace H:(if x4_2.length<5864062014805 then(r28_Put.l0 k2 (x4_2++[t594]) (wrap64 (x5_2+1)) l0_0 a0_1 l0_2) else(none))=some r:=H
 have A17:=Aside0.mk A170
 clear A170
 by_cases c18:x4_2.length<5864062014805
 rotate_left
 ·rw [if_neg c18] at H
  exact absurd H (by simp)
 rw [if_pos c18] at H
 have LMc18:=Aside0.mk c18
 clear c18
 obtain ⟨y597,hy597⟩:∃ y_:List (List Int),y_=(x4_2++[t594]):=⟨_,rfl⟩
 replace H:(r28_Put.l0 k2 y597 (wrap64 (x5_2+1)) l0_0 a0_1 l0_2)=some r:=by first|(rw [hy597];with_reducible exact H)|(have H2_:=(Option.bind_some _ _).symm.trans H;rw [hy597];with_reducible exact H2_)|(have H2_:=(Option.bind_some _ _).symm.trans H;with_reducible exact H2_)|with_reducible exact H|(rw [hy597];exact H)|exact H
 have Ny597:=Aside0.mk hy597
 clear hy597
 have H':=Aside0.mk H
 clear H
 obtain ⟨hcz19_0,hcz19_1,hcz19_2,hfz19_0,hfz19_1,hfz19_2⟩:=cz3_ BK583.out
 have p593:0≤(x5_2:Int):=of_decide_eq_true (by first|(with_reducible assumption)|assumption)
 have q593:x5_2<(l0_2.length:Int):=of_decide_eq_true (by first|(with_reducible assumption)|assumption)
 obtain ⟨ad593,A593_2,c593_2,A593_3,c593_3,e593,hx593_0,hx593_1,hx593_2,hx593_3,hl593_2,hi593_2,hl593_3,hi593_3⟩:=at_T30 HR0_2.out x5_2 p593 q593
 cases e593
 replace hx593_0:=(HB.out.cell (World.block_lt_of_cell? w _ hx593_0)).trans hx593_0
 replace hx593_1:=(HB.out.cell (World.block_lt_of_cell? w _ hx593_1)).trans hx593_1
 replace hx593_2:=(HB.out.cell (World.block_lt_of_cell? w _ hx593_2)).trans hx593_2
 replace hx593_3:=(HB.out.cell (World.block_lt_of_cell? w _ hx593_3)).trans hx593_3
 have HR593_2:=Aside0.mk hi593_2
 have HC593_2:=Aside0.mk hl593_2
 clear hi593_2 hl593_2
 have HR593_3:=Aside0.mk hi593_3
 have HC593_3:=Aside0.mk hl593_3
 clear hi593_3 hl593_3
 replace p593:=eq_true p593
 replace q593:=eq_true q593
 go_wp2_with (first|((with_reducible refine gate_callee (f:=28) rfl ?_);refine goesL_ (some 27) rfl rfl Try.func28 (by kernel_rfl) rfl #[.agg #[.int .i64 ((rd_T30 l0_2 x5_2).f0.f0),.int .i64 ((rd_T30 l0_2 x5_2).f0.f1),.slice A593_2 ((rd_T30 l0_2 x5_2).f1).length c593_2,.slice A593_3 ((rd_T30 l0_2 x5_2).f2).length c593_3]] rfl z10_2 ?_;(with_reducible refine(r05_Put.calls k2 ((rd_T30 l0_2 x5_2).f0.f0) ((rd_T30 l0_2 x5_2).f0.f1) _ _ ((rd_T30 l0_2 x5_2).f1) _ _ ((rd_T30 l0_2 x5_2).f2) t594 _ ?side1 ?side2 ?side3 ?side4 A17.out).mono ?_);(case side1=>repeat(first|exact(Kd.C_below HR593_2.out HB.out)|(with_reducible refine Kd.C_alloc ?_ _)|(with_reducible refine Kd.C_drewN ?_ _)|(with_reducible refine Kd.C_drew ?_)));(case side2=>exact HC593_2.out);(case side3=>repeat(first|exact(Kd.C_below HR593_3.out HB.out)|(with_reducible refine Kd.C_alloc ?_ _)|(with_reducible refine Kd.C_drewN ?_ _)|(with_reducible refine Kd.C_drew ?_)));(case side4=>exact HC593_3.out);rintro e w20 ⟨v595,rfl,ho0,hb⟩;refine ⟨_,rfl,?_⟩;replace HO_4:=U (Kd.N_elder' (by(with_reducible repeat(first|apply Kd.N_alloc|apply Kd.N_drewN|apply Kd.N_drew));exact HO_4.out) (Kd.R_base ho0) hb);have HO596:=U (Kd.R_lower ho0 (below_size z29_0));replace BK583:=U (blk_below (g:=gb583) (o:=.cells #[.slice A0_0 l0_0.length c0_0,.bool a0_1,.slice (some ad593) l0_2.length c0_2] 53 (0,0)) z29_1 hb);replace HB:=U (below_step z29_0 hb);(try clear hb);(try clear hb2);(try clear hk);(try clear hi);(try clear ho0);obtain ⟨Ao22,co22,eo22⟩:=Kd.R_slice HO596.out;subst eo22)|((with_reducible refine gate_builtin (b:=.append) (xs:=#[.tmp 21,.tmp 28]) rfl ?_);at_builtin;refine Kd.N_append (Kd.slice 5 (Kd.int .u8)) (w0:=w) w.heap.size rfl (.tmp 21) (.tmp 28) 73 22 (.slice none 0 0) 24 rfl Try.underlying73 info22 rfl (by decide) (by omega) u4 x4_2 t594 [.slice Ao22 t594.length co22] (fun k_=>k_≠gb583) (fun k_=>((fun k_=>k_≠gb583)) k_∧some k_≠(u4:Value).ownBlock) rfl rfl ?aP (fun _ hk=>hk) ?aF ?aO ?aB ?aS ?aL ?_;(case aP=>exact(by first|(obtain ⟨A_,c_,e_⟩:=Kd.R_slice HO596.out;have hq_:=HO596.out;rw [e_] at hq_ ⊢;exact Kd.FK_slice_mk (Kd.R_reads' (Kd.R_mono (ok':=(fun k_=>((fun k_=>k_≠gb583)) k_∧some k_≠(u4:Value).ownBlock)) (Kd.R_types (Kd.R_apart' (hq_) (Kd.N_typed HO_4.out) (by decide)) BK583.out (by decide)) (fun k_ hk=>⟨hk.2,hk.1.2⟩))).2.1 (Kd.R_F (Kd.R_mono (ok':=(fun k_=>((fun k_=>k_≠gb583)) k_∧some k_≠(u4:Value).ownBlock)) (Kd.R_types (Kd.R_apart' (hq_) (Kd.N_typed HO_4.out) (by decide)) BK583.out (by decide)) (fun k_ hk=>⟨hk.2,hk.1.2⟩))))|exact Kd.FK_slice_mk (Kd.R_reads' (Kd.R_mono (ok':=(fun k_=>((fun k_=>k_≠gb583)) k_∧some k_≠(u4:Value).ownBlock)) (Kd.R_types (Kd.R_apart' (HO596.out) (Kd.N_typed HO_4.out) (by decide)) BK583.out (by decide)) (fun k_ hk=>⟨hk.2,hk.1.2⟩))).2.1 (Kd.R_F (Kd.R_mono (ok':=(fun k_=>((fun k_=>k_≠gb583)) k_∧some k_≠(u4:Value).ownBlock)) (Kd.R_types (Kd.R_apart' (HO596.out) (Kd.N_typed HO_4.out) (by decide)) BK583.out (by decide)) (fun k_ hk=>⟨hk.2,hk.1.2⟩)))));(case aB=>exact z29_0);(case aF=>exact(fun k_ hk=>Kd.freshB (g:=gb583) (o:=.cells #[.slice A0_0 l0_0.length c0_0,.bool a0_1,.slice (some ad593) l0_2.length c0_2] 53 (0,0)) z29_1 k_ hk));(case aO=>exact(by(with_reducible repeat(first|apply Kd.N_alloc|apply Kd.N_drewN|apply Kd.N_drew));exact Kd.N_mono HO_4.out (fun _ hk=>hk.1)));(case aS=>exact(below_size z29_0));(case aL=>have:=LMc18.out;omega);intro v598 w21 ho hb hg hat;rw [←Ny597.out] at ho;replace BK583:=U (blk_grown (g:=gb583) (o:=.cells #[.slice A0_0 l0_0.length c0_0,.bool a0_1,.slice (some ad593) l0_2.length c0_2] 53 (0,0)) z29_1 hg (Kd.N_ne HO_4.out BK583.out (by decide)));replace HB:=U (hb);have HO599:=U (ho);clear HO_4;clear HO596;clear ho hb hg hat))
 go_roundg k2
 case measure=>have:=HJ1.out;have:=HK2.out;omega
 case rel=>exact ⟨(y597),(wrap64 (x5_2+1)),z9_3,H',⟨(by have:=HJ1.out;have:=HK2.out;omega)⟩,⟨(by(with_reducible repeat(first|apply Kd.N_alloc|apply Kd.N_drewN|apply Kd.N_drew));exact HO599.out)⟩,⟨z29_1⟩,⟨z29_0⟩⟩
end Go.Proofs.Ytgocnchjpecafaa.PEv
