/- a part -/
import Derived.Test.YtgocnchjpecafaaPEvx19
import Derived.Test.YtgocnchjpecafaaPEvx27
import Derived.Test.YtgocnchjpecafaaPEvx37
import Derived.Test.YtgocnchjpecafaaPEvx39
namespace Go.Proofs.Ytgocnchjpecafaa.PEv
open Go.RowKit Go.Proofs.YtgocnchjpecafaaW.PrintWords Go.Proofs.YtgocnchjpecafaaW.PrintLast Go.Proofs.YtgocnchjpecafaaW.PrintMore
attribute [local go_sem] max2_int min2_int max_two min_two max_three min_three max_four min_four
set_option linter.unusedVariables false
set_option linter.unusedSimpArgs false
set_option maxHeartbeats 8000000
set_option maxRecDepth 100000
theorem z40_1 {P:Prop} (h:P:=by(with_reducible repeat(first|apply Kd.R_alloc|apply Kd.R_drewN|apply Kd.R_drew));exact HO_10.out):P:=h
theorem z40_3 {P:Prop} (h:P:=by(with_reducible repeat(first|apply Kd.N_alloc|apply Kd.N_drewN|apply Kd.N_drew));exact HO852.out):P:=h
theorem z40_4 {P:Prop} (h:P:=by(with_reducible repeat(first|apply Kd.V_alloc|apply Kd.V_drewN|apply Kd.V_drew));exact HO_9.out):P:=h
theorem z40_7 {P:Prop} (h:P:=by repeat(first|exact(Kd.R_reads' HO_10.out).2.2|(with_reducible refine Kd.C_alloc ?_ _)|(with_reducible refine Kd.C_drewN ?_ _)|(with_reducible refine Kd.C_drew ?_))):P:=h
theorem z40_9 {P:Prop} (h:P:=by(with_reducible repeat(first|apply Kd.N_alloc|apply Kd.N_drewN|apply Kd.N_drew));exact HO855.out):P:=h
theorem z40_10 {P:Prop} (h:P:=by(with_reducible repeat(first|apply Kd.N_alloc|apply Kd.N_drewN|apply Kd.N_drew));exact HO861.out):P:=h
theorem z40_11 {P:Prop} (h:P:=by repeat(first|exact(Kd.N_reads' HO861.out).2.2|(with_reducible refine Kd.C_alloc ?_ _)|(with_reducible refine Kd.C_drewN ?_ _)|(with_reducible refine Kd.C_drew ?_))):P:=h
theorem z40_12 {P:Prop} (h:P:=by first|rfl|(simp [errW_none,errW_some]<;>rfl)|(simp only [<-hji17];first|rfl|(simp [errW_none,errW_some]<;>rfl))|(simp [*,errW_none,errW_some]<;>rfl)):P:=h
theorem z40_14 {P:Prop} (h:P:=by exact(by(with_reducible repeat(first|apply Kd.N_alloc|apply Kd.N_drewN|apply Kd.N_drew));exact Kd.N_mono HO858.out (λ_ hk=>hk.1))):P:=h
mutual
def w28_GossipCloses.j0:Nat->List (S30)->Int->Int->Bool->Option (Bool)
 | 0,_,_,_,_=>none
 | k+1,x0,x1,x2,x21=>if x21=true then((w28_awake.f k).bind λt833=>(some t833)) else((w08_Turned.f k x0 ([]:List Int)).bind λt834=>(if (wrap64 ((x0.length:Int)+1))=0 then(none) else(if (t834.length:Int)<(Int.tmod (wrap64 (x1)) (wrap64 ((x0.length:Int)+1))) then(some false) else(if 0<=(Int.tmod (wrap64 (x1)) (wrap64 ((x0.length:Int)+1))) then(if (Int.tmod (wrap64 (x1)) (wrap64 ((x0.length:Int)+1)))<=(t834.length:Int) then(w28_GossipCloses.l0 k x0 x2 (Int.tmod (wrap64 (x1)) (wrap64 ((x0.length:Int)+1))) (t834.take ((Int.tmod (wrap64 (x1)) (wrap64 ((x0.length:Int)+1))):Int).toNat) (([]:List Int)) 0) else(none)) else(none)))))
def w28_GossipCloses.l0:Nat->List (S30)->Int->Int->List (S30)->List Int->Int->Option (Bool)
 | 0,_,_,_,_,_,_=>none
 | k+1,x0,x2,x8,x9,x10,x11=>if x11<x8 then(if 0<=x11 then(if x11<(x9.length:Int) then((r03_Set.f k x10 ((rd_T30 x9 x11).f0.f0) ((rd_T30 x9 x11).f0.f1)).bind λt847=>(w28_GossipCloses.l0 k x0 x2 x8 x9 t847 (wrap64 (x11+1)))) else(none)) else(none)) else((gossip_Lacks.f k x0 x10 (wrap64 (x2))).bind λt850=>((some (([]:List (S30)):List (S30))).bind λy853=>(if y853.length+x9.length<2199023255552 then((some (y853++x9:List (S30))).bind λy856=>(if y856.length+t850.length<2199023255552 then((some (y856++t850:List (S30))).bind λy859=>((r05_Closed.f k y859).bind λt862=>(if t862=true then(if (y859.length:Int)=(x0.length:Int) then((w28_awake.f k).bind λt863=>(some t863)) else(if (t850.length:Int)=(wrap64 (x2)) then((w28_awake.f k).bind λt864=>(some t864)) else(some false))) else(some false)))) else(none))) else(none))))
end
def w28_GossipCloses.f (k:Nat) (l0:List (S30)) (a1:Int) (a2:Int):Option (Bool):=(w05_Light.f k l0).bind λt831=>(if t831=true then((w08_Whole.f k l0).bind λt832=>(w28_GossipCloses.j0 k l0 a1 a2 (!t832))) else(w28_GossipCloses.j0 k l0 a1 a2 true))
def w28_GossipCloses.T12:Bool×List (List Nat×List Nat):=(true,[([],[]),([],[]),([],[]),([1,2],[1,2]),([3],[3]),([4],[4]),([5],[5]),([],[]),([],[]),([7,8],[7,8]),([9],[9]),([10],[10]),([11],[11]),([0,6,12],[0,6,12]),([13,13,0,1,2,3,4,5,6,7,8,9,10,11,12,13],[0,13])])
def w28_GossipCloses.B12:List Nat:=[0,0,0,6,14,30,62,0,0,384,896,1920,3968,8191,16383]
theorem w28_GossipCloses.tab12:rtab .any (opsOf Try.f8 12)=w28_GossipCloses.T12:=by kernel_rfl
theorem w28_GossipCloses.bits12:waitsOk w28_GossipCloses.T12.2 w28_GossipCloses.B12=true:=by kernel_rfl
theorem w28_GossipCloses.calls (k:Nat) (A0:Option Addr) (c0:Nat) (l0:List (S30)) (a1:Int) (a2:Int) (r:Bool) (w:World) (hr0:Kd.C k30 w A0 l0.length l0) (hc0:l0.length<=c0) (h:w28_GossipCloses.f k l0 a1 a2=some r) (hrt_:r=true) :
  Calls Try.prog 8 #[.slice A0 l0.length c0,.int .u8 a1,.int .u8 a2] w λe w'=>e = .returned (.bool r)/\Below w.heap.size w w':=by
 have HR0:=Aside0.mk hr0
 have HC0:=Aside0.mk hc0
 clear hr0 hc0
 have HB:=U (Below.refl w.heap.size w)
 have HRT_:=Aside0.mk hrt_
 clear hrt_
 have H:((w05_Light.f k l0).bind λt831=>(if t831=true then((w08_Whole.f k l0).bind λt832=>(w28_GossipCloses.j0 k l0 a1 a2 (!t832))) else(w28_GossipCloses.j0 k l0 a1 a2 true)))=some r:=h
 clear h
 have HC4:=Aside0.mk H
 clear H
 go_enter Try.func8,Try.ntmps8
 go_upto_region 1 with (fail)
 go_cut [21] (λv21 wc=>∃ (kq:Nat) (x21_3:Bool),v21 = .bool x21_3/\Aside0 (w28_GossipCloses.j0 kq l0 a1 a2 x21_3=some r)/\Aside0 (kq<=k)/\Aside0 (Below w.heap.size w wc))
 case first =>
  have H:=HC4.out
  clear HC4
  replace H:=oB_ H
  obtain ⟨t831,A50,H⟩:=H
  replace H:(if t831=true then((w08_Whole.f k l0).bind λt832=>(w28_GossipCloses.j0 k l0 a1 a2 (!t832))) else(w28_GossipCloses.j0 k l0 a1 a2 true))=some r:=H
  have A5:=Aside0.mk A50
  clear A50
  by_cases c6:t831=true
  rotate_left
  ·replace c6:=Bool.eq_false_iff.mpr c6
   subst c6
   have H1:(w28_GossipCloses.j0 k l0 a1 a2 true)=some r:=by rw [if_neg (show ¬ (false=true) by decide)] at H;exact H
   clear H
   have H:=H1
   clear H1
   have H':=Aside0.mk H
   clear H
   go_wp2_with (first|((with_reducible refine gate_callee (f:=16) rfl ?_);refine goesL_ (some 15) rfl rfl Try.func16 z3_17 rfl #[.slice A0 l0.length c0] rfl z6_5 ?_;(with_reducible refine(w05_Light.calls k _ _ l0 false _ ?side1 ?side2 A5.out).mono ?_);(case side1=>exact z10_9);(case side2=>exact HC0.out);rintro e w' ⟨rfl,⟨nd,rfl⟩⟩;refine ⟨_,rfl,?_⟩))
   go_meet
   case rel=>exact ⟨_,(true),z9_3,H',⟨(by first|omega|exact Nat.le_refl _)⟩,⟨z9_4⟩⟩
  subst c6
  have H1:((w08_Whole.f k l0).bind λt832=>(w28_GossipCloses.j0 k l0 a1 a2 (!t832)))=some r:=by rw [if_pos rfl] at H;exact H
  clear H
  have H:=H1
  clear H1
  replace H:=oB_ H
  obtain ⟨t832,A70,H⟩:=H
  replace H:(w28_GossipCloses.j0 k l0 a1 a2 (!t832))=some r:=H
  have A7:=Aside0.mk A70
  clear A70
  have H':=Aside0.mk H
  clear H
  go_wp2_with (first|((with_reducible refine gate_callee (f:=16) rfl ?_);refine goesL_ (some 15) rfl rfl Try.func16 z3_17 rfl #[.slice A0 l0.length c0] rfl z6_5 ?_;(with_reducible refine(w05_Light.calls k _ _ l0 true _ ?side1 ?side2 A5.out).mono ?_);(case side1=>exact z10_9);(case side2=>exact HC0.out);rintro e w' ⟨rfl,⟨nd,rfl⟩⟩;refine ⟨_,rfl,?_⟩)|(go_at_call 33;(with_reducible refine(w08_Whole.calls k _ _ l0 t832 _ ?side1 ?side2 A7.out).mono ?_);(case side1=>repeat(first|exact(Kd.C_below HR0.out z9_4)|(with_reducible refine Kd.C_alloc ?_ _)|(with_reducible refine Kd.C_drewN ?_ _)|(with_reducible refine Kd.C_drew ?_)));(case side2=>exact HC0.out);rintro e w8 ⟨rfl,hb⟩;replace HB:=U (below_step z9_4 hb);(try clear hb);(try clear hb2);(try clear hk);(try clear hi)))
  go_meet
  case rel=>exact ⟨_,(!t832),z9_3,H',⟨(by first|omega|exact Nat.le_refl _)⟩,⟨z9_4⟩⟩
 case rest =>
 clear HC4
 try clear c1
 try clear p2
 try clear c6
 try clear c8
 obtain ⟨kq,x21_3,rfl,HA,HJ3,HB⟩:=hcut
 cases kq with
 | zero=>exact absurd HA.out (by simp [w28_GossipCloses.j0])
 | succ kj3 =>
 have H:=HA.out
 clear HA
 simp only [w28_GossipCloses.j0] at H
 by_cases c9:x21_3=true
 ·subst c9
  have H1:((w28_awake.f kj3).bind λt833=>(some t833))=some r:=by rw [if_pos rfl] at H;exact H
  clear H
  have H:=H1
  clear H1
  replace H:=oB_ H
  obtain ⟨t833,A100,H⟩:=H
  replace H:(some t833)=some r:=H
  have A10:=Aside0.mk A100
  clear A100
  obtain rfl:=sI_ H
  go_wp2_with (first|((with_reducible refine gate_callee (f:=29) rfl ?_);refine goesL_ (some 22) rfl rfl Try.func29 z3_17 rfl #[] rfl z6_5 ?_;(with_reducible refine(w28_awake.calls kj3  t833 _ A10.out).mono ?_);rintro e w11 ⟨rfl,hb⟩;refine ⟨_,rfl,?_⟩;replace HB:=U (below_step z9_4 hb);(try clear hb);(try clear hb2);(try clear hk);(try clear hi)))
  go_ret
  exact ⟨(by first|rfl|(simp [errW_none,errW_some]<;>rfl)|(simp [*,errW_none,errW_some]<;>rfl)),z9_4⟩
 replace c9:=Bool.eq_false_iff.mpr c9
 subst c9
 have H1:((w08_Turned.f kj3 l0 ([]:List Int)).bind λt834=>(if (wrap64 ((l0.length:Int)+1))=0 then(none) else(if (t834.length:Int)<(Int.tmod (wrap64 (a1)) (wrap64 ((l0.length:Int)+1))) then(some false) else(if 0<=(Int.tmod (wrap64 (a1)) (wrap64 ((l0.length:Int)+1))) then(if (Int.tmod (wrap64 (a1)) (wrap64 ((l0.length:Int)+1)))<=(t834.length:Int) then(w28_GossipCloses.l0 kj3 l0 a2 (Int.tmod (wrap64 (a1)) (wrap64 ((l0.length:Int)+1))) (t834.take ((Int.tmod (wrap64 (a1)) (wrap64 ((l0.length:Int)+1))):Int).toNat) (([]:List Int)) 0) else(none)) else(none)))))=some r:=by rw [if_neg (show ¬ (false=true) by decide)] at H;exact H
 clear H
 have H:=H1
 clear H1
 replace H:=oB_ H
 obtain ⟨t834,A120,H⟩:=H
 replace H:(if (wrap64 ((l0.length:Int)+1))=0 then(none) else(if (t834.length:Int)<(Int.tmod (wrap64 (a1)) (wrap64 ((l0.length:Int)+1))) then(some false) else(if 0<=(Int.tmod (wrap64 (a1)) (wrap64 ((l0.length:Int)+1))) then(if (Int.tmod (wrap64 (a1)) (wrap64 ((l0.length:Int)+1)))<=(t834.length:Int) then(w28_GossipCloses.l0 kj3 l0 a2 (Int.tmod (wrap64 (a1)) (wrap64 ((l0.length:Int)+1))) (t834.take ((Int.tmod (wrap64 (a1)) (wrap64 ((l0.length:Int)+1))):Int).toNat) (([]:List Int)) 0) else(none)) else(none))))=some r:=H
 have A12:=Aside0.mk A120
 clear A120
 by_cases c13:(wrap64 ((l0.length:Int)+1))=0
 ·rw [if_pos c13] at H
  exact absurd H (by simp)
 rw [if_neg c13] at H
 have c13b0:((wrap64 ((l0.length:Int)+1)) == 0)=false:=beq_eq_false_iff_ne.mpr c13
 have c13b1:((wrap64 ((l0.length:Int)+1)) != 0)=true:=bne_iff_ne.mpr c13
 by_cases c14:(t834.length:Int)<(Int.tmod (wrap64 (a1)) (wrap64 ((l0.length:Int)+1)))
 ·rw [if_pos c14] at H
  exact absurd (HRT_.out.symm.trans (sI_ H).symm) (by simp)
 rw [if_neg c14] at H
 have c14b0:decide ((t834.length:Int)<(Int.tmod (wrap64 (a1)) (wrap64 ((l0.length:Int)+1))))=false:=dF_ c14
 clear c14
 obtain ⟨ji17,hji17⟩:∃ j_:Int,(Int.tmod (wrap64 (a1)) (wrap64 ((l0.length:Int)+1)))=j_:=⟨_,rfl⟩
 replace H:(if 0<=(ji17) then(if (ji17)<=(t834.length:Int) then(w28_GossipCloses.l0 kj3 l0 a2 ji17 (t834.take ((ji17):Int).toNat) (([]:List Int)) 0) else(none)) else(none))=some r:=by first|(rw [hji17] at H;exact H)|(simp only [hji17] at H ⊢;exact H)
 (try rw [hji17] at c14b0)
 (try rw [hji17] at A12)
 by_cases c18:0<=(ji17)
 rotate_left
 ·rw [if_neg c18] at H
  exact absurd H (by simp)
 rw [if_pos c18] at H
 have c18b0:=eq_true c18
 have c18b1:decide (0<=(ji17))=true:=dT_ c18
 clear c18
 by_cases c19:(ji17)<=(t834.length:Int)
 rotate_left
 ·rw [if_neg c19] at H
  exact absurd H (by simp)
 rw [if_pos c19] at H
 have c19b0:=eq_true c19
 have c19b1:decide ((ji17)<=(t834.length:Int))=true:=dT_ c19
 clear c19
 obtain ⟨y837,hy837⟩:∃ y_:List (S30),y_=(t834.take ((ji17):Int).toNat):=⟨_,rfl⟩
 replace H:(w28_GossipCloses.l0 kj3 l0 a2 ji17 y837 (([]:List Int)) 0)=some r:=by first|(rw [hy837];with_reducible exact H)|(have H2_:=(Option.bind_some _ _).symm.trans H;rw [hy837];with_reducible exact H2_)|(have H2_:=(Option.bind_some _ _).symm.trans H;with_reducible exact H2_)|with_reducible exact H|(rw [hy837];exact H)|exact H
 have Ny837:=Aside0.mk hy837
 clear hy837
 obtain ⟨y842,hy842⟩:∃ y_:List Int,y_=(([]:List Int)):=⟨_,rfl⟩
 replace H:(w28_GossipCloses.l0 kj3 l0 a2 ji17 y837 y842 0)=some r:=by first|(rw [hy842];with_reducible exact H)|(have H2_:=(Option.bind_some _ _).symm.trans H;rw [hy842];with_reducible exact H2_)|(have H2_:=(Option.bind_some _ _).symm.trans H;with_reducible exact H2_)|with_reducible exact H|(rw [hy842];exact H)|exact H
 have Ny842:=Aside0.mk hy842
 clear hy842
 have H':=Aside0.mk H
 clear H
 go_wp2_with (first|((with_reducible refine gate_callee (f:=34) rfl ?_);refine goesL_ (some 24) rfl rfl Try.func34 z3_17 rfl #[.slice A0 l0.length c0,.slice none 0 0] rfl z6_5 ?_;(refine(w08_Turned.calls kj3 (λk_=>k_<w.heap.size) _ _ l0 _ _ ([]:List Int) t834 _ ?side1 ?side2 ?side3 A12.out).mono ?_);(case side1=>exact Kd.V_mk HC0.out (Kd.F_below (Kd.C_F k30_heap HR0.out) z9_4));(case side2=>exact Kd.C_nil _ _);(case side3=>exact Nat.le_refl _);rintro e w20 ⟨v835,rfl,ho0,hb⟩;refine ⟨_,rfl,?_⟩;have HO836:=U (Kd.N_lower (Kd.N_mono (ok':=λk_=>True) ho0 (λk_ hk_=>trivial)) (below_size z9_4));replace HB:=U (below_step z9_4 hb);(try clear hb);(try clear hb2);(try clear hk);(try clear hi);(try clear ho0);obtain ⟨Ao21,co21,eo21⟩:=Kd.N_slice HO836.out;subst eo21;have q22:((ji17):Int)<=((t834.length:Int):Int):=oD_ z6_1;obtain ⟨i022,hi022,_,hsz22,_⟩:=info_parts info30;have hroom22:t834.length<=co21:=(Kd.N_reads' HO836.out).2.1;have hC22:Kd.F k30 _ _ Ao21 t834.length t834:=(Kd.V_at (base:=w.heap.size) (Kd.N_V HO836.out)).2.2;have hcut22:=cut_to (P:=Try.prog) 38 30 .i64 Try.underlying38 hi022 Ao21 t834.length co21 (ji17) (oD_ z6_1) q22 hroom22;have hr22:=Kd.F_take (m:=((ji17):Int).toNat) hC22 (by omega);have hy22:y837.length=((ji17):Int).toNat:=(by rw [Ny837.out,List.length_take];omega);rw [<-Ny837.out] at hr22;rw [<-hy22] at hcut22;have HO841:=U (show Kd.V k30 30 _ w.heap.size _ (.slice Ao21 y837.length co21) y837 from Kd.V_mk (by omega) hr22);have HC841:=U (show y837.length<=co21 from by omega);clear hr22 hC22 hroom22 hi022 hsz22;have KY22:=Aside0.mk hy22;clear hy22;replace q22:=eq_true q22)|((with_reducible refine gate_dst (N:=38) rfl ?_);(try(refine gate_guard (by rfl) ?_;dsimp only));refine Kd.R_lit (Kd.int .i64) _ 3 ?hg (N:=38) ?hd (xs:=([]:List Int)) (inner:=[]) (ok:=λ_=>True) (okp:=λ_=>True) ?hr ?hp (λ_ hk=>hk) trivial (Below.refl _ _) (Nat.le_refl _) (by simp) ?_;(case hd=>rfl);(case hg=>rfl);(case hr=>first|(go_simp;done)|(go_simp;rfl));(case hp=>exact(Reps.none _ _));intro v843 w23 ho24 hb hg_ hnew_;clear hg_ hnew_;(first|rw [<-Ny842.out] at ho24|(simp only [Int.reduceToNat] at ho24;rw [<-Ny842.out] at ho24));replace HO836:=U (Kd.N_elder' (by(with_reducible repeat(first|apply Kd.N_alloc|apply Kd.N_drewN|apply Kd.N_drew));exact HO836.out) (Kd.R_base ho24) hb);replace HO841:=U (Kd.V_elder' (by(with_reducible repeat(first|apply Kd.V_alloc|apply Kd.V_drewN|apply Kd.V_drew));exact HO841.out) (Kd.R_base ho24) hb);have HO844:=U (Kd.R_lower ho24 (below_size z9_4));replace HB:=U (below_step z9_4 hb);clear hb ho24))
 go_loopg [10,11] kj3 (λkq v10 v11 w'=>∃ (x10_2:List Int) (x11_2:Int),v11 = .int .i64 x11_2/\Aside0 (w28_GossipCloses.l0 kq l0 a2 ji17 y837 x10_2 x11_2=some r)/\Aside0 (kq<=kj3)/\Aside0 (Kd.V k30 30 w' w.heap.size (λk_=>some k_≠(v10:Value).ownBlock) (.slice Ao21 y837.length co21) y837)/\Aside0 (Kd.R (Kd.int .i64) 3 w' w.heap.size (λ_=>True) v10 x10_2)/\Aside0 (Below w.heap.size w w'))
 case atStart=>exact ⟨(y842),(0),z9_3,H',⟨Nat.le_refl _⟩,⟨(by(with_reducible repeat(first|apply Kd.V_alloc|apply Kd.V_drewN|apply Kd.V_drew));exact Kd.V_mono HO841.out (λ_ hk=>hk.2))⟩,⟨(by(with_reducible repeat(first|apply Kd.R_alloc|apply Kd.R_drewN|apply Kd.R_drew));exact HO844.out)⟩,⟨z9_4⟩⟩
 case round =>
 clear H'
 try clear c1
 try clear c2
 try clear p2
 try clear q2
 try clear c3
 try clear c6
 try clear p6
 try clear c8
 try clear c9
 try clear c13
 try clear c13b0
 try clear c13b1
 try clear c14
 try clear c14b0
 try clear c16
 try clear c18
 try clear c18b0
 try clear c18b1
 try clear c19
 try clear c19b0
 try clear c19b1
 try clear q22
 try clear p2
 try clear q22
 obtain ⟨x10_2,x11_2,rfl,HA,HK2,HO_9,HO_10,HB⟩:=hrel
 cases gk with
 | zero=>exact absurd HA.out (by simp [w28_GossipCloses.l0])
 | succ k2 =>
 have H:=HA.out
 clear HA
 simp only [w28_GossipCloses.l0] at H
 by_cases c25:x11_2<ji17
 rotate_left
 ·rw [if_neg c25] at H
  have c25b0:decide (x11_2<ji17)=false:=dF_ c25
  clear c25
  replace H:=oB_ H
  obtain ⟨t850,A320,H⟩:=H
  replace H:((some (([]:List (S30)):List (S30))).bind λy853=>(if y853.length+y837.length<2199023255552 then((some (y853++y837:List (S30))).bind λy856=>(if y856.length+t850.length<2199023255552 then((some (y856++t850:List (S30))).bind λy859=>((r05_Closed.f k2 y859).bind λt862=>(if t862=true then(if (y859.length:Int)=(l0.length:Int) then((w28_awake.f k2).bind λt863=>(some t863)) else(if (t850.length:Int)=(wrap64 (a2)) then((w28_awake.f k2).bind λt864=>(some t864)) else(some false))) else(some false)))) else(none))) else(none)))=some r:=H
  have A32:=Aside0.mk A320
  clear A320
  obtain ⟨y853,hy853⟩:∃ y_:List (S30),y_=(([]:List (S30))):=⟨_,rfl⟩
  replace H:(if y853.length+y837.length<2199023255552 then((some (y853++y837:List (S30))).bind λy856=>(if y856.length+t850.length<2199023255552 then((some (y856++t850:List (S30))).bind λy859=>((r05_Closed.f k2 y859).bind λt862=>(if t862=true then(if (y859.length:Int)=(l0.length:Int) then((w28_awake.f k2).bind λt863=>(some t863)) else(if (t850.length:Int)=(wrap64 (a2)) then((w28_awake.f k2).bind λt864=>(some t864)) else(some false))) else(some false)))) else(none))) else(none))=some r:=by first|(rw [hy853];with_reducible exact H)|(have H2_:=(Option.bind_some _ _).symm.trans H;rw [hy853];with_reducible exact H2_)|(have H2_:=(Option.bind_some _ _).symm.trans H;with_reducible exact H2_)|with_reducible exact H|(rw [hy853];exact H)|exact H
  have Ny853:=Aside0.mk hy853
  clear hy853
  by_cases c33:y853.length+y837.length<2199023255552
  rotate_left
  ·rw [if_neg c33] at H
   exact absurd H (by simp)
  rw [if_pos c33] at H
  have LMc33:=Aside0.mk c33
  clear c33
  obtain ⟨y856,hy856⟩:∃ y_:List (S30),y_=(y853++y837):=⟨_,rfl⟩
  replace H:(if y856.length+t850.length<2199023255552 then((some (y856++t850:List (S30))).bind λy859=>((r05_Closed.f k2 y859).bind λt862=>(if t862=true then(if (y859.length:Int)=(l0.length:Int) then((w28_awake.f k2).bind λt863=>(some t863)) else(if (t850.length:Int)=(wrap64 (a2)) then((w28_awake.f k2).bind λt864=>(some t864)) else(some false))) else(some false)))) else(none))=some r:=by first|(rw [hy856];with_reducible exact H)|(have H2_:=(Option.bind_some _ _).symm.trans H;rw [hy856];with_reducible exact H2_)|(have H2_:=(Option.bind_some _ _).symm.trans H;with_reducible exact H2_)|with_reducible exact H|(rw [hy856];exact H)|exact H
  have Ny856:=Aside0.mk hy856
  clear hy856
  by_cases c34:y856.length+t850.length<2199023255552
  rotate_left
  ·rw [if_neg c34] at H
   exact absurd H (by simp)
  rw [if_pos c34] at H
  have LMc34:=Aside0.mk c34
  clear c34
  obtain ⟨y859,hy859⟩:∃ y_:List (S30),y_=(y856++t850):=⟨_,rfl⟩
  replace H:((r05_Closed.f k2 y859).bind λt862=>(if t862=true then(if (y859.length:Int)=(l0.length:Int) then((w28_awake.f k2).bind λt863=>(some t863)) else(if (t850.length:Int)=(wrap64 (a2)) then((w28_awake.f k2).bind λt864=>(some t864)) else(some false))) else(some false)))=some r:=by first|(rw [hy859];with_reducible exact H)|(have H2_:=(Option.bind_some _ _).symm.trans H;rw [hy859];with_reducible exact H2_)|(have H2_:=(Option.bind_some _ _).symm.trans H;with_reducible exact H2_)|with_reducible exact H|(rw [hy859];exact H)|exact H
  have Ny859:=Aside0.mk hy859
  clear hy859
  replace H:=oB_ H
  obtain ⟨t862,A350,H⟩:=H
  replace H:(if t862=true then(if (y859.length:Int)=(l0.length:Int) then((w28_awake.f k2).bind λt863=>(some t863)) else(if (t850.length:Int)=(wrap64 (a2)) then((w28_awake.f k2).bind λt864=>(some t864)) else(some false))) else(some false))=some r:=H
  have A35:=Aside0.mk A350
  clear A350
  by_cases c36:t862=true
  rotate_left
  ·replace c36:=Bool.eq_false_iff.mpr c36
   subst c36
   have H1:(some false)=some r:=by rw [if_neg (show ¬ (false=true) by decide)] at H;exact H
   exact absurd (HRT_.out.symm.trans (sI_ H1).symm) (by simp)
  subst c36
  have H1:(if (y859.length:Int)=(l0.length:Int) then((w28_awake.f k2).bind λt863=>(some t863)) else(if (t850.length:Int)=(wrap64 (a2)) then((w28_awake.f k2).bind λt864=>(some t864)) else(some false)))=some r:=by rw [if_pos rfl] at H;exact H
  clear H
  have H:=H1
  clear H1
  by_cases c37:(y859.length:Int)=(l0.length:Int)
  ·rw [if_pos c37] at H
   have c37b0:((y859.length:Int) == (l0.length:Int))=true:=beq_iff_eq.mpr c37
   have c37b1:((y859.length:Int) != (l0.length:Int))=false:=bne_eq_false_iff_eq.mpr c37
   have c37b2:(y859.length == l0.length)=true:=by first|simpa using c37|(simp at c37 ⊢;omega)
   clear c37
   replace H:=oB_ H
   obtain ⟨t863,A380,H⟩:=H
   replace H:(some t863)=some r:=H
   have A38:=Aside0.mk A380
   clear A380
   obtain rfl:=sI_ H
   obtain ⟨Ao39,co39,eo39⟩:=Kd.R_slice HO_10.out
   subst eo39
   go_wp2_with (first|((with_reducible refine gate_callee (f:=36) rfl ?_);refine goesL_ (some 62) rfl rfl Try.func36 z3_17 rfl #[.slice A0 l0.length c0,.slice Ao39 x10_2.length co39,.int .i64 (wrap64 (a2))] rfl z6_5 ?_;(with_reducible refine(gossip_Lacks.calls k2 _ _ l0 _ _ x10_2 (wrap64 (a2)) t850 _ ?side1 ?side2 ?side3 ?side4 A32.out).mono ?_);(case side1=>exact z10_9);(case side2=>exact HC0.out);(case side3=>exact z40_7);(case side4=>exact(Kd.R_reads' HO_10.out).2.1);rintro e w40 ⟨v851,rfl,ho0,hb⟩;refine ⟨_,rfl,?_⟩;replace HO_9:=U (Kd.V_elder' z40_4 (Kd.N_base ho0) hb);have HO852:=U (Kd.N_lower (Kd.N_mono (ok':=λk_=>some k_≠(.slice Ao39 x10_2.length co39:Value).ownBlock) ho0 (λk_ hk_=>(Kd.fresh' (Kd.R_lt z40_1) k_ hk_))) (below_size z9_4));replace HO_10:=U (Kd.R_below z40_1 hb);replace HB:=U (below_step z9_4 hb);(try clear hb);(try clear hb2);(try clear hk);(try clear hi);(try clear ho0))|((with_reducible refine gate_dst (N:=63) rfl ?_);(try(refine gate_guard (by rfl) ?_;dsimp only));refine Kd.N_lit k30 _ 30 ?hg (N':=63) ?hd (xs:=([]:List (S30))) (inner:=[]) (ok:=(λk_=>some k_≠(.slice Ao39 x10_2.length co39:Value).ownBlock/\some k_≠(v851:Value).ownBlock)) (okp:=(λk_=>some k_≠(.slice Ao39 x10_2.length co39:Value).ownBlock/\some k_≠(v851:Value).ownBlock)) ?hr ?hp (λ_ hk=>hk) ((show ∀ k_,w40.heap.size<=k_->(λk_=>some k_≠(.slice Ao39 x10_2.length co39:Value).ownBlock/\some k_≠(v851:Value).ownBlock) k_ from λk_ hk=>⟨Kd.fresh' (Kd.R_lt z40_1) k_ hk,Kd.fresh' (Kd.N_lt z40_3) k_ hk⟩) _ (Nat.le_refl _)) (Below.refl _ _) (Nat.le_refl _) (by simp) ?_;(case hd=>rfl);(case hg=>rfl);(case hr=>first|(go_simp;done)|(go_simp;rfl));(case hp=>exact(Reps.none _ _));intro v854 w41 ho42 hb hg_ hnew_;clear hg_ hnew_;(first|rw [<-Ny853.out] at ho42|(simp only [Int.reduceToNat] at ho42;rw [<-Ny853.out] at ho42));replace HO_9:=U (Kd.V_elder' z40_4 (Kd.N_base ho42) hb);replace HO_10:=U (Kd.R_below z40_1 hb);replace HO852:=U (Kd.N_elder' z40_3 (Kd.N_base ho42) hb);have HO855:=U (Kd.N_lower ho42 (below_size z9_4));replace HB:=U (below_step z9_4 hb);clear hb ho42)|((with_reducible refine gate_builtin (b:=.append) (xs:=#[.tmp 63,.tmp 64]) rfl ?_);(try(refine gate_guard (by rfl) ?_;dsimp only));at_builtin;refine Kd.N_append_rows k30 (w0:=w) w.heap.size rfl (.tmp 63) (.tmp 64) 38 30 (.agg #[(.int .i64 0),(.int .i64 0),(.slice none 0 0),(.slice none 0 0)]) 64 rfl Try.underlying38 info30 rfl (by decide) (by omega) v854 y853 y837 _ _ _ (λk_=>some k_≠(.slice Ao39 x10_2.length co39:Value).ownBlock/\some k_≠(v851:Value).ownBlock) (λk_=>((λk_=>some k_≠(.slice Ao39 x10_2.length co39:Value).ownBlock/\some k_≠(v851:Value).ownBlock)) k_/\some k_≠(v854:Value).ownBlock) rfl rfl ?aO ?aR (λ_ hk=>hk) ?aF ?aB ?aS ?aL ?_;(case aR=>exact(by skip;exact Kd.V_F (e:=0) (base:=0) (Kd.V_mono (e:=0) (base:=0) (ok':=(λk_=>((λk_=>some k_≠(.slice Ao39 x10_2.length co39:Value).ownBlock/\some k_≠(v851:Value).ownBlock)) k_/\some k_≠(v854:Value).ownBlock)) (HO_9.out) (λk_ hk=>⟨⟨hk.1.1,hk.1.2⟩,hk.2⟩))));(case aB=>exact z9_4);(case aF=>exact(λk_ hk=>⟨Kd.fresh' (Kd.R_lt z40_1) k_ hk,Kd.fresh' (Kd.N_lt z40_3) k_ hk⟩));(case aO=>exact z40_9);(case aS=>exact(below_size z9_4));(case aL=>have:=LMc33.out;omega);intro v857 w43 ho hb hg hat;rw [<-Ny856.out] at ho;replace HO_9:=U (Kd.V_afterv (ok:=(λk_=>some k_≠(.slice Ao39 x10_2.length co39:Value).ownBlock/\some k_≠(v851:Value).ownBlock)) z40_4 hg hat);replace HO_10:=U (Kd.R_over' z40_1 (Kd.N_typed z40_9) (by decide) hg);replace HO852:=U (Kd.N_afterv (ok:=(λk_=>some k_≠(.slice Ao39 x10_2.length co39:Value).ownBlock)) z40_3 hg hat);replace HB:=U (hb);have HO858:=U (ho);clear HO855;clear ho hb hg hat;obtain ⟨Ao45,co45,eo45⟩:=Kd.N_slice HO852.out;subst eo45)|((with_reducible refine gate_builtin (b:=.append) (xs:=#[.tmp 65,.tmp 66]) rfl ?_);(try(refine gate_guard (by rfl) ?_;dsimp only));at_builtin;refine Kd.N_append_rows k30 (w0:=w) w.heap.size rfl (.tmp 65) (.tmp 66) 38 30 (.agg #[(.int .i64 0),(.int .i64 0),(.slice none 0 0),(.slice none 0 0)]) 64 rfl Try.underlying38 info30 rfl (by decide) (by omega) v857 y856 t850 _ _ _ (λk_=>some k_≠(.slice Ao39 x10_2.length co39:Value).ownBlock) (λk_=>((λk_=>some k_≠(.slice Ao39 x10_2.length co39:Value).ownBlock)) k_/\some k_≠(v857:Value).ownBlock) rfl rfl ?aO ?aR (λ_ hk=>hk) ?aF ?aB ?aS ?aL ?_;(case aR=>exact(by skip;exact Kd.N_F (Kd.N_mono (ok':=(λk_=>((λk_=>some k_≠(.slice Ao39 x10_2.length co39:Value).ownBlock)) k_/\some k_≠(v857:Value).ownBlock)) (HO852.out) (λk_ hk=>⟨hk.1,hk.2⟩))));(case aB=>exact z9_4);(case aF=>exact(λk_ hk=>Kd.fresh' (Kd.R_lt z40_1) k_ hk));(case aO=>exact z40_14);(case aS=>exact(below_size z9_4));(case aL=>have:=LMc34.out;omega);intro v860 w44 ho hb hg hat;rw [<-Ny859.out] at ho;replace HO_9:=U (Kd.V_afterv (ok:=(λk_=>some k_≠(.slice Ao39 x10_2.length co39:Value).ownBlock/\some k_≠(.slice Ao45 t850.length co45:Value).ownBlock)) z40_4 hg hat);replace HO_10:=U (Kd.R_over' z40_1 (Kd.N_typed (by(with_reducible repeat(first|apply Kd.N_alloc|apply Kd.N_drewN|apply Kd.N_drew));exact HO858.out)) (by decide) hg);replace HO852:=U (Kd.N_afterv (ok:=(λk_=>some k_≠(.slice Ao39 x10_2.length co39:Value).ownBlock)) z40_3 hg hat);replace HB:=U (hb);have HO861:=U (ho);clear HO858;clear ho hb hg hat;obtain ⟨Ao46,co46,eo46⟩:=Kd.N_slice HO861.out;subst eo46)|((with_reducible refine gate_callee (f:=37) rfl ?_);refine goesL_ (some 69) rfl rfl Try.func37 z3_17 rfl #[.slice Ao46 y859.length co46] rfl z6_5 ?_;(with_reducible refine(r05_Closed.calls k2 _ _ y859 true _ ?side1 ?side2 A35.out).mono ?_);(case side1=>exact z40_11);(case side2=>exact(Kd.N_reads' HO861.out).2.1);rintro e w47 ⟨rfl,hb⟩;refine ⟨_,rfl,?_⟩;replace HO_9:=U (Kd.V_below z40_4 hb);replace HO_10:=U (Kd.R_below z40_1 hb);replace HO852:=U (Kd.N_below z40_3 hb);replace HO861:=U (Kd.N_below z40_10 hb);replace HB:=U (below_step z9_4 hb);(try clear hb);(try clear hb2);(try clear hk);(try clear hi))|(go_at_call 29;(with_reducible refine(w28_awake.calls k2  t863 _ A38.out).mono ?_);rintro e w48 ⟨rfl,hb⟩;replace HO_9:=U (Kd.V_below z40_4 hb);replace HO_10:=U (Kd.R_below z40_1 hb);replace HO852:=U (Kd.N_below z40_3 hb);replace HO861:=U (Kd.N_below z40_10 hb);replace HB:=U (below_step z9_4 hb);(try clear hb);(try clear hb2);(try clear hk);(try clear hi)))
   go_ret
   exact ⟨z40_12,z9_4⟩
  rw [if_neg c37] at H
  have c37b0:((y859.length:Int) == (l0.length:Int))=false:=beq_eq_false_iff_ne.mpr c37
  have c37b1:((y859.length:Int) != (l0.length:Int))=true:=bne_iff_ne.mpr c37
  have c37b2:(y859.length == l0.length)=false:=by first|simpa using c37|(simp at c37 ⊢;omega)
  by_cases c49:(t850.length:Int)=(wrap64 (a2))
  rotate_left
  ·rw [if_neg c49] at H
   exact absurd (HRT_.out.symm.trans (sI_ H).symm) (by simp)
  rw [if_pos c49] at H
  have c49b0:((t850.length:Int) == (wrap64 (a2)))=true:=beq_iff_eq.mpr c49
  have c49b1:((t850.length:Int) != (wrap64 (a2)))=false:=bne_eq_false_iff_eq.mpr c49
  clear c49
  replace H:=oB_ H
  obtain ⟨t864,A500,H⟩:=H
  replace H:(some t864)=some r:=H
  have A50:=Aside0.mk A500
  clear A500
  obtain rfl:=sI_ H
  obtain ⟨Ao51,co51,eo51⟩:=Kd.R_slice HO_10.out
  subst eo51
  go_wp2_with (first|((with_reducible refine gate_callee (f:=36) rfl ?_);refine goesL_ (some 62) rfl rfl Try.func36 z3_17 rfl #[.slice A0 l0.length c0,.slice Ao51 x10_2.length co51,.int .i64 (wrap64 (a2))] rfl z6_5 ?_;(with_reducible refine(gossip_Lacks.calls k2 _ _ l0 _ _ x10_2 (wrap64 (a2)) t850 _ ?side1 ?side2 ?side3 ?side4 A32.out).mono ?_);(case side1=>exact z10_9);(case side2=>exact HC0.out);(case side3=>exact z40_7);(case side4=>exact(Kd.R_reads' HO_10.out).2.1);rintro e w52 ⟨v851,rfl,ho0,hb⟩;refine ⟨_,rfl,?_⟩;replace HO_9:=U (Kd.V_elder' z40_4 (Kd.N_base ho0) hb);have HO852:=U (Kd.N_lower (Kd.N_mono (ok':=λk_=>some k_≠(.slice Ao51 x10_2.length co51:Value).ownBlock) ho0 (λk_ hk_=>(Kd.fresh' (Kd.R_lt z40_1) k_ hk_))) (below_size z9_4));replace HO_10:=U (Kd.R_below z40_1 hb);replace HB:=U (below_step z9_4 hb);(try clear hb);(try clear hb2);(try clear hk);(try clear hi);(try clear ho0))|((with_reducible refine gate_dst (N:=63) rfl ?_);(try(refine gate_guard (by rfl) ?_;dsimp only));refine Kd.N_lit k30 _ 30 ?hg (N':=63) ?hd (xs:=([]:List (S30))) (inner:=[]) (ok:=(λk_=>some k_≠(.slice Ao51 x10_2.length co51:Value).ownBlock/\some k_≠(v851:Value).ownBlock)) (okp:=(λk_=>some k_≠(.slice Ao51 x10_2.length co51:Value).ownBlock/\some k_≠(v851:Value).ownBlock)) ?hr ?hp (λ_ hk=>hk) ((show ∀ k_,w52.heap.size<=k_->(λk_=>some k_≠(.slice Ao51 x10_2.length co51:Value).ownBlock/\some k_≠(v851:Value).ownBlock) k_ from λk_ hk=>⟨Kd.fresh' (Kd.R_lt z40_1) k_ hk,Kd.fresh' (Kd.N_lt z40_3) k_ hk⟩) _ (Nat.le_refl _)) (Below.refl _ _) (Nat.le_refl _) (by simp) ?_;(case hd=>rfl);(case hg=>rfl);(case hr=>first|(go_simp;done)|(go_simp;rfl));(case hp=>exact(Reps.none _ _));intro v854 w53 ho54 hb hg_ hnew_;clear hg_ hnew_;(first|rw [<-Ny853.out] at ho54|(simp only [Int.reduceToNat] at ho54;rw [<-Ny853.out] at ho54));replace HO_9:=U (Kd.V_elder' z40_4 (Kd.N_base ho54) hb);replace HO_10:=U (Kd.R_below z40_1 hb);replace HO852:=U (Kd.N_elder' z40_3 (Kd.N_base ho54) hb);have HO855:=U (Kd.N_lower ho54 (below_size z9_4));replace HB:=U (below_step z9_4 hb);clear hb ho54)|((with_reducible refine gate_builtin (b:=.append) (xs:=#[.tmp 63,.tmp 64]) rfl ?_);(try(refine gate_guard (by rfl) ?_;dsimp only));at_builtin;refine Kd.N_append_rows k30 (w0:=w) w.heap.size rfl (.tmp 63) (.tmp 64) 38 30 (.agg #[(.int .i64 0),(.int .i64 0),(.slice none 0 0),(.slice none 0 0)]) 64 rfl Try.underlying38 info30 rfl (by decide) (by omega) v854 y853 y837 _ _ _ (λk_=>some k_≠(.slice Ao51 x10_2.length co51:Value).ownBlock/\some k_≠(v851:Value).ownBlock) (λk_=>((λk_=>some k_≠(.slice Ao51 x10_2.length co51:Value).ownBlock/\some k_≠(v851:Value).ownBlock)) k_/\some k_≠(v854:Value).ownBlock) rfl rfl ?aO ?aR (λ_ hk=>hk) ?aF ?aB ?aS ?aL ?_;(case aR=>exact(by skip;exact Kd.V_F (e:=0) (base:=0) (Kd.V_mono (e:=0) (base:=0) (ok':=(λk_=>((λk_=>some k_≠(.slice Ao51 x10_2.length co51:Value).ownBlock/\some k_≠(v851:Value).ownBlock)) k_/\some k_≠(v854:Value).ownBlock)) (HO_9.out) (λk_ hk=>⟨⟨hk.1.1,hk.1.2⟩,hk.2⟩))));(case aB=>exact z9_4);(case aF=>exact(λk_ hk=>⟨Kd.fresh' (Kd.R_lt z40_1) k_ hk,Kd.fresh' (Kd.N_lt z40_3) k_ hk⟩));(case aO=>exact z40_9);(case aS=>exact(below_size z9_4));(case aL=>have:=LMc33.out;omega);intro v857 w55 ho hb hg hat;rw [<-Ny856.out] at ho;replace HO_9:=U (Kd.V_afterv (ok:=(λk_=>some k_≠(.slice Ao51 x10_2.length co51:Value).ownBlock/\some k_≠(v851:Value).ownBlock)) z40_4 hg hat);replace HO_10:=U (Kd.R_over' z40_1 (Kd.N_typed z40_9) (by decide) hg);replace HO852:=U (Kd.N_afterv (ok:=(λk_=>some k_≠(.slice Ao51 x10_2.length co51:Value).ownBlock)) z40_3 hg hat);replace HB:=U (hb);have HO858:=U (ho);clear HO855;clear ho hb hg hat;obtain ⟨Ao57,co57,eo57⟩:=Kd.N_slice HO852.out;subst eo57)|((with_reducible refine gate_builtin (b:=.append) (xs:=#[.tmp 65,.tmp 66]) rfl ?_);(try(refine gate_guard (by rfl) ?_;dsimp only));at_builtin;refine Kd.N_append_rows k30 (w0:=w) w.heap.size rfl (.tmp 65) (.tmp 66) 38 30 (.agg #[(.int .i64 0),(.int .i64 0),(.slice none 0 0),(.slice none 0 0)]) 64 rfl Try.underlying38 info30 rfl (by decide) (by omega) v857 y856 t850 _ _ _ (λk_=>some k_≠(.slice Ao51 x10_2.length co51:Value).ownBlock) (λk_=>((λk_=>some k_≠(.slice Ao51 x10_2.length co51:Value).ownBlock)) k_/\some k_≠(v857:Value).ownBlock) rfl rfl ?aO ?aR (λ_ hk=>hk) ?aF ?aB ?aS ?aL ?_;(case aR=>exact(by skip;exact Kd.N_F (Kd.N_mono (ok':=(λk_=>((λk_=>some k_≠(.slice Ao51 x10_2.length co51:Value).ownBlock)) k_/\some k_≠(v857:Value).ownBlock)) (HO852.out) (λk_ hk=>⟨hk.1,hk.2⟩))));(case aB=>exact z9_4);(case aF=>exact(λk_ hk=>Kd.fresh' (Kd.R_lt z40_1) k_ hk));(case aO=>exact z40_14);(case aS=>exact(below_size z9_4));(case aL=>have:=LMc34.out;omega);intro v860 w56 ho hb hg hat;rw [<-Ny859.out] at ho;replace HO_9:=U (Kd.V_afterv (ok:=(λk_=>some k_≠(.slice Ao51 x10_2.length co51:Value).ownBlock/\some k_≠(.slice Ao57 t850.length co57:Value).ownBlock)) z40_4 hg hat);replace HO_10:=U (Kd.R_over' z40_1 (Kd.N_typed (by(with_reducible repeat(first|apply Kd.N_alloc|apply Kd.N_drewN|apply Kd.N_drew));exact HO858.out)) (by decide) hg);replace HO852:=U (Kd.N_afterv (ok:=(λk_=>some k_≠(.slice Ao51 x10_2.length co51:Value).ownBlock)) z40_3 hg hat);replace HB:=U (hb);have HO861:=U (ho);clear HO858;clear ho hb hg hat;obtain ⟨Ao58,co58,eo58⟩:=Kd.N_slice HO861.out;subst eo58)|((with_reducible refine gate_callee (f:=37) rfl ?_);refine goesL_ (some 69) rfl rfl Try.func37 z3_17 rfl #[.slice Ao58 y859.length co58] rfl z6_5 ?_;(with_reducible refine(r05_Closed.calls k2 _ _ y859 true _ ?side1 ?side2 A35.out).mono ?_);(case side1=>exact z40_11);(case side2=>exact(Kd.N_reads' HO861.out).2.1);rintro e w59 ⟨rfl,hb⟩;refine ⟨_,rfl,?_⟩;replace HO_9:=U (Kd.V_below z40_4 hb);replace HO_10:=U (Kd.R_below z40_1 hb);replace HO852:=U (Kd.N_below z40_3 hb);replace HO861:=U (Kd.N_below z40_10 hb);replace HB:=U (below_step z9_4 hb);(try clear hb);(try clear hb2);(try clear hk);(try clear hi))|(go_at_call 29;(with_reducible refine(w28_awake.calls k2  t864 _ A50.out).mono ?_);rintro e w60 ⟨rfl,hb⟩;replace HO_9:=U (Kd.V_below z40_4 hb);replace HO_10:=U (Kd.R_below z40_1 hb);replace HO852:=U (Kd.N_below z40_3 hb);replace HO861:=U (Kd.N_below z40_10 hb);replace HB:=U (below_step z9_4 hb);(try clear hb);(try clear hb2);(try clear hk);(try clear hi)))
  go_ret
  exact ⟨z40_12,z9_4⟩
 rw [if_pos c25] at H
 have c25b0:decide (x11_2<ji17)=true:=dT_ c25
 clear c25
 by_cases c26:0<=x11_2
 rotate_left
 ·rw [if_neg c26] at H
  exact absurd H (by simp)
 rw [if_pos c26] at H
 have c26b0:decide (0<=x11_2)=true:=dT_ c26
 clear c26
 by_cases c27:x11_2<(y837.length:Int)
 rotate_left
 ·rw [if_neg c27] at H
  exact absurd H (by simp)
 rw [if_pos c27] at H
 have c27b0:decide (x11_2<(y837.length:Int))=true:=dT_ c27
 clear c27
 replace H:=oB_ H
 obtain ⟨t847,A280,H⟩:=H
 replace H:(w28_GossipCloses.l0 k2 l0 a2 ji17 y837 t847 (wrap64 (x11_2+1)))=some r:=H
 have A28:=Aside0.mk A280
 clear A280
 have H':=Aside0.mk H
 clear H
 try go_wp2
 have n0_:=U (Kd.V_drew HO_9.out)
 have n1_:=U (Kd.R_drew HO_10.out)
 have n2_:=U (below_drew1 HB.out)
 clear HO_9
 clear HO_10
 clear HB
 have HO_9:=n0_
 have HO_10:=n1_
 have HB:=n2_
 clear n0_ n1_ n2_
 have p845:0<=(x11_2:Int):=oD_ z6_1
 have q845:x11_2<(y837.length:Int):=oD_ z6_1
 obtain ⟨ad845,A845_2,c845_2,A845_3,c845_3,e845,hx845_0,hx845_1,hx845_2,hx845_3,hl845_2,hi845_2,hl845_3,hi845_3⟩:=at_T30 (Kd.V_reads' HO_9.out).2.2 x11_2 p845 q845
 cases e845
 obtain ⟨ce845,hce845,hMe845,hcc845⟩:=Kd.V_get HO_9.out z30 x11_2 p845 (by first|exact q845|exact oD_ z6_1|(have e_:=(Kd.V_reads' HO_9.out).1;omega))
 obtain ⟨ua845_2,uc845_2,ua845_3,uc845_3,rfl,ul845_2,ge845_2,ul845_3,ge845_3⟩:=k30_openF hMe845
 have hv845_2:=hcc845 2 _ rfl
 rw [add_field _ _ 2 (by omega)] at hv845_2
 replace hv845_2:=sI_ (hv845_2.symm.trans hx845_2)
 injection hv845_2 with hva_ hvn_ hvc_
 rw [hva_] at ge845_2
 rw [hvc_] at ul845_2
 have HL845_2:=U (show Kd.V (Kd.int .i64) 3 _ w.heap.size _ _ ((rd_T30 y837 x11_2).f1) from Kd.V_mk ul845_2 ge845_2)
 clear hva_ hvn_ hvc_ ge845_2 ul845_2
 have hv845_3:=hcc845 3 _ rfl
 rw [add_field _ _ 3 (by omega)] at hv845_3
 replace hv845_3:=sI_ (hv845_3.symm.trans hx845_3)
 injection hv845_3 with hva_ hvn_ hvc_
 rw [hva_] at ge845_3
 rw [hvc_] at ul845_3
 have HL845_3:=U (show Kd.V k48 48 _ w.heap.size _ _ ((rd_T30 y837 x11_2).f2) from Kd.V_mk ul845_3 ge845_3)
 clear hva_ hvn_ hvc_ ge845_3 ul845_3
 clear hcc845 hce845
 have HR845_2:=Aside0.mk hi845_2
 have HC845_2:=Aside0.mk hl845_2
 clear hi845_2 hl845_2
 have HR845_3:=Aside0.mk hi845_3
 have HC845_3:=Aside0.mk hl845_3
 clear hi845_3 hl845_3
 replace p845:=eq_true p845
 replace q845:=eq_true q845
 have p846:0<=(x11_2:Int):=oD_ z6_1
 have q846:x11_2<(y837.length:Int):=oD_ z6_1
 obtain ⟨ad846,A846_2,c846_2,A846_3,c846_3,e846,hx846_0,hx846_1,hx846_2,hx846_3,hl846_2,hi846_2,hl846_3,hi846_3⟩:=at_T30 (Kd.V_reads' HO_9.out).2.2 x11_2 p846 q846
 obtain rfl:ad845=ad846:=(by injection e846)
 obtain ⟨ce846,hce846,hMe846,hcc846⟩:=Kd.V_get HO_9.out z30 x11_2 p846 (by first|exact q846|exact oD_ z6_1|(have e_:=(Kd.V_reads' HO_9.out).1;omega))
 obtain ⟨ua846_2,uc846_2,ua846_3,uc846_3,rfl,ul846_2,ge846_2,ul846_3,ge846_3⟩:=k30_openF hMe846
 have hv846_2:=hcc846 2 _ rfl
 rw [add_field _ _ 2 (by omega)] at hv846_2
 replace hv846_2:=sI_ (hv846_2.symm.trans hx846_2)
 injection hv846_2 with hva_ hvn_ hvc_
 rw [hva_] at ge846_2
 rw [hvc_] at ul846_2
 have HL846_2:=U (show Kd.V (Kd.int .i64) 3 _ w.heap.size _ _ ((rd_T30 y837 x11_2).f1) from Kd.V_mk ul846_2 ge846_2)
 clear hva_ hvn_ hvc_ ge846_2 ul846_2
 have hv846_3:=hcc846 3 _ rfl
 rw [add_field _ _ 3 (by omega)] at hv846_3
 replace hv846_3:=sI_ (hv846_3.symm.trans hx846_3)
 injection hv846_3 with hva_ hvn_ hvc_
 rw [hva_] at ge846_3
 rw [hvc_] at ul846_3
 have HL846_3:=U (show Kd.V k48 48 _ w.heap.size _ _ ((rd_T30 y837 x11_2).f2) from Kd.V_mk ul846_3 ge846_3)
 clear hva_ hvn_ hvc_ ge846_3 ul846_3
 clear hcc846 hce846
 have HR846_2:=Aside0.mk hi846_2
 have HC846_2:=Aside0.mk hl846_2
 clear hi846_2 hl846_2
 have HR846_3:=Aside0.mk hi846_3
 have HC846_3:=Aside0.mk hl846_3
 clear hi846_3 hl846_3
 replace p846:=eq_true p846
 replace q846:=eq_true q846
 have ea_:=sI_ (hx845_2.symm.trans hx846_2)
 injection ea_ with ea_ en_ ec_
 subst ea_
 subst ec_
 clear en_
 have ea_:=sI_ (hx845_3.symm.trans hx846_3)
 injection ea_ with ea_ en_ ec_
 subst ea_
 subst ec_
 clear en_
 obtain ⟨Ao30,co30,eo30⟩:=Kd.R_slice HO_10.out
 (first|subst eo30|(injection eo30 with f1_ f2_ f3_;have f4_:=f1_.symm;have f5_:=f3_.symm;clear f1_ f2_ f3_;subst f4_;subst f5_))
 refine start_ (n:=15) (S:=λw'=>w'.cell? (ad845.add ((x11_2).toNat*4))=some (.int .i64 ((rd_T30 y837 x11_2).f0.f0))/\w'.cell? ⟨(ad845.add ((x11_2).toNat*4)).block,(ad845.add ((x11_2).toNat*4)).off+1,none⟩=some (.int .i64 ((rd_T30 y837 x11_2).f0.f1))/\w'.cell? ⟨(ad845.add ((x11_2).toNat*4)).block,(ad845.add ((x11_2).toNat*4)).off+2,none⟩=some (.slice A845_2 ((rd_T30 y837 x11_2).f1).length c845_2)/\w'.cell? ⟨(ad845.add ((x11_2).toNat*4)).block,(ad845.add ((x11_2).toNat*4)).off+3,none⟩=some (.slice A845_3 ((rd_T30 y837 x11_2).f2).length c845_3)/\w'.cell? (ad845.add ((x11_2).toNat*4))=some (.int .i64 ((rd_T30 y837 x11_2).f0.f0))/\w'.cell? ⟨(ad845.add ((x11_2).toNat*4)).block,(ad845.add ((x11_2).toNat*4)).off+1,none⟩=some (.int .i64 ((rd_T30 y837 x11_2).f0.f1))/\w'.cell? ⟨(ad845.add ((x11_2).toNat*4)).block,(ad845.add ((x11_2).toNat*4)).off+2,none⟩=some (.slice A845_2 ((rd_T30 y837 x11_2).f1).length c845_2)/\w'.cell? ⟨(ad845.add ((x11_2).toNat*4)).block,(ad845.add ((x11_2).toNat*4)).off+3,none⟩=some (.slice A845_3 ((rd_T30 y837 x11_2).f2).length c845_3)) (ds:=[]) #[J,J,J,J,J,J,J,J,J,J,J,J,J,J,J] z3_17 rfl rfl ⟨hx845_0,hx845_1,hx845_2,hx845_3,hx846_0,hx846_1,hx846_2,hx846_3⟩ (λhHeld=>?_);refine with_tabW w28_GossipCloses.tab12 w28_GossipCloses.bits12 (λHT_ HW_=>?_)
 generalize wr.drew=w29 at HO_9 HO_10 HB HL845_2 HL845_3 HL846_2 HL846_3 HR845_2 HR845_3 HR846_2 HR846_3 hx845_0 hx845_1 hx845_2 hx845_3 hx846_0 hx846_1 hx846_2 hx846_3 hHeld ⊢
 refine pure_ (i:=0) (N:=some 44) (v:=?_) (a':=?_) #[Y,J,J,J,J,J,J,J,J,J,J,J,J,J,J] rfl rfl (any_of HT_.out z3_17) (λ_ _ _ h=>h) (Or.inl ⟨(by rfl),?_⟩) ?_ ?_
 rotate_left
 ·intro w'
  go_simp
  with_reducible rfl
 rotate_left
 ·exact z3_3
 refine pure_ (i:=1) (N:=some 45) (v:=?_) (a':=?_) #[Y,Y,J,J,J,J,J,J,J,J,J,J,J,J,J] rfl rfl (any_of HT_.out z3_17) (λ_ _ _ h=>h) (Or.inl ⟨(by rfl),?_⟩) ?_ ?_
 rotate_left
 ·intro w'
  go_simp
  with_reducible rfl
 rotate_left
 ·exact z3_3
 refine pure_ (i:=2) (N:=some 46) (v:=?_) (a':=?_) #[Y,Y,Y,J,J,J,J,J,J,J,J,J,J,J,J] rfl rfl (any_of HT_.out z3_17) (λ_ _ _ h=>h) (Or.inl ⟨(by rfl),?_⟩) ?_ ?_
 rotate_left
 ·intro w'
  go_simp
  with_reducible rfl
 rotate_left
 ·exact z3_3
 refine pure_ (i:=3) (N:=some 47) (v:=?_) (a':=?_) #[Y,Y,Y,Y,J,J,J,J,J,J,J,J,J,J,J] rfl rfl (any_of HT_.out z3_17) (λ_ _ _ h=>h) (Or.inl ⟨(by rfl),?_⟩) ?_ ?_
 rotate_left
 ·intro w'
  go_simp
  with_reducible rfl
 rotate_left
 ·exact z3_3
 refine pure_ (i:=4) (N:=some 48) (v:=?_) (a':=?_) #[Y,Y,Y,Y,Y,J,J,J,J,J,J,J,J,J,J] rfl rfl (any_of HT_.out z3_17) (λ_ _ _ h=>h) (Or.inl ⟨(by rfl),?_⟩) ?_ ?_
 rotate_left
 ·intro w'
  go_simp
  with_reducible rfl
 rotate_left
 ·exact z3_3
 refine pure_ (i:=5) (N:=some 49) (v:=?_) (a':=?_) #[Y,Y,Y,Y,Y,Y,J,J,J,J,J,J,J,J,J] rfl rfl (any_of HT_.out z3_17) (λ_ _ _ h=>h) (Or.inl ⟨(by rfl),?_⟩) ?_ ?_
 rotate_left
 ·intro w'
  go_simp
  with_reducible rfl
 rotate_left
 ·exact z3_3
 refine pure_ (i:=7) (N:=some 51) (v:=?_) (a':=?_) #[Y,Y,Y,Y,Y,Y,J,Y,J,J,J,J,J,J,J] rfl rfl (any_of HT_.out z3_17) (λ_ _ _ h=>h) (Or.inl ⟨(by rfl),?_⟩) ?_ ?_
 rotate_left
 ·intro w'
  go_simp
  with_reducible rfl
 rotate_left
 ·exact z3_3
 refine pure_ (i:=8) (N:=some 52) (v:=?_) (a':=?_) #[Y,Y,Y,Y,Y,Y,J,Y,Y,J,J,J,J,J,J] rfl rfl (any_of HT_.out z3_17) (λ_ _ _ h=>h) (Or.inl ⟨(by rfl),?_⟩) ?_ ?_
 rotate_left
 ·intro w'
  go_simp
  with_reducible rfl
 rotate_left
 ·exact z3_3
 refine pure_ (i:=9) (N:=some 53) (v:=?_) (a':=?_) #[Y,Y,Y,Y,Y,Y,J,Y,Y,Y,J,J,J,J,J] rfl rfl (any_of HT_.out z3_17) (λ_ _ _ h=>h) (Or.inl ⟨(by rfl),?_⟩) ?_ ?_
 rotate_left
 ·intro w'
  go_simp
  with_reducible rfl
 rotate_left
 ·exact z3_3
 refine pure_ (i:=10) (N:=some 54) (v:=?_) (a':=?_) #[Y,Y,Y,Y,Y,Y,J,Y,Y,Y,Y,J,J,J,J] rfl rfl (any_of HT_.out z3_17) (λ_ _ _ h=>h) (Or.inl ⟨(by rfl),?_⟩) ?_ ?_
 rotate_left
 ·intro w'
  go_simp
  with_reducible rfl
 rotate_left
 ·exact z3_3
 refine pure_ (i:=11) (N:=some 55) (v:=?_) (a':=?_) #[Y,Y,Y,Y,Y,Y,J,Y,Y,Y,Y,Y,J,J,J] rfl rfl (any_of HT_.out z3_17) (λ_ _ _ h=>h) (Or.inl ⟨(by rfl),?_⟩) ?_ ?_
 rotate_left
 ·intro w'
  go_simp
  with_reducible rfl
 rotate_left
 ·exact z3_3
 refine take_ (i:=6) (N:=some 50) (v:=?_) (a':=?_) #[Y,Y,Y,Y,Y,Y,Y,Y,Y,Y,Y,Y,J,J,J] rfl rfl (take_ofW HT_.out HW_.out z3_17) (λ_ _ _ h=>h) (Or.inl ⟨(by rfl),?_⟩) hHeld ?_ ?_
 rotate_left
 ·rintro w' ⟨s0,s1,s2,s3,s4,s5,s6,s7⟩
  go_simp
  with_reducible rfl
 rotate_left
 ·exact z3_3
 refine take_ (i:=12) (N:=some 56) (v:=?_) (a':=?_) #[Y,Y,Y,Y,Y,Y,Y,Y,Y,Y,Y,Y,Y,J,J] rfl rfl (take_ofW HT_.out HW_.out z3_17) (λ_ _ _ h=>h) (Or.inl ⟨(by rfl),?_⟩) hHeld ?_ ?_
 rotate_left
 ·rintro w' ⟨s0,s1,s2,s3,s4,s5,s6,s7⟩
  go_simp
  with_reducible rfl
 rotate_left
 ·exact z3_3
 refine one_ (i:=13) (N:=some 57) #[Y,Y,Y,Y,Y,Y,Y,Y,Y,Y,Y,Y,Y,Y,J] rfl rfl (one_of HT_.out z3_17) (by decide) (λK hK=>?_)
 refine goes_ Try.func35 z3_17 rfl #[.slice Ao30 x10_2.length co30,.int .i64 ((rd_T30 y837 x11_2).f0.f0),.int .i64 ((rd_T30 y837 x11_2).f0.f1)] (by rfl) rfl rfl z6_5 ?_
 with_reducible refine(r03_Set.calls k2 _ _ x10_2 ((rd_T30 y837 x11_2).f0.f0) ((rd_T30 y837 x11_2).f0.f1) t847 _ ?side1 ?side2 A28.out).mono ?_
 (case side1=>exact z40_7)
 (case side2=>exact(Kd.R_reads' HO_10.out).2.1)
 rintro e w31 ⟨v848,rfl,ho0,hb⟩
 have HS0_:=(hb.cell (World.block_lt_of_cell? _ _ (hHeld.1))).trans (hHeld.1)
 have HS1_:=(hb.cell (World.block_lt_of_cell? _ _ (hHeld.2.1))).trans (hHeld.2.1)
 have HS2_:=(hb.cell (World.block_lt_of_cell? _ _ (hHeld.2.2.1))).trans (hHeld.2.2.1)
 have HS3_:=(hb.cell (World.block_lt_of_cell? _ _ (hHeld.2.2.2.1))).trans (hHeld.2.2.2.1)
 have HS4_:=(hb.cell (World.block_lt_of_cell? _ _ (hHeld.2.2.2.2.1))).trans (hHeld.2.2.2.2.1)
 have HS5_:=(hb.cell (World.block_lt_of_cell? _ _ (hHeld.2.2.2.2.2.1))).trans (hHeld.2.2.2.2.2.1)
 have HS6_:=(hb.cell (World.block_lt_of_cell? _ _ (hHeld.2.2.2.2.2.2.1))).trans (hHeld.2.2.2.2.2.2.1)
 have HS7_:=(hb.cell (World.block_lt_of_cell? _ _ (hHeld.2.2.2.2.2.2.2))).trans (hHeld.2.2.2.2.2.2.2)
 refine ⟨_,rfl,?_⟩
 have n0_:=U (Kd.V_elder' z40_4 (Kd.R_base ho0) hb)
 have n1_:=U (Kd.R_elder' z40_1 (Kd.R_base ho0) hb)
 have n2_:=U (Kd.V_elder' (by(with_reducible repeat(first|apply Kd.V_alloc|apply Kd.V_drewN|apply Kd.V_drew));exact HL845_2.out) (Kd.R_base ho0) hb)
 have n3_:=U (Kd.V_elder' (by(with_reducible repeat(first|apply Kd.V_alloc|apply Kd.V_drewN|apply Kd.V_drew));exact HL845_3.out) (Kd.R_base ho0) hb)
 have n4_:=U (Kd.V_elder' (by(with_reducible repeat(first|apply Kd.V_alloc|apply Kd.V_drewN|apply Kd.V_drew));exact HL846_2.out) (Kd.R_base ho0) hb)
 have n5_:=U (Kd.V_elder' (by(with_reducible repeat(first|apply Kd.V_alloc|apply Kd.V_drewN|apply Kd.V_drew));exact HL846_3.out) (Kd.R_base ho0) hb)
 have n6_:=U (Kd.R_lower (Kd.R_new' ho0 (Kd.R_lt z40_1)) (below_size z9_4))
 have n7_:=U (Kd.C_below (by repeat(first|(with_reducible exact HR845_2.out)|(with_reducible refine Kd.C_alloc ?_ _)|(with_reducible refine Kd.C_drewN ?_ _)|(with_reducible refine Kd.C_drew ?_)|exact HR845_2.out)) hb)
 have n8_:=U (Kd.C_below (by repeat(first|(with_reducible exact HR845_3.out)|(with_reducible refine Kd.C_alloc ?_ _)|(with_reducible refine Kd.C_drewN ?_ _)|(with_reducible refine Kd.C_drew ?_)|exact HR845_3.out)) hb)
 have n9_:=U (Kd.C_below (by repeat(first|(with_reducible exact HR846_2.out)|(with_reducible refine Kd.C_alloc ?_ _)|(with_reducible refine Kd.C_drewN ?_ _)|(with_reducible refine Kd.C_drew ?_)|exact HR846_2.out)) hb)
 have n10_:=U (Kd.C_below (by repeat(first|(with_reducible exact HR846_3.out)|(with_reducible refine Kd.C_alloc ?_ _)|(with_reducible refine Kd.C_drewN ?_ _)|(with_reducible refine Kd.C_drew ?_)|exact HR846_3.out)) hb)
 have n11_:=U (below_step z9_4 hb)
 clear HO_9
 clear HO_10
 clear HL845_2
 clear HL845_3
 clear HL846_2
 clear HL846_3
 clear HR845_2
 clear HR845_3
 clear HR846_2
 clear HR846_3
 clear HB
 have HO_9:=n0_
 have HO_10:=n1_
 have HL845_2:=n2_
 have HL845_3:=n3_
 have HL846_2:=n4_
 have HL846_3:=n5_
 have HO849:=n6_
 have HR845_2:=n7_
 have HR845_3:=n8_
 have HR846_2:=n9_
 have HR846_3:=n10_
 have HB:=n11_
 clear n0_ n1_ n2_ n3_ n4_ n5_ n6_ n7_ n8_ n9_ n10_ n11_
 (try clear hb)
 (try clear hb2)
 (try clear hk)
 (try clear hi)
 (try clear ho0)
 refine hK.out _ _ ⟨HS0_,HS1_,HS2_,HS3_,HS4_,HS5_,HS6_,HS7_⟩ (λhHeld=>?_)
 clear hK K
 refine norm_ (a':=?_) ?_ ?_
 rotate_left
 ·show Act.put _ (some 57) _=_;simp only [Act.put,List.setIfInBounds_toArray,List.set_cons_zero,List.set_cons_succ,i64_w,i32_w];rfl
 refine pure_ (i:=14) (N:=some 10) (v:=?_) (a':=?_) #[Y,Y,Y,Y,Y,Y,Y,Y,Y,Y,Y,Y,Y,Y,Y] rfl rfl (any_of HT_.out z3_17) (λ_ _ _ h=>h) (Or.inl ⟨(by rfl),?_⟩) ?_ ?_
 rotate_left
 ·intro w'
  go_simp
  with_reducible rfl
 rotate_left
 ·exact z3_3
 refine done_ (done_of HT_.out z3_17) ?_
 try go_wp2
 go_roundg k2
 case measure=>have:=HJ3.out;have:=HK2.out;omega
 case rel=>exact ⟨(t847),(wrap64 (x11_2+1)),z9_3,H',⟨(by have:=HJ3.out;have:=HK2.out;omega)⟩,⟨(by(with_reducible repeat(first|apply Kd.V_alloc|apply Kd.V_drewN|apply Kd.V_drew));exact Kd.V_mono HO_9.out (λ_ hk=>hk.2))⟩,⟨(by(with_reducible repeat(first|apply Kd.R_alloc|apply Kd.R_drewN|apply Kd.R_drew));exact Kd.R_mono HO849.out (λ_ hk=>trivial))⟩,⟨z9_4⟩⟩
end Go.Proofs.Ytgocnchjpecafaa.PEv
