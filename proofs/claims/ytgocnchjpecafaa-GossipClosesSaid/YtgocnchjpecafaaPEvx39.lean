import Derived.Test.YtgocnchjpecafaaPEvx23
import Derived.Test.YtgocnchjpecafaaPEvx2
/- a part -/
namespace Go.Proofs.Ytgocnchjpecafaa.PEv
open Go.RowKit Go.Proofs.YtgocnchjpecafaaW.PrintWords Go.Proofs.YtgocnchjpecafaaW.PrintLast Go.Proofs.YtgocnchjpecafaaW.PrintMore
attribute [local go_sem] max2_int min2_int max_two min_two max_three min_three max_four min_four
set_option linter.unusedVariables false
set_option linter.unusedSimpArgs false
set_option maxHeartbeats 8000000
set_option maxRecDepth 100000
theorem z39_3 {P:Prop} (h:P:=by(with_reducible repeat(first|apply Kd.R_alloc|apply Kd.R_drewN|apply Kd.R_drew));exact HO_6.out):P:=h
theorem z39_4 {P:Prop} (h:P:=by repeat(first|exact(Kd.R_reads' HO_6.out).2.2|(with_reducible refine Kd.C_alloc ?_ _)|(with_reducible refine Kd.C_drewN ?_ _)|(with_reducible refine Kd.C_drew ?_))):P:=h
theorem z39_5 {P:Prop} (h:P:=by(with_reducible repeat(first|apply Kd.N_alloc|apply Kd.N_drewN|apply Kd.N_drew));exact HO_5.out):P:=h
theorem z39_7 {P:Prop} (h:P:=by(with_reducible repeat(first|apply Kd.N_alloc|apply Kd.N_drewN|apply Kd.N_drew));exact HO_8.out):P:=h
theorem z39_9 {P:Prop} (h:P:=by(with_reducible repeat(first|apply Kd.V_alloc|apply Kd.V_drewN|apply Kd.V_drew));exact HO_0.out):P:=h
theorem z39_10 {P:Prop} (h:P:=by repeat(first|exact(by repeat(first|(with_reducible exact HR806_2.out)|(with_reducible refine Kd.C_alloc ?_ _)|(with_reducible refine Kd.C_drewN ?_ _)|(with_reducible refine Kd.C_drew ?_)|exact HR806_2.out))|(with_reducible refine Kd.C_alloc ?_ _)|(with_reducible refine Kd.C_drewN ?_ _)|(with_reducible refine Kd.C_drew ?_))):P:=h
theorem z39_11 {P:Prop} (h:P:=by show Act.put _ (some 39) _=_;simp only [Act.put,List.setIfInBounds_toArray,List.set_cons_zero,List.set_cons_succ,i64_w,i32_w];rfl):P:=h
theorem z39_13 {P:Prop} (h:P:=by first|exact q803|exact oD_ z10_1|(have e_:=(Kd.V_reads' HO_0.out).1;omega)):P:=h
theorem z39_14 {P:Prop} (h:P:=by first|exact q804|exact oD_ z10_1|(have e_:=(Kd.V_reads' HO_0.out).1;omega)):P:=h
theorem z39_15 {P:Prop} (h:P:=by(with_reducible repeat(first|apply Kd.V_alloc|apply Kd.V_drewN|apply Kd.V_drew));exact Kd.V_mono HO_0.out (λ_ hk=>⟨hk.1.1,⟨hk.1.2.1,⟨hk.1.2.2,hk.2⟩⟩⟩)):P:=h
theorem z39_16 {P:Prop} (h:P:=by(with_reducible repeat(first|apply Kd.V_alloc|apply Kd.V_drewN|apply Kd.V_drew));exact Kd.V_mono HO_0.out (λ_ hk=>⟨⟨hk.1,⟨hk.2.2.1,hk.2.2.2⟩⟩,hk.2.1⟩)):P:=h
theorem z39_17 {P:Prop} (h:P:=by exact(Kd.R_reads' HO_6.out).2.1):P:=h
theorem z39_18 {P:Prop} (h:P:=by(with_reducible repeat(first|apply Kd.V_alloc|apply Kd.V_drewN|apply Kd.V_drew));exact Kd.V_mono HO_0.out (λ_ hk=>⟨hk.1.1.1,⟨hk.1.2,hk.2⟩⟩)):P:=h
theorem z39_19 {P:Prop} (h:P:=by(with_reducible repeat(first|apply Kd.N_alloc|apply Kd.N_drewN|apply Kd.N_drew));exact Kd.N_mono HO_5.out (λ_ hk=>⟨hk.1.1,⟨hk.1.2,hk.2⟩⟩)):P:=h
theorem z39_20 {P:Prop} (h:P:=by(with_reducible repeat(first|apply Kd.N_alloc|apply Kd.N_drewN|apply Kd.N_drew));exact Kd.N_mono HO_8.out (λ_ hk=>⟨⟨hk.1,hk.2.2⟩,hk.2.1⟩)):P:=h
theorem z39_21 {P:Prop} (h:P:=by have:=HK1.out;have:=HK2.out;omega):P:=h
theorem z39_22 {P:Prop} (h:P:=by show Act.put _ (some 48) _=_;simp only [Act.put,List.setIfInBounds_toArray,List.set_cons_zero,List.set_cons_succ,i64_w,i32_w];rfl):P:=h
theorem z39_23 {P:Prop} (h:P:=by show Act.put _ (some 93) _=_;simp only [Act.put,List.setIfInBounds_toArray,List.set_cons_zero,List.set_cons_succ,i64_w,i32_w];rfl):P:=h
theorem z39_24 {P:Prop} (h:P:=by exact(λk_ hk=>⟨(.inr (Nat.le_trans (below_size z10_0) hk)),Kd.fresh' (Kd.R_lt z39_3) k_ hk,Kd.fresh' (Kd.N_lt z39_7) k_ hk⟩)):P:=h
theorem z39_25 {P:Prop} (h:P:=by(with_reducible repeat(first|apply Kd.N_alloc|apply Kd.N_drewN|apply Kd.N_drew));exact Kd.N_mono HO_5.out (λ_ hk=>hk.1)):P:=h
mutual
def w08_Turned.l0:Nat->List (S30)->List Int->List (S30)->List Int->Int->Option ((List (S30)))
 | 0,_,_,_,_,_=>none
 | k+1,x0,x1,x5,x6,x7=>if x7<(x0.length:Int) then(w08_Turned.l1 k x0 x1 x5 x6 x7 (([]:List (S30))) 0) else(some x5)
def w08_Turned.l1:Nat->List (S30)->List Int->List (S30)->List Int->Int->List (S30)->Int->Option ((List (S30)))
 | 0,_,_,_,_,_,_,_=>none
 | k+1,x0,x1,x5,x6,x7,x8,x9=>if x9<(x0.length:Int) then(if 0<=x9 then((r03_Get.f k x6 ((rd_T30 x0 x9).f0.f0)).bind λt805=>(if ((rd_T30 x0 x9).f0.f1) > t805 then((r03_Within.f k ((rd_T30 x0 x9).f1) x6).bind λt807=>(if t807=true then(if x8.length<2199023255552 then(w08_Turned.l1 k x0 x1 x5 x6 x7 (x8++[(⟨(⟨(rd_T30 x0 x9).f0.f0,(rd_T30 x0 x9).f0.f1⟩:S25),(rd_T30 x0 x9).f1,(rd_T30 x0 x9).f2⟩:S30)]) (wrap64 (x9+1))) else(none)) else(w08_Turned.l1 k x0 x1 x5 x6 x7 x8 (wrap64 (x9+1))))) else(w08_Turned.l1 k x0 x1 x5 x6 x7 x8 (wrap64 (x9+1))))) else(none)) else(if (x8.length:Int)=0 then(some x5) else(if x7<(x1.length:Int) then(if 0<=x7 then(if 0<=(Int.tmod (wrap64 (rd x1 x7)) (x8.length:Int)) then(if (Int.tmod (wrap64 (rd x1 x7)) (x8.length:Int))<(x8.length:Int) then(if x5.length<2199023255552 then((r03_Set.f k x6 ((rd_T30 x8 (Int.tmod (wrap64 (rd x1 x7)) (x8.length:Int))).f0.f0) ((rd_T30 x8 (Int.tmod (wrap64 (rd x1 x7)) (x8.length:Int))).f0.f1)).bind λt819=>(w08_Turned.l0 k x0 x1 (x5++[(⟨(⟨(rd_T30 x8 (Int.tmod (wrap64 (rd x1 x7)) (x8.length:Int))).f0.f0,(rd_T30 x8 (Int.tmod (wrap64 (rd x1 x7)) (x8.length:Int))).f0.f1⟩:S25),(rd_T30 x8 (Int.tmod (wrap64 (rd x1 x7)) (x8.length:Int))).f1,(rd_T30 x8 (Int.tmod (wrap64 (rd x1 x7)) (x8.length:Int))).f2⟩:S30)]) t819 (wrap64 (x7+1)))) else(none)) else(none)) else(none)) else(none)) else(if 0<(x8.length:Int) then(if x5.length<2199023255552 then((r03_Set.f k x6 ((rd_T30 x8 0).f0.f0) ((rd_T30 x8 0).f0.f1)).bind λt828=>(w08_Turned.l0 k x0 x1 (x5++[(⟨(⟨(rd_T30 x8 0).f0.f0,(rd_T30 x8 0).f0.f1⟩:S25),(rd_T30 x8 0).f1,(rd_T30 x8 0).f2⟩:S30)]) t828 (wrap64 (x7+1)))) else(none)) else(none))))
end
def w08_Turned.f (k:Nat) (l0:List (S30)) (l1:List Int):Option ((List (S30))):=w08_Turned.l0 k l0 l1 (([]:List (S30))) (([]:List Int)) 0
def w08_Turned.T10:Bool×List (List Nat×List Nat):=(true,[([],[]),([],[]),([0,1],[0,1]),([2],[2]),([3],[3]),([4],[4]),([],[]),([],[]),([],[]),([7,8],[7,8]),([9],[9]),([10],[10]),([11],[11]),([6,12],[6,12]),([5,13],[5,13]),([14,13],[14]),([15],[15]),([15],[15]),([16,17,15],[15,16,17]),([18,15],[15,18]),([19,15],[15,19]),([15],[15]),([20,21,15,15],[15,20,21]),([15,22],[15,22])])
def w08_Turned.B10:List Nat:=[0,0,3,7,15,31,0,0,0,384,896,1920,3968,8128,16383,32767,65535,65535,262143,524287,1048575,65535,4194303,8388607]
theorem w08_Turned.tab10:rtab .any (opsOf Try.f34 10)=w08_Turned.T10:=by kernel_rfl
theorem w08_Turned.bits10:waitsOk w08_Turned.T10.2 w08_Turned.B10=true:=by kernel_rfl
def w08_Turned.T18:Bool×List (List Nat×List Nat):=(true,[([],[]),([],[]),([],[]),([1,2],[1,2]),([3],[3]),([4],[4]),([5],[5]),([],[]),([],[]),([7,8],[7,8]),([9],[9]),([10],[10]),([11],[11]),([0,6,12],[0,6,12]),([13,13,0,1,2,3,4,5,6,7,8,9,10,11,12,13],[0,13])])
def w08_Turned.B18:List Nat:=[0,0,0,6,14,30,62,0,0,384,896,1920,3968,8191,16383]
theorem w08_Turned.tab18:rtab .any (opsOf Try.f34 18)=w08_Turned.T18:=by kernel_rfl
theorem w08_Turned.bits18:waitsOk w08_Turned.T18.2 w08_Turned.B18=true:=by kernel_rfl
theorem w08_Turned.calls (k:Nat) (P0_:Nat->Prop) (A0:Option Addr) (c0:Nat) (l0:List (S30)) (A1:Option Addr) (c1:Nat) (l1:List Int) (r:List (S30)) (w:World) (hs0:Kd.V k30 30 w w.heap.size (λk_=>P0_ k_) (.slice A0 l0.length c0) l0) (hr1:Kd.C (Kd.int .u8) w A1 l1.length l1) (hc1:l1.length<=c1) (h:w08_Turned.f k l0 l1=some r) :
  Calls Try.prog 34 #[.slice A0 l0.length c0,.slice A1 l1.length c1] w λe w'=>∃ v0_:Value,e = .returned (v0_)/\Kd.N k30 30 w' w.heap.size (λk_=>(P0_ k_\/w.heap.size<=k_)) v0_ r/\Below w.heap.size w w':=by
 have hu30:=Try.underlying30
 have HO0:=U (show Kd.V k30 30 w w.heap.size (λk_=>(P0_ k_\/w.heap.size<=k_)) (.slice A0 l0.length c0) l0 from Kd.V_mono hs0 (λk_ hk=>.inl hk))
 have HR1:=Aside0.mk hr1
 have HC1:=Aside0.mk hc1
 clear hr1 hc1
 have HB:=U (Below.refl w.heap.size w)
 have H:(w08_Turned.l0 k l0 l1 (([]:List (S30))) (([]:List Int)) 0)=some r:=h
 clear h
 obtain ⟨y794,hy794⟩:∃ y_:List (S30),y_=(([]:List (S30))):=⟨_,rfl⟩
 replace H:(w08_Turned.l0 k l0 l1 y794 (([]:List Int)) 0)=some r:=by first|(rw [hy794];with_reducible exact H)|(have H2_:=(Option.bind_some _ _).symm.trans H;rw [hy794];with_reducible exact H2_)|(have H2_:=(Option.bind_some _ _).symm.trans H;with_reducible exact H2_)|with_reducible exact H|(rw [hy794];exact H)|exact H
 have Ny794:=Aside0.mk hy794
 clear hy794
 obtain ⟨y797,hy797⟩:∃ y_:List Int,y_=(([]:List Int)):=⟨_,rfl⟩
 replace H:(w08_Turned.l0 k l0 l1 y794 y797 0)=some r:=by first|(rw [hy797];with_reducible exact H)|(have H2_:=(Option.bind_some _ _).symm.trans H;rw [hy797];with_reducible exact H2_)|(have H2_:=(Option.bind_some _ _).symm.trans H;with_reducible exact H2_)|with_reducible exact H|(rw [hy797];exact H)|exact H
 have Ny797:=Aside0.mk hy797
 clear hy797
 have H':=Aside0.mk H
 clear H
 go_enter Try.func34,Try.ntmps34
 go_wp2_with (first|((with_reducible refine gate_dst (N:=11) rfl ?_);refine Kd.N_lit k30 _ 30 ?hg (N':=11) ?hd (xs:=([]:List (S30))) (inner:=[]) (ok:=(λk_=>(P0_ k_\/w.heap.size<=k_))) (okp:=(λk_=>(P0_ k_\/w.heap.size<=k_))) ?hr ?hp (λ_ hk=>hk) ((show ∀ k_,w.heap.size<=k_->(λk_=>(P0_ k_\/w.heap.size<=k_)) k_ from λk_ hk=>(.inr (Nat.le_trans (below_size z10_0) hk))) _ (Nat.le_refl _)) (Below.refl _ _) (Nat.le_refl _) (by simp) ?_;(case hd=>rfl);(case hg=>rfl);(case hr=>first|(go_simp;done)|(go_simp;rfl));(case hp=>exact(Reps.none _ _));intro v795 w3 ho4 hb hg_ hnew_;clear hg_ hnew_;(first|rw [<-Ny794.out] at ho4|(simp only [Int.reduceToNat] at ho4;rw [<-Ny794.out] at ho4));replace HO0:=U (Kd.V_elder' (by(with_reducible repeat(first|apply Kd.V_alloc|apply Kd.V_drewN|apply Kd.V_drew));exact HO0.out) (Kd.N_base ho4) hb);have HO796:=U (Kd.N_lower ho4 (below_size z10_0));replace HB:=U (below_step z10_0 hb);clear hb ho4)|((with_reducible refine gate_dst (N:=12) rfl ?_);refine Kd.R_lit (Kd.int .i64) _ 3 ?hg (N:=12) ?hd (xs:=([]:List Int)) (inner:=[]) (ok:=λ_=>True) (okp:=λ_=>True) ?hr ?hp (λ_ hk=>hk) trivial (Below.refl _ _) (Nat.le_refl _) (by simp) ?_;(case hd=>rfl);(case hg=>rfl);(case hr=>first|(go_simp;done)|(go_simp;rfl));(case hp=>exact(Reps.none _ _));intro v798 w5 ho6 hb hg_ hnew_;clear hg_ hnew_;(first|rw [<-Ny797.out] at ho6|(simp only [Int.reduceToNat] at ho6;rw [<-Ny797.out] at ho6));replace HO0:=U (Kd.V_elder' (by(with_reducible repeat(first|apply Kd.V_alloc|apply Kd.V_drewN|apply Kd.V_drew));exact HO0.out) (Kd.R_base ho6) hb);replace HO796:=U (Kd.N_elder' (by(with_reducible repeat(first|apply Kd.N_alloc|apply Kd.N_drewN|apply Kd.N_drew));exact HO796.out) (Kd.R_base ho6) hb);have HO799:=U (Kd.R_lower (Kd.R_newM (M:=λk_=>(w.heap.size<=k_)) ho6 (below_size z10_0) (λk_ h_=>h_)) (below_size z10_0));replace HB:=U (below_step z10_0 hb);clear hb ho6))
 go_loopg [5,6,7] k (λkq v5 v6 v7 w'=>∃ (x5_1:List (S30)) (x6_1:List Int) (x7_1:Int),v7 = .int .i64 x7_1/\Aside0 (w08_Turned.l0 kq l0 l1 x5_1 x6_1 x7_1=some r)/\Aside0 (kq<=k)/\Aside0 (Kd.V k30 30 w' w.heap.size (λk_=>(P0_ k_\/w.heap.size<=k_)/\some k_≠(v5:Value).ownBlock/\some k_≠(v6:Value).ownBlock) (.slice A0 l0.length c0) l0)/\Aside0 (Kd.N k30 30 w' w.heap.size (λk_=>(P0_ k_\/w.heap.size<=k_)/\some k_≠(v6:Value).ownBlock) v5 x5_1)/\Aside0 (Kd.R (Kd.int .i64) 3 w' w.heap.size (λk_=>(w.heap.size<=k_)) v6 x6_1)/\Aside0 (Below w.heap.size w w'))
 case atStart=>exact ⟨(y794),(y797),(0),z10_4,H',⟨Nat.le_refl _⟩,⟨(by(with_reducible repeat(first|apply Kd.V_alloc|apply Kd.V_drewN|apply Kd.V_drew));exact Kd.V_mono HO0.out (λ_ hk=>⟨hk.1.1,⟨hk.1.2,hk.2⟩⟩))⟩,⟨(by(with_reducible repeat(first|apply Kd.N_alloc|apply Kd.N_drewN|apply Kd.N_drew));exact HO796.out)⟩,⟨(by(with_reducible repeat(first|apply Kd.R_alloc|apply Kd.R_drewN|apply Kd.R_drew));exact Kd.R_mono HO799.out (λ_ hk=>hk.1))⟩,⟨z10_0⟩⟩
 case round =>
 clear H'
 try clear c1
 try clear p2
 try clear c3
 obtain ⟨x5_1,x6_1,x7_1,rfl,HA,HK1,HO_0,HO_5,HO_6,HB⟩:=hrel
 cases gk with
 | zero=>exact absurd HA.out (by simp [w08_Turned.l0])
 | succ k1 =>
 have H:=HA.out
 clear HA
 simp only [w08_Turned.l0] at H
 by_cases c7:x7_1<(l0.length:Int)
 rotate_left
 ·rw [if_neg c7] at H
  have c7b0:decide (x7_1<(l0.length:Int))=false:=dF_ c7
  clear c7
  obtain rfl:=sI_ H
  go_wp2
  go_ret
  exact ⟨_,(by first|rfl|(simp [errW_none,errW_some]<;>rfl)|(simp [*,errW_none,errW_some]<;>rfl)),z39_25,z10_0⟩
 rw [if_pos c7] at H
 have c7b0:decide (x7_1<(l0.length:Int))=true:=dT_ c7
 clear c7
 obtain ⟨y800,hy800⟩:∃ y_:List (S30),y_=(([]:List (S30))):=⟨_,rfl⟩
 replace H:(w08_Turned.l1 k1 l0 l1 x5_1 x6_1 x7_1 y800 0)=some r:=by first|(rw [hy800];with_reducible exact H)|(have H2_:=(Option.bind_some _ _).symm.trans H;rw [hy800];with_reducible exact H2_)|(have H2_:=(Option.bind_some _ _).symm.trans H;with_reducible exact H2_)|with_reducible exact H|(rw [hy800];exact H)|exact H
 have Ny800:=Aside0.mk hy800
 clear hy800
 have H':=Aside0.mk H
 clear H
 go_wp2_with (first|((with_reducible refine gate_dst (N:=19) rfl ?_);refine Kd.N_lit k30 _ 30 ?hg (N':=19) ?hd (xs:=([]:List (S30))) (inner:=[]) (ok:=(λk_=>(P0_ k_\/w.heap.size<=k_)/\some k_≠(u5:Value).ownBlock/\some k_≠(u6:Value).ownBlock)) (okp:=(λk_=>(P0_ k_\/w.heap.size<=k_)/\some k_≠(u5:Value).ownBlock/\some k_≠(u6:Value).ownBlock)) ?hr ?hp (λ_ hk=>hk) ((show ∀ k_,wr.heap.size<=k_->(λk_=>(P0_ k_\/w.heap.size<=k_)/\some k_≠(u5:Value).ownBlock/\some k_≠(u6:Value).ownBlock) k_ from λk_ hk=>⟨(.inr (Nat.le_trans (below_size z10_0) hk)),Kd.fresh' (Kd.N_lt z39_5) k_ hk,Kd.fresh' (Kd.R_lt z39_3) k_ hk⟩) _ (Nat.le_refl _)) (Below.refl _ _) (Nat.le_refl _) (by simp) ?_;(case hd=>rfl);(case hg=>rfl);(case hr=>first|(go_simp;done)|(go_simp;rfl));(case hp=>exact(Reps.none _ _));intro v801 w8 ho9 hb hg_ hnew_;clear hg_ hnew_;(first|rw [<-Ny800.out] at ho9|(simp only [Int.reduceToNat] at ho9;rw [<-Ny800.out] at ho9));replace HO_0:=U (Kd.V_elder' z39_9 (Kd.N_base ho9) hb);replace HO_5:=U (Kd.N_elder' z39_5 (Kd.N_base ho9) hb);replace HO_6:=U (Kd.R_below z39_3 hb);have HO802:=U (Kd.N_lower ho9 (below_size z10_0));replace HB:=U (below_step z10_0 hb);clear hb ho9))
 go_loopg [8,9] k1 (λkq v8 v9 w'=>∃ (x8_2:List (S30)) (x9_2:Int),v9 = .int .i64 x9_2/\Aside0 (w08_Turned.l1 kq l0 l1 x5_1 x6_1 x7_1 x8_2 x9_2=some r)/\Aside0 (kq<=k1)/\Aside0 (Kd.V k30 30 w' w.heap.size (λk_=>(P0_ k_\/w.heap.size<=k_)/\some k_≠(u5:Value).ownBlock/\some k_≠(u6:Value).ownBlock/\some k_≠(v8:Value).ownBlock) (.slice A0 l0.length c0) l0)/\Aside0 (Kd.N k30 30 w' w.heap.size (λk_=>(P0_ k_\/w.heap.size<=k_)/\some k_≠(u6:Value).ownBlock/\some k_≠(v8:Value).ownBlock) u5 x5_1)/\Aside0 (Kd.R (Kd.int .i64) 3 w' w.heap.size (λk_=>(w.heap.size<=k_)) u6 x6_1)/\Aside0 (Kd.N k30 30 w' w.heap.size (λk_=>(P0_ k_\/w.heap.size<=k_)/\some k_≠(u5:Value).ownBlock/\some k_≠(u6:Value).ownBlock) v8 x8_2)/\Aside0 (Below w.heap.size w w'))
 case atStart=>exact ⟨(y800),(0),z10_4,H',⟨Nat.le_refl _⟩,⟨z39_15⟩,⟨z39_19⟩,⟨z39_3⟩,⟨(by(with_reducible repeat(first|apply Kd.N_alloc|apply Kd.N_drewN|apply Kd.N_drew));exact HO802.out)⟩,⟨z10_0⟩⟩
 case round =>
 clear H'
 try clear c1
 try clear p2
 try clear c3
 try clear c7
 try clear c7b0
 try clear p2
 obtain ⟨x8_2,x9_2,rfl,HA,HK2,HO_0,HO_5,HO_6,HO_8,HB⟩:=hrel
 cases gk with
 | zero=>exact absurd HA.out (by simp [w08_Turned.l1])
 | succ k2 =>
 have H:=HA.out
 clear HA
 simp only [w08_Turned.l1] at H
 by_cases c10:x9_2<(l0.length:Int)
 rotate_left
 ·rw [if_neg c10] at H
  have c10b0:decide (x9_2<(l0.length:Int))=false:=dF_ c10
  clear c10
  by_cases c24:(x8_2.length:Int)=0
  ·rw [if_pos c24] at H
   have c24b0:((x8_2.length:Int) == 0)=true:=beq_iff_eq.mpr c24
   have c24b1:((x8_2.length:Int) != 0)=false:=bne_eq_false_iff_eq.mpr c24
   clear c24
   obtain rfl:=sI_ H
   obtain ⟨Ao25,co25,eo25⟩:=Kd.N_slice HO_8.out
   subst eo25
   go_wp2
   go_ret
   exact ⟨_,(by first|rfl|(simp [errW_none,errW_some]<;>rfl)|(simp [*,errW_none,errW_some]<;>rfl)),z39_25,z10_0⟩
  rw [if_neg c24] at H
  have c24b0:((x8_2.length:Int) == 0)=false:=beq_eq_false_iff_ne.mpr c24
  have c24b1:((x8_2.length:Int) != 0)=true:=bne_iff_ne.mpr c24
  have c24b2:¬ (x8_2=[]):=λh_=>c24 (by rw [h_];rfl)
  by_cases c26:x7_1<(l1.length:Int)
  ·rw [if_pos c26] at H
   have c26b0:decide (x7_1<(l1.length:Int))=true:=dT_ c26
   clear c26
   by_cases c27:0<=x7_1
   rotate_left
   ·rw [if_neg c27] at H
    exact absurd H (by simp)
   rw [if_pos c27] at H
   have c27b0:decide (0<=x7_1)=true:=dT_ c27
   clear c27
   obtain ⟨ji28,hji28⟩:∃ j_:Int,(Int.tmod (wrap64 (rd l1 x7_1)) (x8_2.length:Int))=j_:=⟨_,rfl⟩
   replace H:(if 0<=(ji28) then(if (ji28)<(x8_2.length:Int) then(if x5_1.length<2199023255552 then((r03_Set.f k2 x6_1 ((rd_T30 x8_2 (ji28)).f0.f0) ((rd_T30 x8_2 (ji28)).f0.f1)).bind λt819=>(w08_Turned.l0 k2 l0 l1 (x5_1++[(⟨(⟨(rd_T30 x8_2 (ji28)).f0.f0,(rd_T30 x8_2 (ji28)).f0.f1⟩:S25),(rd_T30 x8_2 (ji28)).f1,(rd_T30 x8_2 (ji28)).f2⟩:S30)]) t819 (wrap64 (x7_1+1)))) else(none)) else(none)) else(none))=some r:=by first|(rw [hji28] at H;exact H)|(simp only [hji28] at H ⊢;exact H)
   by_cases c29:0<=(ji28)
   rotate_left
   ·rw [if_neg c29] at H
    exact absurd H (by simp)
   rw [if_pos c29] at H
   have c29b0:decide (0<=(ji28))=true:=dT_ c29
   clear c29
   by_cases c30:(ji28)<(x8_2.length:Int)
   rotate_left
   ·rw [if_neg c30] at H
    exact absurd H (by simp)
   rw [if_pos c30] at H
   have c30b0:decide ((ji28)<(x8_2.length:Int))=true:=dT_ c30
   clear c30
   by_cases c31:x5_1.length<2199023255552
   rotate_left
   ·rw [if_neg c31] at H
    exact absurd H (by simp)
   rw [if_pos c31] at H
   have LMc31:=Aside0.mk c31
   clear c31
   obtain ⟨y814,hy814⟩:∃ y_:List (S30),y_=(x5_1++[(⟨(⟨(rd_T30 x8_2 (ji28)).f0.f0,(rd_T30 x8_2 (ji28)).f0.f1⟩:S25),(rd_T30 x8_2 (ji28)).f1,(rd_T30 x8_2 (ji28)).f2⟩:S30)]):=⟨_,rfl⟩
   replace H:((r03_Set.f k2 x6_1 ((rd_T30 x8_2 (ji28)).f0.f0) ((rd_T30 x8_2 (ji28)).f0.f1)).bind λt819=>(w08_Turned.l0 k2 l0 l1 y814 t819 (wrap64 (x7_1+1))))=some r:=by first|(rw [hy814];with_reducible exact H)|(have H2_:=(Option.bind_some _ _).symm.trans H;rw [hy814];with_reducible exact H2_)|(have H2_:=(Option.bind_some _ _).symm.trans H;with_reducible exact H2_)|with_reducible exact H|(rw [hy814];exact H)|exact H
   have Ny814:=Aside0.mk hy814
   clear hy814
   replace H:=oB_ H
   obtain ⟨t819,A320,H⟩:=H
   replace H:(w08_Turned.l0 k2 l0 l1 y814 t819 (wrap64 (x7_1+1)))=some r:=H
   have A32:=Aside0.mk A320
   clear A320
   have H':=Aside0.mk H
   clear H
   obtain ⟨Ao33,co33,eo33⟩:=Kd.N_slice HO_8.out
   subst eo33
   have p812:0<=(x7_1:Int):=oD_ z10_1
   have q812:x7_1<(l1.length:Int):=oD_ z10_1
   obtain ⟨ad812,e812,hx812_0⟩:=Kd.at_int HR1.out x7_1 p812 q812
   cases e812
   replace hx812_0:=(HB.out.cell (World.block_lt_of_cell? w _ hx812_0)).trans hx812_0
   replace p812:=eq_true p812
   replace q812:=eq_true q812
   have p813:0<=((ji28):Int):=oD_ z10_1
   have q813:(ji28)<(x8_2.length:Int):=oD_ z10_1
   obtain ⟨ad813,A813_2,c813_2,A813_3,c813_3,e813,hx813_0,hx813_1,hx813_2,hx813_3,hl813_2,hi813_2,hl813_3,hi813_3⟩:=at_T30 (Kd.N_reads' HO_8.out).2.2 (ji28) p813 q813
   cases e813
   obtain ⟨ce813,hce813,hMe813,hcc813⟩:=Kd.N_get HO_8.out z30 (ji28) p813 (by first|exact q813|exact oD_ z10_1|(have e_:=(Kd.N_reads' HO_8.out).1;omega))
   obtain ⟨ua813_2,uc813_2,ua813_3,uc813_3,rfl,ul813_2,ge813_2,ul813_3,ge813_3⟩:=k30_openF hMe813
   have hv813_2:=hcc813 2 _ rfl
   rw [add_field _ _ 2 (by omega)] at hv813_2
   replace hv813_2:=sI_ (hv813_2.symm.trans hx813_2)
   injection hv813_2 with hva_ hvn_ hvc_
   rw [hva_] at ge813_2
   rw [hvc_] at ul813_2
   have HL813_2:=U (show Kd.V (Kd.int .i64) 3 _ w.heap.size _ _ ((rd_T30 x8_2 (ji28)).f1) from Kd.V_mk ul813_2 ge813_2)
   clear hva_ hvn_ hvc_ ge813_2 ul813_2
   have hv813_3:=hcc813 3 _ rfl
   rw [add_field _ _ 3 (by omega)] at hv813_3
   replace hv813_3:=sI_ (hv813_3.symm.trans hx813_3)
   injection hv813_3 with hva_ hvn_ hvc_
   rw [hva_] at ge813_3
   rw [hvc_] at ul813_3
   have HL813_3:=U (show Kd.V k48 48 _ w.heap.size _ _ ((rd_T30 x8_2 (ji28)).f2) from Kd.V_mk ul813_3 ge813_3)
   clear hva_ hvn_ hvc_ ge813_3 ul813_3
   clear hcc813 hce813
   have HR813_2:=Aside0.mk hi813_2
   have HC813_2:=Aside0.mk hl813_2
   clear hi813_2 hl813_2
   have HR813_3:=Aside0.mk hi813_3
   have HC813_3:=Aside0.mk hl813_3
   clear hi813_3 hl813_3
   replace p813:=eq_true p813
   replace q813:=eq_true q813
   try go_wp2_with (first|((with_reducible refine gate_builtin (b:=.append) (xs:=#[.tmp 73,.tmp 78]) rfl ?_);at_builtin;refine Kd.N_append k30 (w0:=w) w.heap.size rfl (.tmp 73) (.tmp 78) 38 30 (.agg #[(.int .i64 0),(.int .i64 0),(.slice none 0 0),(.slice none 0 0)]) 64 rfl Try.underlying38 info30 rfl (by decide) (by omega) u5 x5_1 (⟨(⟨(rd_T30 x8_2 (ji28)).f0.f0,(rd_T30 x8_2 (ji28)).f0.f1⟩:S25),(rd_T30 x8_2 (ji28)).f1,(rd_T30 x8_2 (ji28)).f2⟩:S30) [.int .i64 ((rd_T30 x8_2 (ji28)).f0.f0),.int .i64 ((rd_T30 x8_2 (ji28)).f0.f1),.slice A813_2 ((rd_T30 x8_2 (ji28)).f1).length c813_2,.slice A813_3 ((rd_T30 x8_2 (ji28)).f2).length c813_3] (λk_=>(P0_ k_\/w.heap.size<=k_)/\some k_≠(u6:Value).ownBlock/\some k_≠(.slice (some ad813) x8_2.length co33:Value).ownBlock) (λk_=>((λk_=>(P0_ k_\/w.heap.size<=k_)/\some k_≠(u6:Value).ownBlock/\some k_≠(.slice (some ad813) x8_2.length co33:Value).ownBlock)) k_/\some k_≠(u5:Value).ownBlock) rfl rfl ?aP (λ_ hk=>hk) ?aF ?aO ?aB ?aS ?aL ?_;(case aP=>exact(k30_mkF _ _ (⟨(⟨(rd_T30 x8_2 (ji28)).f0.f0,(rd_T30 x8_2 (ji28)).f0.f1⟩:S25),(rd_T30 x8_2 (ji28)).f1,(rd_T30 x8_2 (ji28)).f2⟩:S30) (Kd.V_reads' (e:=0) (base:=0) (Kd.V_mono (e:=0) (base:=0) (ok':=(λk_=>((λk_=>(P0_ k_\/w.heap.size<=k_)/\some k_≠(u6:Value).ownBlock/\some k_≠(.slice (some ad813) x8_2.length co33:Value).ownBlock)) k_/\some k_≠(u5:Value).ownBlock)) (HL813_2.out) (λk_ hk=>⟨⟨hk.1.1,⟨hk.1.2.2,hk.2⟩⟩,hk.1.2.1⟩))).2.1 (Kd.V_F (e:=0) (base:=0) (Kd.V_mono (e:=0) (base:=0) (ok':=(λk_=>((λk_=>(P0_ k_\/w.heap.size<=k_)/\some k_≠(u6:Value).ownBlock/\some k_≠(.slice (some ad813) x8_2.length co33:Value).ownBlock)) k_/\some k_≠(u5:Value).ownBlock)) (HL813_2.out) (λk_ hk=>⟨⟨hk.1.1,⟨hk.1.2.2,hk.2⟩⟩,hk.1.2.1⟩))) (Kd.V_reads' (e:=0) (base:=0) (Kd.V_mono (e:=0) (base:=0) (ok':=(λk_=>((λk_=>(P0_ k_\/w.heap.size<=k_)/\some k_≠(u6:Value).ownBlock/\some k_≠(.slice (some ad813) x8_2.length co33:Value).ownBlock)) k_/\some k_≠(u5:Value).ownBlock)) (HL813_3.out) (λk_ hk=>⟨⟨hk.1.1,⟨hk.1.2.2,hk.2⟩⟩,hk.1.2.1⟩))).2.1 (Kd.V_F (e:=0) (base:=0) (Kd.V_mono (e:=0) (base:=0) (ok':=(λk_=>((λk_=>(P0_ k_\/w.heap.size<=k_)/\some k_≠(u6:Value).ownBlock/\some k_≠(.slice (some ad813) x8_2.length co33:Value).ownBlock)) k_/\some k_≠(u5:Value).ownBlock)) (HL813_3.out) (λk_ hk=>⟨⟨hk.1.1,⟨hk.1.2.2,hk.2⟩⟩,hk.1.2.1⟩)))));(case aB=>exact z10_0);(case aF=>exact z39_24);(case aO=>exact z39_5);(case aS=>exact(below_size z10_0));(case aL=>have:=LMc31.out;omega);intro v815 w34 ho hb hg hat;rw [<-Ny814.out] at ho;replace HO_0:=U (Kd.V_afterv (ok:=(λk_=>(P0_ k_\/w.heap.size<=k_)/\some k_≠(u6:Value).ownBlock/\some k_≠(.slice (some ad813) x8_2.length co33:Value).ownBlock)) z39_16 hg hat);replace HO_6:=U (Kd.R_over' z39_3 (Kd.N_typed z39_5) (by decide) hg);replace HO_8:=U (Kd.N_afterv (ok:=(λk_=>(P0_ k_\/w.heap.size<=k_)/\some k_≠(u6:Value).ownBlock)) z39_20 hg hat);replace HL813_2:=U (Kd.V_afterv (ok:=(λk_=>(P0_ k_\/w.heap.size<=k_)/\some k_≠(u6:Value).ownBlock/\some k_≠(.slice (some ad813) x8_2.length co33:Value).ownBlock)) (by(with_reducible repeat(first|apply Kd.V_alloc|apply Kd.V_drewN|apply Kd.V_drew));exact Kd.V_mono HL813_2.out (λ_ hk=>⟨⟨hk.1.1,⟨hk.1.2.2,hk.2⟩⟩,hk.1.2.1⟩)) hg hat);replace HL813_3:=U (Kd.V_afterv (ok:=(λk_=>(P0_ k_\/w.heap.size<=k_)/\some k_≠(u6:Value).ownBlock/\some k_≠(.slice (some ad813) x8_2.length co33:Value).ownBlock)) (by(with_reducible repeat(first|apply Kd.V_alloc|apply Kd.V_drewN|apply Kd.V_drew));exact Kd.V_mono HL813_3.out (λ_ hk=>⟨⟨hk.1.1,⟨hk.1.2.2,hk.2⟩⟩,hk.1.2.1⟩)) hg hat);replace HB:=U (hb);have HO816:=U (ho);clear HO_5;clear ho hb hg hat))
   have n0_:=U (Kd.V_drew HO_0.out)
   have n1_:=U (Kd.R_drew HO_6.out)
   have n2_:=U (Kd.N_drew HO_8.out)
   have n3_:=U (Kd.V_drew HL813_2.out)
   have n4_:=U (Kd.V_drew HL813_3.out)
   have n5_:=U (Kd.N_drew HO816.out)
   have n6_:=U (below_drew1 HB.out)
   clear HO_0
   clear HO_6
   clear HO_8
   clear HL813_2
   clear HL813_3
   clear HO816
   clear HB
   have HO_0:=n0_
   have HO_6:=n1_
   have HO_8:=n2_
   have HL813_2:=n3_
   have HL813_3:=n4_
   have HO816:=n5_
   have HB:=n6_
   clear n0_ n1_ n2_ n3_ n4_ n5_ n6_
   have p817:0<=((ji28):Int):=oD_ z10_1
   have q817:(ji28)<(x8_2.length:Int):=oD_ z10_1
   obtain ⟨ad817,A817_2,c817_2,A817_3,c817_3,e817,hx817_0,hx817_1,hx817_2,hx817_3,hl817_2,hi817_2,hl817_3,hi817_3⟩:=at_T30 (Kd.N_reads' HO_8.out).2.2 (ji28) p817 q817
   obtain rfl:ad813=ad817:=(by injection e817)
   obtain ⟨ce817,hce817,hMe817,hcc817⟩:=Kd.N_get HO_8.out z30 (ji28) p817 (by first|exact q817|exact oD_ z10_1|(have e_:=(Kd.N_reads' HO_8.out).1;omega))
   obtain ⟨ua817_2,uc817_2,ua817_3,uc817_3,rfl,ul817_2,ge817_2,ul817_3,ge817_3⟩:=k30_openF hMe817
   have hv817_2:=hcc817 2 _ rfl
   rw [add_field _ _ 2 (by omega)] at hv817_2
   replace hv817_2:=sI_ (hv817_2.symm.trans hx817_2)
   injection hv817_2 with hva_ hvn_ hvc_
   rw [hva_] at ge817_2
   rw [hvc_] at ul817_2
   have HL817_2:=U (show Kd.V (Kd.int .i64) 3 _ w.heap.size _ _ ((rd_T30 x8_2 (ji28)).f1) from Kd.V_mk ul817_2 ge817_2)
   clear hva_ hvn_ hvc_ ge817_2 ul817_2
   have hv817_3:=hcc817 3 _ rfl
   rw [add_field _ _ 3 (by omega)] at hv817_3
   replace hv817_3:=sI_ (hv817_3.symm.trans hx817_3)
   injection hv817_3 with hva_ hvn_ hvc_
   rw [hva_] at ge817_3
   rw [hvc_] at ul817_3
   have HL817_3:=U (show Kd.V k48 48 _ w.heap.size _ _ ((rd_T30 x8_2 (ji28)).f2) from Kd.V_mk ul817_3 ge817_3)
   clear hva_ hvn_ hvc_ ge817_3 ul817_3
   clear hcc817 hce817
   have HR817_2:=Aside0.mk hi817_2
   have HC817_2:=Aside0.mk hl817_2
   clear hi817_2 hl817_2
   have HR817_3:=Aside0.mk hi817_3
   have HC817_3:=Aside0.mk hl817_3
   clear hi817_3 hl817_3
   replace p817:=eq_true p817
   replace q817:=eq_true q817
   have p818:0<=((ji28):Int):=oD_ z10_1
   have q818:(ji28)<(x8_2.length:Int):=oD_ z10_1
   obtain ⟨ad818,A818_2,c818_2,A818_3,c818_3,e818,hx818_0,hx818_1,hx818_2,hx818_3,hl818_2,hi818_2,hl818_3,hi818_3⟩:=at_T30 (Kd.N_reads' HO_8.out).2.2 (ji28) p818 q818
   obtain rfl:ad813=ad818:=(by injection e818)
   obtain ⟨ce818,hce818,hMe818,hcc818⟩:=Kd.N_get HO_8.out z30 (ji28) p818 (by first|exact q818|exact oD_ z10_1|(have e_:=(Kd.N_reads' HO_8.out).1;omega))
   obtain ⟨ua818_2,uc818_2,ua818_3,uc818_3,rfl,ul818_2,ge818_2,ul818_3,ge818_3⟩:=k30_openF hMe818
   have hv818_2:=hcc818 2 _ rfl
   rw [add_field _ _ 2 (by omega)] at hv818_2
   replace hv818_2:=sI_ (hv818_2.symm.trans hx818_2)
   injection hv818_2 with hva_ hvn_ hvc_
   rw [hva_] at ge818_2
   rw [hvc_] at ul818_2
   have HL818_2:=U (show Kd.V (Kd.int .i64) 3 _ w.heap.size _ _ ((rd_T30 x8_2 (ji28)).f1) from Kd.V_mk ul818_2 ge818_2)
   clear hva_ hvn_ hvc_ ge818_2 ul818_2
   have hv818_3:=hcc818 3 _ rfl
   rw [add_field _ _ 3 (by omega)] at hv818_3
   replace hv818_3:=sI_ (hv818_3.symm.trans hx818_3)
   injection hv818_3 with hva_ hvn_ hvc_
   rw [hva_] at ge818_3
   rw [hvc_] at ul818_3
   have HL818_3:=U (show Kd.V k48 48 _ w.heap.size _ _ ((rd_T30 x8_2 (ji28)).f2) from Kd.V_mk ul818_3 ge818_3)
   clear hva_ hvn_ hvc_ ge818_3 ul818_3
   clear hcc818 hce818
   have HR818_2:=Aside0.mk hi818_2
   have HC818_2:=Aside0.mk hl818_2
   clear hi818_2 hl818_2
   have HR818_3:=Aside0.mk hi818_3
   have HC818_3:=Aside0.mk hl818_3
   clear hi818_3 hl818_3
   replace p818:=eq_true p818
   replace q818:=eq_true q818
   have ea_:=sI_ (hx817_2.symm.trans hx818_2)
   injection ea_ with ea_ en_ ec_
   subst ea_
   subst ec_
   clear en_
   have ea_:=sI_ (hx817_3.symm.trans hx818_3)
   injection ea_ with ea_ en_ ec_
   subst ea_
   subst ec_
   clear en_
   obtain ⟨Ao36,co36,eo36⟩:=Kd.R_slice HO_6.out
   (first|subst eo36|(injection eo36 with f1_ f2_ f3_;have f4_:=f1_.symm;have f5_:=f3_.symm;clear f1_ f2_ f3_;subst f4_;subst f5_))
   refine start_ (n:=15) (S:=λw'=>w'.cell? (ad813.add (((ji28)).toNat*4))=some (.int .i64 ((rd_T30 x8_2 (ji28)).f0.f0))/\w'.cell? ⟨(ad813.add (((ji28)).toNat*4)).block,(ad813.add (((ji28)).toNat*4)).off+1,none⟩=some (.int .i64 ((rd_T30 x8_2 (ji28)).f0.f1))/\w'.cell? ⟨(ad813.add (((ji28)).toNat*4)).block,(ad813.add (((ji28)).toNat*4)).off+2,none⟩=some (.slice A817_2 ((rd_T30 x8_2 (ji28)).f1).length c817_2)/\w'.cell? ⟨(ad813.add (((ji28)).toNat*4)).block,(ad813.add (((ji28)).toNat*4)).off+3,none⟩=some (.slice A817_3 ((rd_T30 x8_2 (ji28)).f2).length c817_3)/\w'.cell? (ad813.add (((ji28)).toNat*4))=some (.int .i64 ((rd_T30 x8_2 (ji28)).f0.f0))/\w'.cell? ⟨(ad813.add (((ji28)).toNat*4)).block,(ad813.add (((ji28)).toNat*4)).off+1,none⟩=some (.int .i64 ((rd_T30 x8_2 (ji28)).f0.f1))/\w'.cell? ⟨(ad813.add (((ji28)).toNat*4)).block,(ad813.add (((ji28)).toNat*4)).off+2,none⟩=some (.slice A817_2 ((rd_T30 x8_2 (ji28)).f1).length c817_2)/\w'.cell? ⟨(ad813.add (((ji28)).toNat*4)).block,(ad813.add (((ji28)).toNat*4)).off+3,none⟩=some (.slice A817_3 ((rd_T30 x8_2 (ji28)).f2).length c817_3)) (ds:=[]) #[J,J,J,J,J,J,J,J,J,J,J,J,J,J,J] z3_17 rfl rfl ⟨hx817_0,hx817_1,hx817_2,hx817_3,hx818_0,hx818_1,hx818_2,hx818_3⟩ (λhHeld=>?_);refine with_tabW w08_Turned.tab18 w08_Turned.bits18 (λHT_ HW_=>?_)
   generalize w34.drew=w35 at HO_0 HO_6 HO_8 HL813_2 HL813_3 HO816 HB HL817_2 HL817_3 HL818_2 HL818_3 HR817_2 HR817_3 HR818_2 HR818_3 hx817_0 hx817_1 hx817_2 hx817_3 hx818_0 hx818_1 hx818_2 hx818_3 hHeld ⊢
   refine pure_ (i:=0) (N:=some 80) (v:=?_) (a':=?_) #[Y,J,J,J,J,J,J,J,J,J,J,J,J,J,J] rfl rfl (any_of HT_.out z3_17) (λ_ _ _ h=>h) (Or.inl ⟨(by rfl),?_⟩) ?_ ?_
   rotate_left
   ·intro w'
    go_simp
    with_reducible rfl
   rotate_left
   ·exact z3_3
   refine pure_ (i:=1) (N:=some 81) (v:=?_) (a':=?_) #[Y,Y,J,J,J,J,J,J,J,J,J,J,J,J,J] rfl rfl (any_of HT_.out z3_17) (λ_ _ _ h=>h) (Or.inl ⟨(by rfl),?_⟩) ?_ ?_
   rotate_left
   ·intro w'
    go_simp
    with_reducible rfl
   rotate_left
   ·exact z3_3
   refine pure_ (i:=2) (N:=some 82) (v:=?_) (a':=?_) #[Y,Y,Y,J,J,J,J,J,J,J,J,J,J,J,J] rfl rfl (any_of HT_.out z3_17) (λ_ _ _ h=>h) (Or.inl ⟨(by rfl),?_⟩) ?_ ?_
   rotate_left
   ·intro w'
    go_simp
    with_reducible rfl
   rotate_left
   ·exact z3_3
   refine pure_ (i:=3) (N:=some 83) (v:=?_) (a':=?_) #[Y,Y,Y,Y,J,J,J,J,J,J,J,J,J,J,J] rfl rfl (any_of HT_.out z3_17) (λ_ _ _ h=>h) (Or.inl ⟨(by rfl),?_⟩) ?_ ?_
   rotate_left
   ·intro w'
    go_simp
    with_reducible rfl
   rotate_left
   ·exact z3_3
   refine pure_ (i:=4) (N:=some 84) (v:=?_) (a':=?_) #[Y,Y,Y,Y,Y,J,J,J,J,J,J,J,J,J,J] rfl rfl (any_of HT_.out z3_17) (λ_ _ _ h=>h) (Or.inl ⟨(by rfl),?_⟩) ?_ ?_
   rotate_left
   ·intro w'
    go_simp
    with_reducible rfl
   rotate_left
   ·exact z3_3
   refine pure_ (i:=5) (N:=some 85) (v:=?_) (a':=?_) #[Y,Y,Y,Y,Y,Y,J,J,J,J,J,J,J,J,J] rfl rfl (any_of HT_.out z3_17) (λ_ _ _ h=>h) (Or.inl ⟨(by rfl),?_⟩) ?_ ?_
   rotate_left
   ·intro w'
    go_simp
    with_reducible rfl
   rotate_left
   ·exact z3_3
   refine pure_ (i:=7) (N:=some 87) (v:=?_) (a':=?_) #[Y,Y,Y,Y,Y,Y,J,Y,J,J,J,J,J,J,J] rfl rfl (any_of HT_.out z3_17) (λ_ _ _ h=>h) (Or.inl ⟨(by rfl),?_⟩) ?_ ?_
   rotate_left
   ·intro w'
    go_simp
    with_reducible rfl
   rotate_left
   ·exact z3_3
   refine pure_ (i:=8) (N:=some 88) (v:=?_) (a':=?_) #[Y,Y,Y,Y,Y,Y,J,Y,Y,J,J,J,J,J,J] rfl rfl (any_of HT_.out z3_17) (λ_ _ _ h=>h) (Or.inl ⟨(by rfl),?_⟩) ?_ ?_
   rotate_left
   ·intro w'
    go_simp
    with_reducible rfl
   rotate_left
   ·exact z3_3
   refine pure_ (i:=9) (N:=some 89) (v:=?_) (a':=?_) #[Y,Y,Y,Y,Y,Y,J,Y,Y,Y,J,J,J,J,J] rfl rfl (any_of HT_.out z3_17) (λ_ _ _ h=>h) (Or.inl ⟨(by rfl),?_⟩) ?_ ?_
   rotate_left
   ·intro w'
    go_simp
    with_reducible rfl
   rotate_left
   ·exact z3_3
   refine pure_ (i:=10) (N:=some 90) (v:=?_) (a':=?_) #[Y,Y,Y,Y,Y,Y,J,Y,Y,Y,Y,J,J,J,J] rfl rfl (any_of HT_.out z3_17) (λ_ _ _ h=>h) (Or.inl ⟨(by rfl),?_⟩) ?_ ?_
   rotate_left
   ·intro w'
    go_simp
    with_reducible rfl
   rotate_left
   ·exact z3_3
   refine pure_ (i:=11) (N:=some 91) (v:=?_) (a':=?_) #[Y,Y,Y,Y,Y,Y,J,Y,Y,Y,Y,Y,J,J,J] rfl rfl (any_of HT_.out z3_17) (λ_ _ _ h=>h) (Or.inl ⟨(by rfl),?_⟩) ?_ ?_
   rotate_left
   ·intro w'
    go_simp
    with_reducible rfl
   rotate_left
   ·exact z3_3
   refine take_ (i:=6) (N:=some 86) (v:=?_) (a':=?_) #[Y,Y,Y,Y,Y,Y,Y,Y,Y,Y,Y,Y,J,J,J] rfl rfl (take_ofW HT_.out HW_.out z3_17) (λ_ _ _ h=>h) (Or.inl ⟨(by rfl),?_⟩) hHeld ?_ ?_
   rotate_left
   ·rintro w' ⟨s0,s1,s2,s3,s4,s5,s6,s7⟩
    go_simp
    with_reducible rfl
   rotate_left
   ·exact z3_3
   refine take_ (i:=12) (N:=some 92) (v:=?_) (a':=?_) #[Y,Y,Y,Y,Y,Y,Y,Y,Y,Y,Y,Y,Y,J,J] rfl rfl (take_ofW HT_.out HW_.out z3_17) (λ_ _ _ h=>h) (Or.inl ⟨(by rfl),?_⟩) hHeld ?_ ?_
   rotate_left
   ·rintro w' ⟨s0,s1,s2,s3,s4,s5,s6,s7⟩
    go_simp
    with_reducible rfl
   rotate_left
   ·exact z3_3
   refine one_ (i:=13) (N:=some 93) #[Y,Y,Y,Y,Y,Y,Y,Y,Y,Y,Y,Y,Y,Y,J] rfl rfl (one_of HT_.out z3_17) (by decide) (λK hK=>?_)
   refine goes_ Try.func35 z3_17 rfl #[.slice Ao36 x6_1.length co36,.int .i64 ((rd_T30 x8_2 (ji28)).f0.f0),.int .i64 ((rd_T30 x8_2 (ji28)).f0.f1)] (by rfl) rfl rfl (by(try simp only [List.map_toArray,List.map_cons,List.map_nil]);first|done|(simp only [hji28];rfl)|rfl|(simp only [List.length_drop,List.length_take];rfl)) ?_
   with_reducible refine(r03_Set.calls k2 _ _ x6_1 ((rd_T30 x8_2 (ji28)).f0.f0) ((rd_T30 x8_2 (ji28)).f0.f1) t819 _ ?side1 ?side2 A32.out).mono ?_
   (case side1=>exact z39_4)
   (case side2=>exact z39_17)
   rintro e w37 ⟨v820,rfl,ho0,hb⟩
   have HS0_:=(hb.cell (World.block_lt_of_cell? _ _ (hHeld.1))).trans (hHeld.1)
   have HS1_:=(hb.cell (World.block_lt_of_cell? _ _ (hHeld.2.1))).trans (hHeld.2.1)
   have HS2_:=(hb.cell (World.block_lt_of_cell? _ _ (hHeld.2.2.1))).trans (hHeld.2.2.1)
   have HS3_:=(hb.cell (World.block_lt_of_cell? _ _ (hHeld.2.2.2.1))).trans (hHeld.2.2.2.1)
   have HS4_:=(hb.cell (World.block_lt_of_cell? _ _ (hHeld.2.2.2.2.1))).trans (hHeld.2.2.2.2.1)
   have HS5_:=(hb.cell (World.block_lt_of_cell? _ _ (hHeld.2.2.2.2.2.1))).trans (hHeld.2.2.2.2.2.1)
   have HS6_:=(hb.cell (World.block_lt_of_cell? _ _ (hHeld.2.2.2.2.2.2.1))).trans (hHeld.2.2.2.2.2.2.1)
   have HS7_:=(hb.cell (World.block_lt_of_cell? _ _ (hHeld.2.2.2.2.2.2.2))).trans (hHeld.2.2.2.2.2.2.2)
   refine ⟨_,rfl,?_⟩
   have n0_:=U (Kd.V_elder' z39_9 (Kd.R_base ho0) hb)
   have n1_:=U (Kd.R_elder' z39_3 (Kd.R_base ho0) hb)
   have n2_:=U (Kd.N_elder' z39_7 (Kd.R_base ho0) hb)
   have n3_:=U (Kd.V_elder' (by(with_reducible repeat(first|apply Kd.V_alloc|apply Kd.V_drewN|apply Kd.V_drew));exact HL813_2.out) (Kd.R_base ho0) hb)
   have n4_:=U (Kd.V_elder' (by(with_reducible repeat(first|apply Kd.V_alloc|apply Kd.V_drewN|apply Kd.V_drew));exact HL813_3.out) (Kd.R_base ho0) hb)
   have n5_:=U (Kd.N_elder' (by(with_reducible repeat(first|apply Kd.N_alloc|apply Kd.N_drewN|apply Kd.N_drew));exact HO816.out) (Kd.R_base ho0) hb)
   have n6_:=U (Kd.V_elder' (by(with_reducible repeat(first|apply Kd.V_alloc|apply Kd.V_drewN|apply Kd.V_drew));exact HL817_2.out) (Kd.R_base ho0) hb)
   have n7_:=U (Kd.V_elder' (by(with_reducible repeat(first|apply Kd.V_alloc|apply Kd.V_drewN|apply Kd.V_drew));exact HL817_3.out) (Kd.R_base ho0) hb)
   have n8_:=U (Kd.V_elder' (by(with_reducible repeat(first|apply Kd.V_alloc|apply Kd.V_drewN|apply Kd.V_drew));exact HL818_2.out) (Kd.R_base ho0) hb)
   have n9_:=U (Kd.V_elder' (by(with_reducible repeat(first|apply Kd.V_alloc|apply Kd.V_drewN|apply Kd.V_drew));exact HL818_3.out) (Kd.R_base ho0) hb)
   have n10_:=U (Kd.R_lower (Kd.R_new' (Kd.R_newM (M:=λk_=>(w.heap.size<=k_)) ho0 (below_size z10_0) (λk_ h_=>h_)) (Kd.R_lt z39_3)) (below_size z10_0))
   have n11_:=U (Kd.C_below (by repeat(first|(with_reducible exact HR817_2.out)|(with_reducible refine Kd.C_alloc ?_ _)|(with_reducible refine Kd.C_drewN ?_ _)|(with_reducible refine Kd.C_drew ?_)|exact HR817_2.out)) hb)
   have n12_:=U (Kd.C_below (by repeat(first|(with_reducible exact HR817_3.out)|(with_reducible refine Kd.C_alloc ?_ _)|(with_reducible refine Kd.C_drewN ?_ _)|(with_reducible refine Kd.C_drew ?_)|exact HR817_3.out)) hb)
   have n13_:=U (Kd.C_below (by repeat(first|(with_reducible exact HR818_2.out)|(with_reducible refine Kd.C_alloc ?_ _)|(with_reducible refine Kd.C_drewN ?_ _)|(with_reducible refine Kd.C_drew ?_)|exact HR818_2.out)) hb)
   have n14_:=U (Kd.C_below (by repeat(first|(with_reducible exact HR818_3.out)|(with_reducible refine Kd.C_alloc ?_ _)|(with_reducible refine Kd.C_drewN ?_ _)|(with_reducible refine Kd.C_drew ?_)|exact HR818_3.out)) hb)
   have n15_:=U (below_step z10_0 hb)
   clear HO_0
   clear HO_6
   clear HO_8
   clear HL813_2
   clear HL813_3
   clear HO816
   clear HL817_2
   clear HL817_3
   clear HL818_2
   clear HL818_3
   clear HR817_2
   clear HR817_3
   clear HR818_2
   clear HR818_3
   clear HB
   have HO_0:=n0_
   have HO_6:=n1_
   have HO_8:=n2_
   have HL813_2:=n3_
   have HL813_3:=n4_
   have HO816:=n5_
   have HL817_2:=n6_
   have HL817_3:=n7_
   have HL818_2:=n8_
   have HL818_3:=n9_
   have HO821:=n10_
   have HR817_2:=n11_
   have HR817_3:=n12_
   have HR818_2:=n13_
   have HR818_3:=n14_
   have HB:=n15_
   clear n0_ n1_ n2_ n3_ n4_ n5_ n6_ n7_ n8_ n9_ n10_ n11_ n12_ n13_ n14_ n15_
   (try clear hb)
   (try clear hb2)
   (try clear hk)
   (try clear hi)
   (try clear ho0)
   refine hK.out _ _ ⟨HS0_,HS1_,HS2_,HS3_,HS4_,HS5_,HS6_,HS7_⟩ (λhHeld=>?_)
   clear hK K
   refine norm_ (a':=?_) ?_ ?_
   rotate_left
   ·exact z39_23
   refine pure_ (i:=14) (N:=some 6) (v:=?_) (a':=?_) #[Y,Y,Y,Y,Y,Y,Y,Y,Y,Y,Y,Y,Y,Y,Y] rfl rfl (any_of HT_.out z3_17) (λ_ _ _ h=>h) (Or.inl ⟨(by rfl),?_⟩) ?_ ?_
   rotate_left
   ·intro w'
    go_simp
    with_reducible rfl
   rotate_left
   ·exact z3_3
   refine done_ (done_of HT_.out z3_17) ?_
   try go_wp2
   go_roundg k2
   case measure=>have:=HK1.out;have:=HK2.out;omega
   case rel=>exact ⟨(y814),(t819),(wrap64 (x7_1+1)),z10_4,H',⟨z39_21⟩,⟨z39_18⟩,⟨(by(with_reducible repeat(first|apply Kd.N_alloc|apply Kd.N_drewN|apply Kd.N_drew));exact Kd.N_mono HO816.out (λ_ hk=>⟨hk.1.1,hk.2⟩))⟩,⟨(by(with_reducible repeat(first|apply Kd.R_alloc|apply Kd.R_drewN|apply Kd.R_drew));exact Kd.R_mono HO821.out (λ_ hk=>hk.1.1))⟩,⟨z10_0⟩⟩
  rw [if_neg c26] at H
  have c26b0:decide (x7_1<(l1.length:Int))=false:=dF_ c26
  clear c26
  by_cases c38:0<(x8_2.length:Int)
  rotate_left
  ·rw [if_neg c38] at H
   exact absurd H (by simp)
  rw [if_pos c38] at H
  have c38b0:decide (0<(x8_2.length:Int))=true:=dT_ c38
  have c38b1:decide (0<x8_2.length)=true:=dT_ (by omega)
  clear c38
  by_cases c39:x5_1.length<2199023255552
  rotate_left
  ·rw [if_neg c39] at H
   exact absurd H (by simp)
  rw [if_pos c39] at H
  have LMc39:=Aside0.mk c39
  clear c39
  obtain ⟨y823,hy823⟩:∃ y_:List (S30),y_=(x5_1++[(⟨(⟨(rd_T30 x8_2 0).f0.f0,(rd_T30 x8_2 0).f0.f1⟩:S25),(rd_T30 x8_2 0).f1,(rd_T30 x8_2 0).f2⟩:S30)]):=⟨_,rfl⟩
  replace H:((r03_Set.f k2 x6_1 ((rd_T30 x8_2 0).f0.f0) ((rd_T30 x8_2 0).f0.f1)).bind λt828=>(w08_Turned.l0 k2 l0 l1 y823 t828 (wrap64 (x7_1+1))))=some r:=by first|(rw [hy823];with_reducible exact H)|(have H2_:=(Option.bind_some _ _).symm.trans H;rw [hy823];with_reducible exact H2_)|(have H2_:=(Option.bind_some _ _).symm.trans H;with_reducible exact H2_)|with_reducible exact H|(rw [hy823];exact H)|exact H
  have Ny823:=Aside0.mk hy823
  clear hy823
  replace H:=oB_ H
  obtain ⟨t828,A400,H⟩:=H
  replace H:(w08_Turned.l0 k2 l0 l1 y823 t828 (wrap64 (x7_1+1)))=some r:=H
  have A40:=Aside0.mk A400
  clear A400
  have H':=Aside0.mk H
  clear H
  obtain ⟨Ao41,co41,eo41⟩:=Kd.N_slice HO_8.out
  subst eo41
  have p822:0<=(0:Int):=(by omega)
  have q822:0<(x8_2.length:Int):=oD_ z10_1
  obtain ⟨ad822,A822_2,c822_2,A822_3,c822_3,e822,hx822_0,hx822_1,hx822_2,hx822_3,hl822_2,hi822_2,hl822_3,hi822_3⟩:=at_T30 (Kd.N_reads' HO_8.out).2.2 0 p822 q822
  cases e822
  obtain ⟨ce822,hce822,hMe822,hcc822⟩:=Kd.N_get HO_8.out z30 0 p822 (by first|exact q822|exact oD_ z10_1|(have e_:=(Kd.N_reads' HO_8.out).1;omega))
  obtain ⟨ua822_2,uc822_2,ua822_3,uc822_3,rfl,ul822_2,ge822_2,ul822_3,ge822_3⟩:=k30_openF hMe822
  have hv822_2:=hcc822 2 _ rfl
  rw [add_field _ _ 2 (by omega)] at hv822_2
  replace hv822_2:=sI_ (hv822_2.symm.trans hx822_2)
  injection hv822_2 with hva_ hvn_ hvc_
  rw [hva_] at ge822_2
  rw [hvc_] at ul822_2
  have HL822_2:=U (show Kd.V (Kd.int .i64) 3 _ w.heap.size _ _ ((rd_T30 x8_2 0).f1) from Kd.V_mk ul822_2 ge822_2)
  clear hva_ hvn_ hvc_ ge822_2 ul822_2
  have hv822_3:=hcc822 3 _ rfl
  rw [add_field _ _ 3 (by omega)] at hv822_3
  replace hv822_3:=sI_ (hv822_3.symm.trans hx822_3)
  injection hv822_3 with hva_ hvn_ hvc_
  rw [hva_] at ge822_3
  rw [hvc_] at ul822_3
  have HL822_3:=U (show Kd.V k48 48 _ w.heap.size _ _ ((rd_T30 x8_2 0).f2) from Kd.V_mk ul822_3 ge822_3)
  clear hva_ hvn_ hvc_ ge822_3 ul822_3
  clear hcc822 hce822
  have qi822:(0<x8_2.length)=True:=eq_true (by omega)
  (try rw [show((0:Int)).toNat=0 from rfl] at hx822_0)
  (try rw [show 0*4=0 from rfl] at hx822_0)
  (try rw [Addr.add_zero'] at hx822_0)
  (try rw [show((0:Int)).toNat=0 from rfl] at hx822_1)
  (try rw [show 0*4=0 from rfl] at hx822_1)
  (try rw [Addr.add_zero'] at hx822_1)
  (try rw [show((0:Int)).toNat=0 from rfl] at hx822_2)
  (try rw [show 0*4=0 from rfl] at hx822_2)
  (try rw [Addr.add_zero'] at hx822_2)
  (try rw [show((0:Int)).toNat=0 from rfl] at hx822_3)
  (try rw [show 0*4=0 from rfl] at hx822_3)
  (try rw [Addr.add_zero'] at hx822_3)
  have HR822_2:=Aside0.mk hi822_2
  have HC822_2:=Aside0.mk hl822_2
  clear hi822_2 hl822_2
  have HR822_3:=Aside0.mk hi822_3
  have HC822_3:=Aside0.mk hl822_3
  clear hi822_3 hl822_3
  replace p822:=eq_true p822
  replace q822:=eq_true q822
  try go_wp2_with (first|((with_reducible refine gate_builtin (b:=.append) (xs:=#[.tmp 73,.tmp 78]) rfl ?_);at_builtin;refine Kd.N_append k30 (w0:=w) w.heap.size rfl (.tmp 73) (.tmp 78) 38 30 (.agg #[(.int .i64 0),(.int .i64 0),(.slice none 0 0),(.slice none 0 0)]) 64 rfl Try.underlying38 info30 rfl (by decide) (by omega) u5 x5_1 (⟨(⟨(rd_T30 x8_2 0).f0.f0,(rd_T30 x8_2 0).f0.f1⟩:S25),(rd_T30 x8_2 0).f1,(rd_T30 x8_2 0).f2⟩:S30) [.int .i64 ((rd_T30 x8_2 0).f0.f0),.int .i64 ((rd_T30 x8_2 0).f0.f1),.slice A822_2 ((rd_T30 x8_2 0).f1).length c822_2,.slice A822_3 ((rd_T30 x8_2 0).f2).length c822_3] (λk_=>(P0_ k_\/w.heap.size<=k_)/\some k_≠(u6:Value).ownBlock/\some k_≠(.slice (some ad822) x8_2.length co41:Value).ownBlock) (λk_=>((λk_=>(P0_ k_\/w.heap.size<=k_)/\some k_≠(u6:Value).ownBlock/\some k_≠(.slice (some ad822) x8_2.length co41:Value).ownBlock)) k_/\some k_≠(u5:Value).ownBlock) rfl rfl ?aP (λ_ hk=>hk) ?aF ?aO ?aB ?aS ?aL ?_;(case aP=>exact(k30_mkF _ _ (⟨(⟨(rd_T30 x8_2 0).f0.f0,(rd_T30 x8_2 0).f0.f1⟩:S25),(rd_T30 x8_2 0).f1,(rd_T30 x8_2 0).f2⟩:S30) (Kd.V_reads' (e:=0) (base:=0) (Kd.V_mono (e:=0) (base:=0) (ok':=(λk_=>((λk_=>(P0_ k_\/w.heap.size<=k_)/\some k_≠(u6:Value).ownBlock/\some k_≠(.slice (some ad822) x8_2.length co41:Value).ownBlock)) k_/\some k_≠(u5:Value).ownBlock)) (HL822_2.out) (λk_ hk=>⟨⟨hk.1.1,⟨hk.1.2.2,hk.2⟩⟩,hk.1.2.1⟩))).2.1 (Kd.V_F (e:=0) (base:=0) (Kd.V_mono (e:=0) (base:=0) (ok':=(λk_=>((λk_=>(P0_ k_\/w.heap.size<=k_)/\some k_≠(u6:Value).ownBlock/\some k_≠(.slice (some ad822) x8_2.length co41:Value).ownBlock)) k_/\some k_≠(u5:Value).ownBlock)) (HL822_2.out) (λk_ hk=>⟨⟨hk.1.1,⟨hk.1.2.2,hk.2⟩⟩,hk.1.2.1⟩))) (Kd.V_reads' (e:=0) (base:=0) (Kd.V_mono (e:=0) (base:=0) (ok':=(λk_=>((λk_=>(P0_ k_\/w.heap.size<=k_)/\some k_≠(u6:Value).ownBlock/\some k_≠(.slice (some ad822) x8_2.length co41:Value).ownBlock)) k_/\some k_≠(u5:Value).ownBlock)) (HL822_3.out) (λk_ hk=>⟨⟨hk.1.1,⟨hk.1.2.2,hk.2⟩⟩,hk.1.2.1⟩))).2.1 (Kd.V_F (e:=0) (base:=0) (Kd.V_mono (e:=0) (base:=0) (ok':=(λk_=>((λk_=>(P0_ k_\/w.heap.size<=k_)/\some k_≠(u6:Value).ownBlock/\some k_≠(.slice (some ad822) x8_2.length co41:Value).ownBlock)) k_/\some k_≠(u5:Value).ownBlock)) (HL822_3.out) (λk_ hk=>⟨⟨hk.1.1,⟨hk.1.2.2,hk.2⟩⟩,hk.1.2.1⟩)))));(case aB=>exact z10_0);(case aF=>exact z39_24);(case aO=>exact z39_5);(case aS=>exact(below_size z10_0));(case aL=>have:=LMc39.out;omega);intro v824 w42 ho hb hg hat;rw [<-Ny823.out] at ho;replace HO_0:=U (Kd.V_afterv (ok:=(λk_=>(P0_ k_\/w.heap.size<=k_)/\some k_≠(u6:Value).ownBlock/\some k_≠(.slice (some ad822) x8_2.length co41:Value).ownBlock)) z39_16 hg hat);replace HO_6:=U (Kd.R_over' z39_3 (Kd.N_typed z39_5) (by decide) hg);replace HO_8:=U (Kd.N_afterv (ok:=(λk_=>(P0_ k_\/w.heap.size<=k_)/\some k_≠(u6:Value).ownBlock)) z39_20 hg hat);replace HL822_2:=U (Kd.V_afterv (ok:=(λk_=>(P0_ k_\/w.heap.size<=k_)/\some k_≠(u6:Value).ownBlock/\some k_≠(.slice (some ad822) x8_2.length co41:Value).ownBlock)) (by(with_reducible repeat(first|apply Kd.V_alloc|apply Kd.V_drewN|apply Kd.V_drew));exact Kd.V_mono HL822_2.out (λ_ hk=>⟨⟨hk.1.1,⟨hk.1.2.2,hk.2⟩⟩,hk.1.2.1⟩)) hg hat);replace HL822_3:=U (Kd.V_afterv (ok:=(λk_=>(P0_ k_\/w.heap.size<=k_)/\some k_≠(u6:Value).ownBlock/\some k_≠(.slice (some ad822) x8_2.length co41:Value).ownBlock)) (by(with_reducible repeat(first|apply Kd.V_alloc|apply Kd.V_drewN|apply Kd.V_drew));exact Kd.V_mono HL822_3.out (λ_ hk=>⟨⟨hk.1.1,⟨hk.1.2.2,hk.2⟩⟩,hk.1.2.1⟩)) hg hat);replace HB:=U (hb);have HO825:=U (ho);clear HO_5;clear ho hb hg hat))
  have n0_:=U (Kd.V_drew HO_0.out)
  have n1_:=U (Kd.R_drew HO_6.out)
  have n2_:=U (Kd.N_drew HO_8.out)
  have n3_:=U (Kd.V_drew HL822_2.out)
  have n4_:=U (Kd.V_drew HL822_3.out)
  have n5_:=U (Kd.N_drew HO825.out)
  have n6_:=U (below_drew1 HB.out)
  clear HO_0
  clear HO_6
  clear HO_8
  clear HL822_2
  clear HL822_3
  clear HO825
  clear HB
  have HO_0:=n0_
  have HO_6:=n1_
  have HO_8:=n2_
  have HL822_2:=n3_
  have HL822_3:=n4_
  have HO825:=n5_
  have HB:=n6_
  clear n0_ n1_ n2_ n3_ n4_ n5_ n6_
  have p826:0<=(0:Int):=(by omega)
  have q826:0<(x8_2.length:Int):=oD_ z10_1
  obtain ⟨ad826,A826_2,c826_2,A826_3,c826_3,e826,hx826_0,hx826_1,hx826_2,hx826_3,hl826_2,hi826_2,hl826_3,hi826_3⟩:=at_T30 (Kd.N_reads' HO_8.out).2.2 0 p826 q826
  obtain rfl:ad822=ad826:=(by injection e826)
  obtain ⟨ce826,hce826,hMe826,hcc826⟩:=Kd.N_get HO_8.out z30 0 p826 (by first|exact q826|exact oD_ z10_1|(have e_:=(Kd.N_reads' HO_8.out).1;omega))
  obtain ⟨ua826_2,uc826_2,ua826_3,uc826_3,rfl,ul826_2,ge826_2,ul826_3,ge826_3⟩:=k30_openF hMe826
  have hv826_2:=hcc826 2 _ rfl
  rw [add_field _ _ 2 (by omega)] at hv826_2
  replace hv826_2:=sI_ (hv826_2.symm.trans hx826_2)
  injection hv826_2 with hva_ hvn_ hvc_
  rw [hva_] at ge826_2
  rw [hvc_] at ul826_2
  have HL826_2:=U (show Kd.V (Kd.int .i64) 3 _ w.heap.size _ _ ((rd_T30 x8_2 0).f1) from Kd.V_mk ul826_2 ge826_2)
  clear hva_ hvn_ hvc_ ge826_2 ul826_2
  have hv826_3:=hcc826 3 _ rfl
  rw [add_field _ _ 3 (by omega)] at hv826_3
  replace hv826_3:=sI_ (hv826_3.symm.trans hx826_3)
  injection hv826_3 with hva_ hvn_ hvc_
  rw [hva_] at ge826_3
  rw [hvc_] at ul826_3
  have HL826_3:=U (show Kd.V k48 48 _ w.heap.size _ _ ((rd_T30 x8_2 0).f2) from Kd.V_mk ul826_3 ge826_3)
  clear hva_ hvn_ hvc_ ge826_3 ul826_3
  clear hcc826 hce826
  have qi826:(0<x8_2.length)=True:=eq_true (by omega)
  (try rw [show((0:Int)).toNat=0 from rfl] at hx826_0)
  (try rw [show 0*4=0 from rfl] at hx826_0)
  (try rw [Addr.add_zero'] at hx826_0)
  (try rw [show((0:Int)).toNat=0 from rfl] at hx826_1)
  (try rw [show 0*4=0 from rfl] at hx826_1)
  (try rw [Addr.add_zero'] at hx826_1)
  (try rw [show((0:Int)).toNat=0 from rfl] at hx826_2)
  (try rw [show 0*4=0 from rfl] at hx826_2)
  (try rw [Addr.add_zero'] at hx826_2)
  (try rw [show((0:Int)).toNat=0 from rfl] at hx826_3)
  (try rw [show 0*4=0 from rfl] at hx826_3)
  (try rw [Addr.add_zero'] at hx826_3)
  have HR826_2:=Aside0.mk hi826_2
  have HC826_2:=Aside0.mk hl826_2
  clear hi826_2 hl826_2
  have HR826_3:=Aside0.mk hi826_3
  have HC826_3:=Aside0.mk hl826_3
  clear hi826_3 hl826_3
  replace p826:=eq_true p826
  replace q826:=eq_true q826
  have p827:0<=(0:Int):=(by omega)
  have q827:0<(x8_2.length:Int):=oD_ z10_1
  obtain ⟨ad827,A827_2,c827_2,A827_3,c827_3,e827,hx827_0,hx827_1,hx827_2,hx827_3,hl827_2,hi827_2,hl827_3,hi827_3⟩:=at_T30 (Kd.N_reads' HO_8.out).2.2 0 p827 q827
  obtain rfl:ad822=ad827:=(by injection e827)
  obtain ⟨ce827,hce827,hMe827,hcc827⟩:=Kd.N_get HO_8.out z30 0 p827 (by first|exact q827|exact oD_ z10_1|(have e_:=(Kd.N_reads' HO_8.out).1;omega))
  obtain ⟨ua827_2,uc827_2,ua827_3,uc827_3,rfl,ul827_2,ge827_2,ul827_3,ge827_3⟩:=k30_openF hMe827
  have hv827_2:=hcc827 2 _ rfl
  rw [add_field _ _ 2 (by omega)] at hv827_2
  replace hv827_2:=sI_ (hv827_2.symm.trans hx827_2)
  injection hv827_2 with hva_ hvn_ hvc_
  rw [hva_] at ge827_2
  rw [hvc_] at ul827_2
  have HL827_2:=U (show Kd.V (Kd.int .i64) 3 _ w.heap.size _ _ ((rd_T30 x8_2 0).f1) from Kd.V_mk ul827_2 ge827_2)
  clear hva_ hvn_ hvc_ ge827_2 ul827_2
  have hv827_3:=hcc827 3 _ rfl
  rw [add_field _ _ 3 (by omega)] at hv827_3
  replace hv827_3:=sI_ (hv827_3.symm.trans hx827_3)
  injection hv827_3 with hva_ hvn_ hvc_
  rw [hva_] at ge827_3
  rw [hvc_] at ul827_3
  have HL827_3:=U (show Kd.V k48 48 _ w.heap.size _ _ ((rd_T30 x8_2 0).f2) from Kd.V_mk ul827_3 ge827_3)
  clear hva_ hvn_ hvc_ ge827_3 ul827_3
  clear hcc827 hce827
  have qi827:(0<x8_2.length)=True:=eq_true (by omega)
  (try rw [show((0:Int)).toNat=0 from rfl] at hx827_0)
  (try rw [show 0*4=0 from rfl] at hx827_0)
  (try rw [Addr.add_zero'] at hx827_0)
  (try rw [show((0:Int)).toNat=0 from rfl] at hx827_1)
  (try rw [show 0*4=0 from rfl] at hx827_1)
  (try rw [Addr.add_zero'] at hx827_1)
  (try rw [show((0:Int)).toNat=0 from rfl] at hx827_2)
  (try rw [show 0*4=0 from rfl] at hx827_2)
  (try rw [Addr.add_zero'] at hx827_2)
  (try rw [show((0:Int)).toNat=0 from rfl] at hx827_3)
  (try rw [show 0*4=0 from rfl] at hx827_3)
  (try rw [Addr.add_zero'] at hx827_3)
  have HR827_2:=Aside0.mk hi827_2
  have HC827_2:=Aside0.mk hl827_2
  clear hi827_2 hl827_2
  have HR827_3:=Aside0.mk hi827_3
  have HC827_3:=Aside0.mk hl827_3
  clear hi827_3 hl827_3
  replace p827:=eq_true p827
  replace q827:=eq_true q827
  have ea_:=sI_ (hx826_2.symm.trans hx827_2)
  injection ea_ with ea_ en_ ec_
  subst ea_
  subst ec_
  clear en_
  have ea_:=sI_ (hx826_3.symm.trans hx827_3)
  injection ea_ with ea_ en_ ec_
  subst ea_
  subst ec_
  clear en_
  obtain ⟨Ao44,co44,eo44⟩:=Kd.R_slice HO_6.out
  (first|subst eo44|(injection eo44 with f1_ f2_ f3_;have f4_:=f1_.symm;have f5_:=f3_.symm;clear f1_ f2_ f3_;subst f4_;subst f5_))
  refine start_ (n:=15) (S:=λw'=>w'.cell? ad822=some (.int .i64 ((rd_T30 x8_2 0).f0.f0))/\w'.cell? ⟨ad822.block,ad822.off+1,none⟩=some (.int .i64 ((rd_T30 x8_2 0).f0.f1))/\w'.cell? ⟨ad822.block,ad822.off+2,none⟩=some (.slice A826_2 ((rd_T30 x8_2 0).f1).length c826_2)/\w'.cell? ⟨ad822.block,ad822.off+3,none⟩=some (.slice A826_3 ((rd_T30 x8_2 0).f2).length c826_3)/\w'.cell? ad822=some (.int .i64 ((rd_T30 x8_2 0).f0.f0))/\w'.cell? ⟨ad822.block,ad822.off+1,none⟩=some (.int .i64 ((rd_T30 x8_2 0).f0.f1))/\w'.cell? ⟨ad822.block,ad822.off+2,none⟩=some (.slice A826_2 ((rd_T30 x8_2 0).f1).length c826_2)/\w'.cell? ⟨ad822.block,ad822.off+3,none⟩=some (.slice A826_3 ((rd_T30 x8_2 0).f2).length c826_3)) (ds:=[]) #[J,J,J,J,J,J,J,J,J,J,J,J,J,J,J] z3_17 rfl rfl ⟨hx826_0,hx826_1,hx826_2,hx826_3,hx827_0,hx827_1,hx827_2,hx827_3⟩ (λhHeld=>?_);refine with_tabW w08_Turned.tab18 w08_Turned.bits18 (λHT_ HW_=>?_)
  generalize w42.drew=w43 at HO_0 HO_6 HO_8 HL822_2 HL822_3 HO825 HB HL826_2 HL826_3 HL827_2 HL827_3 HR826_2 HR826_3 HR827_2 HR827_3 hx826_0 hx826_1 hx826_2 hx826_3 hx827_0 hx827_1 hx827_2 hx827_3 hHeld ⊢
  refine pure_ (i:=0) (N:=some 80) (v:=?_) (a':=?_) #[Y,J,J,J,J,J,J,J,J,J,J,J,J,J,J] rfl rfl (any_of HT_.out z3_17) (λ_ _ _ h=>h) (Or.inl ⟨(by rfl),?_⟩) ?_ ?_
  rotate_left
  ·intro w'
   go_simp
   with_reducible rfl
  rotate_left
  ·exact z3_3
  refine pure_ (i:=1) (N:=some 81) (v:=?_) (a':=?_) #[Y,Y,J,J,J,J,J,J,J,J,J,J,J,J,J] rfl rfl (any_of HT_.out z3_17) (λ_ _ _ h=>h) (Or.inl ⟨(by rfl),?_⟩) ?_ ?_
  rotate_left
  ·intro w'
   go_simp
   with_reducible rfl
  rotate_left
  ·exact z3_3
  refine pure_ (i:=2) (N:=some 82) (v:=?_) (a':=?_) #[Y,Y,Y,J,J,J,J,J,J,J,J,J,J,J,J] rfl rfl (any_of HT_.out z3_17) (λ_ _ _ h=>h) (Or.inl ⟨(by rfl),?_⟩) ?_ ?_
  rotate_left
  ·intro w'
   go_simp
   with_reducible rfl
  rotate_left
  ·exact z3_3
  refine pure_ (i:=3) (N:=some 83) (v:=?_) (a':=?_) #[Y,Y,Y,Y,J,J,J,J,J,J,J,J,J,J,J] rfl rfl (any_of HT_.out z3_17) (λ_ _ _ h=>h) (Or.inl ⟨(by rfl),?_⟩) ?_ ?_
  rotate_left
  ·intro w'
   go_simp
   with_reducible rfl
  rotate_left
  ·exact z3_3
  refine pure_ (i:=4) (N:=some 84) (v:=?_) (a':=?_) #[Y,Y,Y,Y,Y,J,J,J,J,J,J,J,J,J,J] rfl rfl (any_of HT_.out z3_17) (λ_ _ _ h=>h) (Or.inl ⟨(by rfl),?_⟩) ?_ ?_
  rotate_left
  ·intro w'
   go_simp
   with_reducible rfl
  rotate_left
  ·exact z3_3
  refine pure_ (i:=5) (N:=some 85) (v:=?_) (a':=?_) #[Y,Y,Y,Y,Y,Y,J,J,J,J,J,J,J,J,J] rfl rfl (any_of HT_.out z3_17) (λ_ _ _ h=>h) (Or.inl ⟨(by rfl),?_⟩) ?_ ?_
  rotate_left
  ·intro w'
   go_simp
   with_reducible rfl
  rotate_left
  ·exact z3_3
  refine pure_ (i:=7) (N:=some 87) (v:=?_) (a':=?_) #[Y,Y,Y,Y,Y,Y,J,Y,J,J,J,J,J,J,J] rfl rfl (any_of HT_.out z3_17) (λ_ _ _ h=>h) (Or.inl ⟨(by rfl),?_⟩) ?_ ?_
  rotate_left
  ·intro w'
   go_simp
   with_reducible rfl
  rotate_left
  ·exact z3_3
  refine pure_ (i:=8) (N:=some 88) (v:=?_) (a':=?_) #[Y,Y,Y,Y,Y,Y,J,Y,Y,J,J,J,J,J,J] rfl rfl (any_of HT_.out z3_17) (λ_ _ _ h=>h) (Or.inl ⟨(by rfl),?_⟩) ?_ ?_
  rotate_left
  ·intro w'
   go_simp
   with_reducible rfl
  rotate_left
  ·exact z3_3
  refine pure_ (i:=9) (N:=some 89) (v:=?_) (a':=?_) #[Y,Y,Y,Y,Y,Y,J,Y,Y,Y,J,J,J,J,J] rfl rfl (any_of HT_.out z3_17) (λ_ _ _ h=>h) (Or.inl ⟨(by rfl),?_⟩) ?_ ?_
  rotate_left
  ·intro w'
   go_simp
   with_reducible rfl
  rotate_left
  ·exact z3_3
  refine pure_ (i:=10) (N:=some 90) (v:=?_) (a':=?_) #[Y,Y,Y,Y,Y,Y,J,Y,Y,Y,Y,J,J,J,J] rfl rfl (any_of HT_.out z3_17) (λ_ _ _ h=>h) (Or.inl ⟨(by rfl),?_⟩) ?_ ?_
  rotate_left
  ·intro w'
   go_simp
   with_reducible rfl
  rotate_left
  ·exact z3_3
  refine pure_ (i:=11) (N:=some 91) (v:=?_) (a':=?_) #[Y,Y,Y,Y,Y,Y,J,Y,Y,Y,Y,Y,J,J,J] rfl rfl (any_of HT_.out z3_17) (λ_ _ _ h=>h) (Or.inl ⟨(by rfl),?_⟩) ?_ ?_
  rotate_left
  ·intro w'
   go_simp
   with_reducible rfl
  rotate_left
  ·exact z3_3
  refine take_ (i:=6) (N:=some 86) (v:=?_) (a':=?_) #[Y,Y,Y,Y,Y,Y,Y,Y,Y,Y,Y,Y,J,J,J] rfl rfl (take_ofW HT_.out HW_.out z3_17) (λ_ _ _ h=>h) (Or.inl ⟨(by rfl),?_⟩) hHeld ?_ ?_
  rotate_left
  ·rintro w' ⟨s0,s1,s2,s3,s4,s5,s6,s7⟩
   go_simp
   with_reducible rfl
  rotate_left
  ·exact z3_3
  refine take_ (i:=12) (N:=some 92) (v:=?_) (a':=?_) #[Y,Y,Y,Y,Y,Y,Y,Y,Y,Y,Y,Y,Y,J,J] rfl rfl (take_ofW HT_.out HW_.out z3_17) (λ_ _ _ h=>h) (Or.inl ⟨(by rfl),?_⟩) hHeld ?_ ?_
  rotate_left
  ·rintro w' ⟨s0,s1,s2,s3,s4,s5,s6,s7⟩
   go_simp
   with_reducible rfl
  rotate_left
  ·exact z3_3
  refine one_ (i:=13) (N:=some 93) #[Y,Y,Y,Y,Y,Y,Y,Y,Y,Y,Y,Y,Y,Y,J] rfl rfl (one_of HT_.out z3_17) (by decide) (λK hK=>?_)
  refine goes_ Try.func35 z3_17 rfl #[.slice Ao44 x6_1.length co44,.int .i64 ((rd_T30 x8_2 0).f0.f0),.int .i64 ((rd_T30 x8_2 0).f0.f1)] (by rfl) rfl rfl z10_2 ?_
  with_reducible refine(r03_Set.calls k2 _ _ x6_1 ((rd_T30 x8_2 0).f0.f0) ((rd_T30 x8_2 0).f0.f1) t828 _ ?side1 ?side2 A40.out).mono ?_
  (case side1=>exact z39_4)
  (case side2=>exact z39_17)
  rintro e w45 ⟨v829,rfl,ho0,hb⟩
  have HS0_:=(hb.cell (World.block_lt_of_cell? _ _ (hHeld.1))).trans (hHeld.1)
  have HS1_:=(hb.cell (World.block_lt_of_cell? _ _ (hHeld.2.1))).trans (hHeld.2.1)
  have HS2_:=(hb.cell (World.block_lt_of_cell? _ _ (hHeld.2.2.1))).trans (hHeld.2.2.1)
  have HS3_:=(hb.cell (World.block_lt_of_cell? _ _ (hHeld.2.2.2.1))).trans (hHeld.2.2.2.1)
  have HS4_:=(hb.cell (World.block_lt_of_cell? _ _ (hHeld.2.2.2.2.1))).trans (hHeld.2.2.2.2.1)
  have HS5_:=(hb.cell (World.block_lt_of_cell? _ _ (hHeld.2.2.2.2.2.1))).trans (hHeld.2.2.2.2.2.1)
  have HS6_:=(hb.cell (World.block_lt_of_cell? _ _ (hHeld.2.2.2.2.2.2.1))).trans (hHeld.2.2.2.2.2.2.1)
  have HS7_:=(hb.cell (World.block_lt_of_cell? _ _ (hHeld.2.2.2.2.2.2.2))).trans (hHeld.2.2.2.2.2.2.2)
  refine ⟨_,rfl,?_⟩
  have n0_:=U (Kd.V_elder' z39_9 (Kd.R_base ho0) hb)
  have n1_:=U (Kd.R_elder' z39_3 (Kd.R_base ho0) hb)
  have n2_:=U (Kd.N_elder' z39_7 (Kd.R_base ho0) hb)
  have n3_:=U (Kd.V_elder' (by(with_reducible repeat(first|apply Kd.V_alloc|apply Kd.V_drewN|apply Kd.V_drew));exact HL822_2.out) (Kd.R_base ho0) hb)
  have n4_:=U (Kd.V_elder' (by(with_reducible repeat(first|apply Kd.V_alloc|apply Kd.V_drewN|apply Kd.V_drew));exact HL822_3.out) (Kd.R_base ho0) hb)
  have n5_:=U (Kd.N_elder' (by(with_reducible repeat(first|apply Kd.N_alloc|apply Kd.N_drewN|apply Kd.N_drew));exact HO825.out) (Kd.R_base ho0) hb)
  have n6_:=U (Kd.V_elder' (by(with_reducible repeat(first|apply Kd.V_alloc|apply Kd.V_drewN|apply Kd.V_drew));exact HL826_2.out) (Kd.R_base ho0) hb)
  have n7_:=U (Kd.V_elder' (by(with_reducible repeat(first|apply Kd.V_alloc|apply Kd.V_drewN|apply Kd.V_drew));exact HL826_3.out) (Kd.R_base ho0) hb)
  have n8_:=U (Kd.V_elder' (by(with_reducible repeat(first|apply Kd.V_alloc|apply Kd.V_drewN|apply Kd.V_drew));exact HL827_2.out) (Kd.R_base ho0) hb)
  have n9_:=U (Kd.V_elder' (by(with_reducible repeat(first|apply Kd.V_alloc|apply Kd.V_drewN|apply Kd.V_drew));exact HL827_3.out) (Kd.R_base ho0) hb)
  have n10_:=U (Kd.R_lower (Kd.R_new' (Kd.R_newM (M:=λk_=>(w.heap.size<=k_)) ho0 (below_size z10_0) (λk_ h_=>h_)) (Kd.R_lt z39_3)) (below_size z10_0))
  have n11_:=U (Kd.C_below (by repeat(first|(with_reducible exact HR826_2.out)|(with_reducible refine Kd.C_alloc ?_ _)|(with_reducible refine Kd.C_drewN ?_ _)|(with_reducible refine Kd.C_drew ?_)|exact HR826_2.out)) hb)
  have n12_:=U (Kd.C_below (by repeat(first|(with_reducible exact HR826_3.out)|(with_reducible refine Kd.C_alloc ?_ _)|(with_reducible refine Kd.C_drewN ?_ _)|(with_reducible refine Kd.C_drew ?_)|exact HR826_3.out)) hb)
  have n13_:=U (Kd.C_below (by repeat(first|(with_reducible exact HR827_2.out)|(with_reducible refine Kd.C_alloc ?_ _)|(with_reducible refine Kd.C_drewN ?_ _)|(with_reducible refine Kd.C_drew ?_)|exact HR827_2.out)) hb)
  have n14_:=U (Kd.C_below (by repeat(first|(with_reducible exact HR827_3.out)|(with_reducible refine Kd.C_alloc ?_ _)|(with_reducible refine Kd.C_drewN ?_ _)|(with_reducible refine Kd.C_drew ?_)|exact HR827_3.out)) hb)
  have n15_:=U (below_step z10_0 hb)
  clear HO_0
  clear HO_6
  clear HO_8
  clear HL822_2
  clear HL822_3
  clear HO825
  clear HL826_2
  clear HL826_3
  clear HL827_2
  clear HL827_3
  clear HR826_2
  clear HR826_3
  clear HR827_2
  clear HR827_3
  clear HB
  have HO_0:=n0_
  have HO_6:=n1_
  have HO_8:=n2_
  have HL822_2:=n3_
  have HL822_3:=n4_
  have HO825:=n5_
  have HL826_2:=n6_
  have HL826_3:=n7_
  have HL827_2:=n8_
  have HL827_3:=n9_
  have HO830:=n10_
  have HR826_2:=n11_
  have HR826_3:=n12_
  have HR827_2:=n13_
  have HR827_3:=n14_
  have HB:=n15_
  clear n0_ n1_ n2_ n3_ n4_ n5_ n6_ n7_ n8_ n9_ n10_ n11_ n12_ n13_ n14_ n15_
  (try clear hb)
  (try clear hb2)
  (try clear hk)
  (try clear hi)
  (try clear ho0)
  refine hK.out _ _ ⟨HS0_,HS1_,HS2_,HS3_,HS4_,HS5_,HS6_,HS7_⟩ (λhHeld=>?_)
  clear hK K
  refine norm_ (a':=?_) ?_ ?_
  rotate_left
  ·exact z39_23
  refine pure_ (i:=14) (N:=some 6) (v:=?_) (a':=?_) #[Y,Y,Y,Y,Y,Y,Y,Y,Y,Y,Y,Y,Y,Y,Y] rfl rfl (any_of HT_.out z3_17) (λ_ _ _ h=>h) (Or.inl ⟨(by rfl),?_⟩) ?_ ?_
  rotate_left
  ·intro w'
   go_simp
   with_reducible rfl
  rotate_left
  ·exact z3_3
  refine done_ (done_of HT_.out z3_17) ?_
  try go_wp2
  go_roundg k2
  case measure=>have:=HK1.out;have:=HK2.out;omega
  case rel=>exact ⟨(y823),(t828),(wrap64 (x7_1+1)),z10_4,H',⟨z39_21⟩,⟨z39_18⟩,⟨(by(with_reducible repeat(first|apply Kd.N_alloc|apply Kd.N_drewN|apply Kd.N_drew));exact Kd.N_mono HO825.out (λ_ hk=>⟨hk.1.1,hk.2⟩))⟩,⟨(by(with_reducible repeat(first|apply Kd.R_alloc|apply Kd.R_drewN|apply Kd.R_drew));exact Kd.R_mono HO830.out (λ_ hk=>hk.1.1))⟩,⟨z10_0⟩⟩
 rw [if_pos c10] at H
 have c10b0:decide (x9_2<(l0.length:Int))=true:=dT_ c10
 clear c10
 by_cases c11:0<=x9_2
 rotate_left
 ·rw [if_neg c11] at H
  exact absurd H (by simp)
 rw [if_pos c11] at H
 have c11b0:decide (0<=x9_2)=true:=dT_ c11
 clear c11
 replace H:=oB_ H
 obtain ⟨t805,A120,H⟩:=H
 replace H:(if ((rd_T30 l0 x9_2).f0.f1) > t805 then((r03_Within.f k2 ((rd_T30 l0 x9_2).f1) x6_1).bind λt807=>(if t807=true then(if x8_2.length<2199023255552 then(w08_Turned.l1 k2 l0 l1 x5_1 x6_1 x7_1 (x8_2++[(⟨(⟨(rd_T30 l0 x9_2).f0.f0,(rd_T30 l0 x9_2).f0.f1⟩:S25),(rd_T30 l0 x9_2).f1,(rd_T30 l0 x9_2).f2⟩:S30)]) (wrap64 (x9_2+1))) else(none)) else(w08_Turned.l1 k2 l0 l1 x5_1 x6_1 x7_1 x8_2 (wrap64 (x9_2+1))))) else(w08_Turned.l1 k2 l0 l1 x5_1 x6_1 x7_1 x8_2 (wrap64 (x9_2+1))))=some r:=H
 have A12:=Aside0.mk A120
 clear A120
 by_cases c13:((rd_T30 l0 x9_2).f0.f1) > t805
 rotate_left
 ·rw [if_neg c13] at H
  have c13b0:decide (t805<((rd_T30 l0 x9_2).f0.f1))=false:=dF_ c13
  clear c13
  have H':=Aside0.mk H
  clear H
  try go_wp2
  have n0_:=U (Kd.V_drew HO_0.out)
  have n1_:=U (Kd.N_drew HO_5.out)
  have n2_:=U (Kd.R_drew HO_6.out)
  have n3_:=U (Kd.N_drew HO_8.out)
  have n4_:=U (below_drew1 HB.out)
  clear HO_0
  clear HO_5
  clear HO_6
  clear HO_8
  clear HB
  have HO_0:=n0_
  have HO_5:=n1_
  have HO_6:=n2_
  have HO_8:=n3_
  have HB:=n4_
  clear n0_ n1_ n2_ n3_ n4_
  have p803:0<=(x9_2:Int):=oD_ z10_1
  have q803:x9_2<(l0.length:Int):=oD_ z10_1
  obtain ⟨ad803,A803_2,c803_2,A803_3,c803_3,e803,hx803_0,hx803_1,hx803_2,hx803_3,hl803_2,hi803_2,hl803_3,hi803_3⟩:=at_T30 (Kd.V_reads' HO_0.out).2.2 x9_2 p803 q803
  cases e803
  obtain ⟨ce803,hce803,hMe803,hcc803⟩:=Kd.V_get HO_0.out z30 x9_2 p803 z39_13
  obtain ⟨ua803_2,uc803_2,ua803_3,uc803_3,rfl,ul803_2,ge803_2,ul803_3,ge803_3⟩:=k30_openF hMe803
  have hv803_2:=hcc803 2 _ rfl
  rw [add_field _ _ 2 (by omega)] at hv803_2
  replace hv803_2:=sI_ (hv803_2.symm.trans hx803_2)
  injection hv803_2 with hva_ hvn_ hvc_
  rw [hva_] at ge803_2
  rw [hvc_] at ul803_2
  have HL803_2:=U (show Kd.V (Kd.int .i64) 3 _ w.heap.size _ _ ((rd_T30 l0 x9_2).f1) from Kd.V_mk ul803_2 ge803_2)
  clear hva_ hvn_ hvc_ ge803_2 ul803_2
  have hv803_3:=hcc803 3 _ rfl
  rw [add_field _ _ 3 (by omega)] at hv803_3
  replace hv803_3:=sI_ (hv803_3.symm.trans hx803_3)
  injection hv803_3 with hva_ hvn_ hvc_
  rw [hva_] at ge803_3
  rw [hvc_] at ul803_3
  have HL803_3:=U (show Kd.V k48 48 _ w.heap.size _ _ ((rd_T30 l0 x9_2).f2) from Kd.V_mk ul803_3 ge803_3)
  clear hva_ hvn_ hvc_ ge803_3 ul803_3
  clear hcc803 hce803
  have HR803_2:=Aside0.mk hi803_2
  have HC803_2:=Aside0.mk hl803_2
  clear hi803_2 hl803_2
  have HR803_3:=Aside0.mk hi803_3
  have HC803_3:=Aside0.mk hl803_3
  clear hi803_3 hl803_3
  replace p803:=eq_true p803
  replace q803:=eq_true q803
  have p804:0<=(x9_2:Int):=oD_ z10_1
  have q804:x9_2<(l0.length:Int):=oD_ z10_1
  obtain ⟨ad804,A804_2,c804_2,A804_3,c804_3,e804,hx804_0,hx804_1,hx804_2,hx804_3,hl804_2,hi804_2,hl804_3,hi804_3⟩:=at_T30 (Kd.V_reads' HO_0.out).2.2 x9_2 p804 q804
  obtain rfl:ad803=ad804:=(by injection e804)
  obtain ⟨ce804,hce804,hMe804,hcc804⟩:=Kd.V_get HO_0.out z30 x9_2 p804 z39_14
  obtain ⟨ua804_2,uc804_2,ua804_3,uc804_3,rfl,ul804_2,ge804_2,ul804_3,ge804_3⟩:=k30_openF hMe804
  have hv804_2:=hcc804 2 _ rfl
  rw [add_field _ _ 2 (by omega)] at hv804_2
  replace hv804_2:=sI_ (hv804_2.symm.trans hx804_2)
  injection hv804_2 with hva_ hvn_ hvc_
  rw [hva_] at ge804_2
  rw [hvc_] at ul804_2
  have HL804_2:=U (show Kd.V (Kd.int .i64) 3 _ w.heap.size _ _ ((rd_T30 l0 x9_2).f1) from Kd.V_mk ul804_2 ge804_2)
  clear hva_ hvn_ hvc_ ge804_2 ul804_2
  have hv804_3:=hcc804 3 _ rfl
  rw [add_field _ _ 3 (by omega)] at hv804_3
  replace hv804_3:=sI_ (hv804_3.symm.trans hx804_3)
  injection hv804_3 with hva_ hvn_ hvc_
  rw [hva_] at ge804_3
  rw [hvc_] at ul804_3
  have HL804_3:=U (show Kd.V k48 48 _ w.heap.size _ _ ((rd_T30 l0 x9_2).f2) from Kd.V_mk ul804_3 ge804_3)
  clear hva_ hvn_ hvc_ ge804_3 ul804_3
  clear hcc804 hce804
  have HR804_2:=Aside0.mk hi804_2
  have HC804_2:=Aside0.mk hl804_2
  clear hi804_2 hl804_2
  have HR804_3:=Aside0.mk hi804_3
  have HC804_3:=Aside0.mk hl804_3
  clear hi804_3 hl804_3
  replace p804:=eq_true p804
  replace q804:=eq_true q804
  have ea_:=sI_ (hx803_2.symm.trans hx804_2)
  injection ea_ with ea_ en_ ec_
  subst ea_
  subst ec_
  clear en_
  have ea_:=sI_ (hx803_3.symm.trans hx804_3)
  injection ea_ with ea_ en_ ec_
  subst ea_
  subst ec_
  clear en_
  obtain ⟨Ao23,co23,eo23⟩:=Kd.R_slice HO_6.out
  (first|subst eo23|(injection eo23 with f1_ f2_ f3_;have f4_:=f1_.symm;have f5_:=f3_.symm;clear f1_ f2_ f3_;subst f4_;subst f5_))
  refine start_ (n:=24) (S:=λw'=>w'.cell? (ad803.add ((x9_2).toNat*4))=some (.int .i64 ((rd_T30 l0 x9_2).f0.f0))/\w'.cell? ⟨(ad803.add ((x9_2).toNat*4)).block,(ad803.add ((x9_2).toNat*4)).off+1,none⟩=some (.int .i64 ((rd_T30 l0 x9_2).f0.f1))/\w'.cell? ⟨(ad803.add ((x9_2).toNat*4)).block,(ad803.add ((x9_2).toNat*4)).off+2,none⟩=some (.slice A803_2 ((rd_T30 l0 x9_2).f1).length c803_2)/\w'.cell? ⟨(ad803.add ((x9_2).toNat*4)).block,(ad803.add ((x9_2).toNat*4)).off+3,none⟩=some (.slice A803_3 ((rd_T30 l0 x9_2).f2).length c803_3)/\w'.cell? (ad803.add ((x9_2).toNat*4))=some (.int .i64 ((rd_T30 l0 x9_2).f0.f0))/\w'.cell? ⟨(ad803.add ((x9_2).toNat*4)).block,(ad803.add ((x9_2).toNat*4)).off+1,none⟩=some (.int .i64 ((rd_T30 l0 x9_2).f0.f1))/\w'.cell? ⟨(ad803.add ((x9_2).toNat*4)).block,(ad803.add ((x9_2).toNat*4)).off+2,none⟩=some (.slice A803_2 ((rd_T30 l0 x9_2).f1).length c803_2)/\w'.cell? ⟨(ad803.add ((x9_2).toNat*4)).block,(ad803.add ((x9_2).toNat*4)).off+3,none⟩=some (.slice A803_3 ((rd_T30 l0 x9_2).f2).length c803_3)) (ds:=[]) #[J,J,J,J,J,J,J,J,J,J,J,J,J,J,J,J,J,J,J,J,J,J,J,J] z3_17 rfl rfl ⟨hx803_0,hx803_1,hx803_2,hx803_3,hx804_0,hx804_1,hx804_2,hx804_3⟩ (λhHeld=>?_);refine with_tabW w08_Turned.tab10 w08_Turned.bits10 (λHT_ HW_=>?_)
  generalize wr.drew=w22 at HO_0 HO_5 HO_6 HO_8 HB HL803_2 HL803_3 HL804_2 HL804_3 HR803_2 HR803_3 HR804_2 HR804_3 hx803_0 hx803_1 hx803_2 hx803_3 hx804_0 hx804_1 hx804_2 hx804_3 hHeld ⊢
  refine pure_ (i:=0) (N:=some 26) (v:=?_) (a':=?_) #[Y,J,J,J,J,J,J,J,J,J,J,J,J,J,J,J,J,J,J,J,J,J,J,J] rfl rfl (any_of HT_.out z3_17) (λ_ _ _ h=>h) (Or.inl ⟨(by rfl),?_⟩) ?_ ?_
  rotate_left
  ·intro w'
   go_simp
   with_reducible rfl
  rotate_left
  ·exact z3_3
  refine pure_ (i:=1) (N:=some 27) (v:=?_) (a':=?_) #[Y,Y,J,J,J,J,J,J,J,J,J,J,J,J,J,J,J,J,J,J,J,J,J,J] rfl rfl (any_of HT_.out z3_17) (λ_ _ _ h=>h) (Or.inl ⟨(by rfl),?_⟩) ?_ ?_
  rotate_left
  ·intro w'
   go_simp
   with_reducible rfl
  rotate_left
  ·exact z3_3
  refine pure_ (i:=2) (N:=some 28) (v:=?_) (a':=?_) #[Y,Y,Y,J,J,J,J,J,J,J,J,J,J,J,J,J,J,J,J,J,J,J,J,J] rfl rfl (any_of HT_.out z3_17) (λ_ _ _ h=>h) (Or.inl ⟨(by rfl),?_⟩) ?_ ?_
  rotate_left
  ·intro w'
   go_simp
   with_reducible rfl
  rotate_left
  ·exact z3_3
  refine pure_ (i:=3) (N:=some 29) (v:=?_) (a':=?_) #[Y,Y,Y,Y,J,J,J,J,J,J,J,J,J,J,J,J,J,J,J,J,J,J,J,J] rfl rfl (any_of HT_.out z3_17) (λ_ _ _ h=>h) (Or.inl ⟨(by rfl),?_⟩) ?_ ?_
  rotate_left
  ·intro w'
   go_simp
   with_reducible rfl
  rotate_left
  ·exact z3_3
  refine pure_ (i:=4) (N:=some 30) (v:=?_) (a':=?_) #[Y,Y,Y,Y,Y,J,J,J,J,J,J,J,J,J,J,J,J,J,J,J,J,J,J,J] rfl rfl (any_of HT_.out z3_17) (λ_ _ _ h=>h) (Or.inl ⟨(by rfl),?_⟩) ?_ ?_
  rotate_left
  ·intro w'
   go_simp
   with_reducible rfl
  rotate_left
  ·exact z3_3
  refine pure_ (i:=6) (N:=some 32) (v:=?_) (a':=?_) #[Y,Y,Y,Y,Y,J,Y,J,J,J,J,J,J,J,J,J,J,J,J,J,J,J,J,J] rfl rfl (any_of HT_.out z3_17) (λ_ _ _ h=>h) (Or.inl ⟨(by rfl),?_⟩) ?_ ?_
  rotate_left
  ·intro w'
   go_simp
   with_reducible rfl
  rotate_left
  ·exact z3_3
  refine pure_ (i:=7) (N:=some 33) (v:=?_) (a':=?_) #[Y,Y,Y,Y,Y,J,Y,Y,J,J,J,J,J,J,J,J,J,J,J,J,J,J,J,J] rfl rfl (any_of HT_.out z3_17) (λ_ _ _ h=>h) (Or.inl ⟨(by rfl),?_⟩) ?_ ?_
  rotate_left
  ·intro w'
   go_simp
   with_reducible rfl
  rotate_left
  ·exact z3_3
  refine pure_ (i:=8) (N:=some 34) (v:=?_) (a':=?_) #[Y,Y,Y,Y,Y,J,Y,Y,Y,J,J,J,J,J,J,J,J,J,J,J,J,J,J,J] rfl rfl (any_of HT_.out z3_17) (λ_ _ _ h=>h) (Or.inl ⟨(by rfl),?_⟩) ?_ ?_
  rotate_left
  ·intro w'
   go_simp
   with_reducible rfl
  rotate_left
  ·exact z3_3
  refine pure_ (i:=9) (N:=some 35) (v:=?_) (a':=?_) #[Y,Y,Y,Y,Y,J,Y,Y,Y,Y,J,J,J,J,J,J,J,J,J,J,J,J,J,J] rfl rfl (any_of HT_.out z3_17) (λ_ _ _ h=>h) (Or.inl ⟨(by rfl),?_⟩) ?_ ?_
  rotate_left
  ·intro w'
   go_simp
   with_reducible rfl
  rotate_left
  ·exact z3_3
  refine pure_ (i:=10) (N:=some 36) (v:=?_) (a':=?_) #[Y,Y,Y,Y,Y,J,Y,Y,Y,Y,Y,J,J,J,J,J,J,J,J,J,J,J,J,J] rfl rfl (any_of HT_.out z3_17) (λ_ _ _ h=>h) (Or.inl ⟨(by rfl),?_⟩) ?_ ?_
  rotate_left
  ·intro w'
   go_simp
   with_reducible rfl
  rotate_left
  ·exact z3_3
  refine pure_ (i:=11) (N:=some 37) (v:=?_) (a':=?_) #[Y,Y,Y,Y,Y,J,Y,Y,Y,Y,Y,Y,J,J,J,J,J,J,J,J,J,J,J,J] rfl rfl (any_of HT_.out z3_17) (λ_ _ _ h=>h) (Or.inl ⟨(by rfl),?_⟩) ?_ ?_
  rotate_left
  ·intro w'
   go_simp
   with_reducible rfl
  rotate_left
  ·exact z3_3
  refine take_ (i:=5) (N:=some 31) (v:=?_) (a':=?_) #[Y,Y,Y,Y,Y,Y,Y,Y,Y,Y,Y,Y,J,J,J,J,J,J,J,J,J,J,J,J] rfl rfl (take_ofW HT_.out HW_.out z3_17) (λ_ _ _ h=>h) (Or.inl ⟨(by rfl),?_⟩) hHeld ?_ ?_
  rotate_left
  ·rintro w' ⟨s0,s1,s2,s3,s4,s5,s6,s7⟩
   go_simp
   with_reducible rfl
  rotate_left
  ·exact z3_3
  refine take_ (i:=12) (N:=some 38) (v:=?_) (a':=?_) #[Y,Y,Y,Y,Y,Y,Y,Y,Y,Y,Y,Y,Y,J,J,J,J,J,J,J,J,J,J,J] rfl rfl (take_ofW HT_.out HW_.out z3_17) (λ_ _ _ h=>h) (Or.inl ⟨(by rfl),?_⟩) hHeld ?_ ?_
  rotate_left
  ·rintro w' ⟨s0,s1,s2,s3,s4,s5,s6,s7⟩
   go_simp
   with_reducible rfl
  rotate_left
  ·exact z3_3
  refine one_ (i:=13) (N:=some 39) #[Y,Y,Y,Y,Y,Y,Y,Y,Y,Y,Y,Y,Y,Y,J,J,J,J,J,J,J,J,J,J] rfl rfl (one_of HT_.out z3_17) (by decide) (λK hK=>?_)
  refine goes_ Try.func58 z3_17 rfl #[.slice Ao23 x6_1.length co23,.int .i64 ((rd_T30 l0 x9_2).f0.f0)] (by rfl) rfl rfl z10_2 ?_
  with_reducible refine(r03_Get.calls k2 _ _ x6_1 ((rd_T30 l0 x9_2).f0.f0) t805 _ ?side1 ?side2 A12.out).mono ?_
  (case side1=>exact z39_4)
  (case side2=>exact z39_17)
  rintro e w' ⟨rfl,⟨nd,rfl⟩⟩
  refine ⟨_,rfl,?_⟩
  refine hK.out _ _ ⟨hHeld.1,hHeld.2.1,hHeld.2.2.1,hHeld.2.2.2.1,hHeld.2.2.2.2.1,hHeld.2.2.2.2.2.1,hHeld.2.2.2.2.2.2.1,hHeld.2.2.2.2.2.2.2⟩ (λhHeld=>?_)
  clear hK K
  refine norm_ (a':=?_) ?_ ?_
  rotate_left
  ·exact z39_11
  refine pure_ (i:=14) (N:=some 40) (v:=?_) (a':=?_) #[Y,Y,Y,Y,Y,Y,Y,Y,Y,Y,Y,Y,Y,Y,Y,J,J,J,J,J,J,J,J,J] rfl rfl (any_of HT_.out z3_17) (λ_ _ _ h=>h) (Or.inl ⟨(by rfl),?_⟩) ?_ ?_
  rotate_left
  ·intro w'
   go_simp
   with_reducible rfl
  rotate_left
  ·exact z3_3
  refine pure_ (i:=15) (N:=some 41) (v:=?_) (a':=?_) #[Y,Y,Y,Y,Y,Y,Y,Y,Y,Y,Y,Y,Y,Y,Y,Y,J,J,J,J,J,J,J,J] rfl rfl (any_of HT_.out z3_17) (λ_ _ _ h=>h) (Or.inl ⟨(by rfl),?_⟩) ?_ ?_
  rotate_left
  ·intro w'
   go_simp
   with_reducible rfl
  rotate_left
  ·exact z3_3
  refine pure_ (i:=16) (N:=some 42) (v:=undef) (a':=?_) #[Y,Y,Y,Y,Y,Y,Y,Y,Y,Y,Y,Y,Y,Y,Y,Y,Y,J,J,J,J,J,J,J] rfl rfl (any_of HT_.out z3_17) (λ_ _ _ h=>h) (Or.inr ⟨(by rfl),rfl⟩) ?_ ?_
  rotate_left
  ·exact z3_3
  refine pure_ (i:=17) (N:=some 43) (v:=undef) (a':=?_) #[Y,Y,Y,Y,Y,Y,Y,Y,Y,Y,Y,Y,Y,Y,Y,Y,Y,Y,J,J,J,J,J,J] rfl rfl (any_of HT_.out z3_17) (λ_ _ _ h=>h) (Or.inr ⟨(by rfl),rfl⟩) ?_ ?_
  rotate_left
  ·exact z3_3
  refine pure_ (i:=18) (N:=some 44) (v:=undef) (a':=?_) #[Y,Y,Y,Y,Y,Y,Y,Y,Y,Y,Y,Y,Y,Y,Y,Y,Y,Y,Y,J,J,J,J,J] rfl rfl (any_of HT_.out z3_17) (λ_ _ _ h=>h) (Or.inr ⟨(by rfl),rfl⟩) ?_ ?_
  rotate_left
  ·exact z3_3
  refine pure_ (i:=19) (N:=some 45) (v:=undef) (a':=?_) #[Y,Y,Y,Y,Y,Y,Y,Y,Y,Y,Y,Y,Y,Y,Y,Y,Y,Y,Y,Y,J,J,J,J] rfl rfl (any_of HT_.out z3_17) (λ_ _ _ h=>h) (Or.inr ⟨(by rfl),rfl⟩) ?_ ?_
  rotate_left
  ·exact z3_3
  refine pure_ (i:=20) (N:=some 46) (v:=undef) (a':=?_) #[Y,Y,Y,Y,Y,Y,Y,Y,Y,Y,Y,Y,Y,Y,Y,Y,Y,Y,Y,Y,Y,J,J,J] rfl rfl (any_of HT_.out z3_17) (λ_ _ _ h=>h) (Or.inr ⟨(by rfl),rfl⟩) ?_ ?_
  rotate_left
  ·exact z3_3
  refine pure_ (i:=21) (N:=some 47) (v:=undef) (a':=?_) #[Y,Y,Y,Y,Y,Y,Y,Y,Y,Y,Y,Y,Y,Y,Y,Y,Y,Y,Y,Y,Y,Y,J,J] rfl rfl (any_of HT_.out z3_17) (λ_ _ _ h=>h) (Or.inr ⟨(by rfl),rfl⟩) ?_ ?_
  rotate_left
  ·exact z3_3
  refine pure_ (i:=22) (N:=some 48) (v:=undef) (a':=?_) #[Y,Y,Y,Y,Y,Y,Y,Y,Y,Y,Y,Y,Y,Y,Y,Y,Y,Y,Y,Y,Y,Y,Y,J] rfl rfl (any_of HT_.out z3_17) (λ_ _ _ h=>h) (Or.inr ⟨(by rfl),rfl⟩) ?_ ?_
  rotate_left
  ·exact z3_3
  refine pure_ (i:=23) (N:=some 49) (v:=?_) (a':=?_) #[Y,Y,Y,Y,Y,Y,Y,Y,Y,Y,Y,Y,Y,Y,Y,Y,Y,Y,Y,Y,Y,Y,Y,Y] rfl rfl (any_of HT_.out z3_17) (λ_ _ _ h=>h) (Or.inl ⟨(by rfl),?_⟩) ?_ ?_
  rotate_left
  ·intro w'
   go_simp
   with_reducible rfl
  rotate_left
  ·exact z3_3
  refine done_ (done_of HT_.out z3_17) ?_
  try go_wp2
  go_roundg k2
  case measure=>have:=HK1.out;have:=HK2.out;omega
  case rel=>exact ⟨(x8_2),(wrap64 (x9_2+1)),z10_4,H',⟨z39_21⟩,⟨z39_9⟩,⟨z39_5⟩,⟨z39_3⟩,⟨z39_7⟩,⟨z10_0⟩⟩
 rw [if_pos c13] at H
 have c13b0:decide (t805<((rd_T30 l0 x9_2).f0.f1))=true:=dT_ c13
 clear c13
 replace H:=oB_ H
 obtain ⟨t807,A140,H⟩:=H
 replace H:(if t807=true then(if x8_2.length<2199023255552 then(w08_Turned.l1 k2 l0 l1 x5_1 x6_1 x7_1 (x8_2++[(⟨(⟨(rd_T30 l0 x9_2).f0.f0,(rd_T30 l0 x9_2).f0.f1⟩:S25),(rd_T30 l0 x9_2).f1,(rd_T30 l0 x9_2).f2⟩:S30)]) (wrap64 (x9_2+1))) else(none)) else(w08_Turned.l1 k2 l0 l1 x5_1 x6_1 x7_1 x8_2 (wrap64 (x9_2+1))))=some r:=H
 have A14:=Aside0.mk A140
 clear A140
 by_cases c15:t807=true
 rotate_left
 ·replace c15:=Bool.eq_false_iff.mpr c15
  subst c15
  have H1:(w08_Turned.l1 k2 l0 l1 x5_1 x6_1 x7_1 x8_2 (wrap64 (x9_2+1)))=some r:=by rw [if_neg (show ¬ (false=true) by decide)] at H;exact H
  clear H
  have H:=H1
  clear H1
  have H':=Aside0.mk H
  clear H
  try go_wp2
  have n0_:=U (Kd.V_drew HO_0.out)
  have n1_:=U (Kd.N_drew HO_5.out)
  have n2_:=U (Kd.R_drew HO_6.out)
  have n3_:=U (Kd.N_drew HO_8.out)
  have n4_:=U (below_drew1 HB.out)
  clear HO_0
  clear HO_5
  clear HO_6
  clear HO_8
  clear HB
  have HO_0:=n0_
  have HO_5:=n1_
  have HO_6:=n2_
  have HO_8:=n3_
  have HB:=n4_
  clear n0_ n1_ n2_ n3_ n4_
  have p803:0<=(x9_2:Int):=oD_ z10_1
  have q803:x9_2<(l0.length:Int):=oD_ z10_1
  obtain ⟨ad803,A803_2,c803_2,A803_3,c803_3,e803,hx803_0,hx803_1,hx803_2,hx803_3,hl803_2,hi803_2,hl803_3,hi803_3⟩:=at_T30 (Kd.V_reads' HO_0.out).2.2 x9_2 p803 q803
  cases e803
  obtain ⟨ce803,hce803,hMe803,hcc803⟩:=Kd.V_get HO_0.out z30 x9_2 p803 z39_13
  obtain ⟨ua803_2,uc803_2,ua803_3,uc803_3,rfl,ul803_2,ge803_2,ul803_3,ge803_3⟩:=k30_openF hMe803
  have hv803_2:=hcc803 2 _ rfl
  rw [add_field _ _ 2 (by omega)] at hv803_2
  replace hv803_2:=sI_ (hv803_2.symm.trans hx803_2)
  injection hv803_2 with hva_ hvn_ hvc_
  rw [hva_] at ge803_2
  rw [hvc_] at ul803_2
  have HL803_2:=U (show Kd.V (Kd.int .i64) 3 _ w.heap.size _ _ ((rd_T30 l0 x9_2).f1) from Kd.V_mk ul803_2 ge803_2)
  clear hva_ hvn_ hvc_ ge803_2 ul803_2
  have hv803_3:=hcc803 3 _ rfl
  rw [add_field _ _ 3 (by omega)] at hv803_3
  replace hv803_3:=sI_ (hv803_3.symm.trans hx803_3)
  injection hv803_3 with hva_ hvn_ hvc_
  rw [hva_] at ge803_3
  rw [hvc_] at ul803_3
  have HL803_3:=U (show Kd.V k48 48 _ w.heap.size _ _ ((rd_T30 l0 x9_2).f2) from Kd.V_mk ul803_3 ge803_3)
  clear hva_ hvn_ hvc_ ge803_3 ul803_3
  clear hcc803 hce803
  have HR803_2:=Aside0.mk hi803_2
  have HC803_2:=Aside0.mk hl803_2
  clear hi803_2 hl803_2
  have HR803_3:=Aside0.mk hi803_3
  have HC803_3:=Aside0.mk hl803_3
  clear hi803_3 hl803_3
  replace p803:=eq_true p803
  replace q803:=eq_true q803
  have p804:0<=(x9_2:Int):=oD_ z10_1
  have q804:x9_2<(l0.length:Int):=oD_ z10_1
  obtain ⟨ad804,A804_2,c804_2,A804_3,c804_3,e804,hx804_0,hx804_1,hx804_2,hx804_3,hl804_2,hi804_2,hl804_3,hi804_3⟩:=at_T30 (Kd.V_reads' HO_0.out).2.2 x9_2 p804 q804
  obtain rfl:ad803=ad804:=(by injection e804)
  obtain ⟨ce804,hce804,hMe804,hcc804⟩:=Kd.V_get HO_0.out z30 x9_2 p804 z39_14
  obtain ⟨ua804_2,uc804_2,ua804_3,uc804_3,rfl,ul804_2,ge804_2,ul804_3,ge804_3⟩:=k30_openF hMe804
  have hv804_2:=hcc804 2 _ rfl
  rw [add_field _ _ 2 (by omega)] at hv804_2
  replace hv804_2:=sI_ (hv804_2.symm.trans hx804_2)
  injection hv804_2 with hva_ hvn_ hvc_
  rw [hva_] at ge804_2
  rw [hvc_] at ul804_2
  have HL804_2:=U (show Kd.V (Kd.int .i64) 3 _ w.heap.size _ _ ((rd_T30 l0 x9_2).f1) from Kd.V_mk ul804_2 ge804_2)
  clear hva_ hvn_ hvc_ ge804_2 ul804_2
  have hv804_3:=hcc804 3 _ rfl
  rw [add_field _ _ 3 (by omega)] at hv804_3
  replace hv804_3:=sI_ (hv804_3.symm.trans hx804_3)
  injection hv804_3 with hva_ hvn_ hvc_
  rw [hva_] at ge804_3
  rw [hvc_] at ul804_3
  have HL804_3:=U (show Kd.V k48 48 _ w.heap.size _ _ ((rd_T30 l0 x9_2).f2) from Kd.V_mk ul804_3 ge804_3)
  clear hva_ hvn_ hvc_ ge804_3 ul804_3
  clear hcc804 hce804
  have HR804_2:=Aside0.mk hi804_2
  have HC804_2:=Aside0.mk hl804_2
  clear hi804_2 hl804_2
  have HR804_3:=Aside0.mk hi804_3
  have HC804_3:=Aside0.mk hl804_3
  clear hi804_3 hl804_3
  replace p804:=eq_true p804
  replace q804:=eq_true q804
  have ea_:=sI_ (hx803_2.symm.trans hx804_2)
  injection ea_ with ea_ en_ ec_
  subst ea_
  subst ec_
  clear en_
  have ea_:=sI_ (hx803_3.symm.trans hx804_3)
  injection ea_ with ea_ en_ ec_
  subst ea_
  subst ec_
  clear en_
  obtain ⟨Ao21,co21,eo21⟩:=Kd.R_slice HO_6.out
  (first|subst eo21|(injection eo21 with f1_ f2_ f3_;have f4_:=f1_.symm;have f5_:=f3_.symm;clear f1_ f2_ f3_;subst f4_;subst f5_))
  have p806:0<=(x9_2:Int):=oD_ z10_1
  have q806:x9_2<(l0.length:Int):=oD_ z10_1
  obtain ⟨ad806,A806_2,c806_2,A806_3,c806_3,e806,hx806_0,hx806_1,hx806_2,hx806_3,hl806_2,hi806_2,hl806_3,hi806_3⟩:=at_T30 (Kd.V_reads' HO_0.out).2.2 x9_2 p806 q806
  obtain rfl:ad803=ad806:=(by injection e806)
  obtain ⟨ce806,hce806,hMe806,hcc806⟩:=Kd.V_get HO_0.out z30 x9_2 p806 (by first|exact q806|exact oD_ z10_1|(have e_:=(Kd.V_reads' HO_0.out).1;omega))
  obtain ⟨ua806_2,uc806_2,ua806_3,uc806_3,rfl,ul806_2,ge806_2,ul806_3,ge806_3⟩:=k30_openF hMe806
  have hv806_2:=hcc806 2 _ rfl
  rw [add_field _ _ 2 (by omega)] at hv806_2
  replace hv806_2:=sI_ (hv806_2.symm.trans hx806_2)
  injection hv806_2 with hva_ hvn_ hvc_
  rw [hva_] at ge806_2
  rw [hvc_] at ul806_2
  have HL806_2:=U (show Kd.V (Kd.int .i64) 3 _ w.heap.size _ _ ((rd_T30 l0 x9_2).f1) from Kd.V_mk ul806_2 ge806_2)
  clear hva_ hvn_ hvc_ ge806_2 ul806_2
  have hv806_3:=hcc806 3 _ rfl
  rw [add_field _ _ 3 (by omega)] at hv806_3
  replace hv806_3:=sI_ (hv806_3.symm.trans hx806_3)
  injection hv806_3 with hva_ hvn_ hvc_
  rw [hva_] at ge806_3
  rw [hvc_] at ul806_3
  have HL806_3:=U (show Kd.V k48 48 _ w.heap.size _ _ ((rd_T30 l0 x9_2).f2) from Kd.V_mk ul806_3 ge806_3)
  clear hva_ hvn_ hvc_ ge806_3 ul806_3
  clear hcc806 hce806
  have HR806_2:=Aside0.mk hi806_2
  have HC806_2:=Aside0.mk hl806_2
  clear hi806_2 hl806_2
  have HR806_3:=Aside0.mk hi806_3
  have HC806_3:=Aside0.mk hl806_3
  clear hi806_3 hl806_3
  replace p806:=eq_true p806
  replace q806:=eq_true q806
  have ea_:=sI_ (hx803_2.symm.trans hx806_2)
  injection ea_ with ea_ en_ ec_
  subst ea_
  subst ec_
  clear en_
  have ea_:=sI_ (hx803_3.symm.trans hx806_3)
  injection ea_ with ea_ en_ ec_
  subst ea_
  subst ec_
  clear en_
  refine start_ (n:=24) (S:=λw'=>w'.cell? (ad803.add ((x9_2).toNat*4))=some (.int .i64 ((rd_T30 l0 x9_2).f0.f0))/\w'.cell? ⟨(ad803.add ((x9_2).toNat*4)).block,(ad803.add ((x9_2).toNat*4)).off+1,none⟩=some (.int .i64 ((rd_T30 l0 x9_2).f0.f1))/\w'.cell? ⟨(ad803.add ((x9_2).toNat*4)).block,(ad803.add ((x9_2).toNat*4)).off+2,none⟩=some (.slice A803_2 ((rd_T30 l0 x9_2).f1).length c803_2)/\w'.cell? ⟨(ad803.add ((x9_2).toNat*4)).block,(ad803.add ((x9_2).toNat*4)).off+3,none⟩=some (.slice A803_3 ((rd_T30 l0 x9_2).f2).length c803_3)/\w'.cell? (ad803.add ((x9_2).toNat*4))=some (.int .i64 ((rd_T30 l0 x9_2).f0.f0))/\w'.cell? ⟨(ad803.add ((x9_2).toNat*4)).block,(ad803.add ((x9_2).toNat*4)).off+1,none⟩=some (.int .i64 ((rd_T30 l0 x9_2).f0.f1))/\w'.cell? ⟨(ad803.add ((x9_2).toNat*4)).block,(ad803.add ((x9_2).toNat*4)).off+2,none⟩=some (.slice A803_2 ((rd_T30 l0 x9_2).f1).length c803_2)/\w'.cell? ⟨(ad803.add ((x9_2).toNat*4)).block,(ad803.add ((x9_2).toNat*4)).off+3,none⟩=some (.slice A803_3 ((rd_T30 l0 x9_2).f2).length c803_3)/\w'.cell? (ad803.add ((x9_2).toNat*4))=some (.int .i64 ((rd_T30 l0 x9_2).f0.f0))/\w'.cell? ⟨(ad803.add ((x9_2).toNat*4)).block,(ad803.add ((x9_2).toNat*4)).off+1,none⟩=some (.int .i64 ((rd_T30 l0 x9_2).f0.f1))/\w'.cell? ⟨(ad803.add ((x9_2).toNat*4)).block,(ad803.add ((x9_2).toNat*4)).off+2,none⟩=some (.slice A803_2 ((rd_T30 l0 x9_2).f1).length c803_2)/\w'.cell? ⟨(ad803.add ((x9_2).toNat*4)).block,(ad803.add ((x9_2).toNat*4)).off+3,none⟩=some (.slice A803_3 ((rd_T30 l0 x9_2).f2).length c803_3)) (ds:=[]) #[J,J,J,J,J,J,J,J,J,J,J,J,J,J,J,J,J,J,J,J,J,J,J,J] z3_17 rfl rfl ⟨hx803_0,hx803_1,hx803_2,hx803_3,hx804_0,hx804_1,hx804_2,hx804_3,hx806_0,hx806_1,hx806_2,hx806_3⟩ (λhHeld=>?_);refine with_tabW w08_Turned.tab10 w08_Turned.bits10 (λHT_ HW_=>?_)
  generalize wr.drew=w20 at HO_0 HO_5 HO_6 HO_8 HB HL803_2 HL803_3 HL804_2 HL804_3 HL806_2 HL806_3 HR803_2 HR803_3 HR804_2 HR804_3 HR806_2 HR806_3 hx803_0 hx803_1 hx803_2 hx803_3 hx804_0 hx804_1 hx804_2 hx804_3 hx806_0 hx806_1 hx806_2 hx806_3 hHeld ⊢
  refine pure_ (i:=0) (N:=some 26) (v:=?_) (a':=?_) #[Y,J,J,J,J,J,J,J,J,J,J,J,J,J,J,J,J,J,J,J,J,J,J,J] rfl rfl (any_of HT_.out z3_17) (λ_ _ _ h=>h) (Or.inl ⟨(by rfl),?_⟩) ?_ ?_
  rotate_left
  ·intro w'
   go_simp
   with_reducible rfl
  rotate_left
  ·exact z3_3
  refine pure_ (i:=1) (N:=some 27) (v:=?_) (a':=?_) #[Y,Y,J,J,J,J,J,J,J,J,J,J,J,J,J,J,J,J,J,J,J,J,J,J] rfl rfl (any_of HT_.out z3_17) (λ_ _ _ h=>h) (Or.inl ⟨(by rfl),?_⟩) ?_ ?_
  rotate_left
  ·intro w'
   go_simp
   with_reducible rfl
  rotate_left
  ·exact z3_3
  refine pure_ (i:=2) (N:=some 28) (v:=?_) (a':=?_) #[Y,Y,Y,J,J,J,J,J,J,J,J,J,J,J,J,J,J,J,J,J,J,J,J,J] rfl rfl (any_of HT_.out z3_17) (λ_ _ _ h=>h) (Or.inl ⟨(by rfl),?_⟩) ?_ ?_
  rotate_left
  ·intro w'
   go_simp
   with_reducible rfl
  rotate_left
  ·exact z3_3
  refine pure_ (i:=3) (N:=some 29) (v:=?_) (a':=?_) #[Y,Y,Y,Y,J,J,J,J,J,J,J,J,J,J,J,J,J,J,J,J,J,J,J,J] rfl rfl (any_of HT_.out z3_17) (λ_ _ _ h=>h) (Or.inl ⟨(by rfl),?_⟩) ?_ ?_
  rotate_left
  ·intro w'
   go_simp
   with_reducible rfl
  rotate_left
  ·exact z3_3
  refine pure_ (i:=4) (N:=some 30) (v:=?_) (a':=?_) #[Y,Y,Y,Y,Y,J,J,J,J,J,J,J,J,J,J,J,J,J,J,J,J,J,J,J] rfl rfl (any_of HT_.out z3_17) (λ_ _ _ h=>h) (Or.inl ⟨(by rfl),?_⟩) ?_ ?_
  rotate_left
  ·intro w'
   go_simp
   with_reducible rfl
  rotate_left
  ·exact z3_3
  refine pure_ (i:=6) (N:=some 32) (v:=?_) (a':=?_) #[Y,Y,Y,Y,Y,J,Y,J,J,J,J,J,J,J,J,J,J,J,J,J,J,J,J,J] rfl rfl (any_of HT_.out z3_17) (λ_ _ _ h=>h) (Or.inl ⟨(by rfl),?_⟩) ?_ ?_
  rotate_left
  ·intro w'
   go_simp
   with_reducible rfl
  rotate_left
  ·exact z3_3
  refine pure_ (i:=7) (N:=some 33) (v:=?_) (a':=?_) #[Y,Y,Y,Y,Y,J,Y,Y,J,J,J,J,J,J,J,J,J,J,J,J,J,J,J,J] rfl rfl (any_of HT_.out z3_17) (λ_ _ _ h=>h) (Or.inl ⟨(by rfl),?_⟩) ?_ ?_
  rotate_left
  ·intro w'
   go_simp
   with_reducible rfl
  rotate_left
  ·exact z3_3
  refine pure_ (i:=8) (N:=some 34) (v:=?_) (a':=?_) #[Y,Y,Y,Y,Y,J,Y,Y,Y,J,J,J,J,J,J,J,J,J,J,J,J,J,J,J] rfl rfl (any_of HT_.out z3_17) (λ_ _ _ h=>h) (Or.inl ⟨(by rfl),?_⟩) ?_ ?_
  rotate_left
  ·intro w'
   go_simp
   with_reducible rfl
  rotate_left
  ·exact z3_3
  refine pure_ (i:=9) (N:=some 35) (v:=?_) (a':=?_) #[Y,Y,Y,Y,Y,J,Y,Y,Y,Y,J,J,J,J,J,J,J,J,J,J,J,J,J,J] rfl rfl (any_of HT_.out z3_17) (λ_ _ _ h=>h) (Or.inl ⟨(by rfl),?_⟩) ?_ ?_
  rotate_left
  ·intro w'
   go_simp
   with_reducible rfl
  rotate_left
  ·exact z3_3
  refine pure_ (i:=10) (N:=some 36) (v:=?_) (a':=?_) #[Y,Y,Y,Y,Y,J,Y,Y,Y,Y,Y,J,J,J,J,J,J,J,J,J,J,J,J,J] rfl rfl (any_of HT_.out z3_17) (λ_ _ _ h=>h) (Or.inl ⟨(by rfl),?_⟩) ?_ ?_
  rotate_left
  ·intro w'
   go_simp
   with_reducible rfl
  rotate_left
  ·exact z3_3
  refine pure_ (i:=11) (N:=some 37) (v:=?_) (a':=?_) #[Y,Y,Y,Y,Y,J,Y,Y,Y,Y,Y,Y,J,J,J,J,J,J,J,J,J,J,J,J] rfl rfl (any_of HT_.out z3_17) (λ_ _ _ h=>h) (Or.inl ⟨(by rfl),?_⟩) ?_ ?_
  rotate_left
  ·intro w'
   go_simp
   with_reducible rfl
  rotate_left
  ·exact z3_3
  refine take_ (i:=5) (N:=some 31) (v:=?_) (a':=?_) #[Y,Y,Y,Y,Y,Y,Y,Y,Y,Y,Y,Y,J,J,J,J,J,J,J,J,J,J,J,J] rfl rfl (take_ofW HT_.out HW_.out z3_17) (λ_ _ _ h=>h) (Or.inl ⟨(by rfl),?_⟩) hHeld ?_ ?_
  rotate_left
  ·rintro w' ⟨s0,s1,s2,s3,s4,s5,s6,s7,s8,s9,s10,s11⟩
   go_simp
   with_reducible rfl
  rotate_left
  ·exact z3_3
  refine take_ (i:=12) (N:=some 38) (v:=?_) (a':=?_) #[Y,Y,Y,Y,Y,Y,Y,Y,Y,Y,Y,Y,Y,J,J,J,J,J,J,J,J,J,J,J] rfl rfl (take_ofW HT_.out HW_.out z3_17) (λ_ _ _ h=>h) (Or.inl ⟨(by rfl),?_⟩) hHeld ?_ ?_
  rotate_left
  ·rintro w' ⟨s0,s1,s2,s3,s4,s5,s6,s7,s8,s9,s10,s11⟩
   go_simp
   with_reducible rfl
  rotate_left
  ·exact z3_3
  refine one_ (i:=13) (N:=some 39) #[Y,Y,Y,Y,Y,Y,Y,Y,Y,Y,Y,Y,Y,Y,J,J,J,J,J,J,J,J,J,J] rfl rfl (one_of HT_.out z3_17) (by decide) (λK hK=>?_)
  refine goes_ Try.func58 z3_17 rfl #[.slice Ao21 x6_1.length co21,.int .i64 ((rd_T30 l0 x9_2).f0.f0)] (by rfl) rfl rfl z10_2 ?_
  with_reducible refine(r03_Get.calls k2 _ _ x6_1 ((rd_T30 l0 x9_2).f0.f0) t805 _ ?side1 ?side2 A12.out).mono ?_
  (case side1=>exact z39_4)
  (case side2=>exact z39_17)
  rintro e w' ⟨rfl,⟨nd,rfl⟩⟩
  refine ⟨_,rfl,?_⟩
  refine hK.out _ _ ⟨hHeld.1,hHeld.2.1,hHeld.2.2.1,hHeld.2.2.2.1,hHeld.2.2.2.2.1,hHeld.2.2.2.2.2.1,hHeld.2.2.2.2.2.2.1,hHeld.2.2.2.2.2.2.2.1,hHeld.2.2.2.2.2.2.2.2.1,hHeld.2.2.2.2.2.2.2.2.2.1,hHeld.2.2.2.2.2.2.2.2.2.2.1,hHeld.2.2.2.2.2.2.2.2.2.2.2⟩ (λhHeld=>?_)
  clear hK K
  refine norm_ (a':=?_) ?_ ?_
  rotate_left
  ·exact z39_11
  refine pure_ (i:=14) (N:=some 40) (v:=?_) (a':=?_) #[Y,Y,Y,Y,Y,Y,Y,Y,Y,Y,Y,Y,Y,Y,Y,J,J,J,J,J,J,J,J,J] rfl rfl (any_of HT_.out z3_17) (λ_ _ _ h=>h) (Or.inl ⟨(by rfl),?_⟩) ?_ ?_
  rotate_left
  ·intro w'
   go_simp
   with_reducible rfl
  rotate_left
  ·exact z3_3
  refine pure_ (i:=15) (N:=some 41) (v:=?_) (a':=?_) #[Y,Y,Y,Y,Y,Y,Y,Y,Y,Y,Y,Y,Y,Y,Y,Y,J,J,J,J,J,J,J,J] rfl rfl (any_of HT_.out z3_17) (λ_ _ _ h=>h) (Or.inl ⟨(by rfl),?_⟩) ?_ ?_
  rotate_left
  ·intro w'
   go_simp
   with_reducible rfl
  rotate_left
  ·exact z3_3
  refine pure_ (i:=16) (N:=some 42) (v:=?_) (a':=?_) #[Y,Y,Y,Y,Y,Y,Y,Y,Y,Y,Y,Y,Y,Y,Y,Y,Y,J,J,J,J,J,J,J] rfl rfl (any_of HT_.out z3_17) (λ_ _ _ h=>h) (Or.inl ⟨(by rfl),?_⟩) ?_ ?_
  rotate_left
  ·intro w'
   go_simp
   with_reducible rfl
  rotate_left
  ·exact z3_3
  refine pure_ (i:=17) (N:=some 43) (v:=?_) (a':=?_) #[Y,Y,Y,Y,Y,Y,Y,Y,Y,Y,Y,Y,Y,Y,Y,Y,Y,Y,J,J,J,J,J,J] rfl rfl (any_of HT_.out z3_17) (λ_ _ _ h=>h) (Or.inl ⟨(by rfl),?_⟩) ?_ ?_
  rotate_left
  ·intro w'
   go_simp
   with_reducible rfl
  rotate_left
  ·exact z3_3
  refine pure_ (i:=18) (N:=some 44) (v:=?_) (a':=?_) #[Y,Y,Y,Y,Y,Y,Y,Y,Y,Y,Y,Y,Y,Y,Y,Y,Y,Y,Y,J,J,J,J,J] rfl rfl (any_of HT_.out z3_17) (λ_ _ _ h=>h) (Or.inl ⟨(by rfl),?_⟩) ?_ ?_
  rotate_left
  ·intro w'
   go_simp
   with_reducible rfl
  rotate_left
  ·exact z3_3
  refine pure_ (i:=19) (N:=some 45) (v:=?_) (a':=?_) #[Y,Y,Y,Y,Y,Y,Y,Y,Y,Y,Y,Y,Y,Y,Y,Y,Y,Y,Y,Y,J,J,J,J] rfl rfl (any_of HT_.out z3_17) (λ_ _ _ h=>h) (Or.inl ⟨(by rfl),?_⟩) ?_ ?_
  rotate_left
  ·intro w'
   go_simp
   with_reducible rfl
  rotate_left
  ·exact z3_3
  refine pure_ (i:=21) (N:=some 47) (v:=?_) (a':=?_) #[Y,Y,Y,Y,Y,Y,Y,Y,Y,Y,Y,Y,Y,Y,Y,Y,Y,Y,Y,Y,J,Y,J,J] rfl rfl (any_of HT_.out z3_17) (λ_ _ _ h=>h) (Or.inl ⟨(by rfl),?_⟩) ?_ ?_
  rotate_left
  ·intro w'
   go_simp
   with_reducible rfl
  rotate_left
  ·exact z3_3
  refine take_ (i:=20) (N:=some 46) (v:=?_) (a':=?_) #[Y,Y,Y,Y,Y,Y,Y,Y,Y,Y,Y,Y,Y,Y,Y,Y,Y,Y,Y,Y,Y,Y,J,J] rfl rfl (take_ofW HT_.out HW_.out z3_17) (λ_ _ _ h=>h) (Or.inl ⟨(by rfl),?_⟩) hHeld ?_ ?_
  rotate_left
  ·rintro w' ⟨s0,s1,s2,s3,s4,s5,s6,s7,s8,s9,s10,s11⟩
   go_simp
   with_reducible rfl
  rotate_left
  ·exact z3_3
  refine one_ (i:=22) (N:=some 48) #[Y,Y,Y,Y,Y,Y,Y,Y,Y,Y,Y,Y,Y,Y,Y,Y,Y,Y,Y,Y,Y,Y,Y,J] rfl rfl (one_of HT_.out z3_17) (by decide) (λK hK=>?_)
  refine goes_ Try.func19 z3_17 rfl #[.slice A803_2 ((rd_T30 l0 x9_2).f1).length c803_2,.slice Ao21 x6_1.length co21] (by rfl) rfl rfl z10_2 ?_
  with_reducible refine(r03_Within.calls k2 _ _ ((rd_T30 l0 x9_2).f1) _ _ x6_1 false _ ?side1 ?side2 ?side3 ?side4 A14.out).mono ?_
  (case side1=>exact z39_10)
  (case side2=>exact HC806_2.out)
  (case side3=>exact z39_4)
  (case side4=>exact z39_17)
  rintro e w' ⟨rfl,⟨nd,rfl⟩⟩
  refine ⟨_,rfl,?_⟩
  refine hK.out _ _ ⟨hHeld.1,hHeld.2.1,hHeld.2.2.1,hHeld.2.2.2.1,hHeld.2.2.2.2.1,hHeld.2.2.2.2.2.1,hHeld.2.2.2.2.2.2.1,hHeld.2.2.2.2.2.2.2.1,hHeld.2.2.2.2.2.2.2.2.1,hHeld.2.2.2.2.2.2.2.2.2.1,hHeld.2.2.2.2.2.2.2.2.2.2.1,hHeld.2.2.2.2.2.2.2.2.2.2.2⟩ (λhHeld=>?_)
  clear hK K
  refine norm_ (a':=?_) ?_ ?_
  rotate_left
  ·exact z39_22
  refine pure_ (i:=23) (N:=some 49) (v:=?_) (a':=?_) #[Y,Y,Y,Y,Y,Y,Y,Y,Y,Y,Y,Y,Y,Y,Y,Y,Y,Y,Y,Y,Y,Y,Y,Y] rfl rfl (any_of HT_.out z3_17) (λ_ _ _ h=>h) (Or.inl ⟨(by rfl),?_⟩) ?_ ?_
  rotate_left
  ·intro w'
   go_simp
   with_reducible rfl
  rotate_left
  ·exact z3_3
  refine done_ (done_of HT_.out z3_17) ?_
  try go_wp2
  go_roundg k2
  case measure=>have:=HK1.out;have:=HK2.out;omega
  case rel=>exact ⟨(x8_2),(wrap64 (x9_2+1)),z10_4,H',⟨z39_21⟩,⟨z39_9⟩,⟨z39_5⟩,⟨z39_3⟩,⟨z39_7⟩,⟨z10_0⟩⟩
 subst c15
 have H1:(if x8_2.length<2199023255552 then(w08_Turned.l1 k2 l0 l1 x5_1 x6_1 x7_1 (x8_2++[(⟨(⟨(rd_T30 l0 x9_2).f0.f0,(rd_T30 l0 x9_2).f0.f1⟩:S25),(rd_T30 l0 x9_2).f1,(rd_T30 l0 x9_2).f2⟩:S30)]) (wrap64 (x9_2+1))) else(none))=some r:=by rw [if_pos rfl] at H;exact H
 clear H
 have H:=H1
 clear H1
 by_cases c16:x8_2.length<2199023255552
 rotate_left
 ·rw [if_neg c16] at H
  exact absurd H (by simp)
 rw [if_pos c16] at H
 have LMc16:=Aside0.mk c16
 clear c16
 obtain ⟨y809,hy809⟩:∃ y_:List (S30),y_=(x8_2++[(⟨(⟨(rd_T30 l0 x9_2).f0.f0,(rd_T30 l0 x9_2).f0.f1⟩:S25),(rd_T30 l0 x9_2).f1,(rd_T30 l0 x9_2).f2⟩:S30)]):=⟨_,rfl⟩
 replace H:(w08_Turned.l1 k2 l0 l1 x5_1 x6_1 x7_1 y809 (wrap64 (x9_2+1)))=some r:=by first|(rw [hy809];with_reducible exact H)|(have H2_:=(Option.bind_some _ _).symm.trans H;rw [hy809];with_reducible exact H2_)|(have H2_:=(Option.bind_some _ _).symm.trans H;with_reducible exact H2_)|with_reducible exact H|(rw [hy809];exact H)|exact H
 have Ny809:=Aside0.mk hy809
 clear hy809
 have H':=Aside0.mk H
 clear H
 try go_wp2
 have n0_:=U (Kd.V_drew HO_0.out)
 have n1_:=U (Kd.N_drew HO_5.out)
 have n2_:=U (Kd.R_drew HO_6.out)
 have n3_:=U (Kd.N_drew HO_8.out)
 have n4_:=U (below_drew1 HB.out)
 clear HO_0
 clear HO_5
 clear HO_6
 clear HO_8
 clear HB
 have HO_0:=n0_
 have HO_5:=n1_
 have HO_6:=n2_
 have HO_8:=n3_
 have HB:=n4_
 clear n0_ n1_ n2_ n3_ n4_
 have p803:0<=(x9_2:Int):=oD_ z10_1
 have q803:x9_2<(l0.length:Int):=oD_ z10_1
 obtain ⟨ad803,A803_2,c803_2,A803_3,c803_3,e803,hx803_0,hx803_1,hx803_2,hx803_3,hl803_2,hi803_2,hl803_3,hi803_3⟩:=at_T30 (Kd.V_reads' HO_0.out).2.2 x9_2 p803 q803
 cases e803
 obtain ⟨ce803,hce803,hMe803,hcc803⟩:=Kd.V_get HO_0.out z30 x9_2 p803 z39_13
 obtain ⟨ua803_2,uc803_2,ua803_3,uc803_3,rfl,ul803_2,ge803_2,ul803_3,ge803_3⟩:=k30_openF hMe803
 have hv803_2:=hcc803 2 _ rfl
 rw [add_field _ _ 2 (by omega)] at hv803_2
 replace hv803_2:=sI_ (hv803_2.symm.trans hx803_2)
 injection hv803_2 with hva_ hvn_ hvc_
 rw [hva_] at ge803_2
 rw [hvc_] at ul803_2
 have HL803_2:=U (show Kd.V (Kd.int .i64) 3 _ w.heap.size _ _ ((rd_T30 l0 x9_2).f1) from Kd.V_mk ul803_2 ge803_2)
 clear hva_ hvn_ hvc_ ge803_2 ul803_2
 have hv803_3:=hcc803 3 _ rfl
 rw [add_field _ _ 3 (by omega)] at hv803_3
 replace hv803_3:=sI_ (hv803_3.symm.trans hx803_3)
 injection hv803_3 with hva_ hvn_ hvc_
 rw [hva_] at ge803_3
 rw [hvc_] at ul803_3
 have HL803_3:=U (show Kd.V k48 48 _ w.heap.size _ _ ((rd_T30 l0 x9_2).f2) from Kd.V_mk ul803_3 ge803_3)
 clear hva_ hvn_ hvc_ ge803_3 ul803_3
 clear hcc803 hce803
 have HR803_2:=Aside0.mk hi803_2
 have HC803_2:=Aside0.mk hl803_2
 clear hi803_2 hl803_2
 have HR803_3:=Aside0.mk hi803_3
 have HC803_3:=Aside0.mk hl803_3
 clear hi803_3 hl803_3
 replace p803:=eq_true p803
 replace q803:=eq_true q803
 have p804:0<=(x9_2:Int):=oD_ z10_1
 have q804:x9_2<(l0.length:Int):=oD_ z10_1
 obtain ⟨ad804,A804_2,c804_2,A804_3,c804_3,e804,hx804_0,hx804_1,hx804_2,hx804_3,hl804_2,hi804_2,hl804_3,hi804_3⟩:=at_T30 (Kd.V_reads' HO_0.out).2.2 x9_2 p804 q804
 obtain rfl:ad803=ad804:=(by injection e804)
 obtain ⟨ce804,hce804,hMe804,hcc804⟩:=Kd.V_get HO_0.out z30 x9_2 p804 z39_14
 obtain ⟨ua804_2,uc804_2,ua804_3,uc804_3,rfl,ul804_2,ge804_2,ul804_3,ge804_3⟩:=k30_openF hMe804
 have hv804_2:=hcc804 2 _ rfl
 rw [add_field _ _ 2 (by omega)] at hv804_2
 replace hv804_2:=sI_ (hv804_2.symm.trans hx804_2)
 injection hv804_2 with hva_ hvn_ hvc_
 rw [hva_] at ge804_2
 rw [hvc_] at ul804_2
 have HL804_2:=U (show Kd.V (Kd.int .i64) 3 _ w.heap.size _ _ ((rd_T30 l0 x9_2).f1) from Kd.V_mk ul804_2 ge804_2)
 clear hva_ hvn_ hvc_ ge804_2 ul804_2
 have hv804_3:=hcc804 3 _ rfl
 rw [add_field _ _ 3 (by omega)] at hv804_3
 replace hv804_3:=sI_ (hv804_3.symm.trans hx804_3)
 injection hv804_3 with hva_ hvn_ hvc_
 rw [hva_] at ge804_3
 rw [hvc_] at ul804_3
 have HL804_3:=U (show Kd.V k48 48 _ w.heap.size _ _ ((rd_T30 l0 x9_2).f2) from Kd.V_mk ul804_3 ge804_3)
 clear hva_ hvn_ hvc_ ge804_3 ul804_3
 clear hcc804 hce804
 have HR804_2:=Aside0.mk hi804_2
 have HC804_2:=Aside0.mk hl804_2
 clear hi804_2 hl804_2
 have HR804_3:=Aside0.mk hi804_3
 have HC804_3:=Aside0.mk hl804_3
 clear hi804_3 hl804_3
 replace p804:=eq_true p804
 replace q804:=eq_true q804
 have ea_:=sI_ (hx803_2.symm.trans hx804_2)
 injection ea_ with ea_ en_ ec_
 subst ea_
 subst ec_
 clear en_
 have ea_:=sI_ (hx803_3.symm.trans hx804_3)
 injection ea_ with ea_ en_ ec_
 subst ea_
 subst ec_
 clear en_
 obtain ⟨Ao18,co18,eo18⟩:=Kd.R_slice HO_6.out
 (first|subst eo18|(injection eo18 with f1_ f2_ f3_;have f4_:=f1_.symm;have f5_:=f3_.symm;clear f1_ f2_ f3_;subst f4_;subst f5_))
 have p806:0<=(x9_2:Int):=oD_ z10_1
 have q806:x9_2<(l0.length:Int):=oD_ z10_1
 obtain ⟨ad806,A806_2,c806_2,A806_3,c806_3,e806,hx806_0,hx806_1,hx806_2,hx806_3,hl806_2,hi806_2,hl806_3,hi806_3⟩:=at_T30 (Kd.V_reads' HO_0.out).2.2 x9_2 p806 q806
 obtain rfl:ad803=ad806:=(by injection e806)
 obtain ⟨ce806,hce806,hMe806,hcc806⟩:=Kd.V_get HO_0.out z30 x9_2 p806 (by first|exact q806|exact oD_ z10_1|(have e_:=(Kd.V_reads' HO_0.out).1;omega))
 obtain ⟨ua806_2,uc806_2,ua806_3,uc806_3,rfl,ul806_2,ge806_2,ul806_3,ge806_3⟩:=k30_openF hMe806
 have hv806_2:=hcc806 2 _ rfl
 rw [add_field _ _ 2 (by omega)] at hv806_2
 replace hv806_2:=sI_ (hv806_2.symm.trans hx806_2)
 injection hv806_2 with hva_ hvn_ hvc_
 rw [hva_] at ge806_2
 rw [hvc_] at ul806_2
 have HL806_2:=U (show Kd.V (Kd.int .i64) 3 _ w.heap.size _ _ ((rd_T30 l0 x9_2).f1) from Kd.V_mk ul806_2 ge806_2)
 clear hva_ hvn_ hvc_ ge806_2 ul806_2
 have hv806_3:=hcc806 3 _ rfl
 rw [add_field _ _ 3 (by omega)] at hv806_3
 replace hv806_3:=sI_ (hv806_3.symm.trans hx806_3)
 injection hv806_3 with hva_ hvn_ hvc_
 rw [hva_] at ge806_3
 rw [hvc_] at ul806_3
 have HL806_3:=U (show Kd.V k48 48 _ w.heap.size _ _ ((rd_T30 l0 x9_2).f2) from Kd.V_mk ul806_3 ge806_3)
 clear hva_ hvn_ hvc_ ge806_3 ul806_3
 clear hcc806 hce806
 have HR806_2:=Aside0.mk hi806_2
 have HC806_2:=Aside0.mk hl806_2
 clear hi806_2 hl806_2
 have HR806_3:=Aside0.mk hi806_3
 have HC806_3:=Aside0.mk hl806_3
 clear hi806_3 hl806_3
 replace p806:=eq_true p806
 replace q806:=eq_true q806
 have ea_:=sI_ (hx803_2.symm.trans hx806_2)
 injection ea_ with ea_ en_ ec_
 subst ea_
 subst ec_
 clear en_
 have ea_:=sI_ (hx803_3.symm.trans hx806_3)
 injection ea_ with ea_ en_ ec_
 subst ea_
 subst ec_
 clear en_
 refine start_ (n:=24) (S:=λw'=>w'.cell? (ad803.add ((x9_2).toNat*4))=some (.int .i64 ((rd_T30 l0 x9_2).f0.f0))/\w'.cell? ⟨(ad803.add ((x9_2).toNat*4)).block,(ad803.add ((x9_2).toNat*4)).off+1,none⟩=some (.int .i64 ((rd_T30 l0 x9_2).f0.f1))/\w'.cell? ⟨(ad803.add ((x9_2).toNat*4)).block,(ad803.add ((x9_2).toNat*4)).off+2,none⟩=some (.slice A803_2 ((rd_T30 l0 x9_2).f1).length c803_2)/\w'.cell? ⟨(ad803.add ((x9_2).toNat*4)).block,(ad803.add ((x9_2).toNat*4)).off+3,none⟩=some (.slice A803_3 ((rd_T30 l0 x9_2).f2).length c803_3)/\w'.cell? (ad803.add ((x9_2).toNat*4))=some (.int .i64 ((rd_T30 l0 x9_2).f0.f0))/\w'.cell? ⟨(ad803.add ((x9_2).toNat*4)).block,(ad803.add ((x9_2).toNat*4)).off+1,none⟩=some (.int .i64 ((rd_T30 l0 x9_2).f0.f1))/\w'.cell? ⟨(ad803.add ((x9_2).toNat*4)).block,(ad803.add ((x9_2).toNat*4)).off+2,none⟩=some (.slice A803_2 ((rd_T30 l0 x9_2).f1).length c803_2)/\w'.cell? ⟨(ad803.add ((x9_2).toNat*4)).block,(ad803.add ((x9_2).toNat*4)).off+3,none⟩=some (.slice A803_3 ((rd_T30 l0 x9_2).f2).length c803_3)/\w'.cell? (ad803.add ((x9_2).toNat*4))=some (.int .i64 ((rd_T30 l0 x9_2).f0.f0))/\w'.cell? ⟨(ad803.add ((x9_2).toNat*4)).block,(ad803.add ((x9_2).toNat*4)).off+1,none⟩=some (.int .i64 ((rd_T30 l0 x9_2).f0.f1))/\w'.cell? ⟨(ad803.add ((x9_2).toNat*4)).block,(ad803.add ((x9_2).toNat*4)).off+2,none⟩=some (.slice A803_2 ((rd_T30 l0 x9_2).f1).length c803_2)/\w'.cell? ⟨(ad803.add ((x9_2).toNat*4)).block,(ad803.add ((x9_2).toNat*4)).off+3,none⟩=some (.slice A803_3 ((rd_T30 l0 x9_2).f2).length c803_3)) (ds:=[]) #[J,J,J,J,J,J,J,J,J,J,J,J,J,J,J,J,J,J,J,J,J,J,J,J] z3_17 rfl rfl ⟨hx803_0,hx803_1,hx803_2,hx803_3,hx804_0,hx804_1,hx804_2,hx804_3,hx806_0,hx806_1,hx806_2,hx806_3⟩ (λhHeld=>?_);refine with_tabW w08_Turned.tab10 w08_Turned.bits10 (λHT_ HW_=>?_)
 generalize wr.drew=w17 at HO_0 HO_5 HO_6 HO_8 HB HL803_2 HL803_3 HL804_2 HL804_3 HL806_2 HL806_3 HR803_2 HR803_3 HR804_2 HR804_3 HR806_2 HR806_3 hx803_0 hx803_1 hx803_2 hx803_3 hx804_0 hx804_1 hx804_2 hx804_3 hx806_0 hx806_1 hx806_2 hx806_3 hHeld ⊢
 refine pure_ (i:=0) (N:=some 26) (v:=?_) (a':=?_) #[Y,J,J,J,J,J,J,J,J,J,J,J,J,J,J,J,J,J,J,J,J,J,J,J] rfl rfl (any_of HT_.out z3_17) (λ_ _ _ h=>h) (Or.inl ⟨(by rfl),?_⟩) ?_ ?_
 rotate_left
 ·intro w'
  go_simp
  with_reducible rfl
 rotate_left
 ·exact z3_3
 refine pure_ (i:=1) (N:=some 27) (v:=?_) (a':=?_) #[Y,Y,J,J,J,J,J,J,J,J,J,J,J,J,J,J,J,J,J,J,J,J,J,J] rfl rfl (any_of HT_.out z3_17) (λ_ _ _ h=>h) (Or.inl ⟨(by rfl),?_⟩) ?_ ?_
 rotate_left
 ·intro w'
  go_simp
  with_reducible rfl
 rotate_left
 ·exact z3_3
 refine pure_ (i:=2) (N:=some 28) (v:=?_) (a':=?_) #[Y,Y,Y,J,J,J,J,J,J,J,J,J,J,J,J,J,J,J,J,J,J,J,J,J] rfl rfl (any_of HT_.out z3_17) (λ_ _ _ h=>h) (Or.inl ⟨(by rfl),?_⟩) ?_ ?_
 rotate_left
 ·intro w'
  go_simp
  with_reducible rfl
 rotate_left
 ·exact z3_3
 refine pure_ (i:=3) (N:=some 29) (v:=?_) (a':=?_) #[Y,Y,Y,Y,J,J,J,J,J,J,J,J,J,J,J,J,J,J,J,J,J,J,J,J] rfl rfl (any_of HT_.out z3_17) (λ_ _ _ h=>h) (Or.inl ⟨(by rfl),?_⟩) ?_ ?_
 rotate_left
 ·intro w'
  go_simp
  with_reducible rfl
 rotate_left
 ·exact z3_3
 refine pure_ (i:=4) (N:=some 30) (v:=?_) (a':=?_) #[Y,Y,Y,Y,Y,J,J,J,J,J,J,J,J,J,J,J,J,J,J,J,J,J,J,J] rfl rfl (any_of HT_.out z3_17) (λ_ _ _ h=>h) (Or.inl ⟨(by rfl),?_⟩) ?_ ?_
 rotate_left
 ·intro w'
  go_simp
  with_reducible rfl
 rotate_left
 ·exact z3_3
 refine pure_ (i:=6) (N:=some 32) (v:=?_) (a':=?_) #[Y,Y,Y,Y,Y,J,Y,J,J,J,J,J,J,J,J,J,J,J,J,J,J,J,J,J] rfl rfl (any_of HT_.out z3_17) (λ_ _ _ h=>h) (Or.inl ⟨(by rfl),?_⟩) ?_ ?_
 rotate_left
 ·intro w'
  go_simp
  with_reducible rfl
 rotate_left
 ·exact z3_3
 refine pure_ (i:=7) (N:=some 33) (v:=?_) (a':=?_) #[Y,Y,Y,Y,Y,J,Y,Y,J,J,J,J,J,J,J,J,J,J,J,J,J,J,J,J] rfl rfl (any_of HT_.out z3_17) (λ_ _ _ h=>h) (Or.inl ⟨(by rfl),?_⟩) ?_ ?_
 rotate_left
 ·intro w'
  go_simp
  with_reducible rfl
 rotate_left
 ·exact z3_3
 refine pure_ (i:=8) (N:=some 34) (v:=?_) (a':=?_) #[Y,Y,Y,Y,Y,J,Y,Y,Y,J,J,J,J,J,J,J,J,J,J,J,J,J,J,J] rfl rfl (any_of HT_.out z3_17) (λ_ _ _ h=>h) (Or.inl ⟨(by rfl),?_⟩) ?_ ?_
 rotate_left
 ·intro w'
  go_simp
  with_reducible rfl
 rotate_left
 ·exact z3_3
 refine pure_ (i:=9) (N:=some 35) (v:=?_) (a':=?_) #[Y,Y,Y,Y,Y,J,Y,Y,Y,Y,J,J,J,J,J,J,J,J,J,J,J,J,J,J] rfl rfl (any_of HT_.out z3_17) (λ_ _ _ h=>h) (Or.inl ⟨(by rfl),?_⟩) ?_ ?_
 rotate_left
 ·intro w'
  go_simp
  with_reducible rfl
 rotate_left
 ·exact z3_3
 refine pure_ (i:=10) (N:=some 36) (v:=?_) (a':=?_) #[Y,Y,Y,Y,Y,J,Y,Y,Y,Y,Y,J,J,J,J,J,J,J,J,J,J,J,J,J] rfl rfl (any_of HT_.out z3_17) (λ_ _ _ h=>h) (Or.inl ⟨(by rfl),?_⟩) ?_ ?_
 rotate_left
 ·intro w'
  go_simp
  with_reducible rfl
 rotate_left
 ·exact z3_3
 refine pure_ (i:=11) (N:=some 37) (v:=?_) (a':=?_) #[Y,Y,Y,Y,Y,J,Y,Y,Y,Y,Y,Y,J,J,J,J,J,J,J,J,J,J,J,J] rfl rfl (any_of HT_.out z3_17) (λ_ _ _ h=>h) (Or.inl ⟨(by rfl),?_⟩) ?_ ?_
 rotate_left
 ·intro w'
  go_simp
  with_reducible rfl
 rotate_left
 ·exact z3_3
 refine take_ (i:=5) (N:=some 31) (v:=?_) (a':=?_) #[Y,Y,Y,Y,Y,Y,Y,Y,Y,Y,Y,Y,J,J,J,J,J,J,J,J,J,J,J,J] rfl rfl (take_ofW HT_.out HW_.out z3_17) (λ_ _ _ h=>h) (Or.inl ⟨(by rfl),?_⟩) hHeld ?_ ?_
 rotate_left
 ·rintro w' ⟨s0,s1,s2,s3,s4,s5,s6,s7,s8,s9,s10,s11⟩
  go_simp
  with_reducible rfl
 rotate_left
 ·exact z3_3
 refine take_ (i:=12) (N:=some 38) (v:=?_) (a':=?_) #[Y,Y,Y,Y,Y,Y,Y,Y,Y,Y,Y,Y,Y,J,J,J,J,J,J,J,J,J,J,J] rfl rfl (take_ofW HT_.out HW_.out z3_17) (λ_ _ _ h=>h) (Or.inl ⟨(by rfl),?_⟩) hHeld ?_ ?_
 rotate_left
 ·rintro w' ⟨s0,s1,s2,s3,s4,s5,s6,s7,s8,s9,s10,s11⟩
  go_simp
  with_reducible rfl
 rotate_left
 ·exact z3_3
 refine one_ (i:=13) (N:=some 39) #[Y,Y,Y,Y,Y,Y,Y,Y,Y,Y,Y,Y,Y,Y,J,J,J,J,J,J,J,J,J,J] rfl rfl (one_of HT_.out z3_17) (by decide) (λK hK=>?_)
 refine goes_ Try.func58 z3_17 rfl #[.slice Ao18 x6_1.length co18,.int .i64 ((rd_T30 l0 x9_2).f0.f0)] (by rfl) rfl rfl z10_2 ?_
 with_reducible refine(r03_Get.calls k2 _ _ x6_1 ((rd_T30 l0 x9_2).f0.f0) t805 _ ?side1 ?side2 A12.out).mono ?_
 (case side1=>exact z39_4)
 (case side2=>exact z39_17)
 rintro e w' ⟨rfl,⟨nd,rfl⟩⟩
 refine ⟨_,rfl,?_⟩
 refine hK.out _ _ ⟨hHeld.1,hHeld.2.1,hHeld.2.2.1,hHeld.2.2.2.1,hHeld.2.2.2.2.1,hHeld.2.2.2.2.2.1,hHeld.2.2.2.2.2.2.1,hHeld.2.2.2.2.2.2.2.1,hHeld.2.2.2.2.2.2.2.2.1,hHeld.2.2.2.2.2.2.2.2.2.1,hHeld.2.2.2.2.2.2.2.2.2.2.1,hHeld.2.2.2.2.2.2.2.2.2.2.2⟩ (λhHeld=>?_)
 clear hK K
 refine norm_ (a':=?_) ?_ ?_
 rotate_left
 ·exact z39_11
 refine pure_ (i:=14) (N:=some 40) (v:=?_) (a':=?_) #[Y,Y,Y,Y,Y,Y,Y,Y,Y,Y,Y,Y,Y,Y,Y,J,J,J,J,J,J,J,J,J] rfl rfl (any_of HT_.out z3_17) (λ_ _ _ h=>h) (Or.inl ⟨(by rfl),?_⟩) ?_ ?_
 rotate_left
 ·intro w'
  go_simp
  with_reducible rfl
 rotate_left
 ·exact z3_3
 refine pure_ (i:=15) (N:=some 41) (v:=?_) (a':=?_) #[Y,Y,Y,Y,Y,Y,Y,Y,Y,Y,Y,Y,Y,Y,Y,Y,J,J,J,J,J,J,J,J] rfl rfl (any_of HT_.out z3_17) (λ_ _ _ h=>h) (Or.inl ⟨(by rfl),?_⟩) ?_ ?_
 rotate_left
 ·intro w'
  go_simp
  with_reducible rfl
 rotate_left
 ·exact z3_3
 refine pure_ (i:=16) (N:=some 42) (v:=?_) (a':=?_) #[Y,Y,Y,Y,Y,Y,Y,Y,Y,Y,Y,Y,Y,Y,Y,Y,Y,J,J,J,J,J,J,J] rfl rfl (any_of HT_.out z3_17) (λ_ _ _ h=>h) (Or.inl ⟨(by rfl),?_⟩) ?_ ?_
 rotate_left
 ·intro w'
  go_simp
  with_reducible rfl
 rotate_left
 ·exact z3_3
 refine pure_ (i:=17) (N:=some 43) (v:=?_) (a':=?_) #[Y,Y,Y,Y,Y,Y,Y,Y,Y,Y,Y,Y,Y,Y,Y,Y,Y,Y,J,J,J,J,J,J] rfl rfl (any_of HT_.out z3_17) (λ_ _ _ h=>h) (Or.inl ⟨(by rfl),?_⟩) ?_ ?_
 rotate_left
 ·intro w'
  go_simp
  with_reducible rfl
 rotate_left
 ·exact z3_3
 refine pure_ (i:=18) (N:=some 44) (v:=?_) (a':=?_) #[Y,Y,Y,Y,Y,Y,Y,Y,Y,Y,Y,Y,Y,Y,Y,Y,Y,Y,Y,J,J,J,J,J] rfl rfl (any_of HT_.out z3_17) (λ_ _ _ h=>h) (Or.inl ⟨(by rfl),?_⟩) ?_ ?_
 rotate_left
 ·intro w'
  go_simp
  with_reducible rfl
 rotate_left
 ·exact z3_3
 refine pure_ (i:=19) (N:=some 45) (v:=?_) (a':=?_) #[Y,Y,Y,Y,Y,Y,Y,Y,Y,Y,Y,Y,Y,Y,Y,Y,Y,Y,Y,Y,J,J,J,J] rfl rfl (any_of HT_.out z3_17) (λ_ _ _ h=>h) (Or.inl ⟨(by rfl),?_⟩) ?_ ?_
 rotate_left
 ·intro w'
  go_simp
  with_reducible rfl
 rotate_left
 ·exact z3_3
 refine pure_ (i:=21) (N:=some 47) (v:=?_) (a':=?_) #[Y,Y,Y,Y,Y,Y,Y,Y,Y,Y,Y,Y,Y,Y,Y,Y,Y,Y,Y,Y,J,Y,J,J] rfl rfl (any_of HT_.out z3_17) (λ_ _ _ h=>h) (Or.inl ⟨(by rfl),?_⟩) ?_ ?_
 rotate_left
 ·intro w'
  go_simp
  with_reducible rfl
 rotate_left
 ·exact z3_3
 refine take_ (i:=20) (N:=some 46) (v:=?_) (a':=?_) #[Y,Y,Y,Y,Y,Y,Y,Y,Y,Y,Y,Y,Y,Y,Y,Y,Y,Y,Y,Y,Y,Y,J,J] rfl rfl (take_ofW HT_.out HW_.out z3_17) (λ_ _ _ h=>h) (Or.inl ⟨(by rfl),?_⟩) hHeld ?_ ?_
 rotate_left
 ·rintro w' ⟨s0,s1,s2,s3,s4,s5,s6,s7,s8,s9,s10,s11⟩
  go_simp
  with_reducible rfl
 rotate_left
 ·exact z3_3
 refine one_ (i:=22) (N:=some 48) #[Y,Y,Y,Y,Y,Y,Y,Y,Y,Y,Y,Y,Y,Y,Y,Y,Y,Y,Y,Y,Y,Y,Y,J] rfl rfl (one_of HT_.out z3_17) (by decide) (λK hK=>?_)
 refine goes_ Try.func19 z3_17 rfl #[.slice A803_2 ((rd_T30 l0 x9_2).f1).length c803_2,.slice Ao18 x6_1.length co18] (by rfl) rfl rfl z10_2 ?_
 with_reducible refine(r03_Within.calls k2 _ _ ((rd_T30 l0 x9_2).f1) _ _ x6_1 true _ ?side1 ?side2 ?side3 ?side4 A14.out).mono ?_
 (case side1=>exact z39_10)
 (case side2=>exact HC806_2.out)
 (case side3=>exact z39_4)
 (case side4=>exact z39_17)
 rintro e w' ⟨rfl,⟨nd,rfl⟩⟩
 refine ⟨_,rfl,?_⟩
 refine hK.out _ _ ⟨hHeld.1,hHeld.2.1,hHeld.2.2.1,hHeld.2.2.2.1,hHeld.2.2.2.2.1,hHeld.2.2.2.2.2.1,hHeld.2.2.2.2.2.2.1,hHeld.2.2.2.2.2.2.2.1,hHeld.2.2.2.2.2.2.2.2.1,hHeld.2.2.2.2.2.2.2.2.2.1,hHeld.2.2.2.2.2.2.2.2.2.2.1,hHeld.2.2.2.2.2.2.2.2.2.2.2⟩ (λhHeld=>?_)
 clear hK K
 refine norm_ (a':=?_) ?_ ?_
 rotate_left
 ·exact z39_22
 refine pure_ (i:=23) (N:=some 49) (v:=?_) (a':=?_) #[Y,Y,Y,Y,Y,Y,Y,Y,Y,Y,Y,Y,Y,Y,Y,Y,Y,Y,Y,Y,Y,Y,Y,Y] rfl rfl (any_of HT_.out z3_17) (λ_ _ _ h=>h) (Or.inl ⟨(by rfl),?_⟩) ?_ ?_
 rotate_left
 ·intro w'
  go_simp
  with_reducible rfl
 rotate_left
 ·exact z3_3
 refine done_ (done_of HT_.out z3_17) ?_
 have p808:0<=(x9_2:Int):=oD_ z10_1
 have q808:x9_2<(l0.length:Int):=oD_ z10_1
 obtain ⟨ad808,A808_2,c808_2,A808_3,c808_3,e808,hx808_0,hx808_1,hx808_2,hx808_3,hl808_2,hi808_2,hl808_3,hi808_3⟩:=at_T30 (Kd.V_reads' HO_0.out).2.2 x9_2 p808 q808
 obtain rfl:ad803=ad808:=(by injection e808)
 obtain ⟨ce808,hce808,hMe808,hcc808⟩:=Kd.V_get HO_0.out z30 x9_2 p808 (by first|exact q808|exact oD_ z10_1|(have e_:=(Kd.V_reads' HO_0.out).1;omega))
 obtain ⟨ua808_2,uc808_2,ua808_3,uc808_3,rfl,ul808_2,ge808_2,ul808_3,ge808_3⟩:=k30_openF hMe808
 have hv808_2:=hcc808 2 _ rfl
 rw [add_field _ _ 2 (by omega)] at hv808_2
 replace hv808_2:=sI_ (hv808_2.symm.trans hx808_2)
 injection hv808_2 with hva_ hvn_ hvc_
 rw [hva_] at ge808_2
 rw [hvc_] at ul808_2
 have HL808_2:=U (show Kd.V (Kd.int .i64) 3 _ w.heap.size _ _ ((rd_T30 l0 x9_2).f1) from Kd.V_mk ul808_2 ge808_2)
 clear hva_ hvn_ hvc_ ge808_2 ul808_2
 have hv808_3:=hcc808 3 _ rfl
 rw [add_field _ _ 3 (by omega)] at hv808_3
 replace hv808_3:=sI_ (hv808_3.symm.trans hx808_3)
 injection hv808_3 with hva_ hvn_ hvc_
 rw [hva_] at ge808_3
 rw [hvc_] at ul808_3
 have HL808_3:=U (show Kd.V k48 48 _ w.heap.size _ _ ((rd_T30 l0 x9_2).f2) from Kd.V_mk ul808_3 ge808_3)
 clear hva_ hvn_ hvc_ ge808_3 ul808_3
 clear hcc808 hce808
 have HR808_2:=Aside0.mk hi808_2
 have HC808_2:=Aside0.mk hl808_2
 clear hi808_2 hl808_2
 have HR808_3:=Aside0.mk hi808_3
 have HC808_3:=Aside0.mk hl808_3
 clear hi808_3 hl808_3
 replace p808:=eq_true p808
 replace q808:=eq_true q808
 have ea_:=sI_ (hx803_2.symm.trans hx808_2)
 injection ea_ with ea_ en_ ec_
 subst ea_
 subst ec_
 clear en_
 have ea_:=sI_ (hx803_3.symm.trans hx808_3)
 injection ea_ with ea_ en_ ec_
 subst ea_
 subst ec_
 clear en_
 try go_wp2_with (first|((with_reducible refine gate_builtin (b:=.append) (xs:=#[.tmp 50,.tmp 55]) rfl ?_);at_builtin;refine Kd.N_append k30 (w0:=w) w.heap.size rfl (.tmp 50) (.tmp 55) 38 30 (.agg #[(.int .i64 0),(.int .i64 0),(.slice none 0 0),(.slice none 0 0)]) 64 rfl Try.underlying38 info30 rfl (by decide) (by omega) u8 x8_2 (⟨(⟨(rd_T30 l0 x9_2).f0.f0,(rd_T30 l0 x9_2).f0.f1⟩:S25),(rd_T30 l0 x9_2).f1,(rd_T30 l0 x9_2).f2⟩:S30) [.int .i64 ((rd_T30 l0 x9_2).f0.f0),.int .i64 ((rd_T30 l0 x9_2).f0.f1),.slice A803_2 ((rd_T30 l0 x9_2).f1).length c803_2,.slice A803_3 ((rd_T30 l0 x9_2).f2).length c803_3] (λk_=>(P0_ k_\/w.heap.size<=k_)/\some k_≠(u5:Value).ownBlock/\some k_≠(.slice Ao18 x6_1.length co18:Value).ownBlock) (λk_=>((λk_=>(P0_ k_\/w.heap.size<=k_)/\some k_≠(u5:Value).ownBlock/\some k_≠(.slice Ao18 x6_1.length co18:Value).ownBlock)) k_/\some k_≠(u8:Value).ownBlock) rfl rfl ?aP (λ_ hk=>hk) ?aF ?aO ?aB ?aS ?aL ?_;(case aP=>exact(k30_mkF _ _ (⟨(⟨(rd_T30 l0 x9_2).f0.f0,(rd_T30 l0 x9_2).f0.f1⟩:S25),(rd_T30 l0 x9_2).f1,(rd_T30 l0 x9_2).f2⟩:S30) (Kd.V_reads' (e:=0) (base:=0) (Kd.V_mono (e:=0) (base:=0) (ok':=(λk_=>((λk_=>(P0_ k_\/w.heap.size<=k_)/\some k_≠(u5:Value).ownBlock/\some k_≠(.slice Ao18 x6_1.length co18:Value).ownBlock)) k_/\some k_≠(u8:Value).ownBlock)) (HL808_2.out) (λk_ hk=>⟨⟨hk.1,⟨hk.2.1,hk.2.2.1⟩⟩,hk.2.2.2⟩))).2.1 (Kd.V_F (e:=0) (base:=0) (Kd.V_mono (e:=0) (base:=0) (ok':=(λk_=>((λk_=>(P0_ k_\/w.heap.size<=k_)/\some k_≠(u5:Value).ownBlock/\some k_≠(.slice Ao18 x6_1.length co18:Value).ownBlock)) k_/\some k_≠(u8:Value).ownBlock)) (HL808_2.out) (λk_ hk=>⟨⟨hk.1,⟨hk.2.1,hk.2.2.1⟩⟩,hk.2.2.2⟩))) (Kd.V_reads' (e:=0) (base:=0) (Kd.V_mono (e:=0) (base:=0) (ok':=(λk_=>((λk_=>(P0_ k_\/w.heap.size<=k_)/\some k_≠(u5:Value).ownBlock/\some k_≠(.slice Ao18 x6_1.length co18:Value).ownBlock)) k_/\some k_≠(u8:Value).ownBlock)) (HL808_3.out) (λk_ hk=>⟨⟨hk.1,⟨hk.2.1,hk.2.2.1⟩⟩,hk.2.2.2⟩))).2.1 (Kd.V_F (e:=0) (base:=0) (Kd.V_mono (e:=0) (base:=0) (ok':=(λk_=>((λk_=>(P0_ k_\/w.heap.size<=k_)/\some k_≠(u5:Value).ownBlock/\some k_≠(.slice Ao18 x6_1.length co18:Value).ownBlock)) k_/\some k_≠(u8:Value).ownBlock)) (HL808_3.out) (λk_ hk=>⟨⟨hk.1,⟨hk.2.1,hk.2.2.1⟩⟩,hk.2.2.2⟩)))));(case aB=>exact z10_0);(case aF=>exact(λk_ hk=>⟨(.inr (Nat.le_trans (below_size z10_0) hk)),Kd.fresh' (Kd.N_lt z39_5) k_ hk,Kd.fresh' (Kd.R_lt z39_3) k_ hk⟩));(case aO=>exact z39_7);(case aS=>exact(below_size z10_0));(case aL=>have:=LMc16.out;omega);intro v810 w19 ho hb hg hat;rw [<-Ny809.out] at ho;replace HO_0:=U (Kd.V_afterv (ok:=(λk_=>(P0_ k_\/w.heap.size<=k_)/\some k_≠(u5:Value).ownBlock/\some k_≠(.slice Ao18 x6_1.length co18:Value).ownBlock)) (by(with_reducible repeat(first|apply Kd.V_alloc|apply Kd.V_drewN|apply Kd.V_drew));exact Kd.V_mono HO_0.out (λ_ hk=>⟨⟨hk.1,⟨hk.2.1,hk.2.2.1⟩⟩,hk.2.2.2⟩)) hg hat);replace HO_5:=U (Kd.N_afterv (ok:=(λk_=>(P0_ k_\/w.heap.size<=k_)/\some k_≠(.slice Ao18 x6_1.length co18:Value).ownBlock)) (by(with_reducible repeat(first|apply Kd.N_alloc|apply Kd.N_drewN|apply Kd.N_drew));exact Kd.N_mono HO_5.out (λ_ hk=>⟨⟨hk.1,hk.2.1⟩,hk.2.2⟩)) hg hat);replace HO_6:=U (Kd.R_over' z39_3 (Kd.N_typed z39_7) (by decide) hg);replace HL803_2:=U (Kd.V_afterv (ok:=(λk_=>(P0_ k_\/w.heap.size<=k_)/\some k_≠(u5:Value).ownBlock/\some k_≠(.slice Ao18 x6_1.length co18:Value).ownBlock)) (by(with_reducible repeat(first|apply Kd.V_alloc|apply Kd.V_drewN|apply Kd.V_drew));exact Kd.V_mono HL803_2.out (λ_ hk=>⟨⟨hk.1,⟨hk.2.1,hk.2.2.1⟩⟩,hk.2.2.2⟩)) hg hat);replace HL803_3:=U (Kd.V_afterv (ok:=(λk_=>(P0_ k_\/w.heap.size<=k_)/\some k_≠(u5:Value).ownBlock/\some k_≠(.slice Ao18 x6_1.length co18:Value).ownBlock)) (by(with_reducible repeat(first|apply Kd.V_alloc|apply Kd.V_drewN|apply Kd.V_drew));exact Kd.V_mono HL803_3.out (λ_ hk=>⟨⟨hk.1,⟨hk.2.1,hk.2.2.1⟩⟩,hk.2.2.2⟩)) hg hat);replace HL804_2:=U (Kd.V_afterv (ok:=(λk_=>(P0_ k_\/w.heap.size<=k_)/\some k_≠(u5:Value).ownBlock/\some k_≠(.slice Ao18 x6_1.length co18:Value).ownBlock)) (by(with_reducible repeat(first|apply Kd.V_alloc|apply Kd.V_drewN|apply Kd.V_drew));exact Kd.V_mono HL804_2.out (λ_ hk=>⟨⟨hk.1,⟨hk.2.1,hk.2.2.1⟩⟩,hk.2.2.2⟩)) hg hat);replace HL804_3:=U (Kd.V_afterv (ok:=(λk_=>(P0_ k_\/w.heap.size<=k_)/\some k_≠(u5:Value).ownBlock/\some k_≠(.slice Ao18 x6_1.length co18:Value).ownBlock)) (by(with_reducible repeat(first|apply Kd.V_alloc|apply Kd.V_drewN|apply Kd.V_drew));exact Kd.V_mono HL804_3.out (λ_ hk=>⟨⟨hk.1,⟨hk.2.1,hk.2.2.1⟩⟩,hk.2.2.2⟩)) hg hat);replace HL806_2:=U (Kd.V_afterv (ok:=(λk_=>(P0_ k_\/w.heap.size<=k_)/\some k_≠(u5:Value).ownBlock/\some k_≠(.slice Ao18 x6_1.length co18:Value).ownBlock)) (by(with_reducible repeat(first|apply Kd.V_alloc|apply Kd.V_drewN|apply Kd.V_drew));exact Kd.V_mono HL806_2.out (λ_ hk=>⟨⟨hk.1,⟨hk.2.1,hk.2.2.1⟩⟩,hk.2.2.2⟩)) hg hat);replace HL806_3:=U (Kd.V_afterv (ok:=(λk_=>(P0_ k_\/w.heap.size<=k_)/\some k_≠(u5:Value).ownBlock/\some k_≠(.slice Ao18 x6_1.length co18:Value).ownBlock)) (by(with_reducible repeat(first|apply Kd.V_alloc|apply Kd.V_drewN|apply Kd.V_drew));exact Kd.V_mono HL806_3.out (λ_ hk=>⟨⟨hk.1,⟨hk.2.1,hk.2.2.1⟩⟩,hk.2.2.2⟩)) hg hat);replace HL808_2:=U (Kd.V_afterv (ok:=(λk_=>(P0_ k_\/w.heap.size<=k_)/\some k_≠(u5:Value).ownBlock/\some k_≠(.slice Ao18 x6_1.length co18:Value).ownBlock)) (by(with_reducible repeat(first|apply Kd.V_alloc|apply Kd.V_drewN|apply Kd.V_drew));exact Kd.V_mono HL808_2.out (λ_ hk=>⟨⟨hk.1,⟨hk.2.1,hk.2.2.1⟩⟩,hk.2.2.2⟩)) hg hat);replace HL808_3:=U (Kd.V_afterv (ok:=(λk_=>(P0_ k_\/w.heap.size<=k_)/\some k_≠(u5:Value).ownBlock/\some k_≠(.slice Ao18 x6_1.length co18:Value).ownBlock)) (by(with_reducible repeat(first|apply Kd.V_alloc|apply Kd.V_drewN|apply Kd.V_drew));exact Kd.V_mono HL808_3.out (λ_ hk=>⟨⟨hk.1,⟨hk.2.1,hk.2.2.1⟩⟩,hk.2.2.2⟩)) hg hat);replace HB:=U (hb);have HO811:=U (ho);clear HO_8;clear ho hb hg hat))
 go_roundg k2
 case measure=>have:=HK1.out;have:=HK2.out;omega
 case rel=>exact ⟨(y809),(wrap64 (x9_2+1)),z10_4,H',⟨z39_21⟩,⟨z39_15⟩,⟨z39_19⟩,⟨z39_3⟩,⟨(by(with_reducible repeat(first|apply Kd.N_alloc|apply Kd.N_drewN|apply Kd.N_drew));exact HO811.out)⟩,⟨z10_0⟩⟩
end Go.Proofs.Ytgocnchjpecafaa.PEv
