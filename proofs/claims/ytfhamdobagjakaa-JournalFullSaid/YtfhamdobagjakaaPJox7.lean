/- a part -/
import Derived.Test.YtfhamdobagjakaaPJox6
namespace Go.Proofs.Ytfhamdobagjakaa.PJo
open Go.RowKit Go.Proofs.YtfhamdobagjakaaW.PrintWords Go.Proofs.YtfhamdobagjakaaW.PrintLast Go.Proofs.YtfhamdobagjakaaW.PrintMore
attribute [local go_sem] max2_int min2_int max_two min_two max_three min_three max_four min_four
set_option linter.unusedVariables false
set_option linter.unusedSimpArgs false
set_option maxHeartbeats 8000000
set_option maxRecDepth 100000
theorem z7_1 {P:Prop} (h:P:=by simp only [Act.put,List.setIfInBounds_toArray,List.set_cons_zero,List.set_cons_succ,i64_w,i32_w];rfl):P:=h
theorem z7_2 {P:Prop} (h:P:=by(with_reducible repeat(first|apply Kd.R_alloc|apply Kd.R_drewN|apply Kd.R_drew));exact HO285.out):P:=h
theorem z7_4 {P:Prop} (h:P:=by(with_reducible repeat(first|apply Kd.R_alloc|apply Kd.R_drewN|apply Kd.R_drew));exact HO291.out):P:=h
theorem z7_7 {P:Prop} (h:P:=by kernel_rfl):P:=h
def r07_Bytes.l0:Nat->List (S92)->List Int->Int->Option (List Int)
 | 0,_,_,_=>none
 | k+1,x0,x3,x4=>if x4<(x0.length:Int) then(if 0<=x4 then((r02_Record.f k ((rd_T92 x0 x4).f0) ((rd_T92 x0 x4).f1)).bind λt277=>(if x3.length+t277.length<140737488355328 then(r07_Bytes.l0 k x0 (x3++t277) (wrap64 (x4+1))) else(none))) else(none)) else(some x3)
def r07_Bytes.f (k:Nat) (l0:List (S92)):Option (List Int):=r07_Bytes.l0 k l0 (([]:List Int)) 0
def r07_Bytes.T5:Bool×List (List Nat×List Nat):=(true,[([],[]),([],[]),([],[]),([1,2],[1,2]),([3],[3]),([4],[4]),([],[]),([],[]),([6,7],[6,7]),([8],[8]),([9],[9]),([5,10],[5,10]),([0,11,11],[0,11]),([12,12,0,1,2,3,4,5,6,7,8,9,10,11,12],[0,12])])
def r07_Bytes.B5:List Nat:=[0,0,0,6,14,30,0,0,192,448,960,2046,4095,8191]
theorem r07_Bytes.tab5:rtab .any (opsOf Try.f48 5)=r07_Bytes.T5:=by kernel_rfl
theorem r07_Bytes.bits5:waitsOk r07_Bytes.T5.2 r07_Bytes.B5=true:=by kernel_rfl
theorem r07_Bytes.calls (k:Nat) (A0:Option Addr) (c0:Nat) (l0:List (S92)) (r:List Int) (w:World) (hr0:Kd.C k92 w A0 l0.length l0) (hc0:l0.length<=c0) (h:r07_Bytes.f k l0=some r) :
  Calls Try.prog 48 #[.slice A0 l0.length c0] w λe w'=>∃ v0_:Value,e = .returned (v0_)/\Kd.R (Kd.int .u8) 5 w' w.heap.size (λ_=>True) v0_ r/\Below w.heap.size w w':=by
 have HR0:=Aside0.mk hr0
 have HC0:=Aside0.mk hc0
 clear hr0 hc0
 have HB:=U (Below.refl w.heap.size w)
 have H:(r07_Bytes.l0 k l0 (([]:List Int)) 0)=some r:=h
 clear h
 obtain ⟨y272,hy272⟩:∃ y_:List Int,y_=(([]:List Int)):=⟨_,rfl⟩
 replace H:(r07_Bytes.l0 k l0 y272 0)=some r:=by first|(rw [hy272];with_reducible exact H)|(have H2_:=(Option.bind_some _ _).symm.trans H;rw [hy272];with_reducible exact H2_)|(have H2_:=(Option.bind_some _ _).symm.trans H;with_reducible exact H2_)|with_reducible exact H|(rw [hy272];exact H)|exact H
 have Ny272:=Aside0.mk hy272
 clear hy272
 have H':=Aside0.mk H
 clear H
 go_enter Try.func48,Try.ntmps48
 go_wp2_with (first|((with_reducible refine gate_dst (N:=5) rfl ?_);refine Kd.R_lit (Kd.int .u8) _ 5 ?hg (N:=5) ?hd (xs:=([]:List Int)) (inner:=[]) (ok:=λ_=>True) (okp:=λ_=>True) ?hr ?hp (λ_ hk=>hk) trivial (Below.refl _ _) (Nat.le_refl _) (by simp) ?_;(case hd=>rfl);(case hg=>rfl);(case hr=>first|(go_simp;done)|(go_simp;rfl));(case hp=>exact(Reps.none _ _));intro v273 w2 ho3 hb hg_ hnew_;clear hg_ hnew_;(first|rw [<-Ny272.out] at ho3|(simp only [Int.reduceToNat] at ho3;rw [<-Ny272.out] at ho3));have HO274:=U (Kd.R_lower ho3 (below_size z6_0));replace HB:=U (below_step z6_0 hb);clear hb ho3))
 go_loopg [3,4] k (λkq v3 v4 w'=>∃ (x3_1:List Int) (x4_1:Int),v4 = .int .i64 x4_1/\Aside0 (r07_Bytes.l0 kq l0 x3_1 x4_1=some r)/\Aside0 (kq<=k)/\Aside0 (Kd.R (Kd.int .u8) 5 w' w.heap.size (λ_=>True) v3 x3_1)/\Aside0 (Below w.heap.size w w'))
 case atStart=>exact ⟨(y272),(0),(by first|rfl|(simp;done)|(simp [*];done)),H',⟨Nat.le_refl _⟩,⟨(by(with_reducible repeat(first|apply Kd.R_alloc|apply Kd.R_drewN|apply Kd.R_drew));exact HO274.out)⟩,⟨z6_0⟩⟩
 case round =>
 clear H'
 try clear p2
 obtain ⟨x3_1,x4_1,rfl,HA,HK1,HO_3,HB⟩:=hrel
 cases gk with
 | zero=>exact absurd HA.out (by simp [r07_Bytes.l0])
 | succ k1 =>
 have H:=HA.out
 clear HA
 simp only [r07_Bytes.l0] at H
 by_cases c4:x4_1<(l0.length:Int)
 rotate_left
 ·rw [if_neg c4] at H
  have c4b0:decide (x4_1<(l0.length:Int))=false:=dF_ c4
  clear c4
  obtain rfl:=sI_ H
  go_wp2
  go_ret
  exact ⟨_,(by first|rfl|(simp [errW_none,errW_some]<;>rfl)|(simp [*,errW_none,errW_some]<;>rfl)),z6_2,z6_0⟩
 rw [if_pos c4] at H
 have c4b0:decide (x4_1<(l0.length:Int))=true:=dT_ c4
 clear c4
 by_cases c5:0<=x4_1
 rotate_left
 ·rw [if_neg c5] at H
  exact absurd H (by simp)
 rw [if_pos c5] at H
 have c5b0:decide (0<=x4_1)=true:=dT_ c5
 clear c5
 replace H:=oB_ H
 obtain ⟨t277,A60,H⟩:=H
 replace H:(if x3_1.length+t277.length<140737488355328 then(r07_Bytes.l0 k1 l0 (x3_1++t277) (wrap64 (x4_1+1))) else(none))=some r:=H
 have A6:=Aside0.mk A60
 clear A60
 by_cases c7:x3_1.length+t277.length<140737488355328
 rotate_left
 ·rw [if_neg c7] at H
  exact absurd H (by simp)
 rw [if_pos c7] at H
 have LMc7:=Aside0.mk c7
 clear c7
 obtain ⟨y280,hy280⟩:∃ y_:List Int,y_=(x3_1++t277):=⟨_,rfl⟩
 replace H:(r07_Bytes.l0 k1 l0 y280 (wrap64 (x4_1+1)))=some r:=by first|(rw [hy280];with_reducible exact H)|(have H2_:=(Option.bind_some _ _).symm.trans H;rw [hy280];with_reducible exact H2_)|(have H2_:=(Option.bind_some _ _).symm.trans H;with_reducible exact H2_)|with_reducible exact H|(rw [hy280];exact H)|exact H
 have Ny280:=Aside0.mk hy280
 clear hy280
 have H':=Aside0.mk H
 clear H
 try go_wp2
 have n0_:=U (Kd.R_drew HO_3.out)
 have n1_:=U (below_drew1 HB.out)
 clear HO_3
 clear HB
 have HO_3:=n0_
 have HB:=n1_
 clear n0_ n1_
 have p275:0<=(x4_1:Int):=oD_ z5_0
 have q275:x4_1<(l0.length:Int):=oD_ z5_0
 obtain ⟨ad275,A275_1,c275_1,e275,hx275_0,hx275_1,hl275_1,hi275_1⟩:=at_T92 HR0.out x4_1 p275 q275
 have hw275_1:=hx275_1
 have hw275_0:=hx275_0
 cases e275
 replace hx275_0:=(HB.out.cell (World.block_lt_of_cell? w _ hx275_0)).trans hx275_0
 replace hx275_1:=(HB.out.cell (World.block_lt_of_cell? w _ hx275_1)).trans hx275_1
 have HR275_1:=Aside0.mk hi275_1
 have HC275_1:=Aside0.mk hl275_1
 clear hi275_1 hl275_1
 replace p275:=eq_true p275
 replace q275:=eq_true q275
 have p276:0<=(x4_1:Int):=oD_ z5_0
 have q276:x4_1<(l0.length:Int):=oD_ z5_0
 obtain ⟨ad276,A276_1,c276_1,e276,hx276_0,hx276_1,hl276_1,hi276_1⟩:=at_T92 HR0.out x4_1 p276 q276
 have hw276_1:=hx276_1
 have hw276_0:=hx276_0
 obtain rfl:ad275=ad276:=(by injection e276)
 replace hx276_0:=(HB.out.cell (World.block_lt_of_cell? w _ hx276_0)).trans hx276_0
 replace hx276_1:=(HB.out.cell (World.block_lt_of_cell? w _ hx276_1)).trans hx276_1
 have HR276_1:=Aside0.mk hi276_1
 have HC276_1:=Aside0.mk hl276_1
 clear hi276_1 hl276_1
 replace p276:=eq_true p276
 replace q276:=eq_true q276
 have ea_:=sI_ (hx275_1.symm.trans hx276_1)
 injection ea_ with ea_ en_ ec_
 subst ea_
 subst ec_
 clear en_
 refine start_ (n:=14) (S:=λw'=>w'.cell? (ad275.add ((x4_1).toNat*2))=some (.int .i64 ((rd_T92 l0 x4_1).f0))/\w'.cell? ⟨(ad275.add ((x4_1).toNat*2)).block,(ad275.add ((x4_1).toNat*2)).off+1,none⟩=some (.slice A275_1 ((rd_T92 l0 x4_1).f1).length c275_1)/\w'.cell? (ad275.add ((x4_1).toNat*2))=some (.int .i64 ((rd_T92 l0 x4_1).f0))/\w'.cell? ⟨(ad275.add ((x4_1).toNat*2)).block,(ad275.add ((x4_1).toNat*2)).off+1,none⟩=some (.slice A275_1 ((rd_T92 l0 x4_1).f1).length c275_1)) (ds:=[]) #[L,L,L,L,L,L,L,L,L,L,L,L,L,L] z7_7 rfl rfl ⟨((HB.out.cell (World.block_lt_of_cell? w _ hw275_0)).trans hw275_0),((HB.out.cell (World.block_lt_of_cell? w _ hw275_1)).trans hw275_1),((HB.out.cell (World.block_lt_of_cell? w _ hw276_0)).trans hw276_0),((HB.out.cell (World.block_lt_of_cell? w _ hw276_1)).trans hw276_1)⟩ (λhHeld=>?_);refine with_tabW r07_Bytes.tab5 r07_Bytes.bits5 (λHT_ HW_=>?_)
 generalize wr.drew=w8 at HO_3 HB HR275_1 HR276_1 hx275_0 hx275_1 hx276_0 hx276_1 hHeld ⊢
 refine pure_ (i:=0) (N:=some 12) (v:=?_) (a':=?_) #[Y,L,L,L,L,L,L,L,L,L,L,L,L,L] rfl rfl (any_of HT_.out z7_7) (λ_ _ _ h=>h) (Or.inl ⟨(by rfl),?_⟩) ?_ ?_
 rotate_left
 ·intro w'
  go_simp
  with_reducible rfl
 rotate_left
 ·exact z7_1
 refine pure_ (i:=1) (N:=some 13) (v:=?_) (a':=?_) #[Y,Y,L,L,L,L,L,L,L,L,L,L,L,L] rfl rfl (any_of HT_.out z7_7) (λ_ _ _ h=>h) (Or.inl ⟨(by rfl),?_⟩) ?_ ?_
 rotate_left
 ·intro w'
  go_simp
  with_reducible rfl
 rotate_left
 ·exact z7_1
 refine pure_ (i:=2) (N:=some 14) (v:=?_) (a':=?_) #[Y,Y,Y,L,L,L,L,L,L,L,L,L,L,L] rfl rfl (any_of HT_.out z7_7) (λ_ _ _ h=>h) (Or.inl ⟨(by rfl),?_⟩) ?_ ?_
 rotate_left
 ·intro w'
  go_simp
  with_reducible rfl
 rotate_left
 ·exact z7_1
 refine pure_ (i:=3) (N:=some 15) (v:=?_) (a':=?_) #[Y,Y,Y,Y,L,L,L,L,L,L,L,L,L,L] rfl rfl (any_of HT_.out z7_7) (λ_ _ _ h=>h) (Or.inl ⟨(by rfl),?_⟩) ?_ ?_
 rotate_left
 ·intro w'
  go_simp
  with_reducible rfl
 rotate_left
 ·exact z7_1
 refine pure_ (i:=4) (N:=some 16) (v:=?_) (a':=?_) #[Y,Y,Y,Y,Y,L,L,L,L,L,L,L,L,L] rfl rfl (any_of HT_.out z7_7) (λ_ _ _ h=>h) (Or.inl ⟨(by rfl),?_⟩) ?_ ?_
 rotate_left
 ·intro w'
  go_simp
  with_reducible rfl
 rotate_left
 ·exact z7_1
 refine pure_ (i:=6) (N:=some 18) (v:=?_) (a':=?_) #[Y,Y,Y,Y,Y,L,Y,L,L,L,L,L,L,L] rfl rfl (any_of HT_.out z7_7) (λ_ _ _ h=>h) (Or.inl ⟨(by rfl),?_⟩) ?_ ?_
 rotate_left
 ·intro w'
  go_simp
  with_reducible rfl
 rotate_left
 ·exact z7_1
 refine pure_ (i:=7) (N:=some 19) (v:=?_) (a':=?_) #[Y,Y,Y,Y,Y,L,Y,Y,L,L,L,L,L,L] rfl rfl (any_of HT_.out z7_7) (λ_ _ _ h=>h) (Or.inl ⟨(by rfl),?_⟩) ?_ ?_
 rotate_left
 ·intro w'
  go_simp
  with_reducible rfl
 rotate_left
 ·exact z7_1
 refine pure_ (i:=8) (N:=some 20) (v:=?_) (a':=?_) #[Y,Y,Y,Y,Y,L,Y,Y,Y,L,L,L,L,L] rfl rfl (any_of HT_.out z7_7) (λ_ _ _ h=>h) (Or.inl ⟨(by rfl),?_⟩) ?_ ?_
 rotate_left
 ·intro w'
  go_simp
  with_reducible rfl
 rotate_left
 ·exact z7_1
 refine pure_ (i:=9) (N:=some 21) (v:=?_) (a':=?_) #[Y,Y,Y,Y,Y,L,Y,Y,Y,Y,L,L,L,L] rfl rfl (any_of HT_.out z7_7) (λ_ _ _ h=>h) (Or.inl ⟨(by rfl),?_⟩) ?_ ?_
 rotate_left
 ·intro w'
  go_simp
  with_reducible rfl
 rotate_left
 ·exact z7_1
 refine take_ (i:=5) (N:=some 17) (v:=?_) (a':=?_) #[Y,Y,Y,Y,Y,Y,Y,Y,Y,Y,L,L,L,L] rfl rfl (take_ofW HT_.out HW_.out z7_7) (λ_ _ _ h=>h) (Or.inl ⟨(by rfl),?_⟩) hHeld ?_ ?_
 rotate_left
 ·rintro w' ⟨s0,s1,s2,s3⟩
  go_simp
  with_reducible rfl
 rotate_left
 ·exact z7_1
 refine take_ (i:=10) (N:=some 22) (v:=?_) (a':=?_) #[Y,Y,Y,Y,Y,Y,Y,Y,Y,Y,Y,L,L,L] rfl rfl (take_ofW HT_.out HW_.out z7_7) (λ_ _ _ h=>h) (Or.inl ⟨(by rfl),?_⟩) hHeld ?_ ?_
 rotate_left
 ·rintro w' ⟨s0,s1,s2,s3⟩
  go_simp
  with_reducible rfl
 rotate_left
 ·exact z7_1
 refine one_ (i:=11) (N:=some 23) #[Y,Y,Y,Y,Y,Y,Y,Y,Y,Y,Y,Y,L,L] rfl rfl (one_of HT_.out z7_7) (by decide) (λK hK=>?_)
 refine goes_ Try.func46 z7_7 rfl #[.int .i64 ((rd_T92 l0 x4_1).f0),.slice A275_1 ((rd_T92 l0 x4_1).f1).length c275_1] (by rfl) rfl rfl z6_6 ?_
 with_reducible refine(r02_Record.calls k1 ((rd_T92 l0 x4_1).f0) _ _ ((rd_T92 l0 x4_1).f1) t277 _ ?side1 ?side2 A6.out).mono ?_
 (case side1=>repeat(first|exact(Kd.C_below HR276_1.out HB.out)|(with_reducible refine Kd.C_alloc ?_ _)|(with_reducible refine Kd.C_drewN ?_ _)|(with_reducible refine Kd.C_drew ?_)))
 (case side2=>exact HC276_1.out)
 rintro e w9 ⟨v278,rfl,ho0,hb⟩
 refine ⟨_,rfl,?_⟩
 have n0_:=U (Kd.R_elder' z6_2 (Kd.R_base ho0) hb)
 have n1_:=U (Kd.R_lower (Kd.R_new' ho0 (Kd.R_lt z6_2)) (below_size z6_0))
 have n2_:=U (below_step z6_0 hb)
 clear HO_3
 clear HB
 have HO_3:=n0_
 have HO279:=n1_
 have HB:=n2_
 clear n0_ n1_ n2_
 (try clear hb)
 (try clear hb2)
 (try clear hk)
 (try clear hi)
 (try clear ho0)
 obtain ⟨Ao11,co11,eo11⟩:=Kd.R_slice HO279.out
 (first|subst eo11|(injection eo11 with f1_ f2_ f3_;have f4_:=f1_.symm;have f5_:=f3_.symm;clear f1_ f2_ f3_;subst f4_;subst f5_))
 refine hK.out _ _ ⟨((HB.out.cell (World.block_lt_of_cell? w _ hw275_0)).trans hw275_0),((HB.out.cell (World.block_lt_of_cell? w _ hw275_1)).trans hw275_1),((HB.out.cell (World.block_lt_of_cell? w _ hw276_0)).trans hw276_0),((HB.out.cell (World.block_lt_of_cell? w _ hw276_1)).trans hw276_1)⟩ (λhHeld=>?_)
 clear hK K
 refine norm_ (a':=?_) ?_ ?_
 rotate_left
 ·show Act.put _ (some 23) _=_;simp only [Act.put,List.setIfInBounds_toArray,List.set_cons_zero,List.set_cons_succ,i64_w,i32_w];rfl
 refine one_ (i:=12) (N:=some 24) #[Y,Y,Y,Y,Y,Y,Y,Y,Y,Y,Y,Y,Y,L] rfl rfl (one_of HT_.out z7_7) (by decide) (λK hK=>?_)
 refine Kd.R_append_rows_step (Kd.int .u8) (w0:=w) w.heap.size (by rfl) (.tmp 12) (.tmp 23) 38 5 (.int .u8 0) 1 rfl Try.underlying38 info5 rfl (by decide) (by omega) u3 x3_1 t277 _ _ _ (λk_=>some k_≠(.slice Ao11 t277.length co11:Value).ownBlock) (λ_=>False) rfl rfl ?aO ?aR (λ_ _ h=>h) (λ_ h=>h.elim) ?aF ?aB ?aS ?aL ?_
 (case aR=>repeat(first|exact(Kd.R_reads' HO279.out).2.2|(with_reducible refine Kd.C_alloc ?_ _)|(with_reducible refine Kd.C_drewN ?_ _)|(with_reducible refine Kd.C_drew ?_)))
 (case aB=>exact z6_0)
 (case aF=>exact(λk_ hk=>Kd.fresh' (Kd.R_lt (by(with_reducible repeat(first|apply Kd.R_alloc|apply Kd.R_drewN|apply Kd.R_drew));exact HO279.out)) k_ hk))
 (case aO=>exact(by(with_reducible repeat(first|apply Kd.R_alloc|apply Kd.R_drewN|apply Kd.R_drew));exact Kd.R_mono HO_3.out (λ_ hk=>hk.2)))
 (case aS=>exact(below_size z6_0))
 (case aL=>have:=LMc7.out;omega)
 intro v281 w10 ho hb hg hat
 rw [<-Ny280.out] at ho
 have n0_:=U (Kd.R_after (ok:=(λ_=>True)) (by(with_reducible repeat(first|apply Kd.R_alloc|apply Kd.R_drewN|apply Kd.R_drew));exact HO279.out) hg hat)
 have n1_:=U (hb)
 have n2_:=U (ho)
 clear HO279
 clear HB
 clear HO_3
 have HO279:=n0_
 have HB:=n1_
 have HO282:=n2_
 clear n0_ n1_ n2_
 clear ho hb hg hat
 refine hK.out _ _ ⟨((HB.out.cell (World.block_lt_of_cell? w _ hw275_0)).trans hw275_0),((HB.out.cell (World.block_lt_of_cell? w _ hw275_1)).trans hw275_1),((HB.out.cell (World.block_lt_of_cell? w _ hw276_0)).trans hw276_0),((HB.out.cell (World.block_lt_of_cell? w _ hw276_1)).trans hw276_1)⟩ (λhHeld=>?_)
 clear hK K
 refine norm_ (a':=?_) ?_ ?_
 rotate_left
 ·show Act.put _ (some 24) _=_;simp only [Act.put,List.setIfInBounds_toArray,List.set_cons_zero,List.set_cons_succ,i64_w,i32_w];rfl
 refine pure_ (i:=13) (N:=some 3) (v:=?_) (a':=?_) #[Y,Y,Y,Y,Y,Y,Y,Y,Y,Y,Y,Y,Y,Y] rfl rfl (any_of HT_.out z7_7) (λ_ _ _ h=>h) (Or.inl ⟨(by rfl),?_⟩) ?_ ?_
 rotate_left
 ·intro w'
  go_simp
  with_reducible rfl
 rotate_left
 ·exact z7_1
 refine done_ (done_of HT_.out z7_7) ?_
 try go_wp2
 go_roundg k1
 case measure=>have:=HK1.out;omega
 case rel=>exact ⟨(y280),(wrap64 (x4_1+1)),(by first|rfl|(simp;done)|(simp [*];done)),H',⟨(by have:=HK1.out;omega)⟩,⟨(by(with_reducible repeat(first|apply Kd.R_alloc|apply Kd.R_drewN|apply Kd.R_drew));exact Kd.R_mono HO282.out (λ_ hk=>trivial))⟩,⟨z6_0⟩⟩
def r07_Whole.f (k:Nat) (a0:Int) (l1:List (S92)):Option (List Int):=(r02_Num.f k a0).bind λt283=>((r02_Record.f k 1 t283).bind λt286=>((r07_Bytes.f k l1).bind λt289=>(if t286.length+t289.length<140737488355328 then((some (t286++t289:List Int)).bind λy292=>((r02_Record.f k 2 ([]:List Int)).bind λt295=>(if y292.length+t295.length<140737488355328 then(some (y292++t295)) else(none)))) else(none))))
theorem r07_Whole.calls (k:Nat) (a0:Int) (A1:Option Addr) (c1:Nat) (l1:List (S92)) (r:List Int) (w:World) (hr1:Kd.C k92 w A1 l1.length l1) (hc1:l1.length<=c1) (h:r07_Whole.f k a0 l1=some r) :
  Calls Try.prog 17 #[.int .u64 a0,.slice A1 l1.length c1] w λe w'=>∃ v0_:Value,e = .returned (v0_)/\Kd.R (Kd.int .u8) 5 w' w.heap.size (λ_=>True) v0_ r/\Below w.heap.size w w':=by
 have HR1:=Aside0.mk hr1
 have HC1:=Aside0.mk hc1
 clear hr1 hc1
 have HB:=U (Below.refl w.heap.size w)
 have H:((r02_Num.f k a0).bind λt283=>((r02_Record.f k 1 t283).bind λt286=>((r07_Bytes.f k l1).bind λt289=>(if t286.length+t289.length<140737488355328 then((some (t286++t289:List Int)).bind λy292=>((r02_Record.f k 2 ([]:List Int)).bind λt295=>(if y292.length+t295.length<140737488355328 then(some (y292++t295)) else(none)))) else(none)))))=some r:=h
 clear h
 replace H:=oB_ H
 obtain ⟨t283,A30,H⟩:=H
 replace H:((r02_Record.f k 1 t283).bind λt286=>((r07_Bytes.f k l1).bind λt289=>(if t286.length+t289.length<140737488355328 then((some (t286++t289:List Int)).bind λy292=>((r02_Record.f k 2 ([]:List Int)).bind λt295=>(if y292.length+t295.length<140737488355328 then(some (y292++t295)) else(none)))) else(none))))=some r:=H
 have A3:=Aside0.mk A30
 clear A30
 replace H:=oB_ H
 obtain ⟨t286,A40,H⟩:=H
 replace H:((r07_Bytes.f k l1).bind λt289=>(if t286.length+t289.length<140737488355328 then((some (t286++t289:List Int)).bind λy292=>((r02_Record.f k 2 ([]:List Int)).bind λt295=>(if y292.length+t295.length<140737488355328 then(some (y292++t295)) else(none)))) else(none)))=some r:=H
 have A4:=Aside0.mk A40
 clear A40
 replace H:=oB_ H
 obtain ⟨t289,A50,H⟩:=H
 replace H:(if t286.length+t289.length<140737488355328 then((some (t286++t289:List Int)).bind λy292=>((r02_Record.f k 2 ([]:List Int)).bind λt295=>(if y292.length+t295.length<140737488355328 then(some (y292++t295)) else(none)))) else(none))=some r:=H
 have A5:=Aside0.mk A50
 clear A50
 by_cases c6:t286.length+t289.length<140737488355328
 rotate_left
 ·rw [if_neg c6] at H
  exact absurd H (by simp)
 rw [if_pos c6] at H
 have LMc6:=Aside0.mk c6
 clear c6
 obtain ⟨y292,hy292⟩:∃ y_:List Int,y_=(t286++t289):=⟨_,rfl⟩
 replace H:((r02_Record.f k 2 ([]:List Int)).bind λt295=>(if y292.length+t295.length<140737488355328 then(some (y292++t295)) else(none)))=some r:=by first|(rw [hy292];with_reducible exact H)|(have H2_:=(Option.bind_some _ _).symm.trans H;rw [hy292];with_reducible exact H2_)|(have H2_:=(Option.bind_some _ _).symm.trans H;with_reducible exact H2_)|with_reducible exact H|(rw [hy292];exact H)|exact H
 have Ny292:=Aside0.mk hy292
 clear hy292
 replace H:=oB_ H
 obtain ⟨t295,A70,H⟩:=H
 replace H:(if y292.length+t295.length<140737488355328 then(some (y292++t295)) else(none))=some r:=H
 have A7:=Aside0.mk A70
 clear A70
 by_cases c8:y292.length+t295.length<140737488355328
 rotate_left
 ·rw [if_neg c8] at H
  exact absurd H (by simp)
 rw [if_pos c8] at H
 have LMc8:=Aside0.mk c8
 clear c8
 obtain ⟨y298,hy298⟩:∃ y_:List Int,y_=(y292++t295):=⟨_,rfl⟩
 replace H:(some y298)=some r:=by first|(rw [hy298];with_reducible exact H)|(have H2_:=(Option.bind_some _ _).symm.trans H;rw [hy298];with_reducible exact H2_)|(have H2_:=(Option.bind_some _ _).symm.trans H;with_reducible exact H2_)|with_reducible exact H|(rw [hy298];exact H)|exact H
 have Ny298:=Aside0.mk hy298
 clear hy298
 obtain rfl:=sI_ H
 go_enter Try.func17,Try.ntmps17
 go_wp2_with (first|((with_reducible refine gate_callee (f:=47) rfl ?_);refine goesL_ (some 7) rfl rfl Try.func47 z7_7 rfl #[.int .u64 a0] rfl z6_6 ?_;(with_reducible refine(r02_Num.calls k a0 t283 _ A3.out).mono ?_);rintro e w9 ⟨v284,rfl,ho0,hb⟩;refine ⟨_,rfl,?_⟩;have HO285:=U (Kd.R_lower ho0 (below_size z6_0));replace HB:=U (below_step z6_0 hb);(try clear hb);(try clear hb2);(try clear hk);(try clear hi);(try clear ho0);obtain ⟨Ao10,co10,eo10⟩:=Kd.R_slice HO285.out;subst eo10)|((with_reducible refine gate_callee (f:=46) rfl ?_);refine goesL_ (some 8) rfl rfl Try.func46 z7_7 rfl #[.int .i64 1,.slice Ao10 t283.length co10] rfl z6_6 ?_;(with_reducible refine(r02_Record.calls k 1 _ _ t283 t286 _ ?side1 ?side2 A4.out).mono ?_);(case side1=>repeat(first|exact(Kd.R_reads' HO285.out).2.2|(with_reducible refine Kd.C_alloc ?_ _)|(with_reducible refine Kd.C_drewN ?_ _)|(with_reducible refine Kd.C_drew ?_)));(case side2=>exact(Kd.R_reads' HO285.out).2.1);rintro e w11 ⟨v287,rfl,ho0,hb⟩;refine ⟨_,rfl,?_⟩;have HO288:=U (Kd.R_lower (Kd.R_new' ho0 (Kd.R_lt z7_2)) (below_size z6_0));replace HO285:=U (Kd.R_elder' z7_2 (Kd.R_base ho0) hb);replace HB:=U (below_step z6_0 hb);(try clear hb);(try clear hb2);(try clear hk);(try clear hi);(try clear ho0))|((with_reducible refine gate_callee (f:=48) rfl ?_);refine goesL_ (some 11) rfl rfl Try.func48 z7_7 rfl #[.slice A1 l1.length c1] rfl z6_6 ?_;(with_reducible refine(r07_Bytes.calls k _ _ l1 t289 _ ?side1 ?side2 A5.out).mono ?_);(case side1=>repeat(first|exact(Kd.C_below HR1.out HB.out)|(with_reducible refine Kd.C_alloc ?_ _)|(with_reducible refine Kd.C_drewN ?_ _)|(with_reducible refine Kd.C_drew ?_)));(case side2=>exact HC1.out);rintro e w12 ⟨v290,rfl,ho0,hb⟩;refine ⟨_,rfl,?_⟩;have HO291:=U (Kd.R_lower (Kd.R_new' (Kd.R_new' ho0 (Kd.R_lt z7_2)) (Kd.R_lt (by(with_reducible repeat(first|apply Kd.R_alloc|apply Kd.R_drewN|apply Kd.R_drew));exact HO288.out))) (below_size z6_0));replace HO285:=U (Kd.R_elder' z7_2 (Kd.R_base ho0) hb);replace HO288:=U (Kd.R_elder' (by(with_reducible repeat(first|apply Kd.R_alloc|apply Kd.R_drewN|apply Kd.R_drew));exact HO288.out) (Kd.R_base ho0) hb);replace HB:=U (below_step z6_0 hb);(try clear hb);(try clear hb2);(try clear hk);(try clear hi);(try clear ho0);obtain ⟨Ao14,co14,eo14⟩:=Kd.R_slice HO291.out;subst eo14)|((with_reducible refine gate_builtin (b:=.append) (xs:=#[.tmp 9,.tmp 11]) rfl ?_);at_builtin;refine Kd.R_append_rows (Kd.int .u8) (w0:=w) w.heap.size rfl (.tmp 9) (.tmp 11) 38 5 (.int .u8 0) 1 rfl Try.underlying38 info5 rfl (by decide) (by omega) v287 t286 t289 _ _ _ (λk_=>some k_≠(.slice Ao10 t283.length co10:Value).ownBlock/\some k_≠(.slice Ao14 t289.length co14:Value).ownBlock) (λ_=>False) rfl rfl ?aO ?aR (λ_ _ h=>h) (λ_ h=>h.elim) ?aF ?aB ?aS ?aL ?_;(case aR=>repeat(first|exact(Kd.R_reads' HO291.out).2.2|(with_reducible refine Kd.C_alloc ?_ _)|(with_reducible refine Kd.C_drewN ?_ _)|(with_reducible refine Kd.C_drew ?_)));(case aB=>exact z6_0);(case aF=>exact(λk_ hk=>⟨Kd.fresh' (Kd.R_lt z7_2) k_ hk,Kd.fresh' (Kd.R_lt z7_4) k_ hk⟩));(case aO=>exact(by(with_reducible repeat(first|apply Kd.R_alloc|apply Kd.R_drewN|apply Kd.R_drew));exact Kd.R_mono HO288.out (λ_ hk=>⟨hk.1.2,hk.2⟩)));(case aS=>exact(below_size z6_0));(case aL=>have:=LMc6.out;omega);intro v293 w13 ho hb hg hat;rw [<-Ny292.out] at ho;replace HO285:=U (Kd.R_after (ok:=(λk_=>some k_≠(.slice Ao14 t289.length co14:Value).ownBlock)) (by(with_reducible repeat(first|apply Kd.R_alloc|apply Kd.R_drewN|apply Kd.R_drew));exact Kd.R_mono HO285.out (λ_ hk=>⟨hk.2,hk.1.2⟩)) hg hat);replace HO291:=U (Kd.R_after (ok:=(λk_=>some k_≠(.slice Ao10 t283.length co10:Value).ownBlock)) (by(with_reducible repeat(first|apply Kd.R_alloc|apply Kd.R_drewN|apply Kd.R_drew));exact Kd.R_mono HO291.out (λ_ hk=>⟨hk.1.2,hk.2⟩)) hg hat);replace HB:=U (hb);have HO294:=U (ho);clear HO288;clear ho hb hg hat)|((with_reducible refine gate_callee (f:=46) rfl ?_);refine goesL_ (some 14) rfl rfl Try.func46 z7_7 rfl #[.int .i64 2,.slice none 0 0] rfl z6_6 ?_;(refine(r02_Record.calls k 2 _ _ ([]:List Int) t295 _ ?side1 ?side2 A7.out).mono ?_);(case side1=>exact Kd.C_nil _ _);(case side2=>exact Nat.le_refl _);rintro e w15 ⟨v296,rfl,ho0,hb⟩;refine ⟨_,rfl,?_⟩;have HO297:=U (Kd.R_lower (Kd.R_new' (Kd.R_new' (Kd.R_new' ho0 (Kd.R_lt z7_2)) (Kd.R_lt z7_4)) (Kd.R_lt (by(with_reducible repeat(first|apply Kd.R_alloc|apply Kd.R_drewN|apply Kd.R_drew));exact HO294.out))) (below_size z6_0));replace HO285:=U (Kd.R_elder' z7_2 (Kd.R_base ho0) hb);replace HO291:=U (Kd.R_elder' z7_4 (Kd.R_base ho0) hb);replace HO294:=U (Kd.R_elder' (by(with_reducible repeat(first|apply Kd.R_alloc|apply Kd.R_drewN|apply Kd.R_drew));exact HO294.out) (Kd.R_base ho0) hb);replace HB:=U (below_step z6_0 hb);(try clear hb);(try clear hb2);(try clear hk);(try clear hi);(try clear ho0);obtain ⟨Ao17,co17,eo17⟩:=Kd.R_slice HO297.out;subst eo17)|((with_reducible refine gate_builtin (b:=.append) (xs:=#[.tmp 13,.tmp 14]) rfl ?_);at_builtin;refine Kd.R_append_rows (Kd.int .u8) (w0:=w) w.heap.size rfl (.tmp 13) (.tmp 14) 38 5 (.int .u8 0) 1 rfl Try.underlying38 info5 rfl (by decide) (by omega) v293 y292 t295 _ _ _ (λk_=>some k_≠(.slice Ao10 t283.length co10:Value).ownBlock/\some k_≠(.slice Ao14 t289.length co14:Value).ownBlock/\some k_≠(.slice Ao17 t295.length co17:Value).ownBlock) (λ_=>False) rfl rfl ?aO ?aR (λ_ _ h=>h) (λ_ h=>h.elim) ?aF ?aB ?aS ?aL ?_;(case aR=>repeat(first|exact(Kd.R_reads' HO297.out).2.2|(with_reducible refine Kd.C_alloc ?_ _)|(with_reducible refine Kd.C_drewN ?_ _)|(with_reducible refine Kd.C_drew ?_)));(case aB=>exact z6_0);(case aF=>exact(λk_ hk=>⟨Kd.fresh' (Kd.R_lt z7_2) k_ hk,Kd.fresh' (Kd.R_lt z7_4) k_ hk,Kd.fresh' (Kd.R_lt (by(with_reducible repeat(first|apply Kd.R_alloc|apply Kd.R_drewN|apply Kd.R_drew));exact HO297.out)) k_ hk⟩));(case aO=>exact(by(with_reducible repeat(first|apply Kd.R_alloc|apply Kd.R_drewN|apply Kd.R_drew));exact Kd.R_mono HO294.out (λ_ hk=>⟨hk.1.1,⟨hk.1.2,hk.2⟩⟩)));(case aS=>exact(below_size z6_0));(case aL=>have:=LMc8.out;omega);intro v299 w16 ho hb hg hat;rw [<-Ny298.out] at ho;replace HO285:=U (Kd.R_after (ok:=(λk_=>some k_≠(.slice Ao14 t289.length co14:Value).ownBlock/\some k_≠(.slice Ao17 t295.length co17:Value).ownBlock)) (by(with_reducible repeat(first|apply Kd.R_alloc|apply Kd.R_drewN|apply Kd.R_drew));exact Kd.R_mono HO285.out (λ_ hk=>⟨⟨hk.1.1,hk.2⟩,hk.1.2⟩)) hg hat);replace HO291:=U (Kd.R_after (ok:=(λk_=>some k_≠(.slice Ao10 t283.length co10:Value).ownBlock/\some k_≠(.slice Ao17 t295.length co17:Value).ownBlock)) (by(with_reducible repeat(first|apply Kd.R_alloc|apply Kd.R_drewN|apply Kd.R_drew));exact Kd.R_mono HO291.out (λ_ hk=>⟨⟨hk.1.1,hk.2⟩,hk.1.2⟩)) hg hat);replace HO297:=U (Kd.R_after (ok:=(λk_=>some k_≠(.slice Ao10 t283.length co10:Value).ownBlock/\some k_≠(.slice Ao14 t289.length co14:Value).ownBlock)) (by(with_reducible repeat(first|apply Kd.R_alloc|apply Kd.R_drewN|apply Kd.R_drew));exact Kd.R_mono HO297.out (λ_ hk=>⟨⟨hk.1.1.2,hk.1.2⟩,hk.2⟩)) hg hat);replace HB:=U (hb);have HO300:=U (ho);clear HO294;clear ho hb hg hat))
 go_ret
 exact ⟨_,(by first|rfl|(simp [errW_none,errW_some]<;>rfl)|(simp [*,errW_none,errW_some]<;>rfl)),(by(with_reducible repeat(first|apply Kd.R_alloc|apply Kd.R_drewN|apply Kd.R_drew));exact Kd.R_mono HO300.out (λ_ hk=>trivial)),z6_0⟩
end Go.Proofs.Ytfhamdobagjakaa.PJo
