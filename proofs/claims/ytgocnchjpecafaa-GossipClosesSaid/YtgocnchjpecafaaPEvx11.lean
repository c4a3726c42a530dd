/- a part -/
import Derived.Test.YtgocnchjpecafaaPEvx9
import Derived.Test.YtgocnchjpecafaaPEvx10
namespace Go.Proofs.Ytgocnchjpecafaa.PEv
open Go.RowKit Go.Proofs.YtgocnchjpecafaaW.PrintWords Go.Proofs.YtgocnchjpecafaaW.PrintLast Go.Proofs.YtgocnchjpecafaaW.PrintMore
attribute [local go_sem] max2_int min2_int max_two min_two max_three min_three max_four min_four
set_option linter.unusedVariables false
set_option linter.unusedSimpArgs false
set_option maxHeartbeats 8000000
set_option maxRecDepth 100000
theorem z11_0 {P:Prop} (h:P:=by simp only [Act.put,List.setIfInBounds_toArray,List.set_cons_zero,List.set_cons_succ,i64_w,i32_w];rfl):P:=h
theorem z11_1 {P:Prop} (h:P:=by repeat(first|(with_reducible first|exact HB.out|apply below_alloc|apply pw_below_drewN|apply below_drew1|refine below_set ?_ GE232.out)|exact HB.out)):P:=h
theorem z11_3 {P:Prop} (h:P:=by(with_reducible repeat(first|refine blk_drewN ?_ _|refine blk_drew ?_|refine blk_alloc ?_ _));exact BK232.out):P:=h
theorem z11_4 {P:Prop} (h:P:=by kernel_rfl):P:=h
theorem z11_5 {P:Prop} (h:P:=by repeat(first|exact(Kd.C_below HR0_2.out HB.out)|(with_reducible refine Kd.C_alloc ?_ _)|(with_reducible refine Kd.C_drewN ?_ _)|(with_reducible refine Kd.C_drew ?_))):P:=h
theorem z11_6 {P:Prop} (h:P:=by show Act.put _ (some 6) _=_;simp only [Act.put,List.setIfInBounds_toArray,List.set_cons_zero,List.set_cons_succ,i64_w,i32_w];rfl):P:=h
theorem z11_7 {P:Prop} (h:P:=by repeat(first|exact(Kd.C_below HR0_2.out z11_1)|(with_reducible refine Kd.C_alloc ?_ _)|(with_reducible refine Kd.C_drewN ?_ _)|(with_reducible refine Kd.C_drew ?_))):P:=h
theorem z11_9 {P:Prop} (h:P:=by show Act.put _ (some 11) _=_;simp only [Act.put,List.setIfInBounds_toArray,List.set_cons_zero,List.set_cons_succ,i64_w,i32_w];rfl):P:=h
theorem z11_12 {P:Prop} (h:P:=by repeat(first|exact(Kd.R_reads' HO237.out).2.2|(with_reducible refine Kd.C_alloc ?_ _)|(with_reducible refine Kd.C_drewN ?_ _)|(with_reducible refine Kd.C_drew ?_))):P:=h
theorem z11_13 {P:Prop} (h:P:=by show Act.put _ (some 17) _=_;simp only [Act.put,List.setIfInBounds_toArray,List.set_cons_zero,List.set_cons_succ,i64_w,i32_w];rfl):P:=h
theorem z11_14 {P:Prop} (h:P:=by show Act.put _ (some 20) _=_;simp only [Act.put,List.setIfInBounds_toArray,List.set_cons_zero,List.set_cons_succ,i64_w,i32_w];rfl):P:=h
mutual
def r05_May.j0:Nat->Bool->Int->Int->List Int->List (S48)->Option (Bool)
 | 0,_,_,_,_,_=>none
 | k+1,x35,x233000,x233001,x233002,x233003=>if x35=true then(some false) else(r05_May.l0 k 0 x233000 x233001 x233002 x233003)
def r05_May.l0:Nat->Int->Int->Int->List Int->List (S48)->Option (Bool)
 | 0,_,_,_,_,_=>none
 | k+1,x3,x233000,x233001,x233002,x233003=>if x3<(x233003.length:Int) then(if 0<=x3 then((r05_MayEffect.f k ((rd_T48 x233003 x3).f0) ((rd_T48 x233003 x3).f1) ((rd_T48 x233003 x3).f2) ((rd_T48 x233003 x3).f3) ((rd_T48 x233003 x3).f4) ((rd_T48 x233003 x3).f5)).bind λt241=>(if t241=true then(r05_May.l0 k (wrap64 (x3+1)) x233000 x233001 x233002 x233003) else(some false))) else(none)) else(if (x233003.length:Int)>=1 then(some (decide ((x233003.length:Int)<=16))) else(some false))
end
def r05_May.f (k:Nat) (a0_0:Int) (a0_1:Int) (l0_2:List Int) (l0_3:List (S48)):Option (Bool):=(r04_May.f a0_0 a0_1).bind λt233=>(if t233=true then((r03_May.f k l0_2).bind λt234=>(if t234=true then((r03_Plain.f k l0_2).bind λt235=>((r03_Same.f k t235 l0_2).bind λt238=>(if t238=true then((r03_Get.f k l0_2 a0_0).bind λt239=>(r05_May.j0 k ((wrap64 (t239+1)) != a0_1) a0_0 a0_1 l0_2 l0_3)) else(r05_May.j0 k true a0_0 a0_1 l0_2 l0_3)))) else(r05_May.j0 k true a0_0 a0_1 l0_2 l0_3))) else(r05_May.j0 k true a0_0 a0_1 l0_2 l0_3))
def r05_May.T1:Bool×List (List Nat×List Nat):=(true,[([],[]),([0],[0]),([1],[1]),([2],[2]),([3,2],[3]),([4],[4]),([5,4],[4,5]),([6,4,4],[4,6]),([7,4],[4,7]),([4,8],[4,8]),([9,7],[9]),([10],[10]),([11,10],[10,11]),([12,10,10],[10,12]),([10],[10]),([14,10],[10,14]),([13,15,13,10],[10,13,15]),([16,10],[10,16]),([10,17],[10,17]),([18,16],[18]),([19],[19]),([20,19],[19,20]),([19],[19]),([22,19],[19,22]),([23,19],[19,23]),([21,24,19,19],[19,21,24]),([25,19],[19,25]),([19],[19]),([27,19],[19,27]),([28,19],[19,28]),([26,29,19],[19,26,29]),([19,30],[19,30])])
def r05_May.B1:List Nat:=[0,1,3,7,15,31,63,127,255,511,1023,2047,4095,8191,2047,18431,65535,131071,262143,524287,1048575,2097151,1048575,5242879,13631487,33554431,67108863,1048575,135266303,403701759,1073741823,2147483647]
theorem r05_May.tab1:rtab .any (opsOf Try.f17 1)=r05_May.T1:=by kernel_rfl
theorem r05_May.bits1:waitsOk r05_May.T1.2 r05_May.B1=true:=by kernel_rfl
theorem r05_May.calls (k:Nat) (a0_0:Int) (a0_1:Int) (A0_2:Option Addr) (c0_2:Nat) (l0_2:List Int) (A0_3:Option Addr) (c0_3:Nat) (l0_3:List (S48)) (r:Bool) (w:World) (hr0_2:Kd.C (Kd.int .i64) w A0_2 l0_2.length l0_2) (hc0_2:l0_2.length<=c0_2) (hr0_3:Kd.C k48 w A0_3 l0_3.length l0_3) (hc0_3:l0_3.length<=c0_3) (h:r05_May.f k a0_0 a0_1 l0_2 l0_3=some r) :
  Calls Try.prog 17 #[.agg #[.int .i64 a0_0,.int .i64 a0_1,.slice A0_2 l0_2.length c0_2,.slice A0_3 l0_3.length c0_3]] w λe w'=>e = .returned (.bool r)/\Below w.heap.size w w':=by
 have hu30:=Try.underlying30
 have hu25:=Try.underlying25
 have hu48:=Try.underlying48
 have HR0_2:=Aside0.mk hr0_2
 have HC0_2:=Aside0.mk hc0_2
 clear hr0_2 hc0_2
 have HR0_3:=Aside0.mk hr0_3
 have HC0_3:=Aside0.mk hc0_3
 clear hr0_3 hc0_3
 have HB:=U (Below.refl w.heap.size w)
 have H:((r04_May.f a0_0 a0_1).bind λt233=>(if t233=true then((r03_May.f k l0_2).bind λt234=>(if t234=true then((r03_Plain.f k l0_2).bind λt235=>((r03_Same.f k t235 l0_2).bind λt238=>(if t238=true then((r03_Get.f k l0_2 a0_0).bind λt239=>(r05_May.j0 k ((wrap64 (t239+1)) != a0_1) a0_0 a0_1 l0_2 l0_3)) else(r05_May.j0 k true a0_0 a0_1 l0_2 l0_3)))) else(r05_May.j0 k true a0_0 a0_1 l0_2 l0_3))) else(r05_May.j0 k true a0_0 a0_1 l0_2 l0_3)))=some r:=h
 clear h
 have HC2:=Aside0.mk H
 clear H
 go_enter Try.func17,Try.ntmps17
 go_upto_region 1 with (first|((with_reducible refine gate_dst (N:=1) rfl ?_);(try(refine gate_guard (by rfl) ?_;dsimp only));refine box_event ?hg (N:=1) ?hd (cs:=#[.int .i64 a0_0,.int .i64 a0_1,.slice A0_2 l0_2.length c0_2,.slice A0_3 l0_3.length c0_3]) (t:=30) ?hr ?_;(case hd=>rfl);(case hg=>rfl);(case hr=>first|(go_simp;done)|(go_simp;rfl));intro gb232 hg w3 hbox hb;have BK232:=U (hbox);have GW232:=U ((by rw [hg];exact(below_size z9_4):w.heap.size<=gb232));have GE232:=U ((by rw [hg];exact(below_size z9_4):w.heap.size<=gb232));replace HB:=U (below_step z9_4 hb);clear hb hbox hg))
 (try simp only [Act.put,List.setIfInBounds_toArray,List.set_cons_zero,List.set_cons_succ])
 go_cut [35] (λv35 wc=>∃ (kq:Nat) (x35_1:Bool),v35 = .bool x35_1/\Aside0 (r05_May.j0 kq x35_1 a0_0 a0_1 l0_2 l0_3=some r)/\Aside0 (kq<=k)/\Aside0 (wc.heap[gb232]? = some (.cells #[.int .i64 a0_0,.int .i64 a0_1,(.slice A0_2 l0_2.length c0_2),(.slice A0_3 l0_3.length c0_3)] 30 (0,0)))/\Aside0 (Below w.heap.size w wc))
 case first =>
  have H:=HC2.out
  clear HC2
  replace H:=oB_ H
  obtain ⟨t233,A40,H⟩:=H
  replace H:(if t233=true then((r03_May.f k l0_2).bind λt234=>(if t234=true then((r03_Plain.f k l0_2).bind λt235=>((r03_Same.f k t235 l0_2).bind λt238=>(if t238=true then((r03_Get.f k l0_2 a0_0).bind λt239=>(r05_May.j0 k ((wrap64 (t239+1)) != a0_1) a0_0 a0_1 l0_2 l0_3)) else(r05_May.j0 k true a0_0 a0_1 l0_2 l0_3)))) else(r05_May.j0 k true a0_0 a0_1 l0_2 l0_3))) else(r05_May.j0 k true a0_0 a0_1 l0_2 l0_3))=some r:=H
  have A4:=Aside0.mk A40
  clear A40
  by_cases c5:t233=true
  rotate_left
  ·replace c5:=Bool.eq_false_iff.mpr c5
   subst c5
   have H1:(r05_May.j0 k true a0_0 a0_1 l0_2 l0_3)=some r:=by rw [if_neg (show ¬ (false=true) by decide)] at H;exact H
   clear H
   have H:=H1
   clear H1
   have H':=Aside0.mk H
   clear H
   try go_wp2
   have n0_:=U (blk_drew BK232.out)
   have n1_:=U (below_drew1 HB.out)
   clear BK232
   clear HB
   have BK232:=n0_
   have HB:=n1_
   clear n0_ n1_
   refine start_ (n:=32) (S:=λw'=>w'.cell? ⟨gb232,0,none⟩=some (.int .i64 a0_0)/\w'.cell? ⟨gb232,1,none⟩=some (.int .i64 a0_1)/\w'.cell? ⟨gb232,2,none⟩=some (.slice A0_2 l0_2.length c0_2)/\w'.cell? ⟨gb232,3,none⟩=some (.slice A0_3 l0_3.length c0_3)) (ds:=[]) #[J,J,J,J,J,J,J,J,J,J,J,J,J,J,J,J,J,J,J,J,J,J,J,J,J,J,J,J,J,J,J,J] z11_4 rfl rfl ⟨(blk_cell BK232.out 0).trans rfl,(blk_cell BK232.out 1).trans rfl,(blk_cell BK232.out 2).trans rfl,(blk_cell BK232.out 3).trans rfl⟩ (λhHeld=>?_);refine with_tabW r05_May.tab1 r05_May.bits1 (λHT_ HW_=>?_)
   generalize w3.drew=w22 at BK232 HB hHeld ⊢
   refine pure_ (i:=0) (N:=some 4) (v:=?_) (a':=?_) #[Y,J,J,J,J,J,J,J,J,J,J,J,J,J,J,J,J,J,J,J,J,J,J,J,J,J,J,J,J,J,J,J] rfl rfl (any_of HT_.out z11_4) (λ_ _ _ h=>h) (Or.inl ⟨(by rfl),?_⟩) ?_ ?_
   rotate_left
   ·intro w'
    go_simp
    with_reducible rfl
   rotate_left
   ·exact z11_0
   refine take_ (i:=1) (N:=some 5) (v:=?_) (a':=?_) #[Y,Y,J,J,J,J,J,J,J,J,J,J,J,J,J,J,J,J,J,J,J,J,J,J,J,J,J,J,J,J,J,J] rfl rfl (take_ofW HT_.out HW_.out z11_4) (λ_ _ _ h=>h) (Or.inl ⟨(by rfl),?_⟩) hHeld ?_ ?_
   rotate_left
   ·rintro w' ⟨s0,s1,s2,s3⟩
    go_simp
    with_reducible rfl
   rotate_left
   ·exact z11_0
   refine one_ (i:=2) (N:=some 6) #[Y,Y,Y,J,J,J,J,J,J,J,J,J,J,J,J,J,J,J,J,J,J,J,J,J,J,J,J,J,J,J,J,J] rfl rfl (one_of HT_.out z11_4) (by decide) (λK hK=>?_)
   refine goes_ Try.func57 z11_4 rfl #[.agg #[.int .i64 a0_0,.int .i64 a0_1]] (by rfl) rfl rfl z10_2 ?_
   with_reducible refine(r04_May.calls a0_0 a0_1 false _ A4.out).mono ?_
   rintro e w23 ⟨rfl,hb⟩
   refine ⟨_,rfl,?_⟩
   have n0_:=U (blk_below (g:=gb232) (o:=.cells #[.int .i64 a0_0,.int .i64 a0_1,.slice A0_2 l0_2.length c0_2,.slice A0_3 l0_3.length c0_3] 30 (0,0)) z11_3 hb)
   have n1_:=U (below_step z11_1 hb)
   clear BK232
   clear HB
   have BK232:=n0_
   have HB:=n1_
   clear n0_ n1_
   (try clear hb)
   (try clear hb2)
   (try clear hk)
   (try clear hi)
   refine hK.out _ _ ⟨(blk_cell BK232.out 0).trans rfl,(blk_cell BK232.out 1).trans rfl,(blk_cell BK232.out 2).trans rfl,(blk_cell BK232.out 3).trans rfl⟩ (λhHeld=>?_)
   clear hK K
   refine norm_ (a':=?_) ?_ ?_
   rotate_left
   ·exact z11_6
   refine pure_ (i:=3) (N:=some 7) (v:=?_) (a':=?_) #[Y,Y,Y,Y,J,J,J,J,J,J,J,J,J,J,J,J,J,J,J,J,J,J,J,J,J,J,J,J,J,J,J,J] rfl rfl (any_of HT_.out z11_4) (λ_ _ _ h=>h) (Or.inl ⟨(by rfl),?_⟩) ?_ ?_
   rotate_left
   ·intro w'
    go_simp
    with_reducible rfl
   rotate_left
   ·exact z11_0
   refine pure_ (i:=4) (N:=some 8) (v:=?_) (a':=?_) #[Y,Y,Y,Y,Y,J,J,J,J,J,J,J,J,J,J,J,J,J,J,J,J,J,J,J,J,J,J,J,J,J,J,J] rfl rfl (any_of HT_.out z11_4) (λ_ _ _ h=>h) (Or.inl ⟨(by rfl),?_⟩) ?_ ?_
   rotate_left
   ·intro w'
    go_simp
    with_reducible rfl
   rotate_left
   ·exact z11_0
   refine pure_ (i:=5) (N:=some 9) (v:=undef) (a':=?_) #[Y,Y,Y,Y,Y,Y,J,J,J,J,J,J,J,J,J,J,J,J,J,J,J,J,J,J,J,J,J,J,J,J,J,J] rfl rfl (any_of HT_.out z11_4) (λ_ _ _ h=>h) (Or.inr ⟨(by rfl),rfl⟩) ?_ ?_
   rotate_left
   ·exact z11_0
   refine pure_ (i:=6) (N:=some 10) (v:=undef) (a':=?_) #[Y,Y,Y,Y,Y,Y,Y,J,J,J,J,J,J,J,J,J,J,J,J,J,J,J,J,J,J,J,J,J,J,J,J,J] rfl rfl (any_of HT_.out z11_4) (λ_ _ _ h=>h) (Or.inr ⟨(by rfl),rfl⟩) ?_ ?_
   rotate_left
   ·exact z11_0
   refine pure_ (i:=7) (N:=some 11) (v:=undef) (a':=?_) #[Y,Y,Y,Y,Y,Y,Y,Y,J,J,J,J,J,J,J,J,J,J,J,J,J,J,J,J,J,J,J,J,J,J,J,J] rfl rfl (any_of HT_.out z11_4) (λ_ _ _ h=>h) (Or.inr ⟨(by rfl),rfl⟩) ?_ ?_
   rotate_left
   ·exact z11_0
   refine pure_ (i:=8) (N:=some 12) (v:=undef) (a':=?_) #[Y,Y,Y,Y,Y,Y,Y,Y,Y,J,J,J,J,J,J,J,J,J,J,J,J,J,J,J,J,J,J,J,J,J,J,J] rfl rfl (any_of HT_.out z11_4) (λ_ _ _ h=>h) (Or.inr ⟨(by rfl),rfl⟩) ?_ ?_
   rotate_left
   ·exact z11_0
   refine pure_ (i:=9) (N:=some 13) (v:=?_) (a':=?_) #[Y,Y,Y,Y,Y,Y,Y,Y,Y,Y,J,J,J,J,J,J,J,J,J,J,J,J,J,J,J,J,J,J,J,J,J,J] rfl rfl (any_of HT_.out z11_4) (λ_ _ _ h=>h) (Or.inl ⟨(by rfl),?_⟩) ?_ ?_
   rotate_left
   ·intro w'
    go_simp
    with_reducible rfl
   rotate_left
   ·exact z11_0
   refine pure_ (i:=10) (N:=some 14) (v:=?_) (a':=?_) #[Y,Y,Y,Y,Y,Y,Y,Y,Y,Y,Y,J,J,J,J,J,J,J,J,J,J,J,J,J,J,J,J,J,J,J,J,J] rfl rfl (any_of HT_.out z11_4) (λ_ _ _ h=>h) (Or.inl ⟨(by rfl),?_⟩) ?_ ?_
   rotate_left
   ·intro w'
    go_simp
    with_reducible rfl
   rotate_left
   ·exact z11_0
   refine pure_ (i:=11) (N:=some 15) (v:=undef) (a':=?_) #[Y,Y,Y,Y,Y,Y,Y,Y,Y,Y,Y,Y,J,J,J,J,J,J,J,J,J,J,J,J,J,J,J,J,J,J,J,J] rfl rfl (any_of HT_.out z11_4) (λ_ _ _ h=>h) (Or.inr ⟨(by rfl),rfl⟩) ?_ ?_
   rotate_left
   ·exact z11_0
   refine pure_ (i:=12) (N:=some 16) (v:=undef) (a':=?_) #[Y,Y,Y,Y,Y,Y,Y,Y,Y,Y,Y,Y,Y,J,J,J,J,J,J,J,J,J,J,J,J,J,J,J,J,J,J,J] rfl rfl (any_of HT_.out z11_4) (λ_ _ _ h=>h) (Or.inr ⟨(by rfl),rfl⟩) ?_ ?_
   rotate_left
   ·exact z11_0
   refine pure_ (i:=13) (N:=some 17) (v:=undef) (a':=?_) #[Y,Y,Y,Y,Y,Y,Y,Y,Y,Y,Y,Y,Y,Y,J,J,J,J,J,J,J,J,J,J,J,J,J,J,J,J,J,J] rfl rfl (any_of HT_.out z11_4) (λ_ _ _ h=>h) (Or.inr ⟨(by rfl),rfl⟩) ?_ ?_
   rotate_left
   ·exact z11_0
   refine pure_ (i:=14) (N:=some 18) (v:=undef) (a':=?_) #[Y,Y,Y,Y,Y,Y,Y,Y,Y,Y,Y,Y,Y,Y,Y,J,J,J,J,J,J,J,J,J,J,J,J,J,J,J,J,J] rfl rfl (any_of HT_.out z11_4) (λ_ _ _ h=>h) (Or.inr ⟨(by rfl),rfl⟩) ?_ ?_
   rotate_left
   ·exact z11_0
   refine pure_ (i:=15) (N:=some 19) (v:=undef) (a':=?_) #[Y,Y,Y,Y,Y,Y,Y,Y,Y,Y,Y,Y,Y,Y,Y,Y,J,J,J,J,J,J,J,J,J,J,J,J,J,J,J,J] rfl rfl (any_of HT_.out z11_4) (λ_ _ _ h=>h) (Or.inr ⟨(by rfl),rfl⟩) ?_ ?_
   rotate_left
   ·exact z11_0
   refine pure_ (i:=16) (N:=some 20) (v:=undef) (a':=?_) #[Y,Y,Y,Y,Y,Y,Y,Y,Y,Y,Y,Y,Y,Y,Y,Y,Y,J,J,J,J,J,J,J,J,J,J,J,J,J,J,J] rfl rfl (any_of HT_.out z11_4) (λ_ _ _ h=>h) (Or.inr ⟨(by rfl),rfl⟩) ?_ ?_
   rotate_left
   ·exact z11_0
   refine pure_ (i:=17) (N:=some 21) (v:=undef) (a':=?_) #[Y,Y,Y,Y,Y,Y,Y,Y,Y,Y,Y,Y,Y,Y,Y,Y,Y,Y,J,J,J,J,J,J,J,J,J,J,J,J,J,J] rfl rfl (any_of HT_.out z11_4) (λ_ _ _ h=>h) (Or.inr ⟨(by rfl),rfl⟩) ?_ ?_
   rotate_left
   ·exact z11_0
   refine pure_ (i:=18) (N:=some 22) (v:=?_) (a':=?_) #[Y,Y,Y,Y,Y,Y,Y,Y,Y,Y,Y,Y,Y,Y,Y,Y,Y,Y,Y,J,J,J,J,J,J,J,J,J,J,J,J,J] rfl rfl (any_of HT_.out z11_4) (λ_ _ _ h=>h) (Or.inl ⟨(by rfl),?_⟩) ?_ ?_
   rotate_left
   ·intro w'
    go_simp
    with_reducible rfl
   rotate_left
   ·exact z11_0
   refine pure_ (i:=19) (N:=some 23) (v:=?_) (a':=?_) #[Y,Y,Y,Y,Y,Y,Y,Y,Y,Y,Y,Y,Y,Y,Y,Y,Y,Y,Y,Y,J,J,J,J,J,J,J,J,J,J,J,J] rfl rfl (any_of HT_.out z11_4) (λ_ _ _ h=>h) (Or.inl ⟨(by rfl),?_⟩) ?_ ?_
   rotate_left
   ·intro w'
    go_simp
    with_reducible rfl
   rotate_left
   ·exact z11_0
   refine pure_ (i:=20) (N:=some 24) (v:=undef) (a':=?_) #[Y,Y,Y,Y,Y,Y,Y,Y,Y,Y,Y,Y,Y,Y,Y,Y,Y,Y,Y,Y,Y,J,J,J,J,J,J,J,J,J,J,J] rfl rfl (any_of HT_.out z11_4) (λ_ _ _ h=>h) (Or.inr ⟨(by rfl),rfl⟩) ?_ ?_
   rotate_left
   ·exact z11_0
   refine pure_ (i:=21) (N:=some 25) (v:=undef) (a':=?_) #[Y,Y,Y,Y,Y,Y,Y,Y,Y,Y,Y,Y,Y,Y,Y,Y,Y,Y,Y,Y,Y,Y,J,J,J,J,J,J,J,J,J,J] rfl rfl (any_of HT_.out z11_4) (λ_ _ _ h=>h) (Or.inr ⟨(by rfl),rfl⟩) ?_ ?_
   rotate_left
   ·exact z11_0
   refine pure_ (i:=22) (N:=some 26) (v:=undef) (a':=?_) #[Y,Y,Y,Y,Y,Y,Y,Y,Y,Y,Y,Y,Y,Y,Y,Y,Y,Y,Y,Y,Y,Y,Y,J,J,J,J,J,J,J,J,J] rfl rfl (any_of HT_.out z11_4) (λ_ _ _ h=>h) (Or.inr ⟨(by rfl),rfl⟩) ?_ ?_
   rotate_left
   ·exact z11_0
   refine pure_ (i:=23) (N:=some 27) (v:=undef) (a':=?_) #[Y,Y,Y,Y,Y,Y,Y,Y,Y,Y,Y,Y,Y,Y,Y,Y,Y,Y,Y,Y,Y,Y,Y,Y,J,J,J,J,J,J,J,J] rfl rfl (any_of HT_.out z11_4) (λ_ _ _ h=>h) (Or.inr ⟨(by rfl),rfl⟩) ?_ ?_
   rotate_left
   ·exact z11_0
   refine pure_ (i:=24) (N:=some 28) (v:=undef) (a':=?_) #[Y,Y,Y,Y,Y,Y,Y,Y,Y,Y,Y,Y,Y,Y,Y,Y,Y,Y,Y,Y,Y,Y,Y,Y,Y,J,J,J,J,J,J,J] rfl rfl (any_of HT_.out z11_4) (λ_ _ _ h=>h) (Or.inr ⟨(by rfl),rfl⟩) ?_ ?_
   rotate_left
   ·exact z11_0
   refine pure_ (i:=25) (N:=some 29) (v:=undef) (a':=?_) #[Y,Y,Y,Y,Y,Y,Y,Y,Y,Y,Y,Y,Y,Y,Y,Y,Y,Y,Y,Y,Y,Y,Y,Y,Y,Y,J,J,J,J,J,J] rfl rfl (any_of HT_.out z11_4) (λ_ _ _ h=>h) (Or.inr ⟨(by rfl),rfl⟩) ?_ ?_
   rotate_left
   ·exact z11_0
   refine pure_ (i:=26) (N:=some 30) (v:=undef) (a':=?_) #[Y,Y,Y,Y,Y,Y,Y,Y,Y,Y,Y,Y,Y,Y,Y,Y,Y,Y,Y,Y,Y,Y,Y,Y,Y,Y,Y,J,J,J,J,J] rfl rfl (any_of HT_.out z11_4) (λ_ _ _ h=>h) (Or.inr ⟨(by rfl),rfl⟩) ?_ ?_
   rotate_left
   ·exact z11_0
   refine pure_ (i:=27) (N:=some 31) (v:=undef) (a':=?_) #[Y,Y,Y,Y,Y,Y,Y,Y,Y,Y,Y,Y,Y,Y,Y,Y,Y,Y,Y,Y,Y,Y,Y,Y,Y,Y,Y,Y,J,J,J,J] rfl rfl (any_of HT_.out z11_4) (λ_ _ _ h=>h) (Or.inr ⟨(by rfl),rfl⟩) ?_ ?_
   rotate_left
   ·exact z11_0
   refine pure_ (i:=28) (N:=some 32) (v:=undef) (a':=?_) #[Y,Y,Y,Y,Y,Y,Y,Y,Y,Y,Y,Y,Y,Y,Y,Y,Y,Y,Y,Y,Y,Y,Y,Y,Y,Y,Y,Y,Y,J,J,J] rfl rfl (any_of HT_.out z11_4) (λ_ _ _ h=>h) (Or.inr ⟨(by rfl),rfl⟩) ?_ ?_
   rotate_left
   ·exact z11_0
   refine pure_ (i:=29) (N:=some 33) (v:=undef) (a':=?_) #[Y,Y,Y,Y,Y,Y,Y,Y,Y,Y,Y,Y,Y,Y,Y,Y,Y,Y,Y,Y,Y,Y,Y,Y,Y,Y,Y,Y,Y,Y,J,J] rfl rfl (any_of HT_.out z11_4) (λ_ _ _ h=>h) (Or.inr ⟨(by rfl),rfl⟩) ?_ ?_
   rotate_left
   ·exact z11_0
   refine pure_ (i:=30) (N:=some 34) (v:=undef) (a':=?_) #[Y,Y,Y,Y,Y,Y,Y,Y,Y,Y,Y,Y,Y,Y,Y,Y,Y,Y,Y,Y,Y,Y,Y,Y,Y,Y,Y,Y,Y,Y,Y,J] rfl rfl (any_of HT_.out z11_4) (λ_ _ _ h=>h) (Or.inr ⟨(by rfl),rfl⟩) ?_ ?_
   rotate_left
   ·exact z11_0
   refine pure_ (i:=31) (N:=some 35) (v:=?_) (a':=?_) #[Y,Y,Y,Y,Y,Y,Y,Y,Y,Y,Y,Y,Y,Y,Y,Y,Y,Y,Y,Y,Y,Y,Y,Y,Y,Y,Y,Y,Y,Y,Y,Y] rfl rfl (any_of HT_.out z11_4) (λ_ _ _ h=>h) (Or.inl ⟨(by rfl),?_⟩) ?_ ?_
   rotate_left
   ·intro w'
    go_simp
    with_reducible rfl
   rotate_left
   ·exact z11_0
   refine done_ (done_of HT_.out z11_4) ?_
   try go_wp2
   go_meet
   case rel=>exact ⟨_,(true),z9_3,H',⟨(by first|omega|exact Nat.le_refl _)⟩,⟨z11_3⟩,⟨z11_1⟩⟩
  subst c5
  have H1:((r03_May.f k l0_2).bind λt234=>(if t234=true then((r03_Plain.f k l0_2).bind λt235=>((r03_Same.f k t235 l0_2).bind λt238=>(if t238=true then((r03_Get.f k l0_2 a0_0).bind λt239=>(r05_May.j0 k ((wrap64 (t239+1)) != a0_1) a0_0 a0_1 l0_2 l0_3)) else(r05_May.j0 k true a0_0 a0_1 l0_2 l0_3)))) else(r05_May.j0 k true a0_0 a0_1 l0_2 l0_3)))=some r:=by rw [if_pos rfl] at H;exact H
  clear H
  have H:=H1
  clear H1
  replace H:=oB_ H
  obtain ⟨t234,A60,H⟩:=H
  replace H:(if t234=true then((r03_Plain.f k l0_2).bind λt235=>((r03_Same.f k t235 l0_2).bind λt238=>(if t238=true then((r03_Get.f k l0_2 a0_0).bind λt239=>(r05_May.j0 k ((wrap64 (t239+1)) != a0_1) a0_0 a0_1 l0_2 l0_3)) else(r05_May.j0 k true a0_0 a0_1 l0_2 l0_3)))) else(r05_May.j0 k true a0_0 a0_1 l0_2 l0_3))=some r:=H
  have A6:=Aside0.mk A60
  clear A60
  by_cases c7:t234=true
  rotate_left
  ·replace c7:=Bool.eq_false_iff.mpr c7
   subst c7
   have H1:(r05_May.j0 k true a0_0 a0_1 l0_2 l0_3)=some r:=by rw [if_neg (show ¬ (false=true) by decide)] at H;exact H
   clear H
   have H:=H1
   clear H1
   have H':=Aside0.mk H
   clear H
   try go_wp2
   have n0_:=U (blk_drew BK232.out)
   have n1_:=U (below_drew1 HB.out)
   clear BK232
   clear HB
   have BK232:=n0_
   have HB:=n1_
   clear n0_ n1_
   refine start_ (n:=32) (S:=λw'=>w'.cell? ⟨gb232,0,none⟩=some (.int .i64 a0_0)/\w'.cell? ⟨gb232,1,none⟩=some (.int .i64 a0_1)/\w'.cell? ⟨gb232,2,none⟩=some (.slice A0_2 l0_2.length c0_2)/\w'.cell? ⟨gb232,3,none⟩=some (.slice A0_3 l0_3.length c0_3)) (ds:=[]) #[J,J,J,J,J,J,J,J,J,J,J,J,J,J,J,J,J,J,J,J,J,J,J,J,J,J,J,J,J,J,J,J] z11_4 rfl rfl ⟨(blk_cell BK232.out 0).trans rfl,(blk_cell BK232.out 1).trans rfl,(blk_cell BK232.out 2).trans rfl,(blk_cell BK232.out 3).trans rfl⟩ (λhHeld=>?_);refine with_tabW r05_May.tab1 r05_May.bits1 (λHT_ HW_=>?_)
   generalize w3.drew=w20 at BK232 HB hHeld ⊢
   refine pure_ (i:=0) (N:=some 4) (v:=?_) (a':=?_) #[Y,J,J,J,J,J,J,J,J,J,J,J,J,J,J,J,J,J,J,J,J,J,J,J,J,J,J,J,J,J,J,J] rfl rfl (any_of HT_.out z11_4) (λ_ _ _ h=>h) (Or.inl ⟨(by rfl),?_⟩) ?_ ?_
   rotate_left
   ·intro w'
    go_simp
    with_reducible rfl
   rotate_left
   ·exact z11_0
   refine take_ (i:=1) (N:=some 5) (v:=?_) (a':=?_) #[Y,Y,J,J,J,J,J,J,J,J,J,J,J,J,J,J,J,J,J,J,J,J,J,J,J,J,J,J,J,J,J,J] rfl rfl (take_ofW HT_.out HW_.out z11_4) (λ_ _ _ h=>h) (Or.inl ⟨(by rfl),?_⟩) hHeld ?_ ?_
   rotate_left
   ·rintro w' ⟨s0,s1,s2,s3⟩
    go_simp
    with_reducible rfl
   rotate_left
   ·exact z11_0
   refine one_ (i:=2) (N:=some 6) #[Y,Y,Y,J,J,J,J,J,J,J,J,J,J,J,J,J,J,J,J,J,J,J,J,J,J,J,J,J,J,J,J,J] rfl rfl (one_of HT_.out z11_4) (by decide) (λK hK=>?_)
   refine goes_ Try.func57 z11_4 rfl #[.agg #[.int .i64 a0_0,.int .i64 a0_1]] (by rfl) rfl rfl z10_2 ?_
   with_reducible refine(r04_May.calls a0_0 a0_1 true _ A4.out).mono ?_
   rintro e w21 ⟨rfl,hb⟩
   refine ⟨_,rfl,?_⟩
   have n0_:=U (blk_below (g:=gb232) (o:=.cells #[.int .i64 a0_0,.int .i64 a0_1,.slice A0_2 l0_2.length c0_2,.slice A0_3 l0_3.length c0_3] 30 (0,0)) z11_3 hb)
   have n1_:=U (below_step z11_1 hb)
   clear BK232
   clear HB
   have BK232:=n0_
   have HB:=n1_
   clear n0_ n1_
   (try clear hb)
   (try clear hb2)
   (try clear hk)
   (try clear hi)
   refine hK.out _ _ ⟨(blk_cell BK232.out 0).trans rfl,(blk_cell BK232.out 1).trans rfl,(blk_cell BK232.out 2).trans rfl,(blk_cell BK232.out 3).trans rfl⟩ (λhHeld=>?_)
   clear hK K
   refine norm_ (a':=?_) ?_ ?_
   rotate_left
   ·exact z11_6
   refine pure_ (i:=3) (N:=some 7) (v:=?_) (a':=?_) #[Y,Y,Y,Y,J,J,J,J,J,J,J,J,J,J,J,J,J,J,J,J,J,J,J,J,J,J,J,J,J,J,J,J] rfl rfl (any_of HT_.out z11_4) (λ_ _ _ h=>h) (Or.inl ⟨(by rfl),?_⟩) ?_ ?_
   rotate_left
   ·intro w'
    go_simp
    with_reducible rfl
   rotate_left
   ·exact z11_0
   refine pure_ (i:=4) (N:=some 8) (v:=?_) (a':=?_) #[Y,Y,Y,Y,Y,J,J,J,J,J,J,J,J,J,J,J,J,J,J,J,J,J,J,J,J,J,J,J,J,J,J,J] rfl rfl (any_of HT_.out z11_4) (λ_ _ _ h=>h) (Or.inl ⟨(by rfl),?_⟩) ?_ ?_
   rotate_left
   ·intro w'
    go_simp
    with_reducible rfl
   rotate_left
   ·exact z11_0
   refine pure_ (i:=5) (N:=some 9) (v:=?_) (a':=?_) #[Y,Y,Y,Y,Y,Y,J,J,J,J,J,J,J,J,J,J,J,J,J,J,J,J,J,J,J,J,J,J,J,J,J,J] rfl rfl (any_of HT_.out z11_4) (λ_ _ _ h=>h) (Or.inl ⟨(by rfl),?_⟩) ?_ ?_
   rotate_left
   ·intro w'
    go_simp
    with_reducible rfl
   rotate_left
   ·exact z11_0
   refine take_ (i:=6) (N:=some 10) (v:=?_) (a':=?_) #[Y,Y,Y,Y,Y,Y,Y,J,J,J,J,J,J,J,J,J,J,J,J,J,J,J,J,J,J,J,J,J,J,J,J,J] rfl rfl (take_ofW HT_.out HW_.out z11_4) (λ_ _ _ h=>h) (Or.inl ⟨(by rfl),?_⟩) hHeld ?_ ?_
   rotate_left
   ·rintro w' ⟨s0,s1,s2,s3⟩
    go_simp
    with_reducible rfl
   rotate_left
   ·exact z11_0
   refine one_ (i:=7) (N:=some 11) #[Y,Y,Y,Y,Y,Y,Y,Y,J,J,J,J,J,J,J,J,J,J,J,J,J,J,J,J,J,J,J,J,J,J,J,J] rfl rfl (one_of HT_.out z11_4) (by decide) (λK hK=>?_)
   refine goes_ Try.func43 z11_4 rfl #[.slice A0_2 l0_2.length c0_2] (by rfl) rfl rfl z10_2 ?_
   with_reducible refine(r03_May.calls k _ _ l0_2 false _ ?side1 ?side2 A6.out).mono ?_
   (case side1=>exact z11_5)
   (case side2=>exact HC0_2.out)
   rintro e w' ⟨rfl,⟨nd,rfl⟩⟩
   refine ⟨_,rfl,?_⟩
   refine hK.out _ _ ⟨(blk_cell BK232.out 0).trans rfl,(blk_cell BK232.out 1).trans rfl,(blk_cell BK232.out 2).trans rfl,(blk_cell BK232.out 3).trans rfl⟩ (λhHeld=>?_)
   clear hK K
   refine norm_ (a':=?_) ?_ ?_
   rotate_left
   ·exact z11_9
   refine pure_ (i:=8) (N:=some 12) (v:=?_) (a':=?_) #[Y,Y,Y,Y,Y,Y,Y,Y,Y,J,J,J,J,J,J,J,J,J,J,J,J,J,J,J,J,J,J,J,J,J,J,J] rfl rfl (any_of HT_.out z11_4) (λ_ _ _ h=>h) (Or.inl ⟨(by rfl),?_⟩) ?_ ?_
   rotate_left
   ·intro w'
    go_simp
    with_reducible rfl
   rotate_left
   ·exact z11_0
   refine pure_ (i:=9) (N:=some 13) (v:=?_) (a':=?_) #[Y,Y,Y,Y,Y,Y,Y,Y,Y,Y,J,J,J,J,J,J,J,J,J,J,J,J,J,J,J,J,J,J,J,J,J,J] rfl rfl (any_of HT_.out z11_4) (λ_ _ _ h=>h) (Or.inl ⟨(by rfl),?_⟩) ?_ ?_
   rotate_left
   ·intro w'
    go_simp
    with_reducible rfl
   rotate_left
   ·exact z11_0
   refine pure_ (i:=10) (N:=some 14) (v:=?_) (a':=?_) #[Y,Y,Y,Y,Y,Y,Y,Y,Y,Y,Y,J,J,J,J,J,J,J,J,J,J,J,J,J,J,J,J,J,J,J,J,J] rfl rfl (any_of HT_.out z11_4) (λ_ _ _ h=>h) (Or.inl ⟨(by rfl),?_⟩) ?_ ?_
   rotate_left
   ·intro w'
    go_simp
    with_reducible rfl
   rotate_left
   ·exact z11_0
   refine pure_ (i:=11) (N:=some 15) (v:=undef) (a':=?_) #[Y,Y,Y,Y,Y,Y,Y,Y,Y,Y,Y,Y,J,J,J,J,J,J,J,J,J,J,J,J,J,J,J,J,J,J,J,J] rfl rfl (any_of HT_.out z11_4) (λ_ _ _ h=>h) (Or.inr ⟨(by rfl),rfl⟩) ?_ ?_
   rotate_left
   ·exact z11_0
   refine pure_ (i:=12) (N:=some 16) (v:=undef) (a':=?_) #[Y,Y,Y,Y,Y,Y,Y,Y,Y,Y,Y,Y,Y,J,J,J,J,J,J,J,J,J,J,J,J,J,J,J,J,J,J,J] rfl rfl (any_of HT_.out z11_4) (λ_ _ _ h=>h) (Or.inr ⟨(by rfl),rfl⟩) ?_ ?_
   rotate_left
   ·exact z11_0
   refine pure_ (i:=13) (N:=some 17) (v:=undef) (a':=?_) #[Y,Y,Y,Y,Y,Y,Y,Y,Y,Y,Y,Y,Y,Y,J,J,J,J,J,J,J,J,J,J,J,J,J,J,J,J,J,J] rfl rfl (any_of HT_.out z11_4) (λ_ _ _ h=>h) (Or.inr ⟨(by rfl),rfl⟩) ?_ ?_
   rotate_left
   ·exact z11_0
   refine pure_ (i:=14) (N:=some 18) (v:=undef) (a':=?_) #[Y,Y,Y,Y,Y,Y,Y,Y,Y,Y,Y,Y,Y,Y,Y,J,J,J,J,J,J,J,J,J,J,J,J,J,J,J,J,J] rfl rfl (any_of HT_.out z11_4) (λ_ _ _ h=>h) (Or.inr ⟨(by rfl),rfl⟩) ?_ ?_
   rotate_left
   ·exact z11_0
   refine pure_ (i:=15) (N:=some 19) (v:=undef) (a':=?_) #[Y,Y,Y,Y,Y,Y,Y,Y,Y,Y,Y,Y,Y,Y,Y,Y,J,J,J,J,J,J,J,J,J,J,J,J,J,J,J,J] rfl rfl (any_of HT_.out z11_4) (λ_ _ _ h=>h) (Or.inr ⟨(by rfl),rfl⟩) ?_ ?_
   rotate_left
   ·exact z11_0
   refine pure_ (i:=16) (N:=some 20) (v:=undef) (a':=?_) #[Y,Y,Y,Y,Y,Y,Y,Y,Y,Y,Y,Y,Y,Y,Y,Y,Y,J,J,J,J,J,J,J,J,J,J,J,J,J,J,J] rfl rfl (any_of HT_.out z11_4) (λ_ _ _ h=>h) (Or.inr ⟨(by rfl),rfl⟩) ?_ ?_
   rotate_left
   ·exact z11_0
   refine pure_ (i:=17) (N:=some 21) (v:=undef) (a':=?_) #[Y,Y,Y,Y,Y,Y,Y,Y,Y,Y,Y,Y,Y,Y,Y,Y,Y,Y,J,J,J,J,J,J,J,J,J,J,J,J,J,J] rfl rfl (any_of HT_.out z11_4) (λ_ _ _ h=>h) (Or.inr ⟨(by rfl),rfl⟩) ?_ ?_
   rotate_left
   ·exact z11_0
   refine pure_ (i:=18) (N:=some 22) (v:=?_) (a':=?_) #[Y,Y,Y,Y,Y,Y,Y,Y,Y,Y,Y,Y,Y,Y,Y,Y,Y,Y,Y,J,J,J,J,J,J,J,J,J,J,J,J,J] rfl rfl (any_of HT_.out z11_4) (λ_ _ _ h=>h) (Or.inl ⟨(by rfl),?_⟩) ?_ ?_
   rotate_left
   ·intro w'
    go_simp
    with_reducible rfl
   rotate_left
   ·exact z11_0
   refine pure_ (i:=19) (N:=some 23) (v:=?_) (a':=?_) #[Y,Y,Y,Y,Y,Y,Y,Y,Y,Y,Y,Y,Y,Y,Y,Y,Y,Y,Y,Y,J,J,J,J,J,J,J,J,J,J,J,J] rfl rfl (any_of HT_.out z11_4) (λ_ _ _ h=>h) (Or.inl ⟨(by rfl),?_⟩) ?_ ?_
   rotate_left
   ·intro w'
    go_simp
    with_reducible rfl
   rotate_left
   ·exact z11_0
   refine pure_ (i:=20) (N:=some 24) (v:=undef) (a':=?_) #[Y,Y,Y,Y,Y,Y,Y,Y,Y,Y,Y,Y,Y,Y,Y,Y,Y,Y,Y,Y,Y,J,J,J,J,J,J,J,J,J,J,J] rfl rfl (any_of HT_.out z11_4) (λ_ _ _ h=>h) (Or.inr ⟨(by rfl),rfl⟩) ?_ ?_
   rotate_left
   ·exact z11_0
   refine pure_ (i:=21) (N:=some 25) (v:=undef) (a':=?_) #[Y,Y,Y,Y,Y,Y,Y,Y,Y,Y,Y,Y,Y,Y,Y,Y,Y,Y,Y,Y,Y,Y,J,J,J,J,J,J,J,J,J,J] rfl rfl (any_of HT_.out z11_4) (λ_ _ _ h=>h) (Or.inr ⟨(by rfl),rfl⟩) ?_ ?_
   rotate_left
   ·exact z11_0
   refine pure_ (i:=22) (N:=some 26) (v:=undef) (a':=?_) #[Y,Y,Y,Y,Y,Y,Y,Y,Y,Y,Y,Y,Y,Y,Y,Y,Y,Y,Y,Y,Y,Y,Y,J,J,J,J,J,J,J,J,J] rfl rfl (any_of HT_.out z11_4) (λ_ _ _ h=>h) (Or.inr ⟨(by rfl),rfl⟩) ?_ ?_
   rotate_left
   ·exact z11_0
   refine pure_ (i:=23) (N:=some 27) (v:=undef) (a':=?_) #[Y,Y,Y,Y,Y,Y,Y,Y,Y,Y,Y,Y,Y,Y,Y,Y,Y,Y,Y,Y,Y,Y,Y,Y,J,J,J,J,J,J,J,J] rfl rfl (any_of HT_.out z11_4) (λ_ _ _ h=>h) (Or.inr ⟨(by rfl),rfl⟩) ?_ ?_
   rotate_left
   ·exact z11_0
   refine pure_ (i:=24) (N:=some 28) (v:=undef) (a':=?_) #[Y,Y,Y,Y,Y,Y,Y,Y,Y,Y,Y,Y,Y,Y,Y,Y,Y,Y,Y,Y,Y,Y,Y,Y,Y,J,J,J,J,J,J,J] rfl rfl (any_of HT_.out z11_4) (λ_ _ _ h=>h) (Or.inr ⟨(by rfl),rfl⟩) ?_ ?_
   rotate_left
   ·exact z11_0
   refine pure_ (i:=25) (N:=some 29) (v:=undef) (a':=?_) #[Y,Y,Y,Y,Y,Y,Y,Y,Y,Y,Y,Y,Y,Y,Y,Y,Y,Y,Y,Y,Y,Y,Y,Y,Y,Y,J,J,J,J,J,J] rfl rfl (any_of HT_.out z11_4) (λ_ _ _ h=>h) (Or.inr ⟨(by rfl),rfl⟩) ?_ ?_
   rotate_left
   ·exact z11_0
   refine pure_ (i:=26) (N:=some 30) (v:=undef) (a':=?_) #[Y,Y,Y,Y,Y,Y,Y,Y,Y,Y,Y,Y,Y,Y,Y,Y,Y,Y,Y,Y,Y,Y,Y,Y,Y,Y,Y,J,J,J,J,J] rfl rfl (any_of HT_.out z11_4) (λ_ _ _ h=>h) (Or.inr ⟨(by rfl),rfl⟩) ?_ ?_
   rotate_left
   ·exact z11_0
   refine pure_ (i:=27) (N:=some 31) (v:=undef) (a':=?_) #[Y,Y,Y,Y,Y,Y,Y,Y,Y,Y,Y,Y,Y,Y,Y,Y,Y,Y,Y,Y,Y,Y,Y,Y,Y,Y,Y,Y,J,J,J,J] rfl rfl (any_of HT_.out z11_4) (λ_ _ _ h=>h) (Or.inr ⟨(by rfl),rfl⟩) ?_ ?_
   rotate_left
   ·exact z11_0
   refine pure_ (i:=28) (N:=some 32) (v:=undef) (a':=?_) #[Y,Y,Y,Y,Y,Y,Y,Y,Y,Y,Y,Y,Y,Y,Y,Y,Y,Y,Y,Y,Y,Y,Y,Y,Y,Y,Y,Y,Y,J,J,J] rfl rfl (any_of HT_.out z11_4) (λ_ _ _ h=>h) (Or.inr ⟨(by rfl),rfl⟩) ?_ ?_
   rotate_left
   ·exact z11_0
   refine pure_ (i:=29) (N:=some 33) (v:=undef) (a':=?_) #[Y,Y,Y,Y,Y,Y,Y,Y,Y,Y,Y,Y,Y,Y,Y,Y,Y,Y,Y,Y,Y,Y,Y,Y,Y,Y,Y,Y,Y,Y,J,J] rfl rfl (any_of HT_.out z11_4) (λ_ _ _ h=>h) (Or.inr ⟨(by rfl),rfl⟩) ?_ ?_
   rotate_left
   ·exact z11_0
   refine pure_ (i:=30) (N:=some 34) (v:=undef) (a':=?_) #[Y,Y,Y,Y,Y,Y,Y,Y,Y,Y,Y,Y,Y,Y,Y,Y,Y,Y,Y,Y,Y,Y,Y,Y,Y,Y,Y,Y,Y,Y,Y,J] rfl rfl (any_of HT_.out z11_4) (λ_ _ _ h=>h) (Or.inr ⟨(by rfl),rfl⟩) ?_ ?_
   rotate_left
   ·exact z11_0
   refine pure_ (i:=31) (N:=some 35) (v:=?_) (a':=?_) #[Y,Y,Y,Y,Y,Y,Y,Y,Y,Y,Y,Y,Y,Y,Y,Y,Y,Y,Y,Y,Y,Y,Y,Y,Y,Y,Y,Y,Y,Y,Y,Y] rfl rfl (any_of HT_.out z11_4) (λ_ _ _ h=>h) (Or.inl ⟨(by rfl),?_⟩) ?_ ?_
   rotate_left
   ·intro w'
    go_simp
    with_reducible rfl
   rotate_left
   ·exact z11_0
   refine done_ (done_of HT_.out z11_4) ?_
   try go_wp2
   go_meet
   case rel=>exact ⟨_,(true),z9_3,H',⟨(by first|omega|exact Nat.le_refl _)⟩,⟨z11_3⟩,⟨z11_1⟩⟩
  subst c7
  have H1:((r03_Plain.f k l0_2).bind λt235=>((r03_Same.f k t235 l0_2).bind λt238=>(if t238=true then((r03_Get.f k l0_2 a0_0).bind λt239=>(r05_May.j0 k ((wrap64 (t239+1)) != a0_1) a0_0 a0_1 l0_2 l0_3)) else(r05_May.j0 k true a0_0 a0_1 l0_2 l0_3))))=some r:=by rw [if_pos rfl] at H;exact H
  clear H
  have H:=H1
  clear H1
  replace H:=oB_ H
  obtain ⟨t235,A80,H⟩:=H
  replace H:((r03_Same.f k t235 l0_2).bind λt238=>(if t238=true then((r03_Get.f k l0_2 a0_0).bind λt239=>(r05_May.j0 k ((wrap64 (t239+1)) != a0_1) a0_0 a0_1 l0_2 l0_3)) else(r05_May.j0 k true a0_0 a0_1 l0_2 l0_3)))=some r:=H
  have A8:=Aside0.mk A80
  clear A80
  replace H:=oB_ H
  obtain ⟨t238,A90,H⟩:=H
  replace H:(if t238=true then((r03_Get.f k l0_2 a0_0).bind λt239=>(r05_May.j0 k ((wrap64 (t239+1)) != a0_1) a0_0 a0_1 l0_2 l0_3)) else(r05_May.j0 k true a0_0 a0_1 l0_2 l0_3))=some r:=H
  have A9:=Aside0.mk A90
  clear A90
  by_cases c10:t238=true
  rotate_left
  ·replace c10:=Bool.eq_false_iff.mpr c10
   subst c10
   have H1:(r05_May.j0 k true a0_0 a0_1 l0_2 l0_3)=some r:=by rw [if_neg (show ¬ (false=true) by decide)] at H;exact H
   clear H
   have H:=H1
   clear H1
   have H':=Aside0.mk H
   clear H
   try go_wp2
   have n0_:=U (blk_drew BK232.out)
   have n1_:=U (below_drew1 HB.out)
   clear BK232
   clear HB
   have BK232:=n0_
   have HB:=n1_
   clear n0_ n1_
   refine start_ (n:=32) (S:=λw'=>w'.cell? ⟨gb232,0,none⟩=some (.int .i64 a0_0)/\w'.cell? ⟨gb232,1,none⟩=some (.int .i64 a0_1)/\w'.cell? ⟨gb232,2,none⟩=some (.slice A0_2 l0_2.length c0_2)/\w'.cell? ⟨gb232,3,none⟩=some (.slice A0_3 l0_3.length c0_3)) (ds:=[]) #[J,J,J,J,J,J,J,J,J,J,J,J,J,J,J,J,J,J,J,J,J,J,J,J,J,J,J,J,J,J,J,J] z11_4 rfl rfl ⟨(blk_cell BK232.out 0).trans rfl,(blk_cell BK232.out 1).trans rfl,(blk_cell BK232.out 2).trans rfl,(blk_cell BK232.out 3).trans rfl⟩ (λhHeld=>?_);refine with_tabW r05_May.tab1 r05_May.bits1 (λHT_ HW_=>?_)
   generalize w3.drew=w16 at BK232 HB hHeld ⊢
   refine pure_ (i:=0) (N:=some 4) (v:=?_) (a':=?_) #[Y,J,J,J,J,J,J,J,J,J,J,J,J,J,J,J,J,J,J,J,J,J,J,J,J,J,J,J,J,J,J,J] rfl rfl (any_of HT_.out z11_4) (λ_ _ _ h=>h) (Or.inl ⟨(by rfl),?_⟩) ?_ ?_
   rotate_left
   ·intro w'
    go_simp
    with_reducible rfl
   rotate_left
   ·exact z11_0
   refine take_ (i:=1) (N:=some 5) (v:=?_) (a':=?_) #[Y,Y,J,J,J,J,J,J,J,J,J,J,J,J,J,J,J,J,J,J,J,J,J,J,J,J,J,J,J,J,J,J] rfl rfl (take_ofW HT_.out HW_.out z11_4) (λ_ _ _ h=>h) (Or.inl ⟨(by rfl),?_⟩) hHeld ?_ ?_
   rotate_left
   ·rintro w' ⟨s0,s1,s2,s3⟩
    go_simp
    with_reducible rfl
   rotate_left
   ·exact z11_0
   refine one_ (i:=2) (N:=some 6) #[Y,Y,Y,J,J,J,J,J,J,J,J,J,J,J,J,J,J,J,J,J,J,J,J,J,J,J,J,J,J,J,J,J] rfl rfl (one_of HT_.out z11_4) (by decide) (λK hK=>?_)
   refine goes_ Try.func57 z11_4 rfl #[.agg #[.int .i64 a0_0,.int .i64 a0_1]] (by rfl) rfl rfl z10_2 ?_
   with_reducible refine(r04_May.calls a0_0 a0_1 true _ A4.out).mono ?_
   rintro e w17 ⟨rfl,hb⟩
   refine ⟨_,rfl,?_⟩
   have n0_:=U (blk_below (g:=gb232) (o:=.cells #[.int .i64 a0_0,.int .i64 a0_1,.slice A0_2 l0_2.length c0_2,.slice A0_3 l0_3.length c0_3] 30 (0,0)) z11_3 hb)
   have n1_:=U (below_step z11_1 hb)
   clear BK232
   clear HB
   have BK232:=n0_
   have HB:=n1_
   clear n0_ n1_
   (try clear hb)
   (try clear hb2)
   (try clear hk)
   (try clear hi)
   refine hK.out _ _ ⟨(blk_cell BK232.out 0).trans rfl,(blk_cell BK232.out 1).trans rfl,(blk_cell BK232.out 2).trans rfl,(blk_cell BK232.out 3).trans rfl⟩ (λhHeld=>?_)
   clear hK K
   refine norm_ (a':=?_) ?_ ?_
   rotate_left
   ·exact z11_6
   refine pure_ (i:=3) (N:=some 7) (v:=?_) (a':=?_) #[Y,Y,Y,Y,J,J,J,J,J,J,J,J,J,J,J,J,J,J,J,J,J,J,J,J,J,J,J,J,J,J,J,J] rfl rfl (any_of HT_.out z11_4) (λ_ _ _ h=>h) (Or.inl ⟨(by rfl),?_⟩) ?_ ?_
   rotate_left
   ·intro w'
    go_simp
    with_reducible rfl
   rotate_left
   ·exact z11_0
   refine pure_ (i:=4) (N:=some 8) (v:=?_) (a':=?_) #[Y,Y,Y,Y,Y,J,J,J,J,J,J,J,J,J,J,J,J,J,J,J,J,J,J,J,J,J,J,J,J,J,J,J] rfl rfl (any_of HT_.out z11_4) (λ_ _ _ h=>h) (Or.inl ⟨(by rfl),?_⟩) ?_ ?_
   rotate_left
   ·intro w'
    go_simp
    with_reducible rfl
   rotate_left
   ·exact z11_0
   refine pure_ (i:=5) (N:=some 9) (v:=?_) (a':=?_) #[Y,Y,Y,Y,Y,Y,J,J,J,J,J,J,J,J,J,J,J,J,J,J,J,J,J,J,J,J,J,J,J,J,J,J] rfl rfl (any_of HT_.out z11_4) (λ_ _ _ h=>h) (Or.inl ⟨(by rfl),?_⟩) ?_ ?_
   rotate_left
   ·intro w'
    go_simp
    with_reducible rfl
   rotate_left
   ·exact z11_0
   refine take_ (i:=6) (N:=some 10) (v:=?_) (a':=?_) #[Y,Y,Y,Y,Y,Y,Y,J,J,J,J,J,J,J,J,J,J,J,J,J,J,J,J,J,J,J,J,J,J,J,J,J] rfl rfl (take_ofW HT_.out HW_.out z11_4) (λ_ _ _ h=>h) (Or.inl ⟨(by rfl),?_⟩) hHeld ?_ ?_
   rotate_left
   ·rintro w' ⟨s0,s1,s2,s3⟩
    go_simp
    with_reducible rfl
   rotate_left
   ·exact z11_0
   refine one_ (i:=7) (N:=some 11) #[Y,Y,Y,Y,Y,Y,Y,Y,J,J,J,J,J,J,J,J,J,J,J,J,J,J,J,J,J,J,J,J,J,J,J,J] rfl rfl (one_of HT_.out z11_4) (by decide) (λK hK=>?_)
   refine goes_ Try.func43 z11_4 rfl #[.slice A0_2 l0_2.length c0_2] (by rfl) rfl rfl z10_2 ?_
   with_reducible refine(r03_May.calls k _ _ l0_2 true _ ?side1 ?side2 A6.out).mono ?_
   (case side1=>exact z11_5)
   (case side2=>exact HC0_2.out)
   rintro e w' ⟨rfl,⟨nd,rfl⟩⟩
   refine ⟨_,rfl,?_⟩
   refine hK.out _ _ ⟨(blk_cell BK232.out 0).trans rfl,(blk_cell BK232.out 1).trans rfl,(blk_cell BK232.out 2).trans rfl,(blk_cell BK232.out 3).trans rfl⟩ (λhHeld=>?_)
   clear hK K
   refine norm_ (a':=?_) ?_ ?_
   rotate_left
   ·exact z11_9
   refine pure_ (i:=8) (N:=some 12) (v:=?_) (a':=?_) #[Y,Y,Y,Y,Y,Y,Y,Y,Y,J,J,J,J,J,J,J,J,J,J,J,J,J,J,J,J,J,J,J,J,J,J,J] rfl rfl (any_of HT_.out z11_4) (λ_ _ _ h=>h) (Or.inl ⟨(by rfl),?_⟩) ?_ ?_
   rotate_left
   ·intro w'
    go_simp
    with_reducible rfl
   rotate_left
   ·exact z11_0
   refine pure_ (i:=9) (N:=some 13) (v:=?_) (a':=?_) #[Y,Y,Y,Y,Y,Y,Y,Y,Y,Y,J,J,J,J,J,J,J,J,J,J,J,J,J,J,J,J,J,J,J,J,J,J] rfl rfl (any_of HT_.out z11_4) (λ_ _ _ h=>h) (Or.inl ⟨(by rfl),?_⟩) ?_ ?_
   rotate_left
   ·intro w'
    go_simp
    with_reducible rfl
   rotate_left
   ·exact z11_0
   refine pure_ (i:=10) (N:=some 14) (v:=?_) (a':=?_) #[Y,Y,Y,Y,Y,Y,Y,Y,Y,Y,Y,J,J,J,J,J,J,J,J,J,J,J,J,J,J,J,J,J,J,J,J,J] rfl rfl (any_of HT_.out z11_4) (λ_ _ _ h=>h) (Or.inl ⟨(by rfl),?_⟩) ?_ ?_
   rotate_left
   ·intro w'
    go_simp
    with_reducible rfl
   rotate_left
   ·exact z11_0
   refine pure_ (i:=11) (N:=some 15) (v:=?_) (a':=?_) #[Y,Y,Y,Y,Y,Y,Y,Y,Y,Y,Y,Y,J,J,J,J,J,J,J,J,J,J,J,J,J,J,J,J,J,J,J,J] rfl rfl (any_of HT_.out z11_4) (λ_ _ _ h=>h) (Or.inl ⟨(by rfl),?_⟩) ?_ ?_
   rotate_left
   ·intro w'
    go_simp
    with_reducible rfl
   rotate_left
   ·exact z11_0
   refine pure_ (i:=14) (N:=some 18) (v:=?_) (a':=?_) #[Y,Y,Y,Y,Y,Y,Y,Y,Y,Y,Y,Y,J,J,Y,J,J,J,J,J,J,J,J,J,J,J,J,J,J,J,J,J] rfl rfl (any_of HT_.out z11_4) (λ_ _ _ h=>h) (Or.inl ⟨(by rfl),?_⟩) ?_ ?_
   rotate_left
   ·intro w'
    go_simp
    with_reducible rfl
   rotate_left
   ·exact z11_0
   refine take_ (i:=12) (N:=some 16) (v:=?_) (a':=?_) #[Y,Y,Y,Y,Y,Y,Y,Y,Y,Y,Y,Y,Y,J,Y,J,J,J,J,J,J,J,J,J,J,J,J,J,J,J,J,J] rfl rfl (take_ofW HT_.out HW_.out z11_4) (λ_ _ _ h=>h) (Or.inl ⟨(by rfl),?_⟩) hHeld ?_ ?_
   rotate_left
   ·rintro w' ⟨s0,s1,s2,s3⟩
    go_simp
    with_reducible rfl
   rotate_left
   ·exact z11_0
   refine take_ (i:=15) (N:=some 19) (v:=?_) (a':=?_) #[Y,Y,Y,Y,Y,Y,Y,Y,Y,Y,Y,Y,Y,J,Y,Y,J,J,J,J,J,J,J,J,J,J,J,J,J,J,J,J] rfl rfl (take_ofW HT_.out HW_.out z11_4) (λ_ _ _ h=>h) (Or.inl ⟨(by rfl),?_⟩) hHeld ?_ ?_
   rotate_left
   ·rintro w' ⟨s0,s1,s2,s3⟩
    go_simp
    with_reducible rfl
   rotate_left
   ·exact z11_0
   refine one_ (i:=13) (N:=some 17) #[Y,Y,Y,Y,Y,Y,Y,Y,Y,Y,Y,Y,Y,Y,Y,Y,J,J,J,J,J,J,J,J,J,J,J,J,J,J,J,J] rfl rfl (one_of HT_.out z11_4) (by decide) (λK hK=>?_)
   refine goes_ Try.func44 z11_4 rfl #[.slice A0_2 l0_2.length c0_2] (by rfl) rfl rfl z10_2 ?_
   with_reducible refine(r03_Plain.calls k _ _ l0_2 t235 _ ?side1 ?side2 A8.out).mono ?_
   (case side1=>exact z11_7)
   (case side2=>exact HC0_2.out)
   rintro e w18 ⟨v236,rfl,ho0,hb⟩
   refine ⟨_,rfl,?_⟩
   have n0_:=U (Kd.R_lower ho0 (below_size z11_1))
   have n1_:=U (blk_below (g:=gb232) (o:=.cells #[.int .i64 a0_0,.int .i64 a0_1,.slice A0_2 l0_2.length c0_2,.slice A0_3 l0_3.length c0_3] 30 (0,0)) z11_3 hb)
   have n2_:=U (below_step z11_1 hb)
   clear BK232
   clear HB
   have HO237:=n0_
   have BK232:=n1_
   have HB:=n2_
   clear n0_ n1_ n2_
   (try clear hb)
   (try clear hb2)
   (try clear hk)
   (try clear hi)
   (try clear ho0)
   obtain ⟨Ao19,co19,eo19⟩:=Kd.R_slice HO237.out
   (first|subst eo19|(injection eo19 with f1_ f2_ f3_;have f4_:=f1_.symm;have f5_:=f3_.symm;clear f1_ f2_ f3_;subst f4_;subst f5_))
   refine hK.out _ _ ⟨(blk_cell BK232.out 0).trans rfl,(blk_cell BK232.out 1).trans rfl,(blk_cell BK232.out 2).trans rfl,(blk_cell BK232.out 3).trans rfl⟩ (λhHeld=>?_)
   clear hK K
   refine norm_ (a':=?_) ?_ ?_
   rotate_left
   ·exact z11_13
   refine one_ (i:=16) (N:=some 20) #[Y,Y,Y,Y,Y,Y,Y,Y,Y,Y,Y,Y,Y,Y,Y,Y,Y,J,J,J,J,J,J,J,J,J,J,J,J,J,J,J] rfl rfl (one_of HT_.out z11_4) (by decide) (λK hK=>?_)
   refine goes_ Try.func56 z11_4 rfl #[.slice Ao19 t235.length co19,.slice A0_2 l0_2.length c0_2] (by rfl) rfl rfl z10_2 ?_
   with_reducible refine(r03_Same.calls k _ _ t235 _ _ l0_2 false _ ?side1 ?side2 ?side3 ?side4 A9.out).mono ?_
   (case side1=>exact z11_12)
   (case side2=>exact(Kd.R_reads' HO237.out).2.1)
   (case side3=>exact z11_5)
   (case side4=>exact HC0_2.out)
   rintro e w' ⟨rfl,⟨nd,rfl⟩⟩
   refine ⟨_,rfl,?_⟩
   refine hK.out _ _ ⟨(blk_cell BK232.out 0).trans rfl,(blk_cell BK232.out 1).trans rfl,(blk_cell BK232.out 2).trans rfl,(blk_cell BK232.out 3).trans rfl⟩ (λhHeld=>?_)
   clear hK K
   refine norm_ (a':=?_) ?_ ?_
   rotate_left
   ·exact z11_14
   refine pure_ (i:=17) (N:=some 21) (v:=?_) (a':=?_) #[Y,Y,Y,Y,Y,Y,Y,Y,Y,Y,Y,Y,Y,Y,Y,Y,Y,Y,J,J,J,J,J,J,J,J,J,J,J,J,J,J] rfl rfl (any_of HT_.out z11_4) (λ_ _ _ h=>h) (Or.inl ⟨(by rfl),?_⟩) ?_ ?_
   rotate_left
   ·intro w'
    go_simp
    with_reducible rfl
   rotate_left
   ·exact z11_0
   refine pure_ (i:=18) (N:=some 22) (v:=?_) (a':=?_) #[Y,Y,Y,Y,Y,Y,Y,Y,Y,Y,Y,Y,Y,Y,Y,Y,Y,Y,Y,J,J,J,J,J,J,J,J,J,J,J,J,J] rfl rfl (any_of HT_.out z11_4) (λ_ _ _ h=>h) (Or.inl ⟨(by rfl),?_⟩) ?_ ?_
   rotate_left
   ·intro w'
    go_simp
    with_reducible rfl
   rotate_left
   ·exact z11_0
   refine pure_ (i:=19) (N:=some 23) (v:=?_) (a':=?_) #[Y,Y,Y,Y,Y,Y,Y,Y,Y,Y,Y,Y,Y,Y,Y,Y,Y,Y,Y,Y,J,J,J,J,J,J,J,J,J,J,J,J] rfl rfl (any_of HT_.out z11_4) (λ_ _ _ h=>h) (Or.inl ⟨(by rfl),?_⟩) ?_ ?_
   rotate_left
   ·intro w'
    go_simp
    with_reducible rfl
   rotate_left
   ·exact z11_0
   refine pure_ (i:=20) (N:=some 24) (v:=undef) (a':=?_) #[Y,Y,Y,Y,Y,Y,Y,Y,Y,Y,Y,Y,Y,Y,Y,Y,Y,Y,Y,Y,Y,J,J,J,J,J,J,J,J,J,J,J] rfl rfl (any_of HT_.out z11_4) (λ_ _ _ h=>h) (Or.inr ⟨(by rfl),rfl⟩) ?_ ?_
   rotate_left
   ·exact z11_0
   refine pure_ (i:=21) (N:=some 25) (v:=undef) (a':=?_) #[Y,Y,Y,Y,Y,Y,Y,Y,Y,Y,Y,Y,Y,Y,Y,Y,Y,Y,Y,Y,Y,Y,J,J,J,J,J,J,J,J,J,J] rfl rfl (any_of HT_.out z11_4) (λ_ _ _ h=>h) (Or.inr ⟨(by rfl),rfl⟩) ?_ ?_
   rotate_left
   ·exact z11_0
   refine pure_ (i:=22) (N:=some 26) (v:=undef) (a':=?_) #[Y,Y,Y,Y,Y,Y,Y,Y,Y,Y,Y,Y,Y,Y,Y,Y,Y,Y,Y,Y,Y,Y,Y,J,J,J,J,J,J,J,J,J] rfl rfl (any_of HT_.out z11_4) (λ_ _ _ h=>h) (Or.inr ⟨(by rfl),rfl⟩) ?_ ?_
   rotate_left
   ·exact z11_0
   refine pure_ (i:=23) (N:=some 27) (v:=undef) (a':=?_) #[Y,Y,Y,Y,Y,Y,Y,Y,Y,Y,Y,Y,Y,Y,Y,Y,Y,Y,Y,Y,Y,Y,Y,Y,J,J,J,J,J,J,J,J] rfl rfl (any_of HT_.out z11_4) (λ_ _ _ h=>h) (Or.inr ⟨(by rfl),rfl⟩) ?_ ?_
   rotate_left
   ·exact z11_0
   refine pure_ (i:=24) (N:=some 28) (v:=undef) (a':=?_) #[Y,Y,Y,Y,Y,Y,Y,Y,Y,Y,Y,Y,Y,Y,Y,Y,Y,Y,Y,Y,Y,Y,Y,Y,Y,J,J,J,J,J,J,J] rfl rfl (any_of HT_.out z11_4) (λ_ _ _ h=>h) (Or.inr ⟨(by rfl),rfl⟩) ?_ ?_
   rotate_left
   ·exact z11_0
   refine pure_ (i:=25) (N:=some 29) (v:=undef) (a':=?_) #[Y,Y,Y,Y,Y,Y,Y,Y,Y,Y,Y,Y,Y,Y,Y,Y,Y,Y,Y,Y,Y,Y,Y,Y,Y,Y,J,J,J,J,J,J] rfl rfl (any_of HT_.out z11_4) (λ_ _ _ h=>h) (Or.inr ⟨(by rfl),rfl⟩) ?_ ?_
   rotate_left
   ·exact z11_0
   refine pure_ (i:=26) (N:=some 30) (v:=undef) (a':=?_) #[Y,Y,Y,Y,Y,Y,Y,Y,Y,Y,Y,Y,Y,Y,Y,Y,Y,Y,Y,Y,Y,Y,Y,Y,Y,Y,Y,J,J,J,J,J] rfl rfl (any_of HT_.out z11_4) (λ_ _ _ h=>h) (Or.inr ⟨(by rfl),rfl⟩) ?_ ?_
   rotate_left
   ·exact z11_0
   refine pure_ (i:=27) (N:=some 31) (v:=undef) (a':=?_) #[Y,Y,Y,Y,Y,Y,Y,Y,Y,Y,Y,Y,Y,Y,Y,Y,Y,Y,Y,Y,Y,Y,Y,Y,Y,Y,Y,Y,J,J,J,J] rfl rfl (any_of HT_.out z11_4) (λ_ _ _ h=>h) (Or.inr ⟨(by rfl),rfl⟩) ?_ ?_
   rotate_left
   ·exact z11_0
   refine pure_ (i:=28) (N:=some 32) (v:=undef) (a':=?_) #[Y,Y,Y,Y,Y,Y,Y,Y,Y,Y,Y,Y,Y,Y,Y,Y,Y,Y,Y,Y,Y,Y,Y,Y,Y,Y,Y,Y,Y,J,J,J] rfl rfl (any_of HT_.out z11_4) (λ_ _ _ h=>h) (Or.inr ⟨(by rfl),rfl⟩) ?_ ?_
   rotate_left
   ·exact z11_0
   refine pure_ (i:=29) (N:=some 33) (v:=undef) (a':=?_) #[Y,Y,Y,Y,Y,Y,Y,Y,Y,Y,Y,Y,Y,Y,Y,Y,Y,Y,Y,Y,Y,Y,Y,Y,Y,Y,Y,Y,Y,Y,J,J] rfl rfl (any_of HT_.out z11_4) (λ_ _ _ h=>h) (Or.inr ⟨(by rfl),rfl⟩) ?_ ?_
   rotate_left
   ·exact z11_0
   refine pure_ (i:=30) (N:=some 34) (v:=undef) (a':=?_) #[Y,Y,Y,Y,Y,Y,Y,Y,Y,Y,Y,Y,Y,Y,Y,Y,Y,Y,Y,Y,Y,Y,Y,Y,Y,Y,Y,Y,Y,Y,Y,J] rfl rfl (any_of HT_.out z11_4) (λ_ _ _ h=>h) (Or.inr ⟨(by rfl),rfl⟩) ?_ ?_
   rotate_left
   ·exact z11_0
   refine pure_ (i:=31) (N:=some 35) (v:=?_) (a':=?_) #[Y,Y,Y,Y,Y,Y,Y,Y,Y,Y,Y,Y,Y,Y,Y,Y,Y,Y,Y,Y,Y,Y,Y,Y,Y,Y,Y,Y,Y,Y,Y,Y] rfl rfl (any_of HT_.out z11_4) (λ_ _ _ h=>h) (Or.inl ⟨(by rfl),?_⟩) ?_ ?_
   rotate_left
   ·intro w'
    go_simp
    with_reducible rfl
   rotate_left
   ·exact z11_0
   refine done_ (done_of HT_.out z11_4) ?_
   try go_wp2
   go_meet
   case rel=>exact ⟨_,(true),z9_3,H',⟨(by first|omega|exact Nat.le_refl _)⟩,⟨z11_3⟩,⟨z11_1⟩⟩
  subst c10
  have H1:((r03_Get.f k l0_2 a0_0).bind λt239=>(r05_May.j0 k ((wrap64 (t239+1)) != a0_1) a0_0 a0_1 l0_2 l0_3))=some r:=by rw [if_pos rfl] at H;exact H
  clear H
  have H:=H1
  clear H1
  replace H:=oB_ H
  obtain ⟨t239,A110,H⟩:=H
  replace H:(r05_May.j0 k ((wrap64 (t239+1)) != a0_1) a0_0 a0_1 l0_2 l0_3)=some r:=H
  have A11:=Aside0.mk A110
  clear A110
  have H':=Aside0.mk H
  clear H
  try go_wp2
  have n0_:=U (blk_drew BK232.out)
  have n1_:=U (below_drew1 HB.out)
  clear BK232
  clear HB
  have BK232:=n0_
  have HB:=n1_
  clear n0_ n1_
  refine start_ (n:=32) (S:=λw'=>w'.cell? ⟨gb232,0,none⟩=some (.int .i64 a0_0)/\w'.cell? ⟨gb232,1,none⟩=some (.int .i64 a0_1)/\w'.cell? ⟨gb232,2,none⟩=some (.slice A0_2 l0_2.length c0_2)/\w'.cell? ⟨gb232,3,none⟩=some (.slice A0_3 l0_3.length c0_3)) (ds:=[]) #[J,J,J,J,J,J,J,J,J,J,J,J,J,J,J,J,J,J,J,J,J,J,J,J,J,J,J,J,J,J,J,J] z11_4 rfl rfl ⟨(blk_cell BK232.out 0).trans rfl,(blk_cell BK232.out 1).trans rfl,(blk_cell BK232.out 2).trans rfl,(blk_cell BK232.out 3).trans rfl⟩ (λhHeld=>?_);refine with_tabW r05_May.tab1 r05_May.bits1 (λHT_ HW_=>?_)
  generalize w3.drew=w12 at BK232 HB hHeld ⊢
  refine pure_ (i:=0) (N:=some 4) (v:=?_) (a':=?_) #[Y,J,J,J,J,J,J,J,J,J,J,J,J,J,J,J,J,J,J,J,J,J,J,J,J,J,J,J,J,J,J,J] rfl rfl (any_of HT_.out z11_4) (λ_ _ _ h=>h) (Or.inl ⟨(by rfl),?_⟩) ?_ ?_
  rotate_left
  ·intro w'
   go_simp
   with_reducible rfl
  rotate_left
  ·exact z11_0
  refine take_ (i:=1) (N:=some 5) (v:=?_) (a':=?_) #[Y,Y,J,J,J,J,J,J,J,J,J,J,J,J,J,J,J,J,J,J,J,J,J,J,J,J,J,J,J,J,J,J] rfl rfl (take_ofW HT_.out HW_.out z11_4) (λ_ _ _ h=>h) (Or.inl ⟨(by rfl),?_⟩) hHeld ?_ ?_
  rotate_left
  ·rintro w' ⟨s0,s1,s2,s3⟩
   go_simp
   with_reducible rfl
  rotate_left
  ·exact z11_0
  refine one_ (i:=2) (N:=some 6) #[Y,Y,Y,J,J,J,J,J,J,J,J,J,J,J,J,J,J,J,J,J,J,J,J,J,J,J,J,J,J,J,J,J] rfl rfl (one_of HT_.out z11_4) (by decide) (λK hK=>?_)
  refine goes_ Try.func57 z11_4 rfl #[.agg #[.int .i64 a0_0,.int .i64 a0_1]] (by rfl) rfl rfl z10_2 ?_
  with_reducible refine(r04_May.calls a0_0 a0_1 true _ A4.out).mono ?_
  rintro e w13 ⟨rfl,hb⟩
  refine ⟨_,rfl,?_⟩
  have n0_:=U (blk_below (g:=gb232) (o:=.cells #[.int .i64 a0_0,.int .i64 a0_1,.slice A0_2 l0_2.length c0_2,.slice A0_3 l0_3.length c0_3] 30 (0,0)) z11_3 hb)
  have n1_:=U (below_step z11_1 hb)
  clear BK232
  clear HB
  have BK232:=n0_
  have HB:=n1_
  clear n0_ n1_
  (try clear hb)
  (try clear hb2)
  (try clear hk)
  (try clear hi)
  refine hK.out _ _ ⟨(blk_cell BK232.out 0).trans rfl,(blk_cell BK232.out 1).trans rfl,(blk_cell BK232.out 2).trans rfl,(blk_cell BK232.out 3).trans rfl⟩ (λhHeld=>?_)
  clear hK K
  refine norm_ (a':=?_) ?_ ?_
  rotate_left
  ·exact z11_6
  refine pure_ (i:=3) (N:=some 7) (v:=?_) (a':=?_) #[Y,Y,Y,Y,J,J,J,J,J,J,J,J,J,J,J,J,J,J,J,J,J,J,J,J,J,J,J,J,J,J,J,J] rfl rfl (any_of HT_.out z11_4) (λ_ _ _ h=>h) (Or.inl ⟨(by rfl),?_⟩) ?_ ?_
  rotate_left
  ·intro w'
   go_simp
   with_reducible rfl
  rotate_left
  ·exact z11_0
  refine pure_ (i:=4) (N:=some 8) (v:=?_) (a':=?_) #[Y,Y,Y,Y,Y,J,J,J,J,J,J,J,J,J,J,J,J,J,J,J,J,J,J,J,J,J,J,J,J,J,J,J] rfl rfl (any_of HT_.out z11_4) (λ_ _ _ h=>h) (Or.inl ⟨(by rfl),?_⟩) ?_ ?_
  rotate_left
  ·intro w'
   go_simp
   with_reducible rfl
  rotate_left
  ·exact z11_0
  refine pure_ (i:=5) (N:=some 9) (v:=?_) (a':=?_) #[Y,Y,Y,Y,Y,Y,J,J,J,J,J,J,J,J,J,J,J,J,J,J,J,J,J,J,J,J,J,J,J,J,J,J] rfl rfl (any_of HT_.out z11_4) (λ_ _ _ h=>h) (Or.inl ⟨(by rfl),?_⟩) ?_ ?_
  rotate_left
  ·intro w'
   go_simp
   with_reducible rfl
  rotate_left
  ·exact z11_0
  refine take_ (i:=6) (N:=some 10) (v:=?_) (a':=?_) #[Y,Y,Y,Y,Y,Y,Y,J,J,J,J,J,J,J,J,J,J,J,J,J,J,J,J,J,J,J,J,J,J,J,J,J] rfl rfl (take_ofW HT_.out HW_.out z11_4) (λ_ _ _ h=>h) (Or.inl ⟨(by rfl),?_⟩) hHeld ?_ ?_
  rotate_left
  ·rintro w' ⟨s0,s1,s2,s3⟩
   go_simp
   with_reducible rfl
  rotate_left
  ·exact z11_0
  refine one_ (i:=7) (N:=some 11) #[Y,Y,Y,Y,Y,Y,Y,Y,J,J,J,J,J,J,J,J,J,J,J,J,J,J,J,J,J,J,J,J,J,J,J,J] rfl rfl (one_of HT_.out z11_4) (by decide) (λK hK=>?_)
  refine goes_ Try.func43 z11_4 rfl #[.slice A0_2 l0_2.length c0_2] (by rfl) rfl rfl z10_2 ?_
  with_reducible refine(r03_May.calls k _ _ l0_2 true _ ?side1 ?side2 A6.out).mono ?_
  (case side1=>exact z11_5)
  (case side2=>exact HC0_2.out)
  rintro e w' ⟨rfl,⟨nd,rfl⟩⟩
  refine ⟨_,rfl,?_⟩
  refine hK.out _ _ ⟨(blk_cell BK232.out 0).trans rfl,(blk_cell BK232.out 1).trans rfl,(blk_cell BK232.out 2).trans rfl,(blk_cell BK232.out 3).trans rfl⟩ (λhHeld=>?_)
  clear hK K
  refine norm_ (a':=?_) ?_ ?_
  rotate_left
  ·exact z11_9
  refine pure_ (i:=8) (N:=some 12) (v:=?_) (a':=?_) #[Y,Y,Y,Y,Y,Y,Y,Y,Y,J,J,J,J,J,J,J,J,J,J,J,J,J,J,J,J,J,J,J,J,J,J,J] rfl rfl (any_of HT_.out z11_4) (λ_ _ _ h=>h) (Or.inl ⟨(by rfl),?_⟩) ?_ ?_
  rotate_left
  ·intro w'
   go_simp
   with_reducible rfl
  rotate_left
  ·exact z11_0
  refine pure_ (i:=9) (N:=some 13) (v:=?_) (a':=?_) #[Y,Y,Y,Y,Y,Y,Y,Y,Y,Y,J,J,J,J,J,J,J,J,J,J,J,J,J,J,J,J,J,J,J,J,J,J] rfl rfl (any_of HT_.out z11_4) (λ_ _ _ h=>h) (Or.inl ⟨(by rfl),?_⟩) ?_ ?_
  rotate_left
  ·intro w'
   go_simp
   with_reducible rfl
  rotate_left
  ·exact z11_0
  refine pure_ (i:=10) (N:=some 14) (v:=?_) (a':=?_) #[Y,Y,Y,Y,Y,Y,Y,Y,Y,Y,Y,J,J,J,J,J,J,J,J,J,J,J,J,J,J,J,J,J,J,J,J,J] rfl rfl (any_of HT_.out z11_4) (λ_ _ _ h=>h) (Or.inl ⟨(by rfl),?_⟩) ?_ ?_
  rotate_left
  ·intro w'
   go_simp
   with_reducible rfl
  rotate_left
  ·exact z11_0
  refine pure_ (i:=11) (N:=some 15) (v:=?_) (a':=?_) #[Y,Y,Y,Y,Y,Y,Y,Y,Y,Y,Y,Y,J,J,J,J,J,J,J,J,J,J,J,J,J,J,J,J,J,J,J,J] rfl rfl (any_of HT_.out z11_4) (λ_ _ _ h=>h) (Or.inl ⟨(by rfl),?_⟩) ?_ ?_
  rotate_left
  ·intro w'
   go_simp
   with_reducible rfl
  rotate_left
  ·exact z11_0
  refine pure_ (i:=14) (N:=some 18) (v:=?_) (a':=?_) #[Y,Y,Y,Y,Y,Y,Y,Y,Y,Y,Y,Y,J,J,Y,J,J,J,J,J,J,J,J,J,J,J,J,J,J,J,J,J] rfl rfl (any_of HT_.out z11_4) (λ_ _ _ h=>h) (Or.inl ⟨(by rfl),?_⟩) ?_ ?_
  rotate_left
  ·intro w'
   go_simp
   with_reducible rfl
  rotate_left
  ·exact z11_0
  refine take_ (i:=12) (N:=some 16) (v:=?_) (a':=?_) #[Y,Y,Y,Y,Y,Y,Y,Y,Y,Y,Y,Y,Y,J,Y,J,J,J,J,J,J,J,J,J,J,J,J,J,J,J,J,J] rfl rfl (take_ofW HT_.out HW_.out z11_4) (λ_ _ _ h=>h) (Or.inl ⟨(by rfl),?_⟩) hHeld ?_ ?_
  rotate_left
  ·rintro w' ⟨s0,s1,s2,s3⟩
   go_simp
   with_reducible rfl
  rotate_left
  ·exact z11_0
  refine take_ (i:=15) (N:=some 19) (v:=?_) (a':=?_) #[Y,Y,Y,Y,Y,Y,Y,Y,Y,Y,Y,Y,Y,J,Y,Y,J,J,J,J,J,J,J,J,J,J,J,J,J,J,J,J] rfl rfl (take_ofW HT_.out HW_.out z11_4) (λ_ _ _ h=>h) (Or.inl ⟨(by rfl),?_⟩) hHeld ?_ ?_
  rotate_left
  ·rintro w' ⟨s0,s1,s2,s3⟩
   go_simp
   with_reducible rfl
  rotate_left
  ·exact z11_0
  refine one_ (i:=13) (N:=some 17) #[Y,Y,Y,Y,Y,Y,Y,Y,Y,Y,Y,Y,Y,Y,Y,Y,J,J,J,J,J,J,J,J,J,J,J,J,J,J,J,J] rfl rfl (one_of HT_.out z11_4) (by decide) (λK hK=>?_)
  refine goes_ Try.func44 z11_4 rfl #[.slice A0_2 l0_2.length c0_2] (by rfl) rfl rfl z10_2 ?_
  with_reducible refine(r03_Plain.calls k _ _ l0_2 t235 _ ?side1 ?side2 A8.out).mono ?_
  (case side1=>exact z11_7)
  (case side2=>exact HC0_2.out)
  rintro e w14 ⟨v236,rfl,ho0,hb⟩
  refine ⟨_,rfl,?_⟩
  have n0_:=U (Kd.R_lower ho0 (below_size z11_1))
  have n1_:=U (blk_below (g:=gb232) (o:=.cells #[.int .i64 a0_0,.int .i64 a0_1,.slice A0_2 l0_2.length c0_2,.slice A0_3 l0_3.length c0_3] 30 (0,0)) z11_3 hb)
  have n2_:=U (below_step z11_1 hb)
  clear BK232
  clear HB
  have HO237:=n0_
  have BK232:=n1_
  have HB:=n2_
  clear n0_ n1_ n2_
  (try clear hb)
  (try clear hb2)
  (try clear hk)
  (try clear hi)
  (try clear ho0)
  obtain ⟨Ao15,co15,eo15⟩:=Kd.R_slice HO237.out
  (first|subst eo15|(injection eo15 with f1_ f2_ f3_;have f4_:=f1_.symm;have f5_:=f3_.symm;clear f1_ f2_ f3_;subst f4_;subst f5_))
  refine hK.out _ _ ⟨(blk_cell BK232.out 0).trans rfl,(blk_cell BK232.out 1).trans rfl,(blk_cell BK232.out 2).trans rfl,(blk_cell BK232.out 3).trans rfl⟩ (λhHeld=>?_)
  clear hK K
  refine norm_ (a':=?_) ?_ ?_
  rotate_left
  ·exact z11_13
  refine one_ (i:=16) (N:=some 20) #[Y,Y,Y,Y,Y,Y,Y,Y,Y,Y,Y,Y,Y,Y,Y,Y,Y,J,J,J,J,J,J,J,J,J,J,J,J,J,J,J] rfl rfl (one_of HT_.out z11_4) (by decide) (λK hK=>?_)
  refine goes_ Try.func56 z11_4 rfl #[.slice Ao15 t235.length co15,.slice A0_2 l0_2.length c0_2] (by rfl) rfl rfl z10_2 ?_
  with_reducible refine(r03_Same.calls k _ _ t235 _ _ l0_2 true _ ?side1 ?side2 ?side3 ?side4 A9.out).mono ?_
  (case side1=>exact z11_12)
  (case side2=>exact(Kd.R_reads' HO237.out).2.1)
  (case side3=>exact z11_5)
  (case side4=>exact HC0_2.out)
  rintro e w' ⟨rfl,⟨nd,rfl⟩⟩
  refine ⟨_,rfl,?_⟩
  refine hK.out _ _ ⟨(blk_cell BK232.out 0).trans rfl,(blk_cell BK232.out 1).trans rfl,(blk_cell BK232.out 2).trans rfl,(blk_cell BK232.out 3).trans rfl⟩ (λhHeld=>?_)
  clear hK K
  refine norm_ (a':=?_) ?_ ?_
  rotate_left
  ·exact z11_14
  refine pure_ (i:=17) (N:=some 21) (v:=?_) (a':=?_) #[Y,Y,Y,Y,Y,Y,Y,Y,Y,Y,Y,Y,Y,Y,Y,Y,Y,Y,J,J,J,J,J,J,J,J,J,J,J,J,J,J] rfl rfl (any_of HT_.out z11_4) (λ_ _ _ h=>h) (Or.inl ⟨(by rfl),?_⟩) ?_ ?_
  rotate_left
  ·intro w'
   go_simp
   with_reducible rfl
  rotate_left
  ·exact z11_0
  refine pure_ (i:=18) (N:=some 22) (v:=?_) (a':=?_) #[Y,Y,Y,Y,Y,Y,Y,Y,Y,Y,Y,Y,Y,Y,Y,Y,Y,Y,Y,J,J,J,J,J,J,J,J,J,J,J,J,J] rfl rfl (any_of HT_.out z11_4) (λ_ _ _ h=>h) (Or.inl ⟨(by rfl),?_⟩) ?_ ?_
  rotate_left
  ·intro w'
   go_simp
   with_reducible rfl
  rotate_left
  ·exact z11_0
  refine pure_ (i:=19) (N:=some 23) (v:=?_) (a':=?_) #[Y,Y,Y,Y,Y,Y,Y,Y,Y,Y,Y,Y,Y,Y,Y,Y,Y,Y,Y,Y,J,J,J,J,J,J,J,J,J,J,J,J] rfl rfl (any_of HT_.out z11_4) (λ_ _ _ h=>h) (Or.inl ⟨(by rfl),?_⟩) ?_ ?_
  rotate_left
  ·intro w'
   go_simp
   with_reducible rfl
  rotate_left
  ·exact z11_0
  refine pure_ (i:=20) (N:=some 24) (v:=?_) (a':=?_) #[Y,Y,Y,Y,Y,Y,Y,Y,Y,Y,Y,Y,Y,Y,Y,Y,Y,Y,Y,Y,Y,J,J,J,J,J,J,J,J,J,J,J] rfl rfl (any_of HT_.out z11_4) (λ_ _ _ h=>h) (Or.inl ⟨(by rfl),?_⟩) ?_ ?_
  rotate_left
  ·intro w'
   go_simp
   with_reducible rfl
  rotate_left
  ·exact z11_0
  refine pure_ (i:=22) (N:=some 26) (v:=?_) (a':=?_) #[Y,Y,Y,Y,Y,Y,Y,Y,Y,Y,Y,Y,Y,Y,Y,Y,Y,Y,Y,Y,Y,J,Y,J,J,J,J,J,J,J,J,J] rfl rfl (any_of HT_.out z11_4) (λ_ _ _ h=>h) (Or.inl ⟨(by rfl),?_⟩) ?_ ?_
  rotate_left
  ·intro w'
   go_simp
   with_reducible rfl
  rotate_left
  ·exact z11_0
  refine pure_ (i:=23) (N:=some 27) (v:=?_) (a':=?_) #[Y,Y,Y,Y,Y,Y,Y,Y,Y,Y,Y,Y,Y,Y,Y,Y,Y,Y,Y,Y,Y,J,Y,Y,J,J,J,J,J,J,J,J] rfl rfl (any_of HT_.out z11_4) (λ_ _ _ h=>h) (Or.inl ⟨(by rfl),?_⟩) ?_ ?_
  rotate_left
  ·intro w'
   go_simp
   with_reducible rfl
  rotate_left
  ·exact z11_0
  refine pure_ (i:=27) (N:=some 31) (v:=?_) (a':=?_) #[Y,Y,Y,Y,Y,Y,Y,Y,Y,Y,Y,Y,Y,Y,Y,Y,Y,Y,Y,Y,Y,J,Y,Y,J,J,J,Y,J,J,J,J] rfl rfl (any_of HT_.out z11_4) (λ_ _ _ h=>h) (Or.inl ⟨(by rfl),?_⟩) ?_ ?_
  rotate_left
  ·intro w'
   go_simp
   with_reducible rfl
  rotate_left
  ·exact z11_0
  refine pure_ (i:=28) (N:=some 32) (v:=?_) (a':=?_) #[Y,Y,Y,Y,Y,Y,Y,Y,Y,Y,Y,Y,Y,Y,Y,Y,Y,Y,Y,Y,Y,J,Y,Y,J,J,J,Y,Y,J,J,J] rfl rfl (any_of HT_.out z11_4) (λ_ _ _ h=>h) (Or.inl ⟨(by rfl),?_⟩) ?_ ?_
  rotate_left
  ·intro w'
   go_simp
   with_reducible rfl
  rotate_left
  ·exact z11_0
  refine take_ (i:=21) (N:=some 25) (v:=?_) (a':=?_) #[Y,Y,Y,Y,Y,Y,Y,Y,Y,Y,Y,Y,Y,Y,Y,Y,Y,Y,Y,Y,Y,Y,Y,Y,J,J,J,Y,Y,J,J,J] rfl rfl (take_ofW HT_.out HW_.out z11_4) (λ_ _ _ h=>h) (Or.inl ⟨(by rfl),?_⟩) hHeld ?_ ?_
  rotate_left
  ·rintro w' ⟨s0,s1,s2,s3⟩
   go_simp
   with_reducible rfl
  rotate_left
  ·exact z11_0
  refine take_ (i:=24) (N:=some 28) (v:=?_) (a':=?_) #[Y,Y,Y,Y,Y,Y,Y,Y,Y,Y,Y,Y,Y,Y,Y,Y,Y,Y,Y,Y,Y,Y,Y,Y,Y,J,J,Y,Y,J,J,J] rfl rfl (take_ofW HT_.out HW_.out z11_4) (λ_ _ _ h=>h) (Or.inl ⟨(by rfl),?_⟩) hHeld ?_ ?_
  rotate_left
  ·rintro w' ⟨s0,s1,s2,s3⟩
   go_simp
   with_reducible rfl
  rotate_left
  ·exact z11_0
  refine take_ (i:=29) (N:=some 33) (v:=?_) (a':=?_) #[Y,Y,Y,Y,Y,Y,Y,Y,Y,Y,Y,Y,Y,Y,Y,Y,Y,Y,Y,Y,Y,Y,Y,Y,Y,J,J,Y,Y,Y,J,J] rfl rfl (take_ofW HT_.out HW_.out z11_4) (λ_ _ _ h=>h) (Or.inl ⟨(by rfl),?_⟩) hHeld ?_ ?_
  rotate_left
  ·rintro w' ⟨s0,s1,s2,s3⟩
   go_simp
   with_reducible rfl
  rotate_left
  ·exact z11_0
  refine one_ (i:=25) (N:=some 29) #[Y,Y,Y,Y,Y,Y,Y,Y,Y,Y,Y,Y,Y,Y,Y,Y,Y,Y,Y,Y,Y,Y,Y,Y,Y,Y,J,Y,Y,Y,J,J] rfl rfl (one_of HT_.out z11_4) (by decide) (λK hK=>?_)
  refine goes_ Try.func58 z11_4 rfl #[.slice A0_2 l0_2.length c0_2,.int .i64 a0_0] (by rfl) rfl rfl z10_2 ?_
  with_reducible refine(r03_Get.calls k _ _ l0_2 a0_0 t239 _ ?side1 ?side2 A11.out).mono ?_
  (case side1=>exact z11_7)
  (case side2=>exact HC0_2.out)
  rintro e w' ⟨rfl,⟨nd,rfl⟩⟩
  refine ⟨_,rfl,?_⟩
  refine hK.out _ _ ⟨(blk_cell BK232.out 0).trans rfl,(blk_cell BK232.out 1).trans rfl,(blk_cell BK232.out 2).trans rfl,(blk_cell BK232.out 3).trans rfl⟩ (λhHeld=>?_)
  clear hK K
  refine norm_ (a':=?_) ?_ ?_
  rotate_left
  ·show Act.put _ (some 29) _=_;simp only [Act.put,List.setIfInBounds_toArray,List.set_cons_zero,List.set_cons_succ,i64_w,i32_w];rfl
  refine pure_ (i:=26) (N:=some 30) (v:=?_) (a':=?_) #[Y,Y,Y,Y,Y,Y,Y,Y,Y,Y,Y,Y,Y,Y,Y,Y,Y,Y,Y,Y,Y,Y,Y,Y,Y,Y,Y,Y,Y,Y,J,J] rfl rfl (any_of HT_.out z11_4) (λ_ _ _ h=>h) (Or.inl ⟨(by rfl),?_⟩) ?_ ?_
  rotate_left
  ·intro w'
   go_simp
   with_reducible rfl
  rotate_left
  ·exact z11_0
  refine pure_ (i:=30) (N:=some 34) (v:=?_) (a':=?_) #[Y,Y,Y,Y,Y,Y,Y,Y,Y,Y,Y,Y,Y,Y,Y,Y,Y,Y,Y,Y,Y,Y,Y,Y,Y,Y,Y,Y,Y,Y,Y,J] rfl rfl (any_of HT_.out z11_4) (λ_ _ _ h=>h) (Or.inl ⟨(by rfl),?_⟩) ?_ ?_
  rotate_left
  ·intro w'
   go_simp
   with_reducible rfl
  rotate_left
  ·exact z11_0
  refine pure_ (i:=31) (N:=some 35) (v:=?_) (a':=?_) #[Y,Y,Y,Y,Y,Y,Y,Y,Y,Y,Y,Y,Y,Y,Y,Y,Y,Y,Y,Y,Y,Y,Y,Y,Y,Y,Y,Y,Y,Y,Y,Y] rfl rfl (any_of HT_.out z11_4) (λ_ _ _ h=>h) (Or.inl ⟨(by rfl),?_⟩) ?_ ?_
  rotate_left
  ·intro w'
   go_simp
   with_reducible rfl
  rotate_left
  ·exact z11_0
  refine done_ (done_of HT_.out z11_4) ?_
  try go_wp2
  go_meet
  case rel=>exact ⟨_,(((wrap64 (t239+1)) != a0_1)),z9_3,H',⟨(by first|omega|exact Nat.le_refl _)⟩,⟨z11_3⟩,⟨z11_1⟩⟩
 case rest =>
 clear HC2
 try clear p2
 try clear c4
 try clear c5
 try clear c7
 obtain ⟨kq,x35_1,rfl,HA,HJ1,BK232,HB⟩:=hcut
 cases kq with
 | zero=>exact absurd HA.out (by simp [r05_May.j0])
 | succ kj1 =>
 have H:=HA.out
 clear HA
 simp only [r05_May.j0] at H
 by_cases c24:x35_1=true
 ·subst c24
  have H1:(some false)=some r:=by rw [if_pos rfl] at H;exact H
  clear H
  have H:=H1
  clear H1
  obtain rfl:=sI_ H
  go_wp2
  go_ret
  exact ⟨z9_2,z11_1⟩
 replace c24:=Bool.eq_false_iff.mpr c24
 subst c24
 have H1:(r05_May.l0 kj1 0 a0_0 a0_1 l0_2 l0_3)=some r:=by rw [if_neg (show ¬ (false=true) by decide)] at H;exact H
 clear H
 have H:=H1
 clear H1
 have H':=Aside0.mk H
 clear H
 go_wp2
 go_loopg [3] kj1 (λkq v3 w'=>∃ (x3_2:Int),v3 = .int .i64 x3_2/\Aside0 (r05_May.l0 kq x3_2 a0_0 a0_1 l0_2 l0_3=some r)/\Aside0 (kq<=kj1)/\Aside0 (w'.heap[gb232]? = some (.cells #[.int .i64 a0_0,.int .i64 a0_1,(.slice A0_2 l0_2.length c0_2),(.slice A0_3 l0_3.length c0_3)] 30 (0,0)))/\Aside0 (Below w.heap.size w w'))
 case atStart=>exact ⟨(0),z9_3,H',⟨Nat.le_refl _⟩,⟨z11_3⟩,⟨z11_1⟩⟩
 case round =>
 clear H'
 try clear c2
 try clear p2
 try clear c4
 try clear c5
 try clear c7
 try clear c24
 try clear p2
 obtain ⟨x3_2,rfl,HA,HK2,BK232,HB⟩:=hrel
 cases gk with
 | zero=>exact absurd HA.out (by simp [r05_May.l0])
 | succ k2 =>
 have H:=HA.out
 clear HA
 simp only [r05_May.l0] at H
 by_cases c25:x3_2<(l0_3.length:Int)
 rotate_left
 ·rw [if_neg c25] at H
  have c25b0:decide (x3_2<(l0_3.length:Int))=false:=dF_ c25
  clear c25
  by_cases c33:(l0_3.length:Int)>=1
  ·rw [if_pos c33] at H
   have c33b0:decide (1<=(l0_3.length:Int))=true:=dT_ c33
   have c33b1:decide (1<=l0_3.length)=true:=dT_ (by omega)
   clear c33
   obtain rfl:=sI_ H
   obtain ⟨hcz34_0,hcz34_1,hcz34_2,hcz34_3,hfz34_0,hfz34_1,hfz34_2,hfz34_3⟩:=cz4_ BK232.out
   go_wp2
   go_ret
   exact ⟨z9_2,z11_1⟩
  rw [if_neg c33] at H
  have c33b0:decide (1<=(l0_3.length:Int))=false:=dF_ c33
  have c33b1:decide (1<=l0_3.length)=false:=dF_ (by omega)
  clear c33
  obtain rfl:=sI_ H
  obtain ⟨hcz35_0,hcz35_1,hcz35_2,hcz35_3,hfz35_0,hfz35_1,hfz35_2,hfz35_3⟩:=cz4_ BK232.out
  go_wp2
  go_ret
  exact ⟨z9_2,z11_1⟩
 rw [if_pos c25] at H
 have c25b0:decide (x3_2<(l0_3.length:Int))=true:=dT_ c25
 clear c25
 by_cases c26:0<=x3_2
 rotate_left
 ·rw [if_neg c26] at H
  exact absurd H (by simp)
 rw [if_pos c26] at H
 have c26b0:decide (0<=x3_2)=true:=dT_ c26
 clear c26
 replace H:=oB_ H
 obtain ⟨t241,A270,H⟩:=H
 replace H:(if t241=true then(r05_May.l0 k2 (wrap64 (x3_2+1)) a0_0 a0_1 l0_2 l0_3) else(some false))=some r:=H
 have A27:=Aside0.mk A270
 clear A270
 by_cases c28:t241=true
 rotate_left
 ·replace c28:=Bool.eq_false_iff.mpr c28
  subst c28
  have H1:(some false)=some r:=by rw [if_neg (show ¬ (false=true) by decide)] at H;exact H
  clear H
  have H:=H1
  clear H1
  obtain rfl:=sI_ H
  obtain ⟨hcz31_0,hcz31_1,hcz31_2,hcz31_3,hfz31_0,hfz31_1,hfz31_2,hfz31_3⟩:=cz4_ BK232.out
  have p240:0<=(x3_2:Int):=oD_ z10_1
  have q240:x3_2<(l0_3.length:Int):=oD_ z10_1
  obtain ⟨ad240,e240,hx240_0,hx240_1,hx240_2,hx240_3,hx240_4,hx240_5⟩:=at_T48 HR0_3.out x3_2 p240 q240
  cases e240
  replace hx240_0:=(HB.out.cell (World.block_lt_of_cell? w _ hx240_0)).trans hx240_0
  replace hx240_1:=(HB.out.cell (World.block_lt_of_cell? w _ hx240_1)).trans hx240_1
  replace hx240_2:=(HB.out.cell (World.block_lt_of_cell? w _ hx240_2)).trans hx240_2
  replace hx240_3:=(HB.out.cell (World.block_lt_of_cell? w _ hx240_3)).trans hx240_3
  replace hx240_4:=(HB.out.cell (World.block_lt_of_cell? w _ hx240_4)).trans hx240_4
  replace hx240_5:=(HB.out.cell (World.block_lt_of_cell? w _ hx240_5)).trans hx240_5
  replace p240:=eq_true p240
  replace q240:=eq_true q240
  go_wp2_with (first|((with_reducible refine gate_callee (f:=25) rfl ?_);refine goesL_ (some 48) rfl rfl Try.func25 z11_4 rfl #[.agg #[.int .i64 ((rd_T48 l0_3 x3_2).f0),.int .i64 ((rd_T48 l0_3 x3_2).f1),.string ((rd_T48 l0_3 x3_2).f2),.int .i64 ((rd_T48 l0_3 x3_2).f3),.int .i64 ((rd_T48 l0_3 x3_2).f4),.string ((rd_T48 l0_3 x3_2).f5)]] rfl z10_2 ?_;(with_reducible refine(r05_MayEffect.calls k2 ((rd_T48 l0_3 x3_2).f0) ((rd_T48 l0_3 x3_2).f1) ((rd_T48 l0_3 x3_2).f2) ((rd_T48 l0_3 x3_2).f3) ((rd_T48 l0_3 x3_2).f4) ((rd_T48 l0_3 x3_2).f5) false _ A27.out).mono ?_);rintro e w32 ⟨rfl,hb⟩;refine ⟨_,rfl,?_⟩;replace BK232:=U (blk_below (g:=gb232) (o:=.cells #[.int .i64 a0_0,.int .i64 a0_1,.slice A0_2 l0_2.length c0_2,.slice (some ad240) l0_3.length c0_3] 30 (0,0)) z11_3 hb);replace HB:=U (below_step z11_1 hb);(try clear hb);(try clear hb2);(try clear hk);(try clear hi)))
  go_ret
  exact ⟨z9_2,z11_1⟩
 subst c28
 have H1:(r05_May.l0 k2 (wrap64 (x3_2+1)) a0_0 a0_1 l0_2 l0_3)=some r:=by rw [if_pos rfl] at H;exact H
 clear H
 have H:=H1
 clear H1
 have H':=Aside0.mk H
 clear H
 obtain ⟨hcz29_0,hcz29_1,hcz29_2,hcz29_3,hfz29_0,hfz29_1,hfz29_2,hfz29_3⟩:=cz4_ BK232.out
 have p240:0<=(x3_2:Int):=oD_ z10_1
 have q240:x3_2<(l0_3.length:Int):=oD_ z10_1
 obtain ⟨ad240,e240,hx240_0,hx240_1,hx240_2,hx240_3,hx240_4,hx240_5⟩:=at_T48 HR0_3.out x3_2 p240 q240
 cases e240
 replace hx240_0:=(HB.out.cell (World.block_lt_of_cell? w _ hx240_0)).trans hx240_0
 replace hx240_1:=(HB.out.cell (World.block_lt_of_cell? w _ hx240_1)).trans hx240_1
 replace hx240_2:=(HB.out.cell (World.block_lt_of_cell? w _ hx240_2)).trans hx240_2
 replace hx240_3:=(HB.out.cell (World.block_lt_of_cell? w _ hx240_3)).trans hx240_3
 replace hx240_4:=(HB.out.cell (World.block_lt_of_cell? w _ hx240_4)).trans hx240_4
 replace hx240_5:=(HB.out.cell (World.block_lt_of_cell? w _ hx240_5)).trans hx240_5
 replace p240:=eq_true p240
 replace q240:=eq_true q240
 go_wp2_with (first|((with_reducible refine gate_callee (f:=25) rfl ?_);refine goesL_ (some 48) rfl rfl Try.func25 z11_4 rfl #[.agg #[.int .i64 ((rd_T48 l0_3 x3_2).f0),.int .i64 ((rd_T48 l0_3 x3_2).f1),.string ((rd_T48 l0_3 x3_2).f2),.int .i64 ((rd_T48 l0_3 x3_2).f3),.int .i64 ((rd_T48 l0_3 x3_2).f4),.string ((rd_T48 l0_3 x3_2).f5)]] rfl z10_2 ?_;(with_reducible refine(r05_MayEffect.calls k2 ((rd_T48 l0_3 x3_2).f0) ((rd_T48 l0_3 x3_2).f1) ((rd_T48 l0_3 x3_2).f2) ((rd_T48 l0_3 x3_2).f3) ((rd_T48 l0_3 x3_2).f4) ((rd_T48 l0_3 x3_2).f5) true _ A27.out).mono ?_);rintro e w30 ⟨rfl,hb⟩;refine ⟨_,rfl,?_⟩;replace BK232:=U (blk_below (g:=gb232) (o:=.cells #[.int .i64 a0_0,.int .i64 a0_1,.slice A0_2 l0_2.length c0_2,.slice (some ad240) l0_3.length c0_3] 30 (0,0)) z11_3 hb);replace HB:=U (below_step z11_1 hb);(try clear hb);(try clear hb2);(try clear hk);(try clear hi)))
 go_roundg k2
 case measure=>have:=HJ1.out;have:=HK2.out;omega
 case rel=>exact ⟨(wrap64 (x3_2+1)),z9_3,H',⟨(by have:=HJ1.out;have:=HK2.out;omega)⟩,⟨z11_3⟩,⟨z11_1⟩⟩
end Go.Proofs.Ytgocnchjpecafaa.PEv
