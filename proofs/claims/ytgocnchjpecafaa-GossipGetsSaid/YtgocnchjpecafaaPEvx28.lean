/- a part -/
import Derived.Test.YtgocnchjpecafaaPEvx11
namespace Go.Proofs.Ytgocnchjpecafaa.PEv
open Go.RowKit Go.Proofs.YtgocnchjpecafaaW.PrintWords Go.Proofs.YtgocnchjpecafaaW.PrintLast Go.Proofs.YtgocnchjpecafaaW.PrintMore
attribute [local go_sem] max2_int min2_int max_two min_two max_three min_three max_four min_four
set_option linter.unusedVariables false
set_option linter.unusedSimpArgs false
set_option maxHeartbeats 8000000
set_option maxRecDepth 100000
theorem z28_1 {P:Prop} (h:P:=by repeat(first|(with_reducible first|exact HB.out|apply below_alloc|apply pw_below_drewN|apply below_drew1|refine below_set ?_ GE575.out)|exact HB.out)):P:=h
theorem z28_3 {P:Prop} (h:P:=by repeat(first|exact(Kd.C_below HR0_0.out HB.out)|(with_reducible refine Kd.C_alloc ?_ _)|(with_reducible refine Kd.C_drewN ?_ _)|(with_reducible refine Kd.C_drew ?_))):P:=h
theorem z28_4 {P:Prop} (h:P:=by(with_reducible repeat(first|refine blk_drewN ?_ _|refine blk_drew ?_|refine blk_alloc ?_ _));exact BK575.out):P:=h
theorem z28_9 {P:Prop} (h:P:=by repeat(first|exact(Kd.C_below HR576_2.out HB.out)|(with_reducible refine Kd.C_alloc ?_ _)|(with_reducible refine Kd.C_drewN ?_ _)|(with_reducible refine Kd.C_drew ?_))):P:=h
theorem z28_10 {P:Prop} (h:P:=by repeat(first|exact(Kd.C_below HR576_3.out HB.out)|(with_reducible refine Kd.C_alloc ?_ _)|(with_reducible refine Kd.C_drewN ?_ _)|(with_reducible refine Kd.C_drew ?_))):P:=h
theorem z28_11 {P:Prop} (h:P:=by repeat(first|exact(Kd.C_below HR0_0.out z28_1)|(with_reducible refine Kd.C_alloc ?_ _)|(with_reducible refine Kd.C_drewN ?_ _)|(with_reducible refine Kd.C_drew ?_))):P:=h
theorem z28_12 {P:Prop} (h:P:=by repeat(first|exact(Kd.R_reads' HO581.out).2.2|(with_reducible refine Kd.C_alloc ?_ _)|(with_reducible refine Kd.C_drewN ?_ _)|(with_reducible refine Kd.C_drew ?_))):P:=h
theorem z28_13 {P:Prop} (h:P:=by show Act.put _ (some 24) _=_;simp only [Act.put,List.setIfInBounds_toArray,List.set_cons_zero,List.set_cons_succ,i64_w,i32_w];rfl):P:=h
theorem z28_14 {P:Prop} (h:P:=by show Act.put _ (some 27) _=_;simp only [Act.put,List.setIfInBounds_toArray,List.set_cons_zero,List.set_cons_succ,i64_w,i32_w];rfl):P:=h
def r28_May.l0:Nat->Int->List Int->Bool->List (S30)->Option (Bool)
 | 0,_,_,_,_=>none
 | k+1,x3,x576000,x576001,x576002=>if x3<(x576002.length:Int) then(if 0<=x3 then((r05_May.f k ((rd_T30 x576002 x3).f0.f0) ((rd_T30 x576002 x3).f0.f1) ((rd_T30 x576002 x3).f1) ((rd_T30 x576002 x3).f2)).bind λt577=>(if t577=true then(r28_May.l0 k (wrap64 (x3+1)) x576000 x576001 x576002) else(some false))) else(none)) else((r03_May.f k x576000).bind λt578=>(if t578=true then((r03_Plain.f k x576000).bind λt579=>((r03_Same.f k t579 x576000).bind λt582=>(if t582=true then(some (decide ((x576002.length:Int)<=16))) else(some false)))) else(some false)))
def r28_May.f (k:Nat) (l0_0:List Int) (a0_1:Bool) (l0_2:List (S30)):Option (Bool):=r28_May.l0 k 0 l0_0 a0_1 l0_2
def r28_May.T6:Bool×List (List Nat×List Nat):=(true,[([],[]),([0],[0]),([1],[1]),([2,2],[2]),([3],[3]),([4,3],[3,4]),([5,3,3],[3,5]),([3],[3]),([7,3],[3,7]),([6,8,6,3],[3,6,8]),([3,9],[3,9]),([10,9],[10]),([11],[11]),([12,11],[11,12]),([13,11],[11,13]),([14,11],[11,14]),([11,15],[11,15]),([16,11,0,1,2,3,4,5,6,7,8,9,10,11,12,13,14,15,16],[16])])
def r28_May.B6:List Nat:=[0,1,3,7,15,31,63,15,143,511,1023,2047,4095,8191,16383,32767,65535,131071]
theorem r28_May.tab6:rtab .any (opsOf Try.f45 6)=r28_May.T6:=by kernel_rfl
theorem r28_May.bits6:waitsOk r28_May.T6.2 r28_May.B6=true:=by kernel_rfl
theorem r28_May.calls (k:Nat) (A0_0:Option Addr) (c0_0:Nat) (l0_0:List Int) (a0_1:Bool) (A0_2:Option Addr) (c0_2:Nat) (l0_2:List (S30)) (r:Bool) (w:World) (hr0_0:Kd.C (Kd.int .i64) w A0_0 l0_0.length l0_0) (hc0_0:l0_0.length<=c0_0) (hr0_2:Kd.C k30 w A0_2 l0_2.length l0_2) (hc0_2:l0_2.length<=c0_2) (h:r28_May.f k l0_0 a0_1 l0_2=some r) :
  Calls Try.prog 45 #[.agg #[.slice A0_0 l0_0.length c0_0,.bool a0_1,.slice A0_2 l0_2.length c0_2]] w λe w'=>e = .returned (.bool r)/\Below w.heap.size w w':=by
 have hu53:=Try.underlying53
 have hu30:=Try.underlying30
 have HR0_0:=Aside0.mk hr0_0
 have HC0_0:=Aside0.mk hc0_0
 clear hr0_0 hc0_0
 have HR0_2:=Aside0.mk hr0_2
 have HC0_2:=Aside0.mk hc0_2
 clear hr0_2 hc0_2
 have HB:=U (Below.refl w.heap.size w)
 have H:(r28_May.l0 k 0 l0_0 a0_1 l0_2)=some r:=h
 clear h
 have H':=Aside0.mk H
 clear H
 go_enter Try.func45,Try.ntmps45
 go_wp2_with (first|((with_reducible refine gate_dst (N:=1) rfl ?_);(try(refine gate_guard (by rfl) ?_;dsimp only));refine box_event ?hg (N:=1) ?hd (cs:=#[.slice A0_0 l0_0.length c0_0,.bool a0_1,.slice A0_2 l0_2.length c0_2]) (t:=53) ?hr ?_;(case hd=>rfl);(case hg=>rfl);(case hr=>first|(go_simp;done)|(go_simp;rfl));intro gb575 hg w2 hbox hb;have BK575:=U (hbox);have GW575:=U ((by rw [hg];exact(below_size z9_4):w.heap.size<=gb575));have GE575:=U ((by rw [hg];exact(below_size z9_4):w.heap.size<=gb575));replace HB:=U (below_step z9_4 hb);clear hb hbox hg))
 go_loopg [3] k (λkq v3 w'=>∃ (x3_1:Int),v3 = .int .i64 x3_1/\Aside0 (r28_May.l0 kq x3_1 l0_0 a0_1 l0_2=some r)/\Aside0 (kq<=k)/\Aside0 (w'.heap[gb575]? = some (.cells #[(.slice A0_0 l0_0.length c0_0),.bool a0_1,(.slice A0_2 l0_2.length c0_2)] 53 (0,0)))/\Aside0 (Below w.heap.size w w'))
 case atStart=>exact ⟨(0),(by first|rfl|(simp;done)|(simp [*];done)),H',⟨Nat.le_refl _⟩,⟨z28_4⟩,⟨z28_1⟩⟩
 case round =>
 clear H'
 try clear p2
 obtain ⟨x3_1,rfl,HA,HK1,BK575,HB⟩:=hrel
 cases gk with
 | zero=>exact absurd HA.out (by simp [r28_May.l0])
 | succ k1 =>
 have H:=HA.out
 clear HA
 simp only [r28_May.l0] at H
 by_cases c3:x3_1<(l0_2.length:Int)
 ·rw [if_pos c3] at H
  have c3b0:decide (x3_1<(l0_2.length:Int))=true:=dT_ c3
  clear c3
  by_cases c4:0<=x3_1
  rotate_left
  ·rw [if_neg c4] at H
   exact absurd H (by simp)
  rw [if_pos c4] at H
  have c4b0:decide (0<=x3_1)=true:=dT_ c4
  clear c4
  replace H:=oB_ H
  obtain ⟨t577,A50,H⟩:=H
  replace H:(if t577=true then(r28_May.l0 k1 (wrap64 (x3_1+1)) l0_0 a0_1 l0_2) else(some false))=some r:=H
  have A5:=Aside0.mk A50
  clear A50
  by_cases c6:t577=true
  rotate_left
  ·replace c6:=Bool.eq_false_iff.mpr c6
   subst c6
   have H1:(some false)=some r:=by rw [if_neg (show ¬ (false=true) by decide)] at H;exact H
   clear H
   have H:=H1
   clear H1
   obtain rfl:=sI_ H
   obtain ⟨hcz9_0,hcz9_1,hcz9_2,hfz9_0,hfz9_1,hfz9_2⟩:=cz3_ BK575.out
   have p576:0<=(x3_1:Int):=oD_ z10_1
   have q576:x3_1<(l0_2.length:Int):=oD_ z10_1
   obtain ⟨ad576,A576_2,c576_2,A576_3,c576_3,e576,hx576_0,hx576_1,hx576_2,hx576_3,hl576_2,hi576_2,hl576_3,hi576_3⟩:=at_T30 HR0_2.out x3_1 p576 q576
   cases e576
   replace hx576_0:=(HB.out.cell (World.block_lt_of_cell? w _ hx576_0)).trans hx576_0
   replace hx576_1:=(HB.out.cell (World.block_lt_of_cell? w _ hx576_1)).trans hx576_1
   replace hx576_2:=(HB.out.cell (World.block_lt_of_cell? w _ hx576_2)).trans hx576_2
   replace hx576_3:=(HB.out.cell (World.block_lt_of_cell? w _ hx576_3)).trans hx576_3
   have HR576_2:=Aside0.mk hi576_2
   have HC576_2:=Aside0.mk hl576_2
   clear hi576_2 hl576_2
   have HR576_3:=Aside0.mk hi576_3
   have HC576_3:=Aside0.mk hl576_3
   clear hi576_3 hl576_3
   replace p576:=eq_true p576
   replace q576:=eq_true q576
   go_wp2_with (first|((with_reducible refine gate_callee (f:=17) rfl ?_);refine goesL_ (some 16) rfl rfl Try.func17 z11_4 rfl #[.agg #[.int .i64 ((rd_T30 l0_2 x3_1).f0.f0),.int .i64 ((rd_T30 l0_2 x3_1).f0.f1),.slice A576_2 ((rd_T30 l0_2 x3_1).f1).length c576_2,.slice A576_3 ((rd_T30 l0_2 x3_1).f2).length c576_3]] rfl z10_2 ?_;(with_reducible refine(r05_May.calls k1 ((rd_T30 l0_2 x3_1).f0.f0) ((rd_T30 l0_2 x3_1).f0.f1) _ _ ((rd_T30 l0_2 x3_1).f1) _ _ ((rd_T30 l0_2 x3_1).f2) false _ ?side1 ?side2 ?side3 ?side4 A5.out).mono ?_);(case side1=>exact z28_9);(case side2=>exact HC576_2.out);(case side3=>exact z28_10);(case side4=>exact HC576_3.out);rintro e w10 ⟨rfl,hb⟩;refine ⟨_,rfl,?_⟩;replace BK575:=U (blk_below (g:=gb575) (o:=.cells #[.slice A0_0 l0_0.length c0_0,.bool a0_1,.slice (some ad576) l0_2.length c0_2] 53 (0,0)) z28_4 hb);replace HB:=U (below_step z28_1 hb);(try clear hb);(try clear hb2);(try clear hk);(try clear hi)))
   go_ret
   exact ⟨z9_2,z28_1⟩
  subst c6
  have H1:(r28_May.l0 k1 (wrap64 (x3_1+1)) l0_0 a0_1 l0_2)=some r:=by rw [if_pos rfl] at H;exact H
  clear H
  have H:=H1
  clear H1
  have H':=Aside0.mk H
  clear H
  obtain ⟨hcz7_0,hcz7_1,hcz7_2,hfz7_0,hfz7_1,hfz7_2⟩:=cz3_ BK575.out
  have p576:0<=(x3_1:Int):=oD_ z10_1
  have q576:x3_1<(l0_2.length:Int):=oD_ z10_1
  obtain ⟨ad576,A576_2,c576_2,A576_3,c576_3,e576,hx576_0,hx576_1,hx576_2,hx576_3,hl576_2,hi576_2,hl576_3,hi576_3⟩:=at_T30 HR0_2.out x3_1 p576 q576
  cases e576
  replace hx576_0:=(HB.out.cell (World.block_lt_of_cell? w _ hx576_0)).trans hx576_0
  replace hx576_1:=(HB.out.cell (World.block_lt_of_cell? w _ hx576_1)).trans hx576_1
  replace hx576_2:=(HB.out.cell (World.block_lt_of_cell? w _ hx576_2)).trans hx576_2
  replace hx576_3:=(HB.out.cell (World.block_lt_of_cell? w _ hx576_3)).trans hx576_3
  have HR576_2:=Aside0.mk hi576_2
  have HC576_2:=Aside0.mk hl576_2
  clear hi576_2 hl576_2
  have HR576_3:=Aside0.mk hi576_3
  have HC576_3:=Aside0.mk hl576_3
  clear hi576_3 hl576_3
  replace p576:=eq_true p576
  replace q576:=eq_true q576
  go_wp2_with (first|((with_reducible refine gate_callee (f:=17) rfl ?_);refine goesL_ (some 16) rfl rfl Try.func17 z11_4 rfl #[.agg #[.int .i64 ((rd_T30 l0_2 x3_1).f0.f0),.int .i64 ((rd_T30 l0_2 x3_1).f0.f1),.slice A576_2 ((rd_T30 l0_2 x3_1).f1).length c576_2,.slice A576_3 ((rd_T30 l0_2 x3_1).f2).length c576_3]] rfl z10_2 ?_;(with_reducible refine(r05_May.calls k1 ((rd_T30 l0_2 x3_1).f0.f0) ((rd_T30 l0_2 x3_1).f0.f1) _ _ ((rd_T30 l0_2 x3_1).f1) _ _ ((rd_T30 l0_2 x3_1).f2) true _ ?side1 ?side2 ?side3 ?side4 A5.out).mono ?_);(case side1=>exact z28_9);(case side2=>exact HC576_2.out);(case side3=>exact z28_10);(case side4=>exact HC576_3.out);rintro e w8 ⟨rfl,hb⟩;refine ⟨_,rfl,?_⟩;replace BK575:=U (blk_below (g:=gb575) (o:=.cells #[.slice A0_0 l0_0.length c0_0,.bool a0_1,.slice (some ad576) l0_2.length c0_2] 53 (0,0)) z28_4 hb);replace HB:=U (below_step z28_1 hb);(try clear hb);(try clear hb2);(try clear hk);(try clear hi)))
  go_roundg k1
  case measure=>have:=HK1.out;omega
  case rel=>exact ⟨(wrap64 (x3_1+1)),(by first|rfl|(simp;done)|(simp [*];done)),H',⟨(by have:=HK1.out;omega)⟩,⟨z28_4⟩,⟨z28_1⟩⟩
 rw [if_neg c3] at H
 have c3b0:decide (x3_1<(l0_2.length:Int))=false:=dF_ c3
 clear c3
 replace H:=oB_ H
 obtain ⟨t578,A110,H⟩:=H
 replace H:(if t578=true then((r03_Plain.f k1 l0_0).bind λt579=>((r03_Same.f k1 t579 l0_0).bind λt582=>(if t582=true then(some (decide ((l0_2.length:Int)<=16))) else(some false)))) else(some false))=some r:=H
 have A11:=Aside0.mk A110
 clear A110
 by_cases c12:t578=true
 rotate_left
 ·replace c12:=Bool.eq_false_iff.mpr c12
  subst c12
  have H1:(some false)=some r:=by rw [if_neg (show ¬ (false=true) by decide)] at H;exact H
  clear H
  have H:=H1
  clear H1
  obtain rfl:=sI_ H
  obtain ⟨hcz24_0,hcz24_1,hcz24_2,hfz24_0,hfz24_1,hfz24_2⟩:=cz3_ BK575.out
  try go_wp2
  have n0_:=U (blk_drew BK575.out)
  have n1_:=U (below_drew1 HB.out)
  clear BK575
  clear HB
  have BK575:=n0_
  have HB:=n1_
  clear n0_ n1_
  refine start_ (n:=18) (S:=λw'=>w'.cell? ⟨gb575,0,none⟩=some (.slice A0_0 l0_0.length c0_0)/\w'.cell? ⟨gb575,1,none⟩=some (.bool a0_1)/\w'.cell? ⟨gb575,2,none⟩=some (.slice A0_2 l0_2.length c0_2)) (ds:=[]) #[J,J,J,J,J,J,J,J,J,J,J,J,J,J,J,J,J,J] z11_4 rfl rfl ⟨(blk_cell BK575.out 0).trans rfl,(blk_cell BK575.out 1).trans rfl,(blk_cell BK575.out 2).trans rfl⟩ (λhHeld=>?_);refine with_tabW r28_May.tab6 r28_May.bits6 (λHT_ HW_=>?_)
  generalize wr.drew=w25 at BK575 HB hHeld ⊢
  refine pure_ (i:=0) (N:=some 18) (v:=?_) (a':=?_) #[Y,J,J,J,J,J,J,J,J,J,J,J,J,J,J,J,J,J] rfl rfl (any_of HT_.out z11_4) (λ_ _ _ h=>h) (Or.inl ⟨(by rfl),?_⟩) ?_ ?_
  rotate_left
  ·intro w'
   go_simp
   with_reducible rfl
  rotate_left
  ·exact z11_0
  refine take_ (i:=1) (N:=some 19) (v:=?_) (a':=?_) #[Y,Y,J,J,J,J,J,J,J,J,J,J,J,J,J,J,J,J] rfl rfl (take_ofW HT_.out HW_.out z11_4) (λ_ _ _ h=>h) (Or.inl ⟨(by rfl),?_⟩) hHeld ?_ ?_
  rotate_left
  ·rintro w' ⟨s0,s1,s2⟩
   go_simp
   with_reducible rfl
  rotate_left
  ·exact z11_0
  refine one_ (i:=2) (N:=some 20) #[Y,Y,Y,J,J,J,J,J,J,J,J,J,J,J,J,J,J,J] rfl rfl (one_of HT_.out z11_4) (by decide) (λK hK=>?_)
  refine goes_ Try.func43 z11_4 rfl #[.slice A0_0 l0_0.length c0_0] (by rfl) rfl rfl z10_2 ?_
  with_reducible refine(r03_May.calls k1 _ _ l0_0 false _ ?side1 ?side2 A11.out).mono ?_
  (case side1=>exact z28_3)
  (case side2=>exact HC0_0.out)
  rintro e w' ⟨rfl,⟨nd,rfl⟩⟩
  refine ⟨_,rfl,?_⟩
  refine hK.out _ _ ⟨(blk_cell BK575.out 0).trans rfl,(blk_cell BK575.out 1).trans rfl,(blk_cell BK575.out 2).trans rfl⟩ (λhHeld=>?_)
  clear hK K
  refine norm_ (a':=?_) ?_ ?_
  rotate_left
  ·exact z11_14
  refine pure_ (i:=3) (N:=some 21) (v:=?_) (a':=?_) #[Y,Y,Y,Y,J,J,J,J,J,J,J,J,J,J,J,J,J,J] rfl rfl (any_of HT_.out z11_4) (λ_ _ _ h=>h) (Or.inl ⟨(by rfl),?_⟩) ?_ ?_
  rotate_left
  ·intro w'
   go_simp
   with_reducible rfl
  rotate_left
  ·exact z11_0
  refine pure_ (i:=4) (N:=some 22) (v:=undef) (a':=?_) #[Y,Y,Y,Y,Y,J,J,J,J,J,J,J,J,J,J,J,J,J] rfl rfl (any_of HT_.out z11_4) (λ_ _ _ h=>h) (Or.inr ⟨(by rfl),rfl⟩) ?_ ?_
  rotate_left
  ·exact z11_0
  refine pure_ (i:=5) (N:=some 23) (v:=undef) (a':=?_) #[Y,Y,Y,Y,Y,Y,J,J,J,J,J,J,J,J,J,J,J,J] rfl rfl (any_of HT_.out z11_4) (λ_ _ _ h=>h) (Or.inr ⟨(by rfl),rfl⟩) ?_ ?_
  rotate_left
  ·exact z11_0
  refine pure_ (i:=6) (N:=some 24) (v:=undef) (a':=?_) #[Y,Y,Y,Y,Y,Y,Y,J,J,J,J,J,J,J,J,J,J,J] rfl rfl (any_of HT_.out z11_4) (λ_ _ _ h=>h) (Or.inr ⟨(by rfl),rfl⟩) ?_ ?_
  rotate_left
  ·exact z11_0
  refine pure_ (i:=7) (N:=some 25) (v:=undef) (a':=?_) #[Y,Y,Y,Y,Y,Y,Y,Y,J,J,J,J,J,J,J,J,J,J] rfl rfl (any_of HT_.out z11_4) (λ_ _ _ h=>h) (Or.inr ⟨(by rfl),rfl⟩) ?_ ?_
  rotate_left
  ·exact z11_0
  refine pure_ (i:=8) (N:=some 26) (v:=undef) (a':=?_) #[Y,Y,Y,Y,Y,Y,Y,Y,Y,J,J,J,J,J,J,J,J,J] rfl rfl (any_of HT_.out z11_4) (λ_ _ _ h=>h) (Or.inr ⟨(by rfl),rfl⟩) ?_ ?_
  rotate_left
  ·exact z11_0
  refine pure_ (i:=9) (N:=some 27) (v:=undef) (a':=?_) #[Y,Y,Y,Y,Y,Y,Y,Y,Y,Y,J,J,J,J,J,J,J,J] rfl rfl (any_of HT_.out z11_4) (λ_ _ _ h=>h) (Or.inr ⟨(by rfl),rfl⟩) ?_ ?_
  rotate_left
  ·exact z11_0
  refine pure_ (i:=10) (N:=some 28) (v:=?_) (a':=?_) #[Y,Y,Y,Y,Y,Y,Y,Y,Y,Y,Y,J,J,J,J,J,J,J] rfl rfl (any_of HT_.out z11_4) (λ_ _ _ h=>h) (Or.inl ⟨(by rfl),?_⟩) ?_ ?_
  rotate_left
  ·intro w'
   go_simp
   with_reducible rfl
  rotate_left
  ·exact z11_0
  refine pure_ (i:=11) (N:=some 29) (v:=?_) (a':=?_) #[Y,Y,Y,Y,Y,Y,Y,Y,Y,Y,Y,Y,J,J,J,J,J,J] rfl rfl (any_of HT_.out z11_4) (λ_ _ _ h=>h) (Or.inl ⟨(by rfl),?_⟩) ?_ ?_
  rotate_left
  ·intro w'
   go_simp
   with_reducible rfl
  rotate_left
  ·exact z11_0
  refine pure_ (i:=12) (N:=some 30) (v:=undef) (a':=?_) #[Y,Y,Y,Y,Y,Y,Y,Y,Y,Y,Y,Y,Y,J,J,J,J,J] rfl rfl (any_of HT_.out z11_4) (λ_ _ _ h=>h) (Or.inr ⟨(by rfl),rfl⟩) ?_ ?_
  rotate_left
  ·exact z11_0
  refine pure_ (i:=13) (N:=some 31) (v:=undef) (a':=?_) #[Y,Y,Y,Y,Y,Y,Y,Y,Y,Y,Y,Y,Y,Y,J,J,J,J] rfl rfl (any_of HT_.out z11_4) (λ_ _ _ h=>h) (Or.inr ⟨(by rfl),rfl⟩) ?_ ?_
  rotate_left
  ·exact z11_0
  refine pure_ (i:=14) (N:=some 32) (v:=undef) (a':=?_) #[Y,Y,Y,Y,Y,Y,Y,Y,Y,Y,Y,Y,Y,Y,Y,J,J,J] rfl rfl (any_of HT_.out z11_4) (λ_ _ _ h=>h) (Or.inr ⟨(by rfl),rfl⟩) ?_ ?_
  rotate_left
  ·exact z11_0
  refine pure_ (i:=15) (N:=some 33) (v:=undef) (a':=?_) #[Y,Y,Y,Y,Y,Y,Y,Y,Y,Y,Y,Y,Y,Y,Y,Y,J,J] rfl rfl (any_of HT_.out z11_4) (λ_ _ _ h=>h) (Or.inr ⟨(by rfl),rfl⟩) ?_ ?_
  rotate_left
  ·exact z11_0
  refine pure_ (i:=16) (N:=some 34) (v:=?_) (a':=?_) #[Y,Y,Y,Y,Y,Y,Y,Y,Y,Y,Y,Y,Y,Y,Y,Y,Y,J] rfl rfl (any_of HT_.out z11_4) (λ_ _ _ h=>h) (Or.inl ⟨(by rfl),?_⟩) ?_ ?_
  rotate_left
  ·intro w'
   go_simp
   with_reducible rfl
  rotate_left
  ·exact z11_0
  refine pure_ (i:=17) (N:=some 2) (v:=?_) (a':=?_) #[Y,Y,Y,Y,Y,Y,Y,Y,Y,Y,Y,Y,Y,Y,Y,Y,Y,Y] rfl rfl (any_of HT_.out z11_4) (λ_ _ _ h=>h) (Or.inl ⟨(by rfl),?_⟩) ?_ ?_
  rotate_left
  ·intro w'
   go_simp
   with_reducible rfl
  rotate_left
  ·exact z11_0
  refine done_ (done_of HT_.out z11_4) ?_
  try go_wp2
  go_ret
  exact ⟨z9_2,z28_1⟩
 subst c12
 have H1:((r03_Plain.f k1 l0_0).bind λt579=>((r03_Same.f k1 t579 l0_0).bind λt582=>(if t582=true then(some (decide ((l0_2.length:Int)<=16))) else(some false))))=some r:=by rw [if_pos rfl] at H;exact H
 clear H
 have H:=H1
 clear H1
 replace H:=oB_ H
 obtain ⟨t579,A130,H⟩:=H
 replace H:((r03_Same.f k1 t579 l0_0).bind λt582=>(if t582=true then(some (decide ((l0_2.length:Int)<=16))) else(some false)))=some r:=H
 have A13:=Aside0.mk A130
 clear A130
 replace H:=oB_ H
 obtain ⟨t582,A140,H⟩:=H
 replace H:(if t582=true then(some (decide ((l0_2.length:Int)<=16))) else(some false))=some r:=H
 have A14:=Aside0.mk A140
 clear A140
 by_cases c15:t582=true
 rotate_left
 ·replace c15:=Bool.eq_false_iff.mpr c15
  subst c15
  have H1:(some false)=some r:=by rw [if_neg (show ¬ (false=true) by decide)] at H;exact H
  clear H
  have H:=H1
  clear H1
  obtain rfl:=sI_ H
  obtain ⟨hcz20_0,hcz20_1,hcz20_2,hfz20_0,hfz20_1,hfz20_2⟩:=cz3_ BK575.out
  try go_wp2
  have n0_:=U (blk_drew BK575.out)
  have n1_:=U (below_drew1 HB.out)
  clear BK575
  clear HB
  have BK575:=n0_
  have HB:=n1_
  clear n0_ n1_
  refine start_ (n:=18) (S:=λw'=>w'.cell? ⟨gb575,0,none⟩=some (.slice A0_0 l0_0.length c0_0)/\w'.cell? ⟨gb575,1,none⟩=some (.bool a0_1)/\w'.cell? ⟨gb575,2,none⟩=some (.slice A0_2 l0_2.length c0_2)) (ds:=[]) #[J,J,J,J,J,J,J,J,J,J,J,J,J,J,J,J,J,J] z11_4 rfl rfl ⟨(blk_cell BK575.out 0).trans rfl,(blk_cell BK575.out 1).trans rfl,(blk_cell BK575.out 2).trans rfl⟩ (λhHeld=>?_);refine with_tabW r28_May.tab6 r28_May.bits6 (λHT_ HW_=>?_)
  generalize wr.drew=w21 at BK575 HB hHeld ⊢
  refine pure_ (i:=0) (N:=some 18) (v:=?_) (a':=?_) #[Y,J,J,J,J,J,J,J,J,J,J,J,J,J,J,J,J,J] rfl rfl (any_of HT_.out z11_4) (λ_ _ _ h=>h) (Or.inl ⟨(by rfl),?_⟩) ?_ ?_
  rotate_left
  ·intro w'
   go_simp
   with_reducible rfl
  rotate_left
  ·exact z11_0
  refine take_ (i:=1) (N:=some 19) (v:=?_) (a':=?_) #[Y,Y,J,J,J,J,J,J,J,J,J,J,J,J,J,J,J,J] rfl rfl (take_ofW HT_.out HW_.out z11_4) (λ_ _ _ h=>h) (Or.inl ⟨(by rfl),?_⟩) hHeld ?_ ?_
  rotate_left
  ·rintro w' ⟨s0,s1,s2⟩
   go_simp
   with_reducible rfl
  rotate_left
  ·exact z11_0
  refine one_ (i:=2) (N:=some 20) #[Y,Y,Y,J,J,J,J,J,J,J,J,J,J,J,J,J,J,J] rfl rfl (one_of HT_.out z11_4) (by decide) (λK hK=>?_)
  refine goes_ Try.func43 z11_4 rfl #[.slice A0_0 l0_0.length c0_0] (by rfl) rfl rfl z10_2 ?_
  with_reducible refine(r03_May.calls k1 _ _ l0_0 true _ ?side1 ?side2 A11.out).mono ?_
  (case side1=>exact z28_3)
  (case side2=>exact HC0_0.out)
  rintro e w' ⟨rfl,⟨nd,rfl⟩⟩
  refine ⟨_,rfl,?_⟩
  refine hK.out _ _ ⟨(blk_cell BK575.out 0).trans rfl,(blk_cell BK575.out 1).trans rfl,(blk_cell BK575.out 2).trans rfl⟩ (λhHeld=>?_)
  clear hK K
  refine norm_ (a':=?_) ?_ ?_
  rotate_left
  ·exact z11_14
  refine pure_ (i:=3) (N:=some 21) (v:=?_) (a':=?_) #[Y,Y,Y,Y,J,J,J,J,J,J,J,J,J,J,J,J,J,J] rfl rfl (any_of HT_.out z11_4) (λ_ _ _ h=>h) (Or.inl ⟨(by rfl),?_⟩) ?_ ?_
  rotate_left
  ·intro w'
   go_simp
   with_reducible rfl
  rotate_left
  ·exact z11_0
  refine pure_ (i:=4) (N:=some 22) (v:=?_) (a':=?_) #[Y,Y,Y,Y,Y,J,J,J,J,J,J,J,J,J,J,J,J,J] rfl rfl (any_of HT_.out z11_4) (λ_ _ _ h=>h) (Or.inl ⟨(by rfl),?_⟩) ?_ ?_
  rotate_left
  ·intro w'
   go_simp
   with_reducible rfl
  rotate_left
  ·exact z11_0
  refine pure_ (i:=7) (N:=some 25) (v:=?_) (a':=?_) #[Y,Y,Y,Y,Y,J,J,Y,J,J,J,J,J,J,J,J,J,J] rfl rfl (any_of HT_.out z11_4) (λ_ _ _ h=>h) (Or.inl ⟨(by rfl),?_⟩) ?_ ?_
  rotate_left
  ·intro w'
   go_simp
   with_reducible rfl
  rotate_left
  ·exact z11_0
  refine take_ (i:=5) (N:=some 23) (v:=?_) (a':=?_) #[Y,Y,Y,Y,Y,Y,J,Y,J,J,J,J,J,J,J,J,J,J] rfl rfl (take_ofW HT_.out HW_.out z11_4) (λ_ _ _ h=>h) (Or.inl ⟨(by rfl),?_⟩) hHeld ?_ ?_
  rotate_left
  ·rintro w' ⟨s0,s1,s2⟩
   go_simp
   with_reducible rfl
  rotate_left
  ·exact z11_0
  refine take_ (i:=8) (N:=some 26) (v:=?_) (a':=?_) #[Y,Y,Y,Y,Y,Y,J,Y,Y,J,J,J,J,J,J,J,J,J] rfl rfl (take_ofW HT_.out HW_.out z11_4) (λ_ _ _ h=>h) (Or.inl ⟨(by rfl),?_⟩) hHeld ?_ ?_
  rotate_left
  ·rintro w' ⟨s0,s1,s2⟩
   go_simp
   with_reducible rfl
  rotate_left
  ·exact z11_0
  refine one_ (i:=6) (N:=some 24) #[Y,Y,Y,Y,Y,Y,Y,Y,Y,J,J,J,J,J,J,J,J,J] rfl rfl (one_of HT_.out z11_4) (by decide) (λK hK=>?_)
  refine goes_ Try.func44 z11_4 rfl #[.slice A0_0 l0_0.length c0_0] (by rfl) rfl rfl z10_2 ?_
  with_reducible refine(r03_Plain.calls k1 _ _ l0_0 t579 _ ?side1 ?side2 A13.out).mono ?_
  (case side1=>exact z28_11)
  (case side2=>exact HC0_0.out)
  rintro e w22 ⟨v580,rfl,ho0,hb⟩
  refine ⟨_,rfl,?_⟩
  have n0_:=U (Kd.R_lower ho0 (below_size z28_1))
  have n1_:=U (blk_below (g:=gb575) (o:=.cells #[.slice A0_0 l0_0.length c0_0,.bool a0_1,.slice A0_2 l0_2.length c0_2] 53 (0,0)) z28_4 hb)
  have n2_:=U (below_step z28_1 hb)
  clear BK575
  clear HB
  have HO581:=n0_
  have BK575:=n1_
  have HB:=n2_
  clear n0_ n1_ n2_
  (try clear hb)
  (try clear hb2)
  (try clear hk)
  (try clear hi)
  (try clear ho0)
  obtain ⟨Ao23,co23,eo23⟩:=Kd.R_slice HO581.out
  (first|subst eo23|(injection eo23 with f1_ f2_ f3_;have f4_:=f1_.symm;have f5_:=f3_.symm;clear f1_ f2_ f3_;subst f4_;subst f5_))
  refine hK.out _ _ ⟨(blk_cell BK575.out 0).trans rfl,(blk_cell BK575.out 1).trans rfl,(blk_cell BK575.out 2).trans rfl⟩ (λhHeld=>?_)
  clear hK K
  refine norm_ (a':=?_) ?_ ?_
  rotate_left
  ·exact z28_13
  refine one_ (i:=9) (N:=some 27) #[Y,Y,Y,Y,Y,Y,Y,Y,Y,Y,J,J,J,J,J,J,J,J] rfl rfl (one_of HT_.out z11_4) (by decide) (λK hK=>?_)
  refine goes_ Try.func56 z11_4 rfl #[.slice Ao23 t579.length co23,.slice A0_0 l0_0.length c0_0] (by rfl) rfl rfl z10_2 ?_
  with_reducible refine(r03_Same.calls k1 _ _ t579 _ _ l0_0 false _ ?side1 ?side2 ?side3 ?side4 A14.out).mono ?_
  (case side1=>exact z28_12)
  (case side2=>exact(Kd.R_reads' HO581.out).2.1)
  (case side3=>exact z28_3)
  (case side4=>exact HC0_0.out)
  rintro e w' ⟨rfl,⟨nd,rfl⟩⟩
  refine ⟨_,rfl,?_⟩
  refine hK.out _ _ ⟨(blk_cell BK575.out 0).trans rfl,(blk_cell BK575.out 1).trans rfl,(blk_cell BK575.out 2).trans rfl⟩ (λhHeld=>?_)
  clear hK K
  refine norm_ (a':=?_) ?_ ?_
  rotate_left
  ·exact z28_14
  refine pure_ (i:=10) (N:=some 28) (v:=?_) (a':=?_) #[Y,Y,Y,Y,Y,Y,Y,Y,Y,Y,Y,J,J,J,J,J,J,J] rfl rfl (any_of HT_.out z11_4) (λ_ _ _ h=>h) (Or.inl ⟨(by rfl),?_⟩) ?_ ?_
  rotate_left
  ·intro w'
   go_simp
   with_reducible rfl
  rotate_left
  ·exact z11_0
  refine pure_ (i:=11) (N:=some 29) (v:=?_) (a':=?_) #[Y,Y,Y,Y,Y,Y,Y,Y,Y,Y,Y,Y,J,J,J,J,J,J] rfl rfl (any_of HT_.out z11_4) (λ_ _ _ h=>h) (Or.inl ⟨(by rfl),?_⟩) ?_ ?_
  rotate_left
  ·intro w'
   go_simp
   with_reducible rfl
  rotate_left
  ·exact z11_0
  refine pure_ (i:=12) (N:=some 30) (v:=undef) (a':=?_) #[Y,Y,Y,Y,Y,Y,Y,Y,Y,Y,Y,Y,Y,J,J,J,J,J] rfl rfl (any_of HT_.out z11_4) (λ_ _ _ h=>h) (Or.inr ⟨(by rfl),rfl⟩) ?_ ?_
  rotate_left
  ·exact z11_0
  refine pure_ (i:=13) (N:=some 31) (v:=undef) (a':=?_) #[Y,Y,Y,Y,Y,Y,Y,Y,Y,Y,Y,Y,Y,Y,J,J,J,J] rfl rfl (any_of HT_.out z11_4) (λ_ _ _ h=>h) (Or.inr ⟨(by rfl),rfl⟩) ?_ ?_
  rotate_left
  ·exact z11_0
  refine pure_ (i:=14) (N:=some 32) (v:=undef) (a':=?_) #[Y,Y,Y,Y,Y,Y,Y,Y,Y,Y,Y,Y,Y,Y,Y,J,J,J] rfl rfl (any_of HT_.out z11_4) (λ_ _ _ h=>h) (Or.inr ⟨(by rfl),rfl⟩) ?_ ?_
  rotate_left
  ·exact z11_0
  refine pure_ (i:=15) (N:=some 33) (v:=undef) (a':=?_) #[Y,Y,Y,Y,Y,Y,Y,Y,Y,Y,Y,Y,Y,Y,Y,Y,J,J] rfl rfl (any_of HT_.out z11_4) (λ_ _ _ h=>h) (Or.inr ⟨(by rfl),rfl⟩) ?_ ?_
  rotate_left
  ·exact z11_0
  refine pure_ (i:=16) (N:=some 34) (v:=?_) (a':=?_) #[Y,Y,Y,Y,Y,Y,Y,Y,Y,Y,Y,Y,Y,Y,Y,Y,Y,J] rfl rfl (any_of HT_.out z11_4) (λ_ _ _ h=>h) (Or.inl ⟨(by rfl),?_⟩) ?_ ?_
  rotate_left
  ·intro w'
   go_simp
   with_reducible rfl
  rotate_left
  ·exact z11_0
  refine pure_ (i:=17) (N:=some 2) (v:=?_) (a':=?_) #[Y,Y,Y,Y,Y,Y,Y,Y,Y,Y,Y,Y,Y,Y,Y,Y,Y,Y] rfl rfl (any_of HT_.out z11_4) (λ_ _ _ h=>h) (Or.inl ⟨(by rfl),?_⟩) ?_ ?_
  rotate_left
  ·intro w'
   go_simp
   with_reducible rfl
  rotate_left
  ·exact z11_0
  refine done_ (done_of HT_.out z11_4) ?_
  try go_wp2
  go_ret
  exact ⟨z9_2,z28_1⟩
 subst c15
 have H1:(some (decide ((l0_2.length:Int)<=16)))=some r:=by rw [if_pos rfl] at H;exact H
 clear H
 have H:=H1
 clear H1
 obtain rfl:=sI_ H
 obtain ⟨hcz16_0,hcz16_1,hcz16_2,hfz16_0,hfz16_1,hfz16_2⟩:=cz3_ BK575.out
 try go_wp2
 have n0_:=U (blk_drew BK575.out)
 have n1_:=U (below_drew1 HB.out)
 clear BK575
 clear HB
 have BK575:=n0_
 have HB:=n1_
 clear n0_ n1_
 refine start_ (n:=18) (S:=λw'=>w'.cell? ⟨gb575,0,none⟩=some (.slice A0_0 l0_0.length c0_0)/\w'.cell? ⟨gb575,1,none⟩=some (.bool a0_1)/\w'.cell? ⟨gb575,2,none⟩=some (.slice A0_2 l0_2.length c0_2)) (ds:=[]) #[J,J,J,J,J,J,J,J,J,J,J,J,J,J,J,J,J,J] z11_4 rfl rfl ⟨(blk_cell BK575.out 0).trans rfl,(blk_cell BK575.out 1).trans rfl,(blk_cell BK575.out 2).trans rfl⟩ (λhHeld=>?_);refine with_tabW r28_May.tab6 r28_May.bits6 (λHT_ HW_=>?_)
 generalize wr.drew=w17 at BK575 HB hHeld ⊢
 refine pure_ (i:=0) (N:=some 18) (v:=?_) (a':=?_) #[Y,J,J,J,J,J,J,J,J,J,J,J,J,J,J,J,J,J] rfl rfl (any_of HT_.out z11_4) (λ_ _ _ h=>h) (Or.inl ⟨(by rfl),?_⟩) ?_ ?_
 rotate_left
 ·intro w'
  go_simp
  with_reducible rfl
 rotate_left
 ·exact z11_0
 refine take_ (i:=1) (N:=some 19) (v:=?_) (a':=?_) #[Y,Y,J,J,J,J,J,J,J,J,J,J,J,J,J,J,J,J] rfl rfl (take_ofW HT_.out HW_.out z11_4) (λ_ _ _ h=>h) (Or.inl ⟨(by rfl),?_⟩) hHeld ?_ ?_
 rotate_left
 ·rintro w' ⟨s0,s1,s2⟩
  go_simp
  with_reducible rfl
 rotate_left
 ·exact z11_0
 refine one_ (i:=2) (N:=some 20) #[Y,Y,Y,J,J,J,J,J,J,J,J,J,J,J,J,J,J,J] rfl rfl (one_of HT_.out z11_4) (by decide) (λK hK=>?_)
 refine goes_ Try.func43 z11_4 rfl #[.slice A0_0 l0_0.length c0_0] (by rfl) rfl rfl z10_2 ?_
 with_reducible refine(r03_May.calls k1 _ _ l0_0 true _ ?side1 ?side2 A11.out).mono ?_
 (case side1=>exact z28_3)
 (case side2=>exact HC0_0.out)
 rintro e w' ⟨rfl,⟨nd,rfl⟩⟩
 refine ⟨_,rfl,?_⟩
 refine hK.out _ _ ⟨(blk_cell BK575.out 0).trans rfl,(blk_cell BK575.out 1).trans rfl,(blk_cell BK575.out 2).trans rfl⟩ (λhHeld=>?_)
 clear hK K
 refine norm_ (a':=?_) ?_ ?_
 rotate_left
 ·exact z11_14
 refine pure_ (i:=3) (N:=some 21) (v:=?_) (a':=?_) #[Y,Y,Y,Y,J,J,J,J,J,J,J,J,J,J,J,J,J,J] rfl rfl (any_of HT_.out z11_4) (λ_ _ _ h=>h) (Or.inl ⟨(by rfl),?_⟩) ?_ ?_
 rotate_left
 ·intro w'
  go_simp
  with_reducible rfl
 rotate_left
 ·exact z11_0
 refine pure_ (i:=4) (N:=some 22) (v:=?_) (a':=?_) #[Y,Y,Y,Y,Y,J,J,J,J,J,J,J,J,J,J,J,J,J] rfl rfl (any_of HT_.out z11_4) (λ_ _ _ h=>h) (Or.inl ⟨(by rfl),?_⟩) ?_ ?_
 rotate_left
 ·intro w'
  go_simp
  with_reducible rfl
 rotate_left
 ·exact z11_0
 refine pure_ (i:=7) (N:=some 25) (v:=?_) (a':=?_) #[Y,Y,Y,Y,Y,J,J,Y,J,J,J,J,J,J,J,J,J,J] rfl rfl (any_of HT_.out z11_4) (λ_ _ _ h=>h) (Or.inl ⟨(by rfl),?_⟩) ?_ ?_
 rotate_left
 ·intro w'
  go_simp
  with_reducible rfl
 rotate_left
 ·exact z11_0
 refine take_ (i:=5) (N:=some 23) (v:=?_) (a':=?_) #[Y,Y,Y,Y,Y,Y,J,Y,J,J,J,J,J,J,J,J,J,J] rfl rfl (take_ofW HT_.out HW_.out z11_4) (λ_ _ _ h=>h) (Or.inl ⟨(by rfl),?_⟩) hHeld ?_ ?_
 rotate_left
 ·rintro w' ⟨s0,s1,s2⟩
  go_simp
  with_reducible rfl
 rotate_left
 ·exact z11_0
 refine take_ (i:=8) (N:=some 26) (v:=?_) (a':=?_) #[Y,Y,Y,Y,Y,Y,J,Y,Y,J,J,J,J,J,J,J,J,J] rfl rfl (take_ofW HT_.out HW_.out z11_4) (λ_ _ _ h=>h) (Or.inl ⟨(by rfl),?_⟩) hHeld ?_ ?_
 rotate_left
 ·rintro w' ⟨s0,s1,s2⟩
  go_simp
  with_reducible rfl
 rotate_left
 ·exact z11_0
 refine one_ (i:=6) (N:=some 24) #[Y,Y,Y,Y,Y,Y,Y,Y,Y,J,J,J,J,J,J,J,J,J] rfl rfl (one_of HT_.out z11_4) (by decide) (λK hK=>?_)
 refine goes_ Try.func44 z11_4 rfl #[.slice A0_0 l0_0.length c0_0] (by rfl) rfl rfl z10_2 ?_
 with_reducible refine(r03_Plain.calls k1 _ _ l0_0 t579 _ ?side1 ?side2 A13.out).mono ?_
 (case side1=>exact z28_11)
 (case side2=>exact HC0_0.out)
 rintro e w18 ⟨v580,rfl,ho0,hb⟩
 refine ⟨_,rfl,?_⟩
 have n0_:=U (Kd.R_lower ho0 (below_size z28_1))
 have n1_:=U (blk_below (g:=gb575) (o:=.cells #[.slice A0_0 l0_0.length c0_0,.bool a0_1,.slice A0_2 l0_2.length c0_2] 53 (0,0)) z28_4 hb)
 have n2_:=U (below_step z28_1 hb)
 clear BK575
 clear HB
 have HO581:=n0_
 have BK575:=n1_
 have HB:=n2_
 clear n0_ n1_ n2_
 (try clear hb)
 (try clear hb2)
 (try clear hk)
 (try clear hi)
 (try clear ho0)
 obtain ⟨Ao19,co19,eo19⟩:=Kd.R_slice HO581.out
 (first|subst eo19|(injection eo19 with f1_ f2_ f3_;have f4_:=f1_.symm;have f5_:=f3_.symm;clear f1_ f2_ f3_;subst f4_;subst f5_))
 refine hK.out _ _ ⟨(blk_cell BK575.out 0).trans rfl,(blk_cell BK575.out 1).trans rfl,(blk_cell BK575.out 2).trans rfl⟩ (λhHeld=>?_)
 clear hK K
 refine norm_ (a':=?_) ?_ ?_
 rotate_left
 ·exact z28_13
 refine one_ (i:=9) (N:=some 27) #[Y,Y,Y,Y,Y,Y,Y,Y,Y,Y,J,J,J,J,J,J,J,J] rfl rfl (one_of HT_.out z11_4) (by decide) (λK hK=>?_)
 refine goes_ Try.func56 z11_4 rfl #[.slice Ao19 t579.length co19,.slice A0_0 l0_0.length c0_0] (by rfl) rfl rfl z10_2 ?_
 with_reducible refine(r03_Same.calls k1 _ _ t579 _ _ l0_0 true _ ?side1 ?side2 ?side3 ?side4 A14.out).mono ?_
 (case side1=>exact z28_12)
 (case side2=>exact(Kd.R_reads' HO581.out).2.1)
 (case side3=>exact z28_3)
 (case side4=>exact HC0_0.out)
 rintro e w' ⟨rfl,⟨nd,rfl⟩⟩
 refine ⟨_,rfl,?_⟩
 refine hK.out _ _ ⟨(blk_cell BK575.out 0).trans rfl,(blk_cell BK575.out 1).trans rfl,(blk_cell BK575.out 2).trans rfl⟩ (λhHeld=>?_)
 clear hK K
 refine norm_ (a':=?_) ?_ ?_
 rotate_left
 ·exact z28_14
 refine pure_ (i:=10) (N:=some 28) (v:=?_) (a':=?_) #[Y,Y,Y,Y,Y,Y,Y,Y,Y,Y,Y,J,J,J,J,J,J,J] rfl rfl (any_of HT_.out z11_4) (λ_ _ _ h=>h) (Or.inl ⟨(by rfl),?_⟩) ?_ ?_
 rotate_left
 ·intro w'
  go_simp
  with_reducible rfl
 rotate_left
 ·exact z11_0
 refine pure_ (i:=11) (N:=some 29) (v:=?_) (a':=?_) #[Y,Y,Y,Y,Y,Y,Y,Y,Y,Y,Y,Y,J,J,J,J,J,J] rfl rfl (any_of HT_.out z11_4) (λ_ _ _ h=>h) (Or.inl ⟨(by rfl),?_⟩) ?_ ?_
 rotate_left
 ·intro w'
  go_simp
  with_reducible rfl
 rotate_left
 ·exact z11_0
 refine pure_ (i:=12) (N:=some 30) (v:=?_) (a':=?_) #[Y,Y,Y,Y,Y,Y,Y,Y,Y,Y,Y,Y,Y,J,J,J,J,J] rfl rfl (any_of HT_.out z11_4) (λ_ _ _ h=>h) (Or.inl ⟨(by rfl),?_⟩) ?_ ?_
 rotate_left
 ·intro w'
  go_simp
  with_reducible rfl
 rotate_left
 ·exact z11_0
 refine take_ (i:=13) (N:=some 31) (v:=?_) (a':=?_) #[Y,Y,Y,Y,Y,Y,Y,Y,Y,Y,Y,Y,Y,Y,J,J,J,J] rfl rfl (take_ofW HT_.out HW_.out z11_4) (λ_ _ _ h=>h) (Or.inl ⟨(by rfl),?_⟩) hHeld ?_ ?_
 rotate_left
 ·rintro w' ⟨s0,s1,s2⟩
  go_simp
  with_reducible rfl
 rotate_left
 ·exact z11_0
 refine pure_ (i:=14) (N:=some 32) (v:=?_) (a':=?_) #[Y,Y,Y,Y,Y,Y,Y,Y,Y,Y,Y,Y,Y,Y,Y,J,J,J] rfl rfl (any_of HT_.out z11_4) (λ_ _ _ h=>h) (Or.inl ⟨(by rfl),?_⟩) ?_ ?_
 rotate_left
 ·intro w'
  go_simp
  with_reducible rfl
 rotate_left
 ·exact z11_0
 refine pure_ (i:=15) (N:=some 33) (v:=?_) (a':=?_) #[Y,Y,Y,Y,Y,Y,Y,Y,Y,Y,Y,Y,Y,Y,Y,Y,J,J] rfl rfl (any_of HT_.out z11_4) (λ_ _ _ h=>h) (Or.inl ⟨(by rfl),?_⟩) ?_ ?_
 rotate_left
 ·intro w'
  go_simp
  with_reducible rfl
 rotate_left
 ·exact z11_0
 refine pure_ (i:=16) (N:=some 34) (v:=?_) (a':=?_) #[Y,Y,Y,Y,Y,Y,Y,Y,Y,Y,Y,Y,Y,Y,Y,Y,Y,J] rfl rfl (any_of HT_.out z11_4) (λ_ _ _ h=>h) (Or.inl ⟨(by rfl),?_⟩) ?_ ?_
 rotate_left
 ·intro w'
  go_simp
  with_reducible rfl
 rotate_left
 ·exact z11_0
 refine pure_ (i:=17) (N:=some 2) (v:=?_) (a':=?_) #[Y,Y,Y,Y,Y,Y,Y,Y,Y,Y,Y,Y,Y,Y,Y,Y,Y,Y] rfl rfl (any_of HT_.out z11_4) (λ_ _ _ h=>h) (Or.inl ⟨(by rfl),?_⟩) ?_ ?_
 rotate_left
 ·intro w'
  go_simp
  with_reducible rfl
 rotate_left
 ·exact z11_0
 refine done_ (done_of HT_.out z11_4) ?_
 try go_wp2
 go_ret
 exact ⟨z9_2,z28_1⟩
end Go.Proofs.Ytgocnchjpecafaa.PEv
