/- a part -/
import Derived.Test.YtgocnchjpecafaaPEvx12
namespace Go.Proofs.Ytgocnchjpecafaa.PEv
open Go.RowKit Go.Proofs.YtgocnchjpecafaaW.PrintWords Go.Proofs.YtgocnchjpecafaaW.PrintLast Go.Proofs.YtgocnchjpecafaaW.PrintMore
attribute [local go_sem] max2_int min2_int max_two min_two max_three min_three max_four min_four
set_option linter.unusedVariables false
set_option linter.unusedSimpArgs false
set_option maxHeartbeats 8000000
set_option maxRecDepth 100000
theorem z13_1 {P:Prop} (h:P:=by kernel_rfl):P:=h
def r05_Put.l0:Nat->List S48->List (List Int)->Int->Option (List Int)
 | 0,_,_,_=>none
 | k+1,xs,acc,i=>if i<(xs.length:Int) then(if 0<=i then((r05_nums.f k [(rd_T48 xs i).f0,(rd_T48 xs i).f1,(rd_T48 xs i).f3,(rd_T48 xs i).f4]).bind λt=>if t.length+2<5864062014805/\(rd_T48 xs i).f2.size<=9223372036854775807/\(rd_T48 xs i).f5.size<=9223372036854775807 then((r02_Pack.f k (t++[bytesOf (rd_T48 xs i).f2,bytesOf (rd_T48 xs i).f5])).bind λp=>if acc.length<5864062014805 then r05_Put.l0 k xs (acc++[p]) (wrap64 (i+1)) else none) else none) else none) else r02_Pack.f k acc
def r05_Put.f (k:Nat) (a b:Int) (past:List Int) (xs:List S48):Option (List Int) :=
 (r05_nums.f k [a,b]).bind λt=>(r02_Pack.f k t).bind λp=>(r03_Put.f k past).bind λq=>r05_Put.l0 k xs [p,q] 0
open Go.Proofs.Ytgocnchjpecafaa.Cards Go.Proofs.Ytgocnchjpecafaa.Hand in
theorem r05_Put.calls (k:Nat) (a0_0:Int) (a0_1:Int) (A0_2:Option Addr) (c0_2:Nat) (l0_2:List Int) (A0_3:Option Addr) (c0_3:Nat) (l0_3:List (S48)) (r:List Int) (w:World) (hr0_2:Kd.C (Kd.int .i64) w A0_2 l0_2.length l0_2) (hc0_2:l0_2.length<=c0_2) (hr0_3:Kd.C k48 w A0_3 l0_3.length l0_3) (hc0_3:l0_3.length<=c0_3) (h:r05_Put.f k a0_0 a0_1 l0_2 l0_3=some r) :
  Calls Try.prog 28 #[.agg #[.int .i64 a0_0,.int .i64 a0_1,.slice A0_2 l0_2.length c0_2,.slice A0_3 l0_3.length c0_3]] w λe w'=>∃ v0_:Value,e = .returned (v0_)/\Kd.R (Kd.int .u8) 5 w' w.heap.size (λ_=>True) v0_ r/\Below w.heap.size w w':=by
 have hu30:=Try.underlying30
 have hu25:=Try.underlying25
 have hu48:=Try.underlying48
 have HR2:=Aside0.mk hr0_2
 have HR3:=Aside0.mk hr0_3
 have HC2:=Aside0.mk hc0_2
 have HC3:=Aside0.mk hc0_3
 have H:=Aside0.mk h
 clear hr0_2 hr0_3 hc0_2 hc0_3 h
 go_enter Try.func28,Try.ntmps28
 go_upto_region 1 with (first|((with_reducible refine gate_dst (N:=1) rfl ?_);refine box_event ?hg (N:=1) ?hd (cs:=#[.int .i64 a0_0,.int .i64 a0_1,.slice A0_2 l0_2.length c0_2,.slice A0_3 l0_3.length c0_3]) (t:=30) ?hr ?_;(case hd=>rfl);(case hg=>rfl);(case hr=>exact z10_10);intro gb hg w3 hbox hb;have HB:=Aside0.mk hb;have BK:=Aside0.mk hbox;clear hb hbox hg))
 have HH:=H.out
 clear H
 unfold r05_Put.f at HH
 obtain ⟨t,h1,HH⟩:=oB_ HH
 obtain ⟨p,h2,HH⟩:=oB_ HH
 obtain ⟨q,h3,HH⟩:=oB_ HH
 have H1:=Aside0.mk h1
 have H2:=Aside0.mk h2
 have H3:=Aside0.mk h3
 have H:=Aside0.mk HH
 clear h1 h2 h3 HH
 refine region_cards (F:=?F) 12 (λw'=>Aside0 (Below w.heap.size w w')/\Aside0 (w'.heap[gb]? = some (.cells #[.int .i64 a0_0,.int .i64 a0_1,.slice A0_2 l0_2.length c0_2,.slice A0_3 l0_3.length c0_3] 30 (0,0))))
  [λv _ _ _=>v = .pointer (some ⟨gb,0,none⟩),
  λv _ _ _=>v = .pointer (some ⟨gb,0,none⟩),
  λv _ _ _=>v = .int .i64 a0_0,
  λv _ _ _=>v = .pointer (some ⟨gb,0,none⟩),
  λv _ _ _=>v = .pointer (some ⟨gb,1,none⟩),
  λv _ _ _=>v = .int .i64 a0_1,
  λv w' _ _=>(Kd.slice 0 (Kd.int .i64)).K w' [a0_0,a0_1] [v],
  λv w' _ _=>Kd.S (Kd.slice 5 (Kd.int .u8)) 22 w' w.heap.size (λ_=>True) v t,
  λv w' _ _=>Kd.R (Kd.int .u8) 5 w' w.heap.size (λ_=>True) v p,
  λv _ _ _=>v = .pointer (some ⟨gb,2,none⟩),
  λv _ _ _=>v = .slice A0_2 l0_2.length c0_2,
  λv w' _ _=>Kd.R (Kd.int .u8) 5 w' w.heap.size (λ_=>True) v q]
  z13_1 z13_1 ?hF ?hS0 ?hS ?hstay ?hsteps ?hend
 case hF =>
  intro vs
  simp only [List.take_succ_cons,List.take_zero,fill,if_true,if_false,Act.put,List.setIfInBounds_toArray,List.set_cons_zero,List.set_cons_succ,Nat.reduceAdd,List.contains_cons,List.contains_nil,Nat.reduceBEq,Bool.or_false,Bool.false_or,Bool.not_true,Bool.not_false,Bool.false_eq_true,Bool.or_self,Bool.true_or]
  rfl
 case hS0=>exact ⟨⟨below_drew HB.out⟩,⟨blk_drew BK.out⟩⟩
 case hS=>exact λw1 w2 hb hs=>⟨⟨below_step hs.1.out hb⟩,⟨(hb.block gb (blk_lt hs.2.out)).trans hs.2.out⟩⟩
 case hstay=>exact ⟨λ_ _ _ _ _ _ h=>h,λ_ _ _ _ _ _ h=>h,λ_ _ _ _ _ _ h=>h,λ_ _ _ _ _ _ h=>h,λ_ _ _ _ _ _ h=>h,λ_ _ _ _ _ _ h=>h,λ_ _ _ _ _ hb h=>(Kd.slice 0 (Kd.int .i64)).K_below hb h,λ_ _ _ _ _ hb h=>Kd.S_below h hb,λ_ _ _ _ _ hb h=>Kd.R_below h hb,λ_ _ _ _ _ _ h=>h,λ_ _ _ _ _ _ h=>h,λ_ _ _ _ _ hb h=>Kd.R_below h hb,trivial⟩
 case hsteps =>
  refine ⟨?s_0,?s_1,?s_2,?s_3,?s_4,?s_5,?s_6,?s_7,?s_8,?s_9,?s_10,?s_11,trivial⟩
  case s_0 =>
   intro _ vs lo hi W hs hp
   exact does_val z10_10 ⟨rfl,Below.refl _ _⟩
  case s_1 =>
   intro _ vs lo hi W hs hp
   have e0:vs 0 = .pointer (some ⟨gb,0,none⟩):=hp 0 z13_1 rfl
   exact does_val z10_10 ⟨rfl,Below.refl _ _⟩
  case s_2 =>
   intro _ vs lo hi W hs hp
   have e1:vs 1 = .pointer (some ⟨gb,0,none⟩):=hp 1 z13_1 rfl
   have hc:W.cell? ⟨gb,0,none⟩=some (.int .i64 a0_0):=(blk_cell hs.2.out 0).trans rfl
   exact does_val z10_10 ⟨rfl,Below.refl _ _⟩
  case s_3 =>
   intro _ vs lo hi W hs hp
   exact does_val z10_10 ⟨rfl,Below.refl _ _⟩
  case s_4 =>
   intro _ vs lo hi W hs hp
   have e3:vs 3 = .pointer (some ⟨gb,0,none⟩):=hp 3 z13_1 rfl
   exact does_val z10_10 ⟨rfl,Below.refl _ _⟩
  case s_5 =>
   intro _ vs lo hi W hs hp
   have e4:vs 4 = .pointer (some ⟨gb,1,none⟩):=hp 4 z13_1 rfl
   have hc:W.cell? ⟨gb,1,none⟩=some (.int .i64 a0_1):=(blk_cell hs.2.out 1).trans rfl
   exact does_val z10_10 ⟨rfl,Below.refl _ _⟩
  case s_6 =>
   intro _ vs lo hi W hs hp
   have e2:vs 2 = .int .i64 a0_0:=hp 2 z13_1 rfl
   have e5:vs 5 = .int .i64 a0_1:=hp 5 z13_1 rfl
   exact does_val z10_10 ⟨fresh_ints W 3 .i64 [a0_0,a0_1] (by simp),below_alloc (Below.refl _ _) _⟩
  case s_7 =>
   intro _ vs lo hi W hs hp
   obtain ⟨A,c,e6,hl,hC⟩:(Kd.slice 0 (Kd.int .i64)).K W [a0_0,a0_1] [vs 6]:=hp 6 z13_1 rfl
   have e6:=List.cons.inj e6 |>.1
   refine does_call Try.func76 z13_1 rfl #[.slice A [a0_0,a0_1].length c] rfl rfl (by rw [<-e6];simp only [List.map_toArray,List.map_cons,List.map_nil];rfl) ?_
   refine(r05_nums.calls k A c [a0_0,a0_1] t W hC hl H1.out).mono ?_
   rintro e w' ⟨v,rfl,hv,hb⟩
   exact ⟨v,rfl,Kd.S_lower hv (below_size hs.1.out),hb⟩
  case s_8 =>
   intro _ vs lo hi W hs hp
   have hv7:Kd.S (Kd.slice 5 (Kd.int .u8)) 22 W w.heap.size (λ_=>True) (vs 7) t:=hp 7 z13_1 rfl
   obtain ⟨A,c,e7⟩:=Kd.S_slice hv7
   have hC:=(Kd.S_reads' (e7 ▸ hv7))
   refine does_call Try.func75 z13_1 rfl #[.slice A t.length c] rfl rfl (by rw [<-e7];simp only [List.map_toArray,List.map_cons,List.map_nil];rfl) ?_
   refine(r02_Pack.calls k A c t p W hC.2.2 hC.2.1 H2.out).mono ?_
   rintro e w' ⟨v,rfl,hv,hb⟩
   exact ⟨v,rfl,Kd.R_lower hv (below_size hs.1.out),hb⟩
  case s_9 =>
   intro _ vs lo hi W hs hp
   exact does_val z10_10 ⟨rfl,Below.refl _ _⟩
  case s_10 =>
   intro _ vs lo hi W hs hp
   have e9:vs 9 = .pointer (some ⟨gb,2,none⟩):=hp 9 z13_1 rfl
   have hc:W.cell? ⟨gb,2,none⟩=some (.slice A0_2 l0_2.length c0_2):=(blk_cell hs.2.out 2).trans rfl
   exact does_val z10_10 ⟨rfl,Below.refl _ _⟩
  case s_11 =>
  intro _ vs lo hi W hs hp
  have e10:vs 10 = .slice A0_2 l0_2.length c0_2:=hp 10 z13_1 rfl
  refine does_call Try.func77 z13_1 rfl #[.slice A0_2 l0_2.length c0_2] rfl rfl (by rw [<-e10];simp only [List.map_toArray,List.map_cons,List.map_nil];rfl) ?_
  refine(r03_Put.calls k A0_2 c0_2 l0_2 q W (Kd.C_below HR2.out hs.1.out) HC2.out H3.out).mono ?_
  rintro e w' ⟨v,rfl,hv,hb⟩
  exact ⟨v,rfl,Kd.R_lower hv (below_size hs.1.out),hb⟩
 case hend =>
 intro vs lo hi W hs hp _
 simp only [List.drop_succ_cons,List.drop_zero]
 have hv8:=U (show Kd.R (Kd.int .u8) 5 W w.heap.size (λ_=>True) (vs 8) p from hp 8 (by decide))
 have hv11:=U (show Kd.R (Kd.int .u8) 5 W w.heap.size (λ_=>True) (vs 11) q from hp 11 (by decide))
 clear hp HB BK
 obtain ⟨HB,BK⟩:=hs
 generalize vs 8=v14 at hv8 ⊢
 generalize vs 11=v17 at hv11 ⊢
 obtain ⟨A14,c14,rfl⟩:=Kd.R_slice hv8.out
 obtain ⟨A17,c17,rfl⟩:=Kd.R_slice hv11.out
 go_wp2_with (first|((with_reducible refine gate_dst (N:=18) rfl ?_);refine Kd.N_lit (Kd.slice 5 (Kd.int .u8)) w.heap.size 22 ?hg (N':=18) ?hd (xs:=[p,q]) (inner:=[.slice A14 p.length c14,.slice A17 q.length c17]) (ok:=λ_=>True) (okp:=typed 5 W) ?hr ?hp (λ_ _=>trivial) trivial HB.out (below_size HB.out) (by simp) ?_;(case hd=>rfl);(case hg=>rfl);(case hr=>exact z10_10);(case hp=>exact(Reps.none _ _).snoc (own_FKt hv8.out) rfl |>.snoc (own_FKt hv11.out) rfl);intro v18 w4 ho hb hg_ _;have BK4:=U (blk_grown BK.out hg_ (by simp));have HO:=Aside0.mk ho;clear HB BK hv8 hv11;have HB:=Aside0.mk hb;have BK:=BK4;clear BK4 hb ho hg_))
 go_loopg [3,4] k (λkq v3 v4 w'=>∃ (acc:List (List Int)) (i:Int),v4 = .int .i64 i/\Aside0 (r05_Put.l0 kq l0_3 acc i=some r)/\Aside0 (kq<=k)/\Aside0 (Kd.N (Kd.slice 5 (Kd.int .u8)) 22 w' w.heap.size (λ_=>True) v3 acc)/\Aside0 (w'.heap[gb]? = some (.cells #[.int .i64 a0_0,.int .i64 a0_1,.slice A0_2 l0_2.length c0_2,.slice A0_3 l0_3.length c0_3] 30 (0,0)))/\Aside0 (Below w.heap.size w w'))
 case atStart=>exact ⟨[p,q],0,rfl,H,⟨Nat.le_refl _⟩,HO,BK,HB⟩
 case round =>
 clear H HO BK HB
 obtain ⟨acc,i,rfl,HA,HK,HO,BK,HB⟩:=hrel
 cases gk with
 | zero=>exact absurd HA.out (by simp [r05_Put.l0])
 | succ k1 =>
 have H:=HA.out
 clear HA
 simp only [r05_Put.l0] at H
 have hc2:wr.cell? ⟨gb,3,none⟩=some (.slice A0_3 l0_3.length c0_3):=(blk_cell BK.out 3).trans rfl
 by_cases ci:i<(l0_3.length:Int)
 rotate_left
 ·rw [if_neg ci] at H
  have ci1:decide (i<(l0_3.length:Int))=false:=dF_ ci
  have ci2:(i<(l0_3.length:Int))=False:=eq_false ci
  clear ci
  have H6:=Aside0.mk H
  clear H
  obtain ⟨A18,c18,e18⟩:=Kd.N_slice HO.out
  subst e18
  go_wp2_with (first|((with_reducible refine gate_callee (f:=75) rfl ?_);refine goesL_ (some 54) rfl rfl Try.func75 z13_1 rfl #[.slice A18 acc.length c18] rfl (by(try simp only [List.map_toArray,List.map_cons,List.map_nil]);first|done|rfl) ?_;(with_reducible refine(r02_Pack.calls k1 _ _ acc r _ ?side1 ?side2 H6.out).mono ?_);(case side1=>exact(Kd.N_reads' HO.out).2.2);(case side2=>have:=(Kd.N_reads' HO.out);omega);rintro e w2 ⟨v50,rfl,ho,hb⟩;refine ⟨_,rfl,?_⟩;have HP:=U (Kd.R_lower ho (below_size HB.out));have HB2:=U (below_step HB.out hb);clear ho hb))
  go_ret
  exact ⟨_,rfl,HP.out,HB2.out⟩
 rw [if_pos ci] at H
 by_cases c0:0<=i
 rotate_left
 ·rw [if_neg c0] at H
  exact absurd H (by simp)
 rw [if_pos c0] at H
 obtain ⟨t6,h1,H⟩:=oB_ H
 by_cases cs:t6.length+2<5864062014805/\(rd_T48 l0_3 i).f2.size<=9223372036854775807/\(rd_T48 l0_3 i).f5.size<=9223372036854775807
 rotate_left
 ·rw [if_neg cs] at H
  exact absurd H (by simp)
 rw [if_pos cs] at H
 obtain ⟨p6,h2,H⟩:=oB_ H
 by_cases cl:acc.length<5864062014805
 rotate_left
 ·rw [if_neg cl] at H
  exact absurd H (by simp)
 rw [if_pos cl] at H
 have H4:=Aside0.mk h1
 have H5:=Aside0.mk h2
 have H':=Aside0.mk H
 have CS:=Aside0.mk cs
 have CL:=Aside0.mk cl
 clear h1 h2 H cs cl
 obtain ⟨ad,eA,x0,x1,x2,x3,x4,x5⟩:=at_T48 (Kd.C_below HR3.out HB.out) i c0 ci
 cases eA
 have ci1:decide (i<(l0_3.length:Int))=true:=dT_ ci
 have ci2:(i<(l0_3.length:Int))=True:=eq_true ci
 have c01:(0<=i)=True:=eq_true c0
 clear ci c0
 go_wp2
 have BX:=U (heap_alloc_new wr (.cells #[.int .i64 (rd_T48 l0_3 i).f0,.int .i64 (rd_T48 l0_3 i).f1,.string (rd_T48 l0_3 i).f2,.int .i64 (rd_T48 l0_3 i).f3,.int .i64 (rd_T48 l0_3 i).f4,.string (rd_T48 l0_3 i).f5] 48))
 obtain ⟨B0,hB0⟩:∃ B0,B0=wr.heap.size:=⟨_,rfl⟩
 have HO1:=U (Kd.N_alloc (Kd.N_bound HO.out) (.cells #[.int .i64 (rd_T48 l0_3 i).f0,.int .i64 (rd_T48 l0_3 i).f1,.string (rd_T48 l0_3 i).f2,.int .i64 (rd_T48 l0_3 i).f3,.int .i64 (rd_T48 l0_3 i).f4,.string (rd_T48 l0_3 i).f5] 48))
 have HB1:=U (below_alloc HB.out (.cells #[.int .i64 (rd_T48 l0_3 i).f0,.int .i64 (rd_T48 l0_3 i).f1,.string (rd_T48 l0_3 i).f2,.int .i64 (rd_T48 l0_3 i).f3,.int .i64 (rd_T48 l0_3 i).f4,.string (rd_T48 l0_3 i).f5] 48))
 have BK1:=U (blk_alloc BK.out (.cells #[.int .i64 (rd_T48 l0_3 i).f0,.int .i64 (rd_T48 l0_3 i).f1,.string (rd_T48 l0_3 i).f2,.int .i64 (rd_T48 l0_3 i).f3,.int .i64 (rd_T48 l0_3 i).f4,.string (rd_T48 l0_3 i).f5] 48))
 have LE1:=U (below_size (below_alloc (Below.refl wr.heap.size wr) (.cells #[.int .i64 (rd_T48 l0_3 i).f0,.int .i64 (rd_T48 l0_3 i).f1,.string (rd_T48 l0_3 i).f2,.int .i64 (rd_T48 l0_3 i).f3,.int .i64 (rd_T48 l0_3 i).f4,.string (rd_T48 l0_3 i).f5] 48)))
 rw [<-hB0] at BX HO1 LE1 ⊢
 generalize wr.alloc (.cells #[.int .i64 (rd_T48 l0_3 i).f0,.int .i64 (rd_T48 l0_3 i).f1,.string (rd_T48 l0_3 i).f2,.int .i64 (rd_T48 l0_3 i).f3,.int .i64 (rd_T48 l0_3 i).f4,.string (rd_T48 l0_3 i).f5] 48)=wx at BX HO1 HB1 BK1 LE1 ⊢
 clear x0 x1 x2 x3 x4 x5 hc2 HB HO BK hB0
 generalize rd_T48 l0_3 i=x at *
 refine wp_region_any z13_1 ?_
 refine take_pre (i:=0) (N:=some 31) (v:=u3) rfl rfl z13_1 z13_1 z13_1 (λ_ _ _ h=>h) (by rfl) ?_ ?_
 ·intro w_
  first|(go_simp;done)|(go_simp;rfl)
 (try simp only [Act.put,List.setIfInBounds_toArray,List.set_cons_zero,List.set_cons_succ])
 refine any_cards (F:=?F6) [0] 18 (λw'=>Aside0 (Below w.heap.size w w')/\Aside0 (w'.heap[B0]? = some (.cells #[.int .i64 x.f0,.int .i64 x.f1,.string x.f2,.int .i64 x.f3,.int .i64 x.f4,.string x.f5] 48 (0,0)))/\Aside0 (Kd.N (Kd.slice 5 (Kd.int .u8)) 22 w' w.heap.size (λk=>True/\k<B0) u3 acc)/\Aside0 (w'.heap[gb]? = some (.cells #[.int .i64 a0_0,.int .i64 a0_1,.slice A0_2 l0_2.length c0_2,.slice (some ad) l0_3.length c0_3] 30 (0,0)))/\Aside0 (B0<=w'.heap.size))
  [λ_ _ _ _=>True,
  λv _ _ _=>v = .pointer (some ⟨B0,0,none⟩),
  λv _ _ _=>v = .int .i64 x.f0,
  λv _ _ _=>v = .pointer (some ⟨B0,1,none⟩),
  λv _ _ _=>v = .int .i64 x.f1,
  λv _ _ _=>v = .pointer (some ⟨B0,3,none⟩),
  λv _ _ _=>v = .int .i64 x.f3,
  λv _ _ _=>v = .pointer (some ⟨B0,4,none⟩),
  λv _ _ _=>v = .int .i64 x.f4,
  λv w' _ _=>(Kd.slice 0 (Kd.int .i64)).K w' [x.f0,x.f1,x.f3,x.f4] [v],
  λv w' lo hi=>Kd.N (Kd.slice 5 (Kd.int .u8)) 22 w' lo (λk=>k<hi) v t6/\B0<=lo/\w.heap.size<=lo,
  λv _ _ _=>v = .pointer (some ⟨B0,2,none⟩),
  λv _ _ _=>v = .string x.f2,
  λv w' _ _=>Kd.FK (Kd.slice 5 (Kd.int .u8)) w' (typed 5 w') (bytesOf x.f2) [v],
  λv _ _ _=>v = .pointer (some ⟨B0,5,none⟩),
  λv _ _ _=>v = .string x.f5,
  λv w' _ _=>Kd.FK (Kd.slice 5 (Kd.int .u8)) w' (typed 5 w') (bytesOf x.f5) [v],
  λv w' lo hi=>Kd.FK (Kd.slice 22 (Kd.slice 5 (Kd.int .u8))) w' (λj=>typed 5 w' j\/lo<=j/\j<hi) [bytesOf x.f2,bytesOf x.f5] [v]]
  z13_1 z13_1 z13_1 ?hF6 ?hS06 ?hS6 ?hstay6 ?hsteps6 ?hend6
 case hF6 =>
  intro vs
  simp only [List.take_succ_cons,List.take_zero,fill,if_true,if_false,Act.put,List.setIfInBounds_toArray,List.set_cons_zero,List.set_cons_succ,Nat.reduceAdd,List.contains_cons,List.contains_nil,Nat.reduceBEq,Bool.or_false,Bool.false_or,Bool.not_true,Bool.not_false,Bool.false_eq_true,Bool.or_self,Bool.true_or]
  rfl
 case hS06=>exact ⟨⟨below_drew HB1.out⟩,⟨blk_drew BX.out⟩,⟨Kd.N_drew HO1.out⟩,⟨blk_drew BK1.out⟩,⟨LE1.out⟩⟩
 case hS6=>exact λw1 w2 hb hs=>⟨⟨below_step hs.1.out hb⟩,⟨(hb.block _ (blk_lt hs.2.1.out)).trans hs.2.1.out⟩,⟨Kd.N_below hs.2.2.1.out hb⟩,⟨(hb.block _ (blk_lt hs.2.2.2.1.out)).trans hs.2.2.2.1.out⟩,⟨Nat.le_trans hs.2.2.2.2.out hb.size⟩⟩
 case hstay6=>exact ⟨λ_ _ _ _ _ _ h=>h,λ_ _ _ _ _ _ h=>h,λ_ _ _ _ _ _ h=>h,λ_ _ _ _ _ _ h=>h,λ_ _ _ _ _ _ h=>h,λ_ _ _ _ _ _ h=>h,λ_ _ _ _ _ _ h=>h,λ_ _ _ _ _ _ h=>h,λ_ _ _ _ _ _ h=>h,λ_ _ _ _ _ hb h=>(Kd.slice 0 (Kd.int .i64)).K_below hb h,λ_ _ _ _ _ hb h=>⟨Kd.N_below h.1 hb,h.2⟩,λ_ _ _ _ _ _ h=>h,λ_ _ _ _ _ _ h=>h,λ_ _ _ _ _ hb h=>FKt_below h hb,λ_ _ _ _ _ _ h=>h,λ_ _ _ _ _ _ h=>h,λ_ _ _ _ _ hb h=>FKt_below h hb,λ_ _ _ _ _ hb h=>Kd.FK_mono (Kd.FK_below h hb) (λ_ ht=>ht.imp (λht=>typed_below ht hb) id),trivial⟩
 case hsteps6 =>
  refine ⟨?s6_0,?s6_1,?s6_2,?s6_3,?s6_4,?s6_5,?s6_6,?s6_7,?s6_8,?s6_9,?s6_10,?s6_11,?s6_12,?s6_13,?s6_14,?s6_15,?s6_16,?s6_17,trivial⟩
  case s6_0=>exact λhk=>absurd hk (by decide)
  case s6_1 =>
   intro _ vs lo hi W hs hp
   exact does_val z10_10 ⟨rfl,Below.refl _ _⟩
  case s6_2 =>
   intro _ vs lo hi W hs hp
   have e1:vs 1 = .pointer (some ⟨B0,0,none⟩):=hp 1 z13_1 rfl
   have hc:W.cell? ⟨B0,0,none⟩=some (.int .i64 x.f0):=(blk_cell hs.2.1.out 0).trans rfl
   exact does_val z10_10 ⟨rfl,Below.refl _ _⟩
  case s6_3 =>
   intro _ vs lo hi W hs hp
   exact does_val z10_10 ⟨rfl,Below.refl _ _⟩
  case s6_4 =>
   intro _ vs lo hi W hs hp
   have e3:vs 3 = .pointer (some ⟨B0,1,none⟩):=hp 3 z13_1 rfl
   have hc:W.cell? ⟨B0,1,none⟩=some (.int .i64 x.f1):=(blk_cell hs.2.1.out 1).trans rfl
   exact does_val z10_10 ⟨rfl,Below.refl _ _⟩
  case s6_5 =>
   intro _ vs lo hi W hs hp
   exact does_val z10_10 ⟨rfl,Below.refl _ _⟩
  case s6_6 =>
   intro _ vs lo hi W hs hp
   have e5:vs 5 = .pointer (some ⟨B0,3,none⟩):=hp 5 z13_1 rfl
   have hc:W.cell? ⟨B0,3,none⟩=some (.int .i64 x.f3):=(blk_cell hs.2.1.out 3).trans rfl
   exact does_val z10_10 ⟨rfl,Below.refl _ _⟩
  case s6_7 =>
   intro _ vs lo hi W hs hp
   exact does_val z10_10 ⟨rfl,Below.refl _ _⟩
  case s6_8 =>
   intro _ vs lo hi W hs hp
   have e7:vs 7 = .pointer (some ⟨B0,4,none⟩):=hp 7 z13_1 rfl
   have hc:W.cell? ⟨B0,4,none⟩=some (.int .i64 x.f4):=(blk_cell hs.2.1.out 4).trans rfl
   exact does_val z10_10 ⟨rfl,Below.refl _ _⟩
  case s6_9 =>
   intro _ vs lo hi W hs hp
   have e2:vs 2 = .int .i64 x.f0:=hp 2 z13_1 rfl
   have e4:vs 4 = .int .i64 x.f1:=hp 4 z13_1 rfl
   have e6:vs 6 = .int .i64 x.f3:=hp 6 z13_1 rfl
   have e8:vs 8 = .int .i64 x.f4:=hp 8 z13_1 rfl
   exact does_val z10_10 ⟨fresh_ints W 3 .i64 [x.f0,x.f1,x.f3,x.f4] (by simp),below_alloc (Below.refl _ _) _⟩
  case s6_10 =>
   intro _ vs lo hi W hs hp
   obtain ⟨A,c,e9,hl,hC⟩:(Kd.slice 0 (Kd.int .i64)).K W [x.f0,x.f1,x.f3,x.f4] [vs 9]:=hp 9 z13_1 rfl
   have e9:=List.cons.inj e9 |>.1
   refine does_call Try.func76 z13_1 rfl #[.slice A [x.f0,x.f1,x.f3,x.f4].length c] rfl rfl (by rw [<-e9];simp only [List.map_toArray,List.map_cons,List.map_nil];rfl) ?_
   refine(r05_nums.calls k1 A c [x.f0,x.f1,x.f3,x.f4] t6 W hC hl H4.out).mono ?_
   rintro e w' ⟨v,rfl,hv,hb⟩
   exact ⟨v,rfl,⟨Kd.N_mono (Kd.N_bound (Kd.S_N hv)) (λ_ hk=>hk.2),hs.2.2.2.2.out,below_size hs.1.out⟩,hb⟩
  case s6_11 =>
   intro _ vs lo hi W hs hp
   exact does_val z10_10 ⟨rfl,Below.refl _ _⟩
  case s6_12 =>
   intro _ vs lo hi W hs hp
   have e11:vs 11 = .pointer (some ⟨B0,2,none⟩):=hp 11 z13_1 rfl
   have hc:W.cell? ⟨B0,2,none⟩=some (.string x.f2):=(blk_cell hs.2.1.out 2).trans rfl
   exact does_val z10_10 ⟨rfl,Below.refl _ _⟩
  case s6_13 =>
   intro _ vs lo hi W hs hp
   have e12:vs 12 = .string x.f2:=hp 12 z13_1 rfl
   have kb:=print_bytes (P:=Try.prog) 9 22 5 Try.underlying9 Try.underlying22 Try.underlying5 x.f2 W
   exact does_val z10_10 ⟨bytes_FK W 5 x.f2 CS.out.2.1,bytes_below' W 5 x.f2⟩
  case s6_14 =>
   intro _ vs lo hi W hs hp
   exact does_val z10_10 ⟨rfl,Below.refl _ _⟩
  case s6_15 =>
   intro _ vs lo hi W hs hp
   have e14:vs 14 = .pointer (some ⟨B0,5,none⟩):=hp 14 z13_1 rfl
   have hc:W.cell? ⟨B0,5,none⟩=some (.string x.f5):=(blk_cell hs.2.1.out 5).trans rfl
   exact does_val z10_10 ⟨rfl,Below.refl _ _⟩
  case s6_16 =>
   intro _ vs lo hi W hs hp
   have e15:vs 15 = .string x.f5:=hp 15 z13_1 rfl
   have kb:=print_bytes (P:=Try.prog) 9 22 5 Try.underlying9 Try.underlying22 Try.underlying5 x.f5 W
   exact does_val z10_10 ⟨bytes_FK W 5 x.f5 CS.out.2.2,bytes_below' W 5 x.f5⟩
  case s6_17 =>
  intro _ vs lo hi W hs hp
  have h13:Kd.FK (Kd.slice 5 (Kd.int .u8)) W (typed 5 W) (bytesOf x.f2) [vs 13]:=hp 13 z13_1 rfl
  have h16:Kd.FK (Kd.slice 5 (Kd.int .u8)) W (typed 5 W) (bytesOf x.f5) [vs 16]:=hp 16 z13_1 rfl
  obtain ⟨A13,c13,e13,_⟩:=Kd.FK_slice_open h13
  obtain ⟨A16,c16,e16,_⟩:=Kd.FK_slice_open h16
  have e13:=List.cons.inj e13 |>.1
  have e16:=List.cons.inj e16 |>.1
  rw [e13] at h13
  rw [e16] at h16
  refine does_val (v:=.slice (some ⟨W.heap.size,0,none⟩) 2 2) (w1:=W.alloc (.cells #[.slice A13 (bytesOf x.f2).length c13,.slice A16 (bytesOf x.f5).length c16] 22)) z10_10 ⟨Kd.FK_mono (lit2_FK W 22 h13 h16) (λj hj=>hj.imp (λht=>typed_below ht (below_alloc (Below.refl _ _) _)) (λe=>by subst e;simp)),below_alloc (Below.refl _ _) _⟩
 case hend6 =>
 intro vs6 lo hi W hs hp hap
 simp only [List.drop_succ_cons,List.drop_zero]
 have h10:Kd.N (Kd.slice 5 (Kd.int .u8)) 22 W (lo 10) (λk=>k<hi 10) (vs6 10) t6/\B0<=lo 10/\w.heap.size<=lo 10:=hp 10 (by decide) rfl
 have h17:Kd.FK (Kd.slice 22 (Kd.slice 5 (Kd.int .u8))) W (λj=>typed 5 W j\/lo 17<=j/\j<hi 17) [bytesOf x.f2,bytesOf x.f5] [vs6 17]:=hp 17 (by decide) rfl
 have hdis:=hap 10 17 (by decide) (by decide) rfl rfl (by decide)
 clear hp hap
 obtain ⟨HB,BX,HO,BK,LE⟩:=hs
 generalize vs6 10=v41 at h10 ⊢
 obtain ⟨A48,c48,e48,hl48,hF48⟩:=Kd.FK_slice_open h17
 have e48:=List.cons.inj e48 |>.1
 rw [e48]
 obtain ⟨A41,c41,e41⟩:=Kd.N_slice h10.1
 subst e41
 have hown:∀ j,some j=(Value.slice A41 t6.length c41).ownBlock->lo 10<=j/\j<hi 10:=λj hj=>⟨Kd.N_base h10.1 j hj.symm,h10.1.1 j hj.symm⟩
 have hap48:∀ j,(typed 5 W j\/lo 17<=j/\j<hi 17)->some j≠(Value.slice A41 t6.length c41).ownBlock:=by
  intro j hj he
  have h1:=hown j he
  rcases hj with hj|hj
  ·exact typed_ne (N_typed' h10.1 he) hj (by decide)
  ·omega
 have hapu:∀ j,j<B0->some j≠(Value.slice A41 t6.length c41).ownBlock:=λj hj he=>by have h1:=hown j he;omega
 have HT:=U (Kd.N_mono (Kd.N_lower h10.1 h10.2.2) (ok':=λ_=>True) (λ_ _=>trivial))
 have HF:=Aside0.mk hF48
 have HA1:=Aside0.mk hap48
 have HA2:=Aside0.mk hapu
 have HW:=Aside0.mk h10.2.2
 clear h10 h17 hdis e48 hl48 hF48 hown hap48 hapu
 have CS1:=U (show t6.length+2<5864062014805 from CS.out.1)
 go_wp2_with (first|((with_reducible refine gate_builtin (b:=.append) (xs:=#[.tmp 41,.tmp 48]) rfl ?_);at_builtin;refine Kd.N_append_rows (Kd.slice 5 (Kd.int .u8)) (w0:=w) w.heap.size rfl (.tmp 41) (.tmp 48) 73 22 (.slice none 0 0) 24 rfl Try.underlying73 info22 rfl (by decide) (by decide) (.slice A41 t6.length c41) t6 [bytesOf x.f2,bytesOf x.f5] A48 2 c48 (λ_=>True) _ rfl rfl HT.out HF.out (λj hj=>⟨trivial,HA1.out j hj⟩) (λ_ _=>trivial) HB.out (below_size HB.out) (by have:=CS1.out;omega) ?_;intro v49 w1 ho hb hg hat;have n1:=U (Kd.N_grown HO.out hg (λj hj=>HA2.out j hj.2));have n2:=U (blk_grown BK.out hg (Kd.N_ne HT.out BK.out (by decide)));clear HT HF HA1 HA2 HB HO BX LE BK;have HT:=Aside0.mk ho;have HO:=n1;have BK:=n2;have HB:=Aside0.mk hb;clear n1 n2 hb hg hat;obtain ⟨A49,c49,e49⟩:=Kd.N_slice ho;subst e49;clear ho)|((with_reducible refine gate_callee (f:=75) rfl ?_);refine goesL_ (some 50) rfl rfl Try.func75 z13_1 rfl #[.slice A49 (t6++[bytesOf x.f2,bytesOf x.f5]).length c49] rfl (by(try simp only [List.map_toArray,List.map_cons,List.map_nil]);first|done|rfl) ?_;(with_reducible refine(r02_Pack.calls k1 _ _ (t6++[bytesOf x.f2,bytesOf x.f5]) p6 _ ?side1 ?side2 H5.out).mono ?_);(case side1=>exact(Kd.N_reads' HT.out).2.2);(case side2=>have:=(Kd.N_reads' HT.out);omega);rintro e w2 ⟨v50,rfl,ho,hb⟩;refine ⟨_,rfl,?_⟩;have n1:=U (Kd.N_below HO.out hb);have n2:=U ((hb.block _ (blk_lt BK.out)).trans BK.out);have n3:=U (below_step HB.out hb);clear HO BK HB HT;have HO:=n1;have BK:=n2;have HB:=n3;have HP:=Aside0.mk ho;clear n1 n2 n3 hb;obtain ⟨A50,c50,e50⟩:=Kd.R_slice ho;subst e50;clear ho)|((with_reducible refine gate_builtin (b:=.append) (xs:=#[.tmp 31,.tmp 51]) rfl ?_);at_builtin;refine Kd.N_append (Kd.slice 5 (Kd.int .u8)) (w0:=w) w.heap.size rfl (.tmp 31) (.tmp 51) 73 22 (.slice none 0 0) 24 rfl Try.underlying73 info22 rfl (by decide) (by decide) u3 acc p6 [.slice A50 p6.length c50] (λ_=>True) (typed 5 _) rfl rfl (own_FKt HP.out) (λj hj=>⟨trivial,λhe=>typed_ne (N_typed' HO.out he) hj (by decide)⟩) (λ_ _=>trivial) (Kd.N_mono HO.out (λ_ _=>trivial)) HB.out (below_size HB.out) (by have:=CL.out;omega) ?_;intro v52 w3 ho hb hg hat;have n2:=U (blk_grown BK.out hg (Kd.N_ne HO.out BK.out (by decide)));clear HO BK HB HP;have HO:=Aside0.mk ho;have BK:=n2;have HB:=Aside0.mk hb;clear n2 hb hg hat ho))
 go_roundg k1
 case measure=>have:=HK.out;omega
 case rel=>exact ⟨acc++[p6],wrap64 (i+1),rfl,H',⟨(by have:=HK.out;omega)⟩,HO,BK,HB⟩
end Go.Proofs.Ytgocnchjpecafaa.PEv
