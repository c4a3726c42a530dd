/- a part -/
import Derived.Lib.QuietBelow
import Derived.Test.YtgocnchjpecafaaPEvx8
import Derived.Test.YtgocnchjpecafaaPEvx23
namespace Go.Proofs.Ytgocnchjpecafaa.PEv
open Go.RowKit Go.Proofs.YtgocnchjpecafaaW.PrintWords Go.Proofs.YtgocnchjpecafaaW.PrintLast Go.Proofs.YtgocnchjpecafaaW.PrintMore
attribute [local go_sem] max2_int min2_int max_two min_two max_three min_three max_four min_four
set_option linter.unusedVariables false
set_option linter.unusedSimpArgs false
set_option maxHeartbeats 8000000
set_option maxRecDepth 100000
theorem z25_3 {P:Prop} (h:P:=by repeat(first|(with_reducible first|exact HB.out|apply below_alloc|apply pw_below_drewN|apply below_drew1|refine below_set ?_ GE537.out)|exact HB.out)):P:=h
def gossip_may_1.f (k:Nat) (a0_0:Int) (a0_1:Int) (l0_2:List Int) (l0_3:List (S48)):Option (Bool):=(event_Check.f k a0_0 a0_1 l0_2 l0_3).bind λt538=>(some (t538 != 0))
theorem gossip_may_1.mono:∀ a0 a1 a2 a3 k,LeO (gossip_may_1.f k a0 a1 a2 a3) (gossip_may_1.f (k+1) a0 a1 a2 a3):=by
 intro a0 a1 a2 a3 k
 unfold gossip_may_1.f
 repeat' first
  | (with_reducible exact event_Check.mono _ _ _ _ _)
  | (with_reducible exact LeO.refl _)
  | (with_reducible exact LeO.none _)
  | (with_reducible refine LeO.ite ?_ ?_)
  | (with_reducible refine LeO.bind ?_ (λ_=>?_))
theorem gossip_may_1.calls (k:Nat) (a0_0:Int) (a0_1:Int) (A0_2:Option Addr) (c0_2:Nat) (l0_2:List Int) (A0_3:Option Addr) (c0_3:Nat) (l0_3:List (S48)) (r:Bool) (w:World) (hr0_2:Kd.C (Kd.int .i64) w A0_2 l0_2.length l0_2) (hc0_2:l0_2.length<=c0_2) (hr0_3:Kd.C k48 w A0_3 l0_3.length l0_3) (hc0_3:l0_3.length<=c0_3) (h:gossip_may_1.f k a0_0 a0_1 l0_2 l0_3=some r) :
  Calls Try.prog 102 #[.agg #[.int .i64 a0_0,.int .i64 a0_1,.slice A0_2 l0_2.length c0_2,.slice A0_3 l0_3.length c0_3]] w λe w'=>e = .returned (.bool r)/\Below w.heap.size w w':=by
 have hu30:=Try.underlying30
 have HR0_2:=Aside0.mk hr0_2
 have HC0_2:=Aside0.mk hc0_2
 clear hr0_2 hc0_2
 have HR0_3:=Aside0.mk hr0_3
 have HC0_3:=Aside0.mk hc0_3
 clear hr0_3 hc0_3
 have HB:=U (Below.refl w.heap.size w)
 have H:((event_Check.f k a0_0 a0_1 l0_2 l0_3).bind λt538=>(some (t538 != 0)))=some r:=h
 clear h
 replace H:=oB_ H
 obtain ⟨t538,A20,H⟩:=H
 replace H:(some (t538 != 0))=some r:=H
 have A2:=Aside0.mk A20
 clear A20
 obtain rfl:=sI_ H
 go_enter Try.func102,Try.ntmps102
 go_wp2_with (first|((with_reducible refine gate_dst (N:=1) rfl ?_);refine box_event ?hg (N:=1) ?hd (cs:=#[.int .i64 a0_0,.int .i64 a0_1,.slice A0_2 l0_2.length c0_2,.slice A0_3 l0_3.length c0_3]) (t:=30) ?hr ?_;(case hd=>rfl);(case hg=>rfl);(case hr=>exact z10_10);intro gb537 hg w3 hbox hb;have BK537:=U (hbox);have GW537:=U ((by rw [hg];exact(below_size z20_4):w.heap.size<=gb537));have GE537:=U ((by rw [hg];exact(below_size z20_4):w.heap.size<=gb537));replace HB:=U (below_step z20_4 hb);clear hb hbox hg;obtain ⟨hcz4_0,hcz4_1,hcz4_2,hcz4_3,hfz4_0,hfz4_1,hfz4_2,hfz4_3⟩:=cz4_ BK537.out)|((with_reducible refine gate_callee (f:=27) rfl ?_);refine goesL_ (some 4) rfl rfl Try.func27 z3_17 rfl #[.agg #[.int .i64 a0_0,.int .i64 a0_1,.slice A0_2 l0_2.length c0_2,.slice A0_3 l0_3.length c0_3]] rfl (by(try simp only [List.map_toArray,List.map_cons,List.map_nil]);first|done|rfl|(simp only [List.length_drop,List.length_take];rfl)) ?_;(with_reducible refine(event_Check.calls k a0_0 a0_1 _ _ l0_2 _ _ l0_3 t538 _ ?side1 ?side2 ?side3 ?side4 A2.out).mono ?_);(case side1=>repeat(first|exact(Kd.C_below HR0_2.out HB.out)|(with_reducible refine Kd.C_alloc ?_ _)|(with_reducible refine Kd.C_drewN ?_ _)|(with_reducible refine Kd.C_drew ?_)));(case side2=>exact HC0_2.out);(case side3=>repeat(first|exact(Kd.C_below HR0_3.out HB.out)|(with_reducible refine Kd.C_alloc ?_ _)|(with_reducible refine Kd.C_drewN ?_ _)|(with_reducible refine Kd.C_drew ?_)));(case side4=>exact HC0_3.out);rintro e w5 ⟨rfl,hb⟩;refine ⟨_,rfl,?_⟩;replace BK537:=U (blk_below (g:=gb537) (o:=.cells #[.int .i64 a0_0,.int .i64 a0_1,.slice A0_2 l0_2.length c0_2,.slice A0_3 l0_3.length c0_3] 30 (0,0)) (by(with_reducible repeat(first|refine blk_drewN ?_ _|refine blk_drew ?_|refine blk_alloc ?_ _));exact BK537.out) hb);replace HB:=U (below_step z25_3 hb);(try clear hb);(try clear hb2);(try clear hk);(try clear hi)))
 go_ret
 exact ⟨(by first|rfl|(simp [errW_none,errW_some]<;>rfl)|(simp [*,errW_none,errW_some]<;>rfl)),z25_3⟩
theorem gossip_Get.put3 {w:World} {g t:Nat} {a b c a' b' c':Value} (h:w.heap[g]? = some (.cells #[a,b,c] t (0,0))):(((w.setCell ⟨g,0,none⟩ a').setCell ⟨g,1,none⟩ b').setCell ⟨g,2,none⟩ c').heap[g]? = some (.cells #[a',b',c'] t (0,0)) :=
 blk_put (cs:=#[a',b',c]) (blk_put (cs:=#[a',b,c]) (blk_put (cs:=#[a,b,c]) h 0 _ rfl) 1 _ rfl) 2 _ rfl
theorem gossip_Get.below_put3 {w0 w:World} {g:Nat} {a' b' c':Value} (h:Below w0.heap.size w0 w) (hg:w0.heap.size<=g):Below w0.heap.size w0 (((w.setCell ⟨g,0,none⟩ a').setCell ⟨g,1,none⟩ b').setCell ⟨g,2,none⟩ c') :=
 below_set (below_set (below_set h hg) hg) hg
def gossip_Get.l0:Nat->List (List Int)->List S30->Int->Option (Option (List S30))
 | 0,_,_,_=>none
 | k+1,ts,acc,i=>if i<(ts.length:Int) then(if 0<=i then((event_Get.f k (Go.Proofs.Ytgocnchjpecafaa.Hand.rdB ts i)).bind λx=>if x.2.2.2.2=0 then(if acc.length+1<2199023255552 then gossip_Get.l0 k ts (acc++[⟨⟨x.1,x.2.1⟩,x.2.2.1,x.2.2.2.1⟩]) (wrap64 (i+1)) else none) else some none) else none) else some (some acc)
def gossip_Get.fail:List Int×Bool×List S30×Int:=([],false,[],2)
def gossip_Get.f (k:Nat) (b:List Int):Option (List Int×Bool×List S30×Int) :=
 (wire_Unpack.f k b 18).bind λx=>if x.2.2=0 then(if x.2.1=(b.length:Int) then(if (x.1.length:Int)<2 then some gossip_Get.fail else
  (if ((Go.Proofs.Ytgocnchjpecafaa.Hand.rdB x.1 0).length:Int)=1 then(if 1<rd (Go.Proofs.Ytgocnchjpecafaa.Hand.rdB x.1 0) 0 then some gossip_Get.fail else
   ((clock_Read.f k (Go.Proofs.Ytgocnchjpecafaa.Hand.rdB x.1 1)).bind λp=>if p.2.2=0 then(if p.2.1=((Go.Proofs.Ytgocnchjpecafaa.Hand.rdB x.1 1).length:Int) then
    ((gossip_Get.l0 k (x.1.drop 2) [] 0).bind λo=>match o with
     | none=>some gossip_Get.fail
     | some es=>some (p.1,(rd (Go.Proofs.Ytgocnchjpecafaa.Hand.rdB x.1 0) 0 == 1),es,0))
    else some gossip_Get.fail) else some gossip_Get.fail)) else some gossip_Get.fail)) else some gossip_Get.fail) else some gossip_Get.fail
theorem gossip_Get.l0_mono:∀ k ts acc i,LeO (gossip_Get.l0 k ts acc i) (gossip_Get.l0 (k+1) ts acc i)
 | 0,_,_,_=>λr h=>by simp [gossip_Get.l0] at h
 | k+1,ts,acc,i=>by
  have ih:=gossip_Get.l0_mono k
  unfold gossip_Get.l0
  repeat' first
   | (with_reducible exact ih _ _ _)
   | (with_reducible exact event_Get.mono _ _)
   | (with_reducible exact LeO.refl _)
   | (with_reducible exact LeO.none _)
   | (with_reducible refine LeO.ite ?_ ?_)
   | (with_reducible refine LeO.bind ?_ (λ_=>?_))
   | exact LeO.refl _
theorem gossip_Get.mono:∀ a0 k,LeO (gossip_Get.f k a0) (gossip_Get.f (k+1) a0):=by
 intro a0 k
 unfold gossip_Get.f
 repeat' first
  | (with_reducible exact LeO.refl _)
  | (with_reducible exact wire_Unpack.mono _ _ _)
  | (with_reducible exact clock_Read.mono _ _)
  | (with_reducible exact gossip_Get.l0_mono _ _ _ _)
  | (with_reducible refine LeO.ite ?_ ?_)
  | (with_reducible refine LeO.bind ?_ (λ_=>?_))
  | exact LeO.refl _
  | split
open Go.Proofs.Ytgocnchjpecafaa.Cards Go.Proofs.Ytgocnchjpecafaa.Hand in
theorem gossip_Get.calls (k:Nat) (A0:Option Addr) (c0:Nat) (l0:List Int) (r1:List Int) (r2:Bool) (r3:List S30) (r4:Int) (w:World) (hr0:Kd.C (Kd.int .u8) w A0 l0.length l0) (hc0:l0.length<=c0) (h:gossip_Get.f k l0=some (r1,r2,r3,r4)) :
  Calls Try.prog 30 #[.slice A0 l0.length c0] w λe w'=>∃ v0_ v2_:Value,e = .returned (.tuple #[.agg #[v0_,.bool r2,v2_],.int .i64 r4])/\Kd.R (Kd.int .i64) 3 w' w.heap.size (λk_=>(w.heap.size<=k_)) v0_ r1/\Kd.N k30 30 w' w.heap.size (λk_=>(w.heap.size<=k_)/\some k_≠(v0_:Value).ownBlock) v2_ r3/\Below w.heap.size w w':=by
 have hu53:=Try.underlying53
 have hu30:=Try.underlying30
 have hu25:=Try.underlying25
 have HR:=Aside0.mk hr0
 have HC:=Aside0.mk hc0
 have HH:=h
 clear hr0 hc0 h
 go_enter Try.func30,Try.ntmps30
 go_upto_region 1 with (first|((with_reducible refine gate_dst (N:=2) rfl ?_);refine box_event ?hg (N:=2) ?hd (cs:=#[.slice none 0 0,.bool false,.slice none 0 0]) (t:=53) ?hr ?_;(case hd=>rfl);(case hg=>rfl);(case hr=>exact z10_10);intro gb hg w3 hbox hb;have HB:=Aside0.mk hb;have BK:=Aside0.mk hbox;have GE:=U (Nat.le_of_eq hg.symm);clear hb hbox hg))
 unfold gossip_Get.f at HH
 replace HH:=oB_ HH
 obtain ⟨⟨l,n,e⟩,h1,HH⟩:=HH
 have H1:=Aside0.mk h1
 have H:=Aside0.mk HH
 clear h1 HH
 go_upto_region 2 with (first|((with_reducible refine gate_callee (f:=78) rfl ?_);refine goesL_ (some 16) rfl rfl Try.func78 z3_17 rfl #[.slice A0 l0.length c0,.int .i64 18] rfl z8_3 ?_;(with_reducible refine(wire_Unpack.calls k _ _ l0 18 l n e _ (Kd.C_below HR.out HB.out) HC.out H1.out).mono ?_);rintro e_ w4 ⟨v4,rfl,ho,hb⟩;refine ⟨_,rfl,?_⟩;replace HB:=U (below_step HB.out hb);replace BK:=U (blk_below BK.out hb);clear hb;obtain ⟨A4,c4,e4⟩:=Kd.S_slice ho;subst e4;have HL:=U (S_Ft ho).2.2;have CL:=U (S_Ft ho).2.1;clear ho))
 have HH:=H.out
 clear H H1
 simp only at HH
 by_cases ce:e=0
 case neg =>
  rw [if_neg ce] at HH
  (simp only [gossip_Get.fail,Option.some.injEq,Prod.mk.injEq] at HH;obtain ⟨rfl,rfl,rfl,rfl⟩:=HH)
  have ce1:(e != 0)=true:=bne_iff_ne.2 ce
  obtain ⟨hz0,hz1,hz2,hf0,hf1,hf2⟩:=cz3_ BK.out
  go_wp2
  (refine bodyPost_ret (results_ct rfl _ _ gb 53 #[.slice none 0 0,.bool false,.slice none 0 0] (0,0) _ rfl (gossip_Get.put3 BK.out) Try.underlying53 rfl z3_17) rfl ?_;exact ⟨_,_,rfl,Kd.R_nil _ _ _ _ _,Kd.N_nil _ _ _ _ _,gossip_Get.below_put3 HB.out GE.out⟩)
 subst ce
 rw [if_pos rfl] at HH
 by_cases cn:n=(l0.length:Int)
 case neg =>
  rw [if_neg cn] at HH
  (simp only [gossip_Get.fail,Option.some.injEq,Prod.mk.injEq] at HH;obtain ⟨rfl,rfl,rfl,rfl⟩:=HH)
  have cn1:(n != (l0.length:Int))=true:=bne_iff_ne.2 cn
  obtain ⟨hz0,hz1,hz2,hf0,hf1,hf2⟩:=cz3_ BK.out
  go_wp2
  (refine bodyPost_ret (results_ct rfl _ _ gb 53 #[.slice none 0 0,.bool false,.slice none 0 0] (0,0) _ rfl (gossip_Get.put3 BK.out) Try.underlying53 rfl z3_17) rfl ?_;exact ⟨_,_,rfl,Kd.R_nil _ _ _ _ _,Kd.N_nil _ _ _ _ _,gossip_Get.below_put3 HB.out GE.out⟩)
 subst cn
 rw [if_pos rfl] at HH
 by_cases cl:(l.length:Int)<2
 case pos =>
  rw [if_pos cl] at HH
  (simp only [gossip_Get.fail,Option.some.injEq,Prod.mk.injEq] at HH;obtain ⟨rfl,rfl,rfl,rfl⟩:=HH)
  have cl1:decide ((l.length:Int)<2)=true:=dT_ cl
  obtain ⟨hz0,hz1,hz2,hf0,hf1,hf2⟩:=cz3_ BK.out
  go_wp2
  (refine bodyPost_ret (results_ct rfl _ _ gb 53 #[.slice none 0 0,.bool false,.slice none 0 0] (0,0) _ rfl (gossip_Get.put3 BK.out) Try.underlying53 rfl z3_17) rfl ?_;exact ⟨_,_,rfl,Kd.R_nil _ _ _ _ _,Kd.N_nil _ _ _ _ _,gossip_Get.below_put3 HB.out GE.out⟩)
 rw [if_neg cl] at HH
 have cl1:decide ((l.length:Int)<2)=false:=dF_ cl
 obtain ⟨ad,A6,c6,e6,hx0,hl6,hC6⟩:=at_rdB (Ft_now HL.out) 0 (by omega) (by omega)
 cases e6
 obtain ⟨adl,A9,c9,e9,hx1,hl9,hC9⟩:=at_rdB (Ft_now HL.out) 1 (by omega) (by omega)
 obtain rfl:ad=adl:=by injection e9
 simp only [show(1:Int).toNat=1 from rfl,show(0:Int).toNat=0 from rfl,Nat.reduceMul,Nat.reduceEqDiff,Go.Addr.add,↓reduceIte] at hx0 hx1
 have q0:(0<l.length)=True:=eq_true (by omega)
 have q1:(1<l.length)=True:=eq_true (by omega)
 have q0i:((0:Int)<(l.length:Int))=True:=eq_true (by omega)
 have q1i:((1:Int)<(l.length:Int))=True:=eq_true (by omega)
 have q2:(2<=l.length)=True:=eq_true (by omega)
 have q2i:((2:Int)<=(l.length:Int))=True:=eq_true (by omega)
 have HL2:=U (show 2<=l.length by omega)
 clear cl e9
 by_cases c1:((rdB l 0).length:Int)=1
 case neg =>
  rw [if_neg c1] at HH
  (simp only [gossip_Get.fail,Option.some.injEq,Prod.mk.injEq] at HH;obtain ⟨rfl,rfl,rfl,rfl⟩:=HH)
  have c11:(((rdB l 0).length:Int) != 1)=true:=bne_iff_ne.2 c1
  obtain ⟨hz0,hz1,hz2,hf0,hf1,hf2⟩:=cz3_ BK.out
  go_wp2
  (refine bodyPost_ret (results_ct rfl _ _ gb 53 #[.slice none 0 0,.bool false,.slice none 0 0] (0,0) _ rfl (gossip_Get.put3 BK.out) Try.underlying53 rfl z3_17) rfl ?_;exact ⟨_,_,rfl,Kd.R_nil _ _ _ _ _,Kd.N_nil _ _ _ _ _,gossip_Get.below_put3 HB.out GE.out⟩)
 rw [if_pos c1] at HH
 have c11:(((rdB l 0).length:Int) != 1)=false:=by rw [c1];rfl
 obtain ⟨ad6,e6,hy0⟩:=Kd.at_int hC6 0 (by omega) (by omega)
 cases e6
 simp only [show(0:Int).toNat=0 from rfl,Nat.reduceMul,Go.Addr.add,↓reduceIte] at hy0
 have s0:(0<(rdB l 0).length)=True:=eq_true (by omega)
 have s0i:((0:Int)<((rdB l 0).length:Int))=True:=eq_true (by omega)
 clear c1 hC6
 by_cases cb:1<rd (rdB l 0) 0
 case pos =>
  rw [if_pos cb] at HH
  (simp only [gossip_Get.fail,Option.some.injEq,Prod.mk.injEq] at HH;obtain ⟨rfl,rfl,rfl,rfl⟩:=HH)
  have cb1:decide (rd (rdB l 0) 0 > 1)=true:=dT_ cb
  have cb2:decide (1<rd (rdB l 0) 0)=true:=dT_ cb
  obtain ⟨hz0,hz1,hz2,hf0,hf1,hf2⟩:=cz3_ BK.out
  go_wp2
  (refine bodyPost_ret (results_ct rfl _ _ gb 53 #[.slice none 0 0,.bool false,.slice none 0 0] (0,0) _ rfl (gossip_Get.put3 BK.out) Try.underlying53 rfl z3_17) rfl ?_;exact ⟨_,_,rfl,Kd.R_nil _ _ _ _ _,Kd.N_nil _ _ _ _ _,gossip_Get.below_put3 HB.out GE.out⟩)
 rw [if_neg cb] at HH
 have cb1:decide (rd (rdB l 0) 0 > 1)=false:=dF_ cb
 have cb2:decide (1<rd (rdB l 0) 0)=false:=dF_ cb
 clear cb
 replace HH:=oB_ HH
 obtain ⟨⟨past,m,e⟩,h2,HH⟩:=HH
 have H2:=Aside0.mk h2
 have H:=Aside0.mk HH
 clear h2 HH
 have HR9:=Aside0.mk hC9
 have HC9:=Aside0.mk hl9
 clear hC9 hl9 hl6
 go_upto_region 5 with (first|((with_reducible refine gate_callee (f:=51) rfl ?_);refine goesL_ (some 53) rfl rfl Try.func51 z3_17 rfl #[.slice A9 (rdB l 1).length c9] rfl z8_3 ?_;(with_reducible refine(clock_Read.calls k _ _ (rdB l 1) past m e _ HR9.out HC9.out H2.out).mono ?_);rintro e_ w7 ⟨v8,rfl,ho,hb⟩;refine ⟨_,rfl,?_⟩;have HSZ:=U (below_size HB.out);replace HB:=U (below_step HB.out hb);replace BK:=U (blk_below BK.out hb);replace HL:=U (Ft_below HL.out hb);replace hx1:=pw_cell_below hb hx1;replace hx0:=pw_cell_below hb hx0;replace hy0:=pw_cell_below hb hy0;obtain ⟨A10,c10,e10⟩:=Kd.R_slice ho;subst e10;have PL:=U (Kd.R_lt ho);have HP:=U (show Rp (Kd.int .i64) 3 w.heap.size _ A10 c10 past from Kd.R_lower ho HSZ.out);have CP:=U (Rp_le HP.out);clear ho HSZ hb))
 have HH:=H.out
 clear H HR9 HC9 H2
 simp only at HH
 by_cases ce:e=0
 case neg =>
  rw [if_neg ce] at HH
  (simp only [gossip_Get.fail,Option.some.injEq,Prod.mk.injEq] at HH;obtain ⟨rfl,rfl,rfl,rfl⟩:=HH)
  have ce1:(e != 0)=true:=bne_iff_ne.2 ce
  obtain ⟨hz0,hz1,hz2,hf0,hf1,hf2⟩:=cz3_ BK.out
  go_wp2
  (refine bodyPost_ret (results_ct rfl _ _ gb 53 #[.slice none 0 0,.bool false,.slice none 0 0] (0,0) _ rfl (gossip_Get.put3 BK.out) Try.underlying53 rfl z3_17) rfl ?_;exact ⟨_,_,rfl,Kd.R_nil _ _ _ _ _,Kd.N_nil _ _ _ _ _,gossip_Get.below_put3 HB.out GE.out⟩)
 subst ce
 rw [if_pos rfl] at HH
 by_cases cm:m=((rdB l 1).length:Int)
 case neg =>
  rw [if_neg cm] at HH
  (simp only [gossip_Get.fail,Option.some.injEq,Prod.mk.injEq] at HH;obtain ⟨rfl,rfl,rfl,rfl⟩:=HH)
  have cm1:(m != ((rdB l 1).length:Int))=true:=bne_iff_ne.2 cm
  obtain ⟨hz0,hz1,hz2,hf0,hf1,hf2⟩:=cz3_ BK.out
  go_wp2
  (refine bodyPost_ret (results_ct rfl _ _ gb 53 #[.slice none 0 0,.bool false,.slice none 0 0] (0,0) _ rfl (gossip_Get.put3 BK.out) Try.underlying53 rfl z3_17) rfl ?_;exact ⟨_,_,rfl,Kd.R_nil _ _ _ _ _,Kd.N_nil _ _ _ _ _,gossip_Get.below_put3 HB.out GE.out⟩)
 subst cm
 rw [if_pos rfl] at HH
 replace HH:=oB_ HH
 obtain ⟨o,h1,HH⟩:=HH
 have H1:=Aside0.mk h1
 have H:=Aside0.mk HH
 clear h1 HH
 obtain ⟨bb,hbb⟩:∃ bb,(rd (rdB l 0) 0 == 1)=bb:=⟨_,rfl⟩
 rw [hbb] at H
 go_upto_region 8 with (fail)
 clear hx0 hx1 hy0 cl1 c11 cb1 cb2 s0 s0i q0 q1 q0i q1i hbb
 have BO:=U (heap_alloc_new w7 (.cells #[.slice A10 past.length c10,.bool bb,.slice none 0 0] 53))
 have hb:=below_alloc (Below.refl w7.heap.size w7) (.cells #[.slice A10 past.length c10,.bool bb,.slice none 0 0] 53)
 obtain ⟨g,hg⟩:∃ g,g=w7.heap.size:=⟨_,rfl⟩
 generalize w7.alloc (.cells #[.slice A10 past.length c10,.bool bb,.slice none 0 0] 53)=w8 at BO hb ⊢
 rw [<-hg] at BO ⊢
 have NE:=U (show gb<g from hg ▸ blk_lt BK.out)
 have GO:=U (show w.heap.size<=g from hg ▸ below_size HB.out)
 rw [<-hg] at PL
 have n1:=U (below_step HB.out hb);have n2:=U (blk_below BK.out hb);have n3:=U (Ft_below HL.out hb);have n4:=U (Rp_below HP.out hb)
 clear HB BK HL HP hb hg
 have HB1:=n1;have BK1:=n2;have HL1:=n3;have HP1:=n4;have BO1:=BO
 clear n1 n2 n3 n4 BO
 obtain ⟨i022,hi22,_,hsz22,_⟩:=info_parts info22
 obtain ⟨A82,c82,hcut,hF82,hc82⟩:∃ A82 c82,(∀ W,(Instr.slice 73 (.slice (some ad) l.length c4) (some (.int .i64 2)) none none).run Try.prog W = .ok (.slice A82 (l.drop 2).length c82) W)/\Ft (Kd.slice 5 (Kd.int .u8)) [22,5] w8 A82 (l.drop 2)/\(l.drop 2).length<=c82:=by
  refine ⟨if c4=2 then some ad else(some ad).map (·.add (2*1)),c4 - 2,λW=>?_,Ft_cut (m:=2) HL1.out (by have:=HL2.out;omega) CL.out,(by rw [List.length_drop];have:=CL.out;have:=HL2.out;omega)⟩
  rw [List.length_drop]
  exact cut_from 73 22 .i64 Try.underlying73 hi22 1 hsz22 (some ad) l.length c4 2 (by omega) (by have:=HL2.out;omega) W
 have HT:=Aside0.mk hF82
 have CT:=Aside0.mk hc82
 clear hF82 hc82 hi22 hsz22 HL1
 generalize l.drop 2=ts at H1 hcut HT CT
 go_wp2
 clear hcut
 go_loopg [79] k (λkq v79 wr=>∃ (acc:List S30) (i:Int) (v:Value),v79 = .int .i64 i/\Aside0 (gossip_Get.l0 kq ts acc i=some o)/\Aside0 (kq<=k)/\Aside0 (wr.heap[g]? = some (.cells #[.slice A10 past.length c10,.bool bb,v] 53 (0,0)))/\Aside0 (Kd.N k30 30 wr w.heap.size (λk_=>g<k_) v acc)/\Aside0 (Ft (Kd.slice 5 (Kd.int .u8)) [22,5] wr A82 ts)/\Aside0 (Rp (Kd.int .i64) 3 w.heap.size wr A10 c10 past)/\Aside0 (wr.heap[gb]? = some (.cells #[.slice none 0 0,.bool false,.slice none 0 0] 53 (0,0)))/\Aside0 (Below w.heap.size w wr))
 case atStart=>exact ⟨[],0,.slice none 0 0,rfl,H1,⟨Nat.le_refl _⟩,BO1,⟨Kd.N_nil _ _ _ _ _⟩,HT,HP1,BK1,HB1⟩
 case round =>
 clear H1 BO1 HT HP1 BK1 HB1
 obtain ⟨acc,i,v,rfl,HA,HK,BO,HO,HT,HP,BK,HB⟩:=hrel
 cases gk with
 | zero=>exact absurd HA.out (by simp [gossip_Get.l0])
 | succ k1 =>
 have HQ:=HA.out
 clear HA
 simp only [gossip_Get.l0] at HQ
 obtain ⟨Av,cv,ev⟩:=Kd.N_slice HO.out
 subst ev
 by_cases ci:i<(ts.length:Int)
 case neg =>
  rw [if_neg ci] at HQ
  obtain rfl:=sI_ HQ
  have HH:=H.out
  clear H
  simp only [Option.some.injEq,Prod.mk.injEq] at HH
  obtain ⟨rfl,rfl,rfl,rfl⟩:=HH
  have ci1:decide (i<(ts.length:Int))=false:=dF_ ci
  have ci2:(i<(ts.length:Int))=False:=eq_false ci
  clear ci HT
  obtain ⟨ho0,ho1,ho2,_,_,_⟩:=cz3_ BO.out
  obtain ⟨hz0,hz1,hz2,hf0,hf1,hf2⟩:=cz3_ BK.out
  go_wp2
  refine bodyPost_ret (results_ct rfl _ _ gb 53 #[.slice A10 past.length c10,.bool bb,.slice Av acc.length cv] (0,0) _ rfl (gossip_Get.put3 BK.out) Try.underlying53 rfl z3_17) rfl ?_
  have TB:=typed_of_block BK.out
  refine ⟨_,_,rfl,Kd.R_reok rfl (Rp_set rfl (Rp_set rfl (Rp_set rfl HP.out TB (by decide) _) (typed_set TB) (by decide) _) (typed_set (typed_set TB)) (by decide) _) (λk_ hk=>Kd.R_base HP.out k_ hk),Kd.N_mono (Kd.N_far (p:=⟨gb,2,none⟩) (Kd.N_far (p:=⟨gb,1,none⟩) (Kd.N_far (p:=⟨gb,0,none⟩) HO.out (λk_ hk=>Nat.ne_of_gt (Nat.lt_trans NE.out hk)) _) (λk_ hk=>Nat.ne_of_gt (Nat.lt_trans NE.out hk)) _) (λk_ hk=>Nat.ne_of_gt (Nat.lt_trans NE.out hk)) _) (λk_ hk=>⟨Nat.le_trans GO.out (Nat.le_of_lt hk),λhe=>Nat.lt_asymm hk (PL.out k_ he.symm)⟩),gossip_Get.below_put3 HB.out GE.out⟩
 rw [if_pos ci] at HQ
 by_cases c0_:0<=i
 case neg =>
  rw [if_neg c0_] at HQ
  exact absurd HQ (by simp)
 rw [if_pos c0_] at HQ
 replace HQ:=oB_ HQ
 obtain ⟨⟨x1,x2,x3,x4,x5⟩,h1,HQ⟩:=HQ
 have HE:=Aside0.mk h1
 replace HQ:=Aside0.mk HQ
 clear h1
 obtain ⟨adt,A14,c14,e14,hx,hl14,hC14⟩:=at_rdB (Ft_now HT.out) i c0_ ci
 cases e14
 have ci1:decide (i<(ts.length:Int))=true:=dT_ ci
 have ci2:(i<(ts.length:Int))=True:=eq_true ci
 have c01:(0<=i)=True:=eq_true c0_
 have HR14:=Aside0.mk hC14
 have HC14:=Aside0.mk hl14
 have OL:=U (Kd.N_lt HO.out)
 have GL:=U (blk_lt BO.out)
 clear ci c0_ hC14 hl14
 go_upto_region 12 with (first|((with_reducible refine gate_callee (f:=13) rfl ?_);refine goesL_ (some 85) rfl rfl Try.func13 z3_17 rfl #[.slice A14 (rdB ts i).length c14] rfl z8_3 ?_;(with_reducible refine(event_Get.calls k1 _ _ (rdB ts i) x1 x2 x3 x4 x5 _ HR14.out HC14.out HE.out).mono ?_);rintro e_ w9 ⟨v2,v3,rfl,hr2,hr3,hb⟩;refine ⟨_,rfl,?_⟩;obtain ⟨Ap,cp,ep⟩:=Kd.R_slice hr2;subst ep;obtain ⟨Aq,cq,eq⟩:=Kd.R_slice hr3;subst eq;have LP:=U (Kd.R_reads' hr2).2.1;have LQ:=U (Kd.R_reads' hr3).2.1;have FP:=U (Kd.R_F (Kd.R_reok (ok:=λk_=>wr.heap.size<=k_) rfl hr2 (λk_ hk=>Kd.R_base hr2 k_ hk)));have FQ:=U (Kd.R_F (Kd.R_reok (ok:=λk_=>wr.heap.size<=k_) rfl hr3 (λk_ hk=>Kd.R_base hr3 k_ hk)));clear hr2 hr3;replace HB:=U (below_step HB.out hb);replace BK:=U (blk_below BK.out hb);replace HT:=U (Ft_below HT.out hb);replace HP:=U (Rp_below HP.out hb);replace HO:=U (Kd.N_below HO.out hb);replace BO:=U (blk_below BO.out hb);clear hb hx))
 have BX:=U (heap_alloc_new w9 (.cells #[.int .i64 x1,.int .i64 x2,.slice Ap x3.length cp,.slice Aq x4.length cq] 30))
 have hbx:=below_alloc (Below.refl w9.heap.size w9) (.cells #[.int .i64 x1,.int .i64 x2,.slice Ap x3.length cp,.slice Aq x4.length cq] 30)
 generalize w9.alloc (.cells #[.int .i64 x1,.int .i64 x2,.slice Ap x3.length cp,.slice Aq x4.length cq] 30)=w10 at BX hbx ⊢
 have n1:=U (below_step HB.out hbx);have n2:=U (blk_below BK.out hbx);have n3:=U (Ft_below HT.out hbx);have n4:=U (Rp_below HP.out hbx);have n5:=U (Kd.N_below HO.out hbx);have n6:=U (blk_below BO.out hbx);have n7:=U (Kd.F_below FP.out hbx);have n8:=U (Kd.F_below FQ.out hbx)
 clear HB BK HT HP HO BO FP FQ hbx
 have HB:=n1;have BK:=n2;have HT:=n3;have HP:=n4;have HO:=n5;have BO:=n6;have FP:=n7;have FQ:=n8
 clear n1 n2 n3 n4 n5 n6 n7 n8
 replace HQ:=HQ.out
 simp only at HQ
 by_cases cx:x5=0
 case neg =>
  rw [if_neg cx] at HQ
  obtain rfl:=sI_ HQ
  have HH:=H.out
  simp only at HH
  (simp only [gossip_Get.fail,Option.some.injEq,Prod.mk.injEq] at HH;obtain ⟨rfl,rfl,rfl,rfl⟩:=HH)
  have cx1:(x5 != 0)=true:=bne_iff_ne.2 cx
  obtain ⟨hz0,hz1,hz2,hf0,hf1,hf2⟩:=cz3_ BK.out
  go_wp2
  (refine bodyPost_ret (results_ct rfl _ _ gb 53 #[.slice none 0 0,.bool false,.slice none 0 0] (0,0) _ rfl (gossip_Get.put3 BK.out) Try.underlying53 rfl z3_17) rfl ?_;exact ⟨_,_,rfl,Kd.R_nil _ _ _ _ _,Kd.N_nil _ _ _ _ _,gossip_Get.below_put3 HB.out GE.out⟩)
 subst cx
 rw [if_pos rfl] at HQ
 by_cases cl:acc.length+1<2199023255552
 case neg =>
  rw [if_neg cl] at HQ
  exact absurd HQ (by simp)
 rw [if_pos cl] at HQ
 have CL2:=Aside0.mk cl
 have HQ3:=Aside0.mk HQ
 clear cl HQ
 obtain ⟨hz0,hz1,hz2,hz3,_,_,_,_⟩:=cz4_ BX.out
 have ho2:=(blk_cell BO.out 2).trans (rfl:_=some (Value.slice Av acc.length cv))
 go_wp2_with (first|((with_reducible refine gate_builtin (b:=.append) (xs:=#[.tmp 92,.tmp 94]) rfl ?_);at_builtin;refine Kd.N_append k30 (w0:=w) w.heap.size rfl (.tmp 92) (.tmp 94) 38 30 (.agg #[(.int .i64 0),(.int .i64 0),(.slice none 0 0),(.slice none 0 0)]) 64 rfl Try.underlying38 info30 rfl (by decide) (by decide) (.slice Av acc.length cv) acc (⟨⟨x1,x2⟩,x3,x4⟩:S30) [.int .i64 x1,.int .i64 x2,.slice Ap x3.length cp,.slice Aq x4.length cq] (λk_=>g<k_) (λk_=>wr.heap.size<=k_) rfl rfl (k30_mkF _ _ (⟨⟨x1,x2⟩,x3,x4⟩:S30) LP.out FP.out LQ.out FQ.out) (λk_ hk=>⟨Nat.lt_of_lt_of_le GL.out hk,λhe=>by have h1:k_<wr.heap.size:=OL.out k_ he.symm;have h2:wr.heap.size<=k_:=hk;omega⟩) (λk_ hk=>Nat.lt_of_lt_of_le (blk_lt BO.out) hk) HO.out HB.out (below_size HB.out) (by have:=CL2.out;omega) ?_;intro v95 w11 ho hb hg hat;have TY:=U (λk_ (hk:(Value.slice Av acc.length cv).ownBlock=some k_)=>N_typed' HO.out hk.symm);have n2:=U (blk_grown BK.out hg (Kd.N_ne HO.out BK.out (by decide)));have n3:=U (Ft_grown HT.out hg TY.out (by decide));have n4:=U (Rp_grown rfl HP.out hg TY.out (by decide));have n6:=U (blk_grown BO.out hg (Kd.N_ne HO.out BO.out (by decide)));clear HB BK HT HP HO BO BX TY FP FQ hz0 hz1 hz2 hz3 ho2;have HB:=Aside0.mk hb;have BK:=n2;have HT:=n3;have HP:=n4;have HO:=Aside0.mk ho;have BO:=n6;clear n2 n3 n4 n6 hb hg hat;have ho2:=(blk_cell BO.out 2).trans (rfl:_=some (Value.slice Av acc.length cv));have hf2:=blk_frozen BO.out 2;obtain ⟨A100,c100,e100⟩:=Kd.N_slice ho;subst e100;clear ho;rw [List.length_append,List.length_singleton] at HO))
 go_roundg k1
 case measure=>have:=HK.out;omega
 case rel=>exact ⟨acc++[(⟨⟨x1,x2⟩,x3,x4⟩:S30)],wrap64 (i+1),.slice A100 (acc.length+1) c100,rfl,HQ3,⟨(by have:=HK.out;omega)⟩,⟨blk_put (cs:=#[.slice A10 past.length c10,.bool bb,.slice Av acc.length cv]) BO.out 2 _ rfl⟩,⟨Kd.N_far (p:=⟨g,2,none⟩) HO.out (λ_ hk=>Nat.ne_of_gt hk) _⟩,⟨Ft_set HT.out (typed_of_block BO.out) (by decide) _⟩,⟨Rp_set rfl HP.out (typed_of_block BO.out) (by decide) _⟩,⟨blk_far (p:=⟨g,2,none⟩) BK.out (Nat.ne_of_lt NE.out) _⟩,⟨below_set HB.out GO.out⟩⟩
def api_Effect_80.f (l0:List (S48)):Option ((List (S48))):=(some (([]:List (S48)):List (S48))).bind λy539=>(if y539.length+l0.length<2199023255552 then(some (y539++l0)) else(none))
theorem api_Effect_80.calls_some (A0_:Addr) (c0:Nat) (l0:List (S48)) (r:List (S48)) (w:World) (hr0:Kd.C k48 w (some A0_) l0.length l0) (hc0:l0.length<=c0) (h:api_Effect_80.f l0=some r) :
  Calls Try.prog 80 #[.slice (some A0_) l0.length c0] w λe w'=>∃ v0_:Value,e = .returned (v0_)/\Kd.R k48 48 w' w.heap.size (λ_=>True) v0_ r/\Below w.heap.size w w':=by
 have HR0:=Aside0.mk hr0
 have HC0:=Aside0.mk hc0
 clear hr0 hc0
 have HB:=U (Below.refl w.heap.size w)
 have H:((some (([]:List (S48)):List (S48))).bind λy539=>(if y539.length+l0.length<2199023255552 then(some (y539++l0)) else(none)))=some r:=h
 clear h
 obtain ⟨y539,hy539⟩:∃ y_:List (S48),y_=(([]:List (S48))):=⟨_,rfl⟩
 replace H:(if y539.length+l0.length<2199023255552 then(some (y539++l0)) else(none))=some r:=by first|(rw [hy539];with_reducible exact H)|(have H2_:=(Option.bind_some _ _).symm.trans H;rw [hy539];with_reducible exact H2_)|(have H2_:=(Option.bind_some _ _).symm.trans H;with_reducible exact H2_)|with_reducible exact H|(rw [hy539];exact H)|exact H
 have Ny539:=Aside0.mk hy539
 clear hy539
 by_cases c2:y539.length+l0.length<2199023255552
 rotate_left
 ·rw [if_neg c2] at H
  exact absurd H (by simp)
 rw [if_pos c2] at H
 have LMc2:=Aside0.mk c2
 clear c2
 obtain ⟨y542,hy542⟩:∃ y_:List (S48),y_=(y539++l0):=⟨_,rfl⟩
 replace H:(some y542)=some r:=by first|(rw [hy542];with_reducible exact H)|(have H2_:=(Option.bind_some _ _).symm.trans H;rw [hy542];with_reducible exact H2_)|(have H2_:=(Option.bind_some _ _).symm.trans H;with_reducible exact H2_)|with_reducible exact H|(rw [hy542];exact H)|exact H
 have Ny542:=Aside0.mk hy542
 clear hy542
 obtain rfl:=sI_ H
 have hnil_:=λW:World=>Lib.run_eql_slice_nil (P:=Try.prog) W 28 48 (some A0_) l0.length c0 0 0 z3_17
 go_enter Try.func80,Try.ntmps80
 go_wp2_with (first|((with_reducible refine gate_dst (N:=5) rfl ?_);refine Kd.R_lit k48 _ 48 ?hg (N:=5) ?hd (xs:=([]:List (S48))) (inner:=[]) (ok:=λ_=>True) (okp:=λ_=>True) ?hr ?hp (λ_ hk=>hk) trivial (Below.refl _ _) (Nat.le_refl _) (by simp) ?_;(case hd=>rfl);(case hg=>rfl);(case hr=>exact z10_10);(case hp=>exact(Reps.none _ _));intro v540 w3 ho4 hb hg_ hnew_;clear hg_ hnew_;(first|rw [<-Ny539.out] at ho4|(simp only [Int.reduceToNat] at ho4;rw [<-Ny539.out] at ho4));have HO541:=U (Kd.R_lower ho4 (below_size z20_4));replace HB:=U (below_step z20_4 hb);clear hb ho4)|((with_reducible refine gate_builtin (b:=.append) (xs:=#[.tmp 5,.tmp 6]) rfl ?_);at_builtin;refine Kd.R_append_rows k48 (w0:=w) w.heap.size rfl (.tmp 5) (.tmp 6) 28 48 (.agg #[(.int .i64 0),(.int .i64 0),(.string ⟨#[]⟩),(.int .i64 0),(.int .i64 0),(.string ⟨#[]⟩)]) 64 rfl Try.underlying28 info48 rfl (by decide) (by omega) v540 y539 l0 _ _ _ (λ_=>True) (λ_=>False) rfl rfl ?aO ?aR (λ_ _ h=>h) (λ_ h=>h.elim) ?aF ?aB ?aS ?aL ?_;(case aR=>repeat(first|exact(Kd.C_below HR0.out HB.out)|(with_reducible refine Kd.C_alloc ?_ _)|(with_reducible refine Kd.C_drewN ?_ _)|(with_reducible refine Kd.C_drew ?_)));(case aB=>exact z20_4);(case aF=>exact(λ_ _=>trivial));(case aO=>exact(by(with_reducible repeat(first|apply Kd.R_alloc|apply Kd.R_drewN|apply Kd.R_drew));exact HO541.out));(case aS=>exact(below_size z20_4));(case aL=>have:=LMc2.out;omega);intro v543 w5 ho hb hg hat;rw [<-Ny542.out] at ho;replace HB:=U (hb);have HO544:=U (ho);clear HO541;clear ho hb hg hat))
 go_ret
 exact ⟨_,(by first|rfl|(simp [errW_none,errW_some]<;>rfl)|(simp [*,errW_none,errW_some]<;>rfl)),(by(with_reducible repeat(first|apply Kd.R_alloc|apply Kd.R_drewN|apply Kd.R_drew));exact HO544.out),z20_4⟩
theorem api_Effect_80.calls (A0:Option Addr) (c0:Nat) (l0:List (S48)) (r:List (S48)) (w:World) (hr0:Kd.C k48 w A0 l0.length l0) (hc0:l0.length<=c0) (h:api_Effect_80.f l0=some r) :
  Calls Try.prog 80 #[.slice A0 l0.length c0] w λe w'=>∃ v0_:Value,e = .returned (v0_)/\Kd.R k48 48 w' w.heap.size (λ_=>True) v0_ r/\Below w.heap.size w w':=by
 cases A0 with
 | some A0_=>exact api_Effect_80.calls_some _ c0 l0 r w hr0 hc0 h
 | none =>
 have hl:l0=[]:=by
  rcases Nat.eq_zero_or_pos l0.length with h0|h0
  ·exact List.length_eq_zero_iff.1 h0
  ·obtain ⟨ad,e,_⟩:=hr0.2.2 h0
   cases e
 subst hl
 obtain rfl:r=[]:=by
  simp [api_Effect_80.f] at h
  first|exact h|exact h.symm
 have hnil_:=λW:World=>Lib.run_eql_slice_nil (P:=Try.prog) W 28 48 none 0 c0 0 0 z3_17
 clear h
 go_enter Try.func80,Try.ntmps80
 go_wp2
 go_ret
 exact ⟨_,rfl,(by first|exact Kd.R_nil _ _ _ _ _|exact Kd.N_nil _ _ _ _ _|exact Kd.V_nil _ _ _ _ _),Below.refl _ _⟩
def gossip_Lacks.l0:Nat->List S30->List Int->Int->List S30->Int->Option (List S30)
 | 0,_,_,_,_,_=>none
 | k+1,o,c,most,acc,i=>if i<(o.length:Int) then(if 0<=i then(if most<=(acc.length:Int) then some acc else((event_Check.f k (rd_T30 o i).f0.f0 (rd_T30 o i).f0.f1 (rd_T30 o i).f1 (rd_T30 o i).f2).bind λt=>if t=0 then(if ClockBase.getS c (rd_T30 o i).f0.f0<(rd_T30 o i).f0.f1 then((api_Clock_int_79.f (rd_T30 o i).f1).bind λp=>(api_Effect_80.f (rd_T30 o i).f2).bind λq=>if acc.length+1<2199023255552 then gossip_Lacks.l0 k o c most (acc++[⟨(rd_T30 o i).f0,p,q⟩]) (wrap64 (i+1)) else none) else gossip_Lacks.l0 k o c most acc (wrap64 (i+1))) else gossip_Lacks.l0 k o c most acc (wrap64 (i+1)))) else none) else some acc
theorem gossip_Lacks.l0_mono:∀ k o c most acc i,LeO (gossip_Lacks.l0 k o c most acc i) (gossip_Lacks.l0 (k+1) o c most acc i)
 | 0,_,_,_,_,_=>λr h=>by simp [gossip_Lacks.l0] at h
 | k+1,o,c,most,acc,i=>by
  have ih:=gossip_Lacks.l0_mono k
  unfold gossip_Lacks.l0
  repeat' first
   | (with_reducible exact ih _ _ _ _ _)
   | (with_reducible exact event_Check.mono _ _ _ _ _)
   | (with_reducible exact LeO.refl _)
   | (with_reducible exact LeO.none _)
   | (with_reducible refine LeO.ite ?_ ?_)
   | (with_reducible refine LeO.bind ?_ (λ_=>?_))
   | exact LeO.refl _
def gossip_Lacks.f (k:Nat) (l0:List S30) (l1:List Int) (a2:Int):Option (List S30):=(event_Order.f l0).bind λo=>gossip_Lacks.l0 k o l1 a2 [] 0
theorem gossip_Lacks.mono:∀ a0 a1 a2 k,LeO (gossip_Lacks.f k a0 a1 a2) (gossip_Lacks.f (k+1) a0 a1 a2):=by
 intro a0 a1 a2 k
 unfold gossip_Lacks.f
 exact LeO.bind (LeO.refl _) (λ_=>gossip_Lacks.l0_mono _ _ _ _ _ _)
theorem gossip_Lacks.k48_heap:Kd.Heap k48:=Kd.heap_iso _ (Kd.heap_pair (Kd.heap_int _) (Kd.heap_pair (Kd.heap_int _) (Kd.heap_pair Kd.heap_string (Kd.heap_pair (Kd.heap_int _) (Kd.heap_pair (Kd.heap_int _) Kd.heap_string)))))
theorem gossip_Lacks.k30_heap:Kd.Heap k30:=Kd.heap_iso _ (Kd.heap_pair (Kd.heap_iso _ (Kd.heap_pair (Kd.heap_int _) (Kd.heap_int _))) (Kd.heap_pair (Kd.heap_slice _ (Kd.heap_int _)) (Kd.heap_slice _ gossip_Lacks.k48_heap)))
open Go.Proofs.Ytgocnchjpecafaa.Cards Go.Proofs.Ytgocnchjpecafaa.Hand in
theorem gossip_Lacks.calls (k:Nat) (A0:Option Addr) (c0:Nat) (l0:List S30) (A1:Option Addr) (c1:Nat) (l1:List Int) (a2:Int) (r:List S30) (w:World) (hr0:Kd.C k30 w A0 l0.length l0) (hc0:l0.length<=c0) (hr1:Kd.C (Kd.int .i64) w A1 l1.length l1) (hc1:l1.length<=c1) (h:gossip_Lacks.f k l0 l1 a2=some r) :
  Calls Try.prog 36 #[.slice A0 l0.length c0,.slice A1 l1.length c1,.int .i64 a2] w λe w'=>∃ v0_:Value,e = .returned (v0_)/\Kd.N k30 30 w' w.heap.size (λk_=>(w.heap.size<=k_)) v0_ r/\Below w.heap.size w w':=by
 have hu30:=Try.underlying30
 have hu25:=Try.underlying25
 obtain ⟨o,ho,hl⟩:=oB_ h
 have H:=Aside0.mk hl
 have HR1:=Aside0.mk hr1
 have HC1:=Aside0.mk hc1
 have hord:=event_Order.calls (λk_=>k_<w.heap.size) A0 c0 l0 o w (Kd.V_mk hc0 (Kd.C_F gossip_Lacks.k30_heap hr0)) ho
 clear hl h ho hr0 hc0 hr1 hc1
 go_enter Try.func36,Try.ntmps36
 go_wp2_with (first|(go_at_call 20;refine hord.mono ?_;rintro e w1 ⟨v0,rfl,hN,hb⟩;obtain ⟨Ao,co,e0⟩:=Kd.N_slice hN;subst e0;have HN:=Aside0.mk hN;have HB:=Aside0.mk hb;clear hN hb))
 go_loopg [7,13] k (λkq v7 v13 wr=>∃ (acc:List S30) (i:Int),v13 = .int .i64 i/\Aside0 (gossip_Lacks.l0 kq o l1 a2 acc i=some r)/\Aside0 (kq<=k)/\Aside0 (Kd.N k30 30 wr w1.heap.size (λk_=>w1.heap.size<=k_) v7 acc)/\Aside0 (Below w1.heap.size w1 wr))
 case atStart=>exact ⟨[],0,rfl,H,⟨Nat.le_refl _⟩,⟨Kd.N_nil _ _ _ _ _⟩,⟨Below.refl _ _⟩⟩
 case round =>
 clear H
 obtain ⟨acc,i,rfl,HA,HK,HO,HB1⟩:=hrel
 cases gk with
 | zero=>exact absurd HA.out (by simp [gossip_Lacks.l0])
 | succ k1 =>
 have HQ:=HA.out
 clear HA
 simp only [gossip_Lacks.l0] at HQ
 obtain ⟨Av,cv,ev⟩:=Kd.N_slice HO.out
 subst ev
 by_cases ci:i<(o.length:Int)
 case neg =>
  rw [if_neg ci] at HQ
  obtain rfl:=sI_ HQ
  have ci1:decide (i<(o.length:Int))=false:=dF_ ci
  clear ci
  go_wp2
  go_ret
  exact ⟨_,rfl,Kd.N_mono (Kd.N_lower HO.out (below_size HB.out)) (λ_ hk=>Nat.le_trans (below_size HB.out) hk),below_step HB.out HB1.out⟩
 rw [if_pos ci] at HQ
 by_cases c0_:0<=i
 case neg =>
  rw [if_neg c0_] at HQ
  exact absurd HQ (by simp)
 rw [if_pos c0_] at HQ
 have HS:=Kd.N_reads' (Kd.N_below HN.out HB1.out)
 obtain ⟨ad,A2,c2,A3,c3,e_,f0,f1,f2,f3,m2,o2,m3,o3⟩:=at_T30 HS.2.2 i c0_ ci
 cases e_
 generalize rd_T30 o i=x at HQ f0 f1 f2 f3 m2 o2 m3 o3
 have ci1:decide (i<(o.length:Int))=true:=dT_ ci
 have ci2:(i<(o.length:Int))=True:=eq_true ci
 have c01:(0<=i)=True:=eq_true c0_
 have K2:=Aside0.mk m2;have G2:=Aside0.mk o2;have K3:=Aside0.mk m3;have G3:=Aside0.mk o3
 have HQ1:=Aside0.mk HQ
 clear m2 o2 m3 o3 HQ HS ci c0_
 go_upto_region 5 with (fail)
 have BX:=U (heap_alloc_new wr (.cells #[.int .i64 x.f0.f0,.int .i64 x.f0.f1,.slice A2 x.f1.length c2,.slice A3 x.f2.length c3] 30))
 have hb:=below_alloc (Below.refl wr.heap.size wr) (.cells #[.int .i64 x.f0.f0,.int .i64 x.f0.f1,.slice A2 x.f1.length c2,.slice A3 x.f2.length c3] 30)
 obtain ⟨bx,hbx⟩:∃ bx,bx=wr.heap.size:=⟨_,rfl⟩
 generalize wr.alloc (.cells #[.int .i64 x.f0.f0,.int .i64 x.f0.f1,.slice A2 x.f1.length c2,.slice A3 x.f2.length c3] 30)=w2 at BX hb ⊢
 rw [<-hbx] at BX ⊢
 have n1:=U (below_step HB1.out hb)
 have n2:=U (Kd.N_mono (Kd.N_below (Kd.N_bound HO.out) hb) (ok':=λk_=>w1.heap.size<=k_/\k_<bx) (λk_ hk=>by have:=hk.1;have:=hk.2;exact ⟨(by omega),(by omega)⟩))
 have n3:=U (show w1.heap.size<=bx from hbx ▸ below_size HB1.out)
 have G2':=U (Kd.C_below G2.out hb);have G3':=U (Kd.C_below G3.out hb)
 clear HB1 HO hb f0 f1 f2 f3 hbx G2 G3
 have HB1:=n1;have HO:=n2;have GX:=n3;have G2:=G2';have G3:=G3'
 clear n1 n2 n3 G2' G3'
 have HQ:=HQ1.out
 clear HQ1
 by_cases cm:a2<=(acc.length:Int)
 case pos =>
  rw [if_pos cm] at HQ
  obtain rfl:=sI_ HQ
  have cm1:decide (a2<=(acc.length:Int))=true:=dT_ cm
  clear cm
  go_wp2
  go_ret
  exact ⟨_,rfl,Kd.N_mono (Kd.N_lower HO.out (below_size HB.out)) (λ_ hk=>Nat.le_trans (below_size HB.out) hk.1),below_step HB.out HB1.out⟩
 rw [if_neg cm] at HQ
 have cm1:decide (a2<=(acc.length:Int))=false:=dF_ cm
 clear cm
 replace HQ:=oB_ HQ
 obtain ⟨t,h1,HQ⟩:=HQ
 have H1:=Aside0.mk h1
 have HQ1:=Aside0.mk HQ
 clear h1 HQ
 have x0:=(blk_cell BX.out 0).trans (rfl:_=some (Value.int .i64 x.f0.f0));have x1:=(blk_cell BX.out 1).trans (rfl:_=some (Value.int .i64 x.f0.f1));have x2:=(blk_cell BX.out 2).trans (rfl:_=some (Value.slice A2 x.f1.length c2));have x3:=(blk_cell BX.out 3).trans (rfl:_=some (Value.slice A3 x.f2.length c3))
 go_upto_region 6 with (fail)
 have k0:=cell_regrown x0;have k1_:=cell_regrown x1;have k2:=cell_regrown x2;have k3:=cell_regrown x3
 have cC:∀ d os,Calls Try.prog 27 #[.agg #[.int .i64 x.f0.f0,.int .i64 x.f0.f1,.slice A2 x.f1.length c2,.slice A3 x.f2.length c3]] (Sort.grow (redrawn w2 d) os) λe w''=>e = .returned (.int .i64 t)/\∃ p_:Regrown,w''=Sort.grow (redrawn w2 p_.d) p_.os:=λd os=>Calls.regrown_of (event_Check.calls k1 _ _ A2 c2 x.f1 A3 c3 x.f2 t _ (Kd.C_below G2.out (below_regrown w2 d os)) K2.out (Kd.C_below G3.out (below_regrown w2 d os)) K3.out H1.out)
 have cG:∀ d os,Calls Try.prog 65 #[.slice A1 l1.length c1,.int .i64 x.f0.f0] (Sort.grow (redrawn w2 d) os) λe w''=>e = .returned (.int .i64 (ClockBase.getS l1 x.f0.f0))/\∃ p_:Regrown,w''=Sort.grow (redrawn w2 p_.d) p_.os:=λd os=>Calls.regrown_of (clock_Get.calls A1 c1 l1 x.f0.f0 _ _ (Kd.C_below (Kd.C_below (Kd.C_below HR1.out HB.out) HB1.out) (below_regrown w2 d os)) HC1.out rfl)
 have HQ:=HQ1.out
 clear H1
 by_cases ct:t=0
 case neg =>
  rw [if_neg ct] at HQ
  have ct1:(t == 0)=false:=beq_eq_false_iff_ne.2 ct
  have HQ1:=Aside0.mk HQ
  clear ct HQ x0 x1 x2 x3
  refine wp_region_quiet_below z3_17 z3_17 ?_
  repeat(go_big_quiet_step (first|(with_reducible exact cC _ _)|(with_reducible exact cG _ _)))
  refine wpQuiet_nil ?_
  intro _ hw'
  obtain ⟨⟨dq,osq⟩,hw''⟩:=hw'
  subst hw''
  have n1:=U (below_step HB1.out (below_regrown w2 dq osq))
  have n2:=U (Kd.N_below HO.out (below_regrown w2 dq osq))
  clear cC cG k0 k1_ k2 k3 HB1 HO BX G2 G3
  generalize Sort.grow (redrawn w2 dq) osq=w3 at n1 n2 ⊢
  go_wp2
  go_roundg k1
  case measure=>have:=HK.out;omega
  case rel=>exact ⟨acc,wrap64 (i+1),rfl,HQ1,⟨(by have:=HK.out;omega)⟩,⟨Kd.N_mono n2.out (λ_ hk=>hk.1)⟩,n1⟩
 rw [if_pos ct] at HQ
 have ct1:(t == 0)=true:=beq_iff_eq.2 ct
 clear ct
 by_cases cs:ClockBase.getS l1 x.f0.f0<x.f0.f1
 case neg =>
  rw [if_neg cs] at HQ
  have cs1:decide (ClockBase.getS l1 x.f0.f0<x.f0.f1)=false:=dF_ cs
  have HQ1:=Aside0.mk HQ
  clear cs HQ x0 x1 x2 x3
  refine wp_region_quiet_below z3_17 z3_17 ?_
  repeat(go_big_quiet_step (first|(with_reducible exact cC _ _)|(with_reducible exact cG _ _)))
  refine wpQuiet_nil ?_
  intro _ hw'
  obtain ⟨⟨dq,osq⟩,hw''⟩:=hw'
  subst hw''
  have n1:=U (below_step HB1.out (below_regrown w2 dq osq))
  have n2:=U (Kd.N_below HO.out (below_regrown w2 dq osq))
  clear cC cG k0 k1_ k2 k3 HB1 HO BX G2 G3
  generalize Sort.grow (redrawn w2 dq) osq=w3 at n1 n2 ⊢
  go_wp2
  go_roundg k1
  case measure=>have:=HK.out;omega
  case rel=>exact ⟨acc,wrap64 (i+1),rfl,HQ1,⟨(by have:=HK.out;omega)⟩,⟨Kd.N_mono n2.out (λ_ hk=>hk.1)⟩,n1⟩
 rw [if_pos cs] at HQ
 have cs1:decide (ClockBase.getS l1 x.f0.f0<x.f0.f1)=true:=dT_ cs
 replace HQ:=oB_ HQ
 obtain ⟨p,h1,HQ⟩:=HQ
 replace HQ:=oB_ HQ
 obtain ⟨q,h2,HQ⟩:=HQ
 by_cases cl:acc.length+1<2199023255552
 case neg =>
  rw [if_neg cl] at HQ
  exact absurd HQ (by simp)
 rw [if_pos cl] at HQ
 have H1:=Aside0.mk h1
 have H2:=Aside0.mk h2
 have CL:=Aside0.mk cl
 have HQ1:=Aside0.mk HQ
 clear cs HQ h1 h2 cl x0 x1 x2 x3
 refine wp_region_quiet_below z3_17 z3_17 ?_
 repeat(go_big_quiet_step (first|(with_reducible exact cC _ _)|(with_reducible exact cG _ _)))
 refine wpQuiet_nil ?_
 intro _ hw'
 obtain ⟨⟨dq,osq⟩,hw''⟩:=hw'
 subst hw''
 have n1:=U (below_step HB1.out (below_regrown w2 dq osq))
 have n2:=U (Kd.N_below HO.out (below_regrown w2 dq osq))
 have n3:=U (blk_below BX.out (below_regrown w2 dq osq))
 have n4:=U (Kd.C_below G2.out (below_regrown w2 dq osq))
 have n5:=U (Kd.C_below G3.out (below_regrown w2 dq osq))
 clear cC cG k0 k1_ k2 k3 HB1 HO BX G2 G3
 generalize Sort.grow (redrawn w2 dq) osq=w3 at n1 n2 n3 n4 n5 ⊢
 have HB1:=n1;have HO:=n2;have BX:=n3;have G2:=n4;have G3:=n5
 clear n1 n2 n3 n4 n5
 go_upto_region 7 with (fail)
 have LT:=U (blk_lt BX.out)
 refine region_cards (F:=?F) 7 (λw'=>Aside0 (Below w1.heap.size w1 w')/\Aside0 (w'.heap[bx]? = some (.cells #[.int .i64 x.f0.f0,.int .i64 x.f0.f1,.slice A2 x.f1.length c2,.slice A3 x.f2.length c3] 30 (0,0)))/\Aside0 (Kd.N k30 30 w' w1.heap.size (λk_=>w1.heap.size<=k_/\k_<bx) (.slice Av acc.length cv) acc)/\Aside0 (Kd.C (Kd.int .i64) w' A2 x.f1.length x.f1)/\Aside0 (Kd.C k48 w' A3 x.f2.length x.f2)/\Aside0 (bx<w'.heap.size))
  [λv _ _ _=>v = .pointer (some ⟨bx,1+1,none⟩),
  λv _ _ _=>v = .slice A2 x.f1.length c2,
  λv w' _ _=>∃ A c,v = .slice A p.length c/\p.length<=c/\Kd.F (Kd.int .i64) w' (λk_=>bx<k_) A p.length p,
  λv _ _ _=>v = .pointer (some ⟨bx,3,none⟩),
  λv _ _ _=>v = .slice A3 x.f2.length c3,
  λv w' _ _=>∃ A c,v = .slice A q.length c/\q.length<=c/\Kd.F k48 w' (λk_=>bx<k_) A q.length q,
  λv _ _ _=>v = .pointer (some ⟨bx,2,none⟩)]
  z3_17 z3_17 ?hF ?hS0 ?hS ?hstay ?hsteps ?hend
 case hF =>
  intro vs
  simp only [List.take_succ_cons,List.take_zero,fill,if_true,if_false,Act.put,List.setIfInBounds_toArray,List.set_cons_zero,List.set_cons_succ,Nat.reduceAdd,List.contains_cons,List.contains_nil,Nat.reduceBEq,Bool.or_false,Bool.false_or,Bool.not_true,Bool.not_false,Bool.false_eq_true,Bool.or_self,Bool.true_or]
  rfl
 case hS0=>exact ⟨⟨below_drew HB1.out⟩,⟨blk_drew BX.out⟩,⟨Kd.N_drew HO.out⟩,⟨Kd.C_below G2.out (below_drew (Below.refl _ _))⟩,⟨Kd.C_below G3.out (below_drew (Below.refl _ _))⟩,⟨LT.out⟩⟩
 case hS=>exact λw1 w2 hb hs=>⟨⟨below_step hs.1.out hb⟩,⟨blk_below hs.2.1.out hb⟩,⟨Kd.N_below hs.2.2.1.out hb⟩,⟨Kd.C_below hs.2.2.2.1.out hb⟩,⟨Kd.C_below hs.2.2.2.2.1.out hb⟩,⟨Nat.lt_of_lt_of_le hs.2.2.2.2.2.out (below_size hb)⟩⟩
 case hstay=>exact ⟨λ_ _ _ _ _ _ h=>h,λ_ _ _ _ _ _ h=>h,λ_ _ _ _ _ hb h=>by obtain ⟨A,c,q1,q2,q3⟩:=h;exact ⟨A,c,q1,q2,Kd.F_below q3 hb⟩,λ_ _ _ _ _ _ h=>h,λ_ _ _ _ _ _ h=>h,λ_ _ _ _ _ hb h=>by obtain ⟨A,c,q1,q2,q3⟩:=h;exact ⟨A,c,q1,q2,Kd.F_below q3 hb⟩,λ_ _ _ _ _ _ h=>h,trivial⟩
 case hsteps =>
  refine ⟨?s_0,?s_1,?s_2,?s_3,?s_4,?s_5,?s_6,trivial⟩
  case s_0 =>
   intro _ vs lo hi W hs hp
   exact does_val z10_10 ⟨rfl,Below.refl _ _⟩
  case s_1 =>
   intro _ vs lo hi W hs hp
   have e0:vs 0 = .pointer (some ⟨bx,1+1,none⟩):=hp 0 z3_17 rfl
   have hc:W.cell? ⟨bx,2,none⟩=some (.slice A2 x.f1.length c2):=(blk_cell hs.2.1.out 2).trans rfl
   exact does_val z10_10 ⟨rfl,Below.refl _ _⟩
  case s_2 =>
   intro _ vs lo hi W hs hp
   have e1:vs 1 = .slice A2 x.f1.length c2:=hp 1 z3_17 rfl
   refine does_call Try.func79 z3_17 rfl #[.slice A2 x.f1.length c2] rfl rfl (by rw [<-e1];simp only [List.map_toArray,List.map_cons,List.map_nil];rfl) ?_
   refine(api_Clock_int_79.calls A2 c2 x.f1 p W hs.2.2.2.1.out K2.out H1.out).mono ?_
   rintro e w' ⟨v,rfl,hv,hb⟩
   obtain ⟨A,c,e_⟩:=Kd.R_slice hv
   subst e_
   exact ⟨_,rfl,⟨A,c,rfl,(Kd.R_reads' hv).2.1,Kd.R_F (Kd.R_reok rfl hv (λk_ hk=>Nat.lt_of_lt_of_le hs.2.2.2.2.2.out (Kd.R_base hv k_ hk)))⟩,hb⟩
  case s_3 =>
   intro _ vs lo hi W hs hp
   exact does_val z10_10 ⟨rfl,Below.refl _ _⟩
  case s_4 =>
   intro _ vs lo hi W hs hp
   have e3:vs 3 = .pointer (some ⟨bx,3,none⟩):=hp 3 z3_17 rfl
   have hc:W.cell? ⟨bx,3,none⟩=some (.slice A3 x.f2.length c3):=(blk_cell hs.2.1.out 3).trans rfl
   exact does_val z10_10 ⟨rfl,Below.refl _ _⟩
  case s_5 =>
   intro _ vs lo hi W hs hp
   have e4:vs 4 = .slice A3 x.f2.length c3:=hp 4 z3_17 rfl
   refine does_call Try.func80 z3_17 rfl #[.slice A3 x.f2.length c3] rfl rfl (by rw [<-e4];simp only [List.map_toArray,List.map_cons,List.map_nil];rfl) ?_
   refine(api_Effect_80.calls A3 c3 x.f2 q W hs.2.2.2.2.1.out K3.out H2.out).mono ?_
   rintro e w' ⟨v,rfl,hv,hb⟩
   obtain ⟨A,c,e_⟩:=Kd.R_slice hv
   subst e_
   exact ⟨_,rfl,⟨A,c,rfl,(Kd.R_reads' hv).2.1,Kd.R_F (Kd.R_reok rfl hv (λk_ hk=>Nat.lt_of_lt_of_le hs.2.2.2.2.2.out (Kd.R_base hv k_ hk)))⟩,hb⟩
  case s_6 =>
   intro _ vs lo hi W hs hp
   exact does_val z10_10 ⟨rfl,Below.refl _ _⟩
 case hend =>
 intro vs lo hi W hs hp _
 simp only [List.drop_succ_cons,List.drop_zero]
 have e6:vs 6 = .pointer (some ⟨bx,2,none⟩):=hp 6 (by decide)
 obtain ⟨Ap,cp,ep,lp,Fp⟩:∃ A c,vs 2 = .slice A p.length c/\p.length<=c/\Kd.F (Kd.int .i64) W (λk_=>bx<k_) A p.length p:=hp 2 (by decide)
 obtain ⟨Aq,cq,eq,lq,Fq⟩:∃ A c,vs 5 = .slice A q.length c/\q.length<=c/\Kd.F k48 W (λk_=>bx<k_) A q.length q:=hp 5 (by decide)
 rw [ep,eq,e6]
 clear hp e6 ep eq HB1 HO BX G2 G3 LT
 obtain ⟨HB1,BX,HO,G2,G3,LT⟩:=hs
 have FP:=Aside0.mk Fp;have FQ:=Aside0.mk Fq;have LP:=Aside0.mk lp;have LQ:=Aside0.mk lq
 clear Fp Fq lp lq G2 G3
 have z0:=(blk_cell BX.out 0).trans (rfl:_=some (Value.int .i64 x.f0.f0));have z1:=(blk_cell BX.out 1).trans (rfl:_=some (Value.int .i64 x.f0.f1));have z2:=(blk_cell BX.out 2).trans (rfl:_=some (Value.slice A2 x.f1.length c2));have z3:=(blk_cell BX.out 3).trans (rfl:_=some (Value.slice A3 x.f2.length c3));have hf0:=blk_frozen BX.out 0;have hf1:=blk_frozen BX.out 1;have hf2:=blk_frozen BX.out 2;have hf3:=blk_frozen BX.out 3
 go_upto_region 8 with (fail)
 have n1:=U (below_set (below_set HB1.out GX.out (v:=.slice Ap p.length cp) (j:=2)) GX.out (v:=.slice Aq q.length cq) (j:=3))
 have n2:=U (blk_put (cs:=#[.int .i64 x.f0.f0,.int .i64 x.f0.f1,.slice Ap p.length cp,.slice A3 x.f2.length c3]) (blk_put (cs:=#[.int .i64 x.f0.f0,.int .i64 x.f0.f1,.slice A2 x.f1.length c2,.slice A3 x.f2.length c3]) BX.out 2 (.slice Ap p.length cp) rfl) 3 (.slice Aq q.length cq) rfl)
 have n3:=U (Kd.N_far (p:=⟨bx,3,none⟩) (Kd.N_far (p:=⟨bx,2,none⟩) HO.out (λ_ hk=>Nat.ne_of_lt hk.2) (.slice Ap p.length cp)) (λ_ hk=>Nat.ne_of_lt hk.2) (.slice Aq q.length cq))
 have n4:=U (Kd.F_step (Kd.F_step FP.out (λk_ hk _=>Below.heap_setCell W ⟨bx,2,none⟩ (.slice Ap p.length cp) k_ (Nat.ne_of_gt hk))) (λk_ hk _=>Below.heap_setCell (W.setCell ⟨bx,2,none⟩ (.slice Ap p.length cp)) ⟨bx,3,none⟩ (.slice Aq q.length cq) k_ (Nat.ne_of_gt hk)))
 have n5:=U (Kd.F_step (Kd.F_step FQ.out (λk_ hk _=>Below.heap_setCell W ⟨bx,2,none⟩ (.slice Ap p.length cp) k_ (Nat.ne_of_gt hk))) (λk_ hk _=>Below.heap_setCell (W.setCell ⟨bx,2,none⟩ (.slice Ap p.length cp)) ⟨bx,3,none⟩ (.slice Aq q.length cq) k_ (Nat.ne_of_gt hk)))
 clear z0 z1 z2 z3 hf0 hf1 hf2 hf3 BX HB1 HO FP FQ LT
 generalize (W.setCell ⟨bx,2,none⟩ (.slice Ap p.length cp)).setCell ⟨bx,3,none⟩ (.slice Aq q.length cq)=w5 at n1 n2 n3 n4 n5 ⊢
 have z0:=(blk_cell n2.out 0).trans (rfl:_=some (Value.int .i64 x.f0.f0));have z1:=(blk_cell n2.out 1).trans (rfl:_=some (Value.int .i64 x.f0.f1));have z2:=(blk_cell n2.out 2).trans (rfl:_=some (Value.slice Ap p.length cp));have z3:=(blk_cell n2.out 3).trans (rfl:_=some (Value.slice Aq q.length cq))
 go_wp2_with (first|((with_reducible refine gate_builtin (b:=.append) (xs:=#[.tmp 43,.tmp 45]) rfl ?_);at_builtin;refine Kd.N_append k30 (w0:=w1) w1.heap.size rfl (.tmp 43) (.tmp 45) 38 30 (.agg #[(.int .i64 0),(.int .i64 0),(.slice none 0 0),(.slice none 0 0)]) 64 rfl Try.underlying38 info30 rfl (by decide) (by decide) (.slice Av acc.length cv) acc (⟨x.f0,p,q⟩:S30) [.int .i64 x.f0.f0,.int .i64 x.f0.f1,.slice Ap p.length cp,.slice Aq q.length cq] (λk_=>w1.heap.size<=k_) (λk_=>bx<k_) rfl rfl (k30_mkF _ _ (⟨x.f0,p,q⟩:S30) LP.out n4.out LQ.out n5.out) (λk_ hk=>⟨Nat.le_trans GX.out (Nat.le_of_lt hk),λhe=>by have h1:k_<bx:=(n3.out.1 k_ he.symm).2;have h2:bx<k_:=hk;omega⟩) (λ_ hk=>Nat.le_trans (below_size n1.out) hk) (Kd.N_mono n3.out (λ_ hk=>hk.1)) n1.out (below_size n1.out) (by have:=CL.out;omega) ?_;intro v46 w6 ho hb hg hat;have HO:=Aside0.mk ho;have HB1:=Aside0.mk hb;clear ho hb hg hat n1 n2 n3 n4 n5 z0 z1 z2 z3))
 go_roundg k1
 case measure=>have:=HK.out;omega
 case rel=>exact ⟨acc++[(⟨x.f0,p,q⟩:S30)],wrap64 (i+1),rfl,HQ1,⟨(by have:=HK.out;omega)⟩,HO,HB1⟩
def api_Event_101.f (k:Nat):List S30->Option Bool
 | []=>some false
 | x :: l=>(gossip_may_1.f k x.f0.f0 x.f0.f1 x.f1 x.f2).bind λt=>if t=true then some true else api_Event_101.f k l
theorem api_Event_101.mono (l:List S30):∀ k,LeO (api_Event_101.f k l) (api_Event_101.f (k+1) l):=by
 induction l with
 | nil=>exact λk=>LeO.refl _
 | cons x l ih =>
  intro k
  unfold api_Event_101.f
  exact LeO.bind (gossip_may_1.mono _ _ _ _ _) (λt=>LeO.ite (LeO.refl _) (ih k))
theorem api_Event_101.idx_calls (k:Nat) (A:Option Addr) (c:Nat) (l:List S30) (b:Bool) (w:World) (hr:Kd.C k30 w A l.length l) (h:api_Event_101.f k l=some b) :
  Calls Try.prog 109 #[.slice A l.length c,.func (.func 102) #[] #[]] w λe w'=>(∃ i:Int,e = .returned (.int .i64 i)/\decide (i>=0)=b)/\Below w.heap.size w w':=by
 have hu30:=Try.underlying30
 have HR:=Aside0.mk hr
 have hn:l.length<=9223372036854775807:=hr.2.1
 have HH:=Aside0.mk h
 clear hr h
 go_enter Try.func109,Try.ntmps109
 go_wp2
 go_loopg [5,8] l.length (λgg _ s8 wr=>∃ kk:Nat,kk<=l.length/\l.length - kk<=gg/\s8 = .int .i64 kk/\Aside0 (Below w.heap.size w wr)/\Aside0 (api_Event_101.f k (l.drop kk)=some b))
 case atStart=>exact ⟨0,Nat.zero_le _,(by omega),rfl,⟨Below.refl _ _⟩,HH⟩
 case round =>
 obtain ⟨kk,hkk,hg,rfl,HB,HA⟩:=hrel
 by_cases hlt:kk<l.length
 rotate_left
 ·have hltz:¬ (kk:Int)<(l.length:Int):=by omega
  have ha:=HA.out
  rw [List.drop_eq_nil_of_le (by omega)] at ha
  obtain rfl:=sI_ ha
  clear ha HA
  go_wp2
  go_ret
  exact ⟨⟨-1,rfl,(by decide)⟩,HB.out⟩
 have hltz:(kk:Int)<(l.length:Int):=by omega
 obtain ⟨ad,A2,c2,A3,c3,e_,f0,f1,f2,f3,m2,o2,m3,o3⟩:=at_T30 (Kd.C_below HR.out HB.out) (kk:Int) (by omega) hltz
 subst e_
 have ha:=HA.out
 rw [List.drop_eq_getElem_cons hlt] at ha
 unfold api_Event_101.f at ha
 have hx:rd_T30 l (kk:Int)=l[kk]:=by
  unfold rd_T30
  rw [Int.toNat_natCast,List.getD_eq_getElem?_getD,List.getElem?_eq_getElem hlt]
  rfl
 rw [hx] at f0 f1 f2 f3 m2 o2 m3 o3
 simp only [Int.toNat_natCast] at f0 f1 f2 f3
 obtain ⟨t,ht,ha⟩:=Option.bind_eq_some_iff.1 ha
 have hcall:=gossip_may_1.calls k _ _ A2 c2 _ A3 c3 _ t wr o2 m2 o3 m3 ht
 clear ht hx HA m2 o2 m3 o3
 obtain ⟨y0,e0⟩:∃ y,y=l[kk].f0.f0:=⟨_,rfl⟩
 obtain ⟨y1,e1⟩:∃ y,y=l[kk].f0.f1:=⟨_,rfl⟩
 obtain ⟨y2,e2⟩:∃ y,y=l[kk].f1.length:=⟨_,rfl⟩
 obtain ⟨y3,e3⟩:∃ y,y=l[kk].f2.length:=⟨_,rfl⟩
 rw [<-e0] at f0 hcall
 rw [<-e1] at f1 hcall
 rw [<-e2] at f2 hcall
 rw [<-e3] at f3 hcall
 clear e0 e1 e2 e3
 cases t with
 | false =>
  rw [if_neg (by decide)] at ha
  have HA:=Aside0.mk ha
  clear ha
  go_wp2_with (go_at_call 102;(with_reducible refine hcall.mono ?_);rintro e w' ⟨rfl,hb⟩)
  go_roundg (l.length - (kk+1))
  case measure=>omega
  case rel=>exact ⟨kk+1,(by omega),(by omega),(by go_num),⟨below_step HB.out hb⟩,HA⟩
 | true =>
 rw [if_pos rfl] at ha
 obtain rfl:=sI_ ha
 clear ha
 go_wp2_with (go_at_call 102;(with_reducible refine hcall.mono ?_);rintro e w' ⟨rfl,hb⟩)
 go_ret
 exact ⟨⟨kk,rfl,dT_ (by omega)⟩,below_step HB.out hb⟩
theorem api_Event_101.calls (k:Nat) (A0:Option Addr) (c0:Nat) (l0:List S30) (r:Bool) (w:World) (hr0:Kd.C k30 w A0 l0.length l0) (hc0:l0.length<=c0) (h:api_Event_101.f k l0=some r) :
  Calls Try.prog 101 #[.slice A0 l0.length c0,.func (.func 102) #[] #[]] w λe w'=>e = .returned (.bool r)/\Below w.heap.size w w':=by
 have hcall:=api_Event_101.idx_calls k A0 c0 l0 r w hr0 h
 clear hr0 h
 go_enter Try.func101,Try.ntmps101
 go_wp2_with (go_at_call 109;refine hcall.mono ?_;rintro e w' ⟨⟨i,rfl,hi⟩,hb⟩)
 go_ret
 exact ⟨(by rw [<-hi];rfl),hb⟩
end Go.Proofs.Ytgocnchjpecafaa.PEv
