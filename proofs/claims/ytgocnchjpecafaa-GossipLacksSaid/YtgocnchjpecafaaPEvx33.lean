/- a part -/
import Derived.Test.YtgocnchjpecafaaPEvx11
import Derived.Test.YtgocnchjpecafaaPEvx32
namespace Go.Proofs.Ytgocnchjpecafaa.PEv
open Go.RowKit Go.Proofs.YtgocnchjpecafaaW.PrintWords Go.Proofs.YtgocnchjpecafaaW.PrintLast Go.Proofs.YtgocnchjpecafaaW.PrintMore
attribute [local go_sem] max2_int min2_int max_two min_two max_three min_three max_four min_four
set_option linter.unusedVariables false
set_option linter.unusedSimpArgs false
set_option maxHeartbeats 8000000
set_option maxRecDepth 100000
mutual
def r28_Lacks.l0:Nat→List Int→Int→List (S30)→List (S30)→Int→Option ((List (S30)))
 | 0,_,_,_,_,_=>none
 | k+1,x1,x2,x7,x8,x9=>if x9<(x8.length:Int) then(r28_Lacks.j1 k x1 x2 x7 x8 x9 (decide ((x7.length:Int)<x2))) else(r28_Lacks.j1 k x1 x2 x7 x8 x9 false)
def r28_Lacks.j1:Nat→List Int→Int→List (S30)→List (S30)→Int→Bool→Option ((List (S30)))
 | 0,_,_,_,_,_,_=>none
 | k+1,x1,x2,x7,x8,x9,x22=>if x22=true then(if 0≤x9 then(if x9<(x8.length:Int) then((r05_May.f k ((rd_T30 x8 x9).f0.f0) ((rd_T30 x8 x9).f0.f1) ((rd_T30 x8 x9).f1) ((rd_T30 x8 x9).f2)).bind fun t718=>(if t718=true then((r03_Get.f k x1 ((rd_T30 x8 x9).f0.f0)).bind fun t720=>(if t720<((rd_T30 x8 x9).f0.f1) then(if x7.length<2199023255552 then(r28_Lacks.l0 k x1 x2 (x7++[(⟨(⟨(rd_T30 x8 x9).f0.f0,(rd_T30 x8 x9).f0.f1⟩:S25),(rd_T30 x8 x9).f1,(rd_T30 x8 x9).f2⟩:S30)]) x8 (wrap64 (x9+1))) else(none)) else(r28_Lacks.l0 k x1 x2 x7 x8 (wrap64 (x9+1))))) else(r28_Lacks.l0 k x1 x2 x7 x8 (wrap64 (x9+1))))) else(none)) else(none)) else(some x7)
end
def r28_Lacks.f (k:Nat) (l0:List (S30)) (l1:List Int) (a2:Int):Option ((List (S30))):=(r05_Order.f k l0).bind fun t714=>(r28_Lacks.l0 k l1 a2 (([]:List (S30))) t714 0)
open Go.Proofs.Ytgocnchjpecafaa.Cards Go.Proofs.Ytgocnchjpecafaa.Hand in
theorem r28_Lacks.calls (k:Nat) (P0_:Nat→Prop) (A0:Option Addr) (c0:Nat) (l0:List (S30)) (A1:Option Addr) (c1:Nat) (l1:List Int) (a2:Int) (r:List (S30)) (w:World) (hs0:Kd.V k30 30 w w.heap.size (fun k_=>P0_ k_) (.slice A0 l0.length c0) l0) (hr1:Kd.C (Kd.int .i64) w A1 l1.length l1) (hc1:l1.length≤c1) (h:r28_Lacks.f k l0 l1 a2=some r) :
  Calls Try.prog 41 #[.slice A0 l0.length c0,.slice A1 l1.length c1,.int .i64 a2] w fun e w'=>∃ v0_:Value,e = .returned (v0_)∧Kd.N k30 30 w' w.heap.size (fun k_=>(P0_ k_∨w.heap.size≤k_)) v0_ r∧Below w.heap.size w w':=by
 have hu30:=Try.underlying30
 have hu25:=Try.underlying25
 obtain ⟨o,ho,hl⟩:=Option.bind_eq_some_iff.mp h
 have H:=Aside0.mk hl
 have H0:=Aside0.mk ho
 have HR1:=Aside0.mk hr1
 have HC1:=Aside0.mk hc1
 have HC0:=Aside0.mk (Kd.V_reads' hs0).2.1
 have HV:=Aside0.mk (Kd.F_bound (Kd.V_F hs0))
 have HB:=Aside0.mk (Below.refl w.heap.size w)
 clear hl h ho hr1 hc1 hs0
 go_enter Try.func41,Try.ntmps41
 go_upto_region 2 with (first|((with_reducible refine gate_dst (N:=10) rfl ?_);refine Kd.N_lit k30 _ 30 ?hg (N':=10) ?hd (xs:=([]:List S30)) (inner:=[]) (ok:=fun k_=>P0_ k_∨w.heap.size≤k_) (okp:=fun _=>False) ?hr ?hp (fun _ hk=>hk.elim) (.inr (Nat.le_refl _)) HB.out (Nat.le_refl _) (by simp) ?_;(case hd=>rfl);(case hg=>rfl);(case hr=>first|(go_simp;done)|(go_simp;rfl));(case hp=>exact Reps.none _ _);intro v7 w7 ho7 hb hg hn;have hbb:Below w.heap.size w w7:=⟨hg.os,hg.tape,hg.output,hg.size,fun k hk=>hg.block k hk (by simp)⟩;have n2:=Aside0.mk (Kd.F_below HV.out hbb);clear HB HV hg hbb;have HB:=Aside0.mk hb;have HV:=n2;clear n2 hb;have HN7:=Aside0.mk ho7;have NB7:=Aside0.mk (show ∀ b,v7.ownBlock=some b→w.heap.size≤b∧b<w7.heap.size from fun b hb=>⟨hn.elim fun b' h'=>by have:=h'.1.symm.trans hb;injection this with this;have:=h'.2;omega,Kd.N_lt ho7 b hb⟩);clear ho7 hn))
 go_upto_region 3 with (first|(go_at_call 84;(refine(r05_Order.calls k (fun k_=>P0_ k_∧k_<w.heap.size) A0 c0 l0 o _ ?s1 H0.out).mono ?_);(case s1=>exact Kd.V_mk HC0.out HV.out);rintro e w1 ⟨v8,rfl,hN,hb⟩;obtain ⟨Ao,co,e8⟩:=Kd.N_slice hN;subst e8;have n1:=Aside0.mk (below_step HB.out hb);have n2:=Aside0.mk (Kd.N_below HN7.out hb);have S7:=Aside0.mk (below_size hb);have S0:=Aside0.mk (below_size HB.out);clear HB HN7 HV;have HB:=n1;have HN7:=n2;clear n1 n2;have HF:=Aside0.mk (Kd.F_mono (Kd.F_bound (Kd.N_F hN)) (ok':=fun k_=>(P0_ k_∧k_<w.heap.size)∨(w7.heap.size≤k_∧k_<w1.heap.size)) (fun k_ hk=>hk.1.elim (fun h=>.inl h) (fun h=>.inr ⟨h,hk.2⟩)));have LO:=Aside0.mk (Kd.N_reads' hN).2.1;clear hN hb))
 obtain ⟨A7,c7,e7⟩:=Kd.N_slice HN7.out
 subst e7
 have S1:=Aside0.mk (Nat.le_refl w1.heap.size)
 have HW:=Aside0.mk (show ∀ b,(Value.slice A7 ([]:List S30).length c7).ownBlock=some b→(w.heap.size≤b∧b<w7.heap.size)∨w1.heap.size≤b from fun b hb=>.inl (NB7.out b hb))
 go_upto_region 4 with (fail)
 go_loopg [7,9] k (fun kq v7 v9 wr=>∃ (acc:List S30) (i:Int) (A:Option Addr) (c:Nat),v9 = .int .i64 i∧v7 = .slice A acc.length c∧(∃ q,Aside0 (r28_Lacks.l0 q l1 a2 acc o i=some r)∧q≤kq)∧Aside0 (Kd.N k30 30 wr w.heap.size (fun k_=>P0_ k_∨w.heap.size≤k_) (.slice A acc.length c) acc)∧Aside0 (∀ b,(Value.slice A acc.length c).ownBlock=some b→(w.heap.size≤b∧b<w7.heap.size)∨w1.heap.size≤b)∧Aside0 (Kd.F k30 wr (fun k_=>(P0_ k_∧k_<w.heap.size)∨(w7.heap.size≤k_∧k_<w1.heap.size)) Ao o.length o)∧Aside0 (Below w.heap.size w wr)∧Aside0 (w1.heap.size≤wr.heap.size)∧Aside0 (kq≤k))
 case atStart=>exact ⟨[],0,A7,c7,rfl,rfl,⟨k,H,Nat.le_refl _⟩,HN7,HW,HF,HB,S1,⟨Nat.le_refl _⟩⟩
 case round =>
 clear H HN7 HW HF HB S1 NB7
 obtain ⟨acc,i,Av,cv,rfl,rfl,⟨q,HA,hq⟩,HO,HW,HF,HB,S1,HK⟩:=hrel
 rcases q with _|_|q
 ·exact absurd HA.out (by simp [r28_Lacks.l0])
 ·exact absurd HA.out (by unfold r28_Lacks.l0;unfold r28_Lacks.j1;split<;>simp)
 obtain ⟨k1,rfl⟩:∃ k1,gk=k1+1:=⟨gk - 1,(by omega)⟩
 have HM:=Aside0.mk (show q≤k1 by omega)
 clear hq
 have HQ:=HA.out
 clear HA
 unfold r28_Lacks.l0 at HQ
 by_cases ci:i<(o.length:Int)
 case neg =>
  rw [if_neg ci] at HQ
  unfold r28_Lacks.j1 at HQ
  rw [if_neg (show ¬ (false=true) by decide)] at HQ
  obtain rfl:=Option.some.inj HQ
  have ci1:decide (i<(o.length:Int))=false:=decide_eq_false ci
  clear ci
  go_wp2
  go_ret
  exact ⟨_,rfl,HO.out,HB.out⟩
 rw [if_pos ci] at HQ
 have ci1:decide (i<(o.length:Int))=true:=decide_eq_true ci
 by_cases cm:(acc.length:Int)<a2
 case neg =>
  rw [decide_eq_false cm] at HQ
  unfold r28_Lacks.j1 at HQ
  rw [if_neg (show ¬ (false=true) by decide)] at HQ
  obtain rfl:=Option.some.inj HQ
  have cm1:decide ((acc.length:Int)<a2)=false:=decide_eq_false cm
  clear ci cm
  go_wp2
  go_ret
  exact ⟨_,rfl,HO.out,HB.out⟩
 rw [decide_eq_true cm] at HQ
 have cm1:decide ((acc.length:Int)<a2)=true:=decide_eq_true cm
 unfold r28_Lacks.j1 at HQ
 rw [if_pos rfl] at HQ
 by_cases c0_:0≤i
 case neg =>
  rw [if_neg c0_] at HQ
  exact absurd HQ (by simp)
 rw [if_pos c0_,if_pos ci] at HQ
 replace HQ:=Option.bind_eq_some_iff.mp HQ
 obtain ⟨t,h1,HQ⟩:=HQ
 obtain ⟨ad,cx,e_,hcl,hFK,hcc,_⟩:=Kd.F_get HF.out z30 i c0_ ci
 cases e_
 rw [show o.getD i.toNat z30=rd_T30 o i from rfl] at hFK
 generalize hxx:rd_T30 o i=x at HQ h1 hFK
 have HX:=Aside0.mk hxx
 clear hxx
 obtain ⟨X2,d2,X3,d3,rfl,l2,g2,l3,g3⟩:=k30_openF hFK
 have f0:wr.cell? (ad.add (i.toNat*4))=some (.int .i64 x.f0.f0):=hcc 0 _ rfl
 have f1:wr.cell? ⟨(ad.add (i.toNat*4)).block,(ad.add (i.toNat*4)).off+1,none⟩=some (.int .i64 x.f0.f1):=by have h_:=hcc 1 _ rfl;rw [add_field _ _ 1 (by omega)] at h_;exact h_
 have f2:wr.cell? ⟨(ad.add (i.toNat*4)).block,(ad.add (i.toNat*4)).off+2,none⟩=some (.slice X2 x.f1.length d2):=by have h_:=hcc 2 _ rfl;rw [add_field _ _ 2 (by omega)] at h_;exact h_
 have f3:wr.cell? ⟨(ad.add (i.toNat*4)).block,(ad.add (i.toNat*4)).off+3,none⟩=some (.slice X3 x.f2.length d3):=by have h_:=hcc 3 _ rfl;rw [add_field _ _ 3 (by omega)] at h_;exact h_
 have ci2:(i<(o.length:Int))=True:=eq_true ci
 have c01:(0≤i)=True:=eq_true c0_
 have K2:=Aside0.mk l2;have K3:=Aside0.mk l3;have G2:=Aside0.mk (Kd.F_now g2);have G3:=Aside0.mk (Kd.F_now g3)
 have H1:=Aside0.mk h1
 have HQ1:=Aside0.mk HQ
 have CI:=Aside0.mk (And.intro c0_ ci)
 clear h1 HQ hFK hcc hcl g2 g3 l2 l3 ci cm c0_
 go_upto_region 6 with (fail)
 have q0:=cell_regrown f0;have q1:=cell_regrown f1;have q2:=cell_regrown f2;have q3:=cell_regrown f3
 have cC:∀ d os,Calls Try.prog 17 #[.agg #[.int .i64 x.f0.f0,.int .i64 x.f0.f1,.slice X2 x.f1.length d2,.slice X3 x.f2.length d3]] (Sort.grow (redrawn wr d) os) fun e w''=>e = .returned (.bool t)∧∃ p_:Regrown,w''=Sort.grow (redrawn wr p_.d) p_.os:=fun d os=>Calls.regrown_of (r05_May.calls q _ _ X2 d2 x.f1 X3 d3 x.f2 t _ (Kd.C_below G2.out (below_regrown wr d os)) K2.out (Kd.C_below G3.out (below_regrown wr d os)) K3.out H1.out)
 have HQ:=HQ1.out
 clear HQ1
 cases t with
 | false =>
  rw [if_neg (show ¬ (false=true) by decide)] at HQ
  have HQ1:=Aside0.mk HQ
  clear HQ
  have cG:=True.intro
  refine wp_region_quiet_below (by kernel_rfl) (by kernel_rfl) ?_
  repeat(go_big_quiet_step (first|(with_reducible exact cC _ _)|(with_reducible exact cG _ _)))
  refine wpQuiet_nil ?_
  intro _ hw'
  obtain ⟨⟨dq,osq⟩,hw''⟩:=hw'
  subst hw''
  have n1:=Aside0.mk (below_step HB.out (below_regrown wr dq osq));have n2:=Aside0.mk (Kd.N_below HO.out (below_regrown wr dq osq));have n3:=Aside0.mk (Kd.F_below HF.out (below_regrown wr dq osq));have n4:=Aside0.mk (Nat.le_trans S1.out (below_size (below_regrown wr dq osq)))
  clear HB HO HF S1 f0 f1 f2 f3 q0 q1 q2 q3 cC
  (try clear cG)
  generalize Sort.grow (redrawn wr dq) osq=w3 at n1 n2 n3 n4 ⊢
  have HB:=n1;have HO:=n2;have HF:=n3;have S1:=n4
  clear n1 n2 n3 n4
  go_wp2
  go_roundg k1
  case measure=>have:=HK.out;omega
  case rel=>exact ⟨acc,wrap64 (i+1),_,_,rfl,rfl,⟨q,HQ1,HM.out⟩,HO,HW,HF,HB,S1,⟨(by have:=HK.out;omega)⟩⟩
 | true =>
 rw [if_pos rfl] at HQ
 replace HQ:=Option.bind_eq_some_iff.mp HQ
 obtain ⟨s,h2,HQ⟩:=HQ
 have H2:=Aside0.mk h2
 clear h2
 have cG:∀ d os,Calls Try.prog 58 #[.slice A1 l1.length c1,.int .i64 x.f0.f0] (Sort.grow (redrawn wr d) os) fun e w''=>e = .returned (.int .i64 s)∧∃ p_:Regrown,w''=Sort.grow (redrawn wr p_.d) p_.os:=fun d os=>Calls.regrown_of ((r03_Get.calls q A1 c1 l1 x.f0.f0 s _ (Kd.C_below (Kd.C_below HR1.out HB.out) (below_regrown wr d os)) HC1.out H2.out).mono fun e w' h_=>⟨h_.1,h_.2.below⟩)
 by_cases cs:s<x.f0.f1
 case neg =>
  rw [if_neg cs] at HQ
  have cs1:decide (s<x.f0.f1)=false:=decide_eq_false cs
  have HQ1:=Aside0.mk HQ
  clear HQ cs
  refine wp_region_quiet_below (by kernel_rfl) (by kernel_rfl) ?_
  repeat(go_big_quiet_step (first|(with_reducible exact cC _ _)|(with_reducible exact cG _ _)))
  refine wpQuiet_nil ?_
  intro _ hw'
  obtain ⟨⟨dq,osq⟩,hw''⟩:=hw'
  subst hw''
  have n1:=Aside0.mk (below_step HB.out (below_regrown wr dq osq));have n2:=Aside0.mk (Kd.N_below HO.out (below_regrown wr dq osq));have n3:=Aside0.mk (Kd.F_below HF.out (below_regrown wr dq osq));have n4:=Aside0.mk (Nat.le_trans S1.out (below_size (below_regrown wr dq osq)))
  clear HB HO HF S1 f0 f1 f2 f3 q0 q1 q2 q3 cC
  (try clear cG)
  generalize Sort.grow (redrawn wr dq) osq=w3 at n1 n2 n3 n4 ⊢
  have HB:=n1;have HO:=n2;have HF:=n3;have S1:=n4
  clear n1 n2 n3 n4
  go_wp2
  go_roundg k1
  case measure=>have:=HK.out;omega
  case rel=>exact ⟨acc,wrap64 (i+1),_,_,rfl,rfl,⟨q,HQ1,HM.out⟩,HO,HW,HF,HB,S1,⟨(by have:=HK.out;omega)⟩⟩
 rw [if_pos cs] at HQ
 have cs1:decide (s<x.f0.f1)=true:=decide_eq_true cs
 by_cases cl:acc.length<2199023255552
 case neg =>
  rw [if_neg cl] at HQ
  exact absurd HQ (by simp)
 rw [if_pos cl] at HQ
 have HQ1:=Aside0.mk HQ
 have CL:=Aside0.mk cl
 clear HQ cs cl
 refine wp_region_quiet_below (by kernel_rfl) (by kernel_rfl) ?_
 repeat(go_big_quiet_step (first|(with_reducible exact cC _ _)|(with_reducible exact cG _ _)))
 refine wpQuiet_nil ?_
 intro _ hw'
 obtain ⟨⟨dq,osq⟩,hw''⟩:=hw'
 subst hw''
 have n1:=Aside0.mk (below_step HB.out (below_regrown wr dq osq));have n2:=Aside0.mk (Kd.N_below HO.out (below_regrown wr dq osq));have n3:=Aside0.mk (Kd.F_below HF.out (below_regrown wr dq osq));have n4:=Aside0.mk (Nat.le_trans S1.out (below_size (below_regrown wr dq osq)))
 clear HB HO HF S1 f0 f1 f2 f3 q0 q1 q2 q3 cC
 (try clear cG)
 generalize Sort.grow (redrawn wr dq) osq=w3 at n1 n2 n3 n4 ⊢
 have HB:=n1;have HO:=n2;have HF:=n3;have S1:=n4
 clear n1 n2 n3 n4
 obtain ⟨ad',cx,e_,hcl,hFK,hcc,_⟩:=Kd.F_get HF.out z30 i CI.out.1 CI.out.2
 cases e_
 rw [show o.getD i.toNat z30=x from HX.out] at hFK
 obtain ⟨Y2,e2,Y3,e3,rfl,l2,g2,l3,g3⟩:=k30_openF hFK
 have z0:w3.cell? (ad.add (i.toNat*4))=some (.int .i64 x.f0.f0):=hcc 0 _ rfl
 have z1:w3.cell? ⟨(ad.add (i.toNat*4)).block,(ad.add (i.toNat*4)).off+1,none⟩=some (.int .i64 x.f0.f1):=by have h_:=hcc 1 _ rfl;rw [add_field _ _ 1 (by omega)] at h_;exact h_
 have z2:w3.cell? ⟨(ad.add (i.toNat*4)).block,(ad.add (i.toNat*4)).off+2,none⟩=some (.slice Y2 x.f1.length e2):=by have h_:=hcc 2 _ rfl;rw [add_field _ _ 2 (by omega)] at h_;exact h_
 have z3:w3.cell? ⟨(ad.add (i.toNat*4)).block,(ad.add (i.toNat*4)).off+3,none⟩=some (.slice Y3 x.f2.length e3):=by have h_:=hcc 3 _ rfl;rw [add_field _ _ 3 (by omega)] at h_;exact h_
 have PX:=Aside0.mk (k30_mkF w3 (fun k_=>(P0_ k_∧k_<w.heap.size)∨(w7.heap.size≤k_∧k_<w1.heap.size)) x l2 g2 l3 g3)
 have NO:=Aside0.mk (show ∀ k_,((P0_ k_∧k_<w.heap.size)∨(w7.heap.size≤k_∧k_<w1.heap.size))→some k_≠(Value.slice Av acc.length cv).ownBlock from fun k_ hk he=>by
  have h1:=HW.out k_ he.symm
  have h2:=S0.out
  have h3:=S7.out
  rcases hk with hk|hk<;>rcases h1 with h1|h1<;>(have h4:=hk.2;omega))
 clear hFK hcc hcl g2 g3 l2 l3
 go_wp2_with (first|((with_reducible refine gate_builtin (b:=.append) (xs:=#[.tmp 47,.tmp 52]) rfl ?_);at_builtin;refine Kd.N_append k30 (w0:=w) w.heap.size rfl (.tmp 47) (.tmp 52) 38 30 (.agg #[(.int .i64 0),(.int .i64 0),(.slice none 0 0),(.slice none 0 0)]) 64 rfl Try.underlying38 info30 rfl (by decide) (by decide) (.slice Av acc.length cv) acc x [.int .i64 x.f0.f0,.int .i64 x.f0.f1,.slice Y2 x.f1.length e2,.slice Y3 x.f2.length e3] (fun k_=>P0_ k_∨w.heap.size≤k_) (fun k_=>(P0_ k_∧k_<w.heap.size)∨(w7.heap.size≤k_∧k_<w1.heap.size)) rfl rfl PX.out (fun k_ hk=>⟨hk.elim (fun h=>.inl h.1) (fun h=>.inr (Nat.le_trans S0.out h.1)),NO.out k_ hk⟩) (fun k_ hk=>.inr (Nat.le_trans (below_size HB.out) hk)) HO.out HB.out (below_size HB.out) (by have:=CL.out;omega) ?_;intro v53 w5 ho hb hg hat;have n2:=Aside0.mk (Kd.F_grown HF.out hg (fun k_ hk he=>NO.out k_ hk he));have n3:=Aside0.mk (show ∀ b,v53.ownBlock=some b→(w.heap.size≤b∧b<w7.heap.size)∨w1.heap.size≤b from fun b hb'=>hat.elim (fun h=>HW.out b (h.symm.trans hb')) (fun h=>h.elim fun b' h'=>by have h4:=h'.1.symm.trans hb';injection h4 with h4;have h5:=h'.2;have h6:=S1.out;exact .inr (by omega)));have n4:=Aside0.mk (Nat.le_trans S1.out hg.size);clear HB HO HF HW S1 NO PX z0 z1 z2 z3 hg hat;have HB:=Aside0.mk hb;have HO:=Aside0.mk ho;have HF:=n2;have S1:=n4;clear n2 n4 hb;obtain ⟨A53,c53,e53⟩:=Kd.N_slice ho;subst e53;clear ho))
 go_roundg k1
 case measure=>have:=HK.out;omega
 case rel=>exact ⟨acc++[x],wrap64 (i+1),_,_,rfl,(by rw [List.length_append,List.length_singleton]),⟨q,HQ1,HM.out⟩,HO,n3,HF,HB,S1,⟨(by have:=HK.out;omega)⟩⟩
end Go.Proofs.Ytgocnchjpecafaa.PEv
