/- GossipPuts: for every input the law returns true. -/
import Derived.Test.YtgocnchjpecafaaEvPutsG
import Derived.Test.YtgocnchjpecafaaPEvx31
import Derived.Test.YtgocnchjpecafaaRows
import Derived.Test.YtgocnchjpecafaaEvOpens
import Derived.ProofKit
import Derived.OpenShut
import Derived.ShutString
import Derived.ChangeOld
namespace Go.Proofs.Ytgocnchjpecafaa.Pure
open Go.RowKit Go.Proofs.Ytgocnchjpecafaa.PEv Go.Proofs.YtgocnchjpecafaaW.PrintWords Go.Proofs.YtgocnchjpecafaaW.PrintLast Go.Proofs.Ytgocnchjpecafaa.ClockBase Go.Proofs.Ytgocnchjpecafaa.Wr
set_option linter.unusedVariables false
def evSx (x y:S30):Bool:=evS x.f0.f0 x.f0.f1 x.f1 x.f2 y.f0.f0 y.f0.f1 y.f1 y.f2
def allS:List S30→List S30→Bool
 | x :: l,y :: m=>evSx x y && allS l m
 | [],_=>true
 | _ :: _,[]=>true
theorem allS_self:∀ l:List S30,allS l l=true
 | []=>rfl
 | x :: l=>by
  unfold allS evSx
  rw [evS_self,allS_self l]
  rfl
theorem eqAll_ev:∀ (l m:List S30),(∀ x ∈ l,x.f1.length≤140737488355328∧x.f2.length≤140737488355328)→Ev (fun k=>api_Event_85.all k l m) (allS l m)
 | [],m,_=>by
  unfold api_Event_85.all allS
  exact Ev.now _
 | x :: l,[],_=>by
  unfold api_Event_85.all allS
  exact Ev.now _
 | x :: l,y :: m,hp=>by
  have ih:=eqAll_ev l m (fun z hz=>hp z (List.mem_cons_of_mem _ hz))
  have hx:=hp x List.mem_cons_self
  unfold api_Event_85.all allS
  refine Ev.bind (evSameAll_ev _ _ _ _ _ _ _ _ hx.1 hx.2) ?_
  show Ev _ (evSx x y && allS l m)
  cases h:evSx x y with
  | true =>
   refine ck_if h ?_
   rw [Bool.true_and]
   exact ih
  | false =>
   refine ck_else (fun h'=>by have:=h.symm.trans h';cases this) ?_
   exact Ev.now _
theorem refAll_loop (l m:List S30) (hlm:l.length=m.length) (hn:l.length≤140737488355328) (hp:∀ x ∈ l,x.f1.length≤140737488355328∧x.f2.length≤140737488355328) (d:Nat):∀ (i:Nat),i+d=l.length→Ev (fun k=>r05_All.l0 k l m (i:Int)) (allS (l.drop i) (m.drop i)):=by
 induction d with
 | zero =>
  intro i hi
  rw [List.drop_eq_nil_of_le (by omega)]
  refine Ev.step (f:=fun _=>some true) (fun k=>?_) (Ev.now _)
  simp only [r05_All.l0]
  rw [if_neg (by omega)]
 | succ d ih =>
  intro i hi
  have hlt:i<l.length:=by omega
  have hlt2:i<m.length:=by omega
  have hx:=hp _ (List.getElem_mem hlt)
  have er:rd_T30 l (i:Int)=l[i]:=rd30_at hlt
  have er2:rd_T30 m (i:Int)=m[i]:=rd30_at hlt2
  rw [List.drop_eq_getElem_cons hlt,List.drop_eq_getElem_cons hlt2]
  refine Ev.step (f:=fun k=>(r05_Same.f k (l[i]).f0.f0 (l[i]).f0.f1 (l[i]).f1 (l[i]).f2 (m[i]).f0.f0 (m[i]).f0.f1 (m[i]).f1 (m[i]).f2).bind fun t=>if t=true then r05_All.l0 k l m ((i+1:Nat):Int) else some false) (fun k=>?_) ?_
  ·simp only [r05_All.l0]
   rw [if_pos (by omega),if_pos (by omega),if_pos (by omega),er,er2,ck_w (by omega)]
  ·refine Ev.bind (refSameAll_ev _ _ _ _ _ _ _ _ hx.1 hx.2) ?_
   unfold allS
   show Ev _ (evSx l[i] m[i] && allS _ _)
   cases h:evSx l[i] m[i] with
   | true =>
    refine ck_if h ?_
    rw [Bool.true_and]
    exact ih (i+1) (by omega)
   | false =>
    refine ck_else (fun h'=>by have:=h.symm.trans h';cases this) ?_
    exact Ev.now _
def letS (c:List Int) (s:Bool) (es:List S30) (c':List Int) (s':Bool) (es':List S30):Bool:=(s == s') && (decide (c=c') && (decide (es.length=es'.length) && allS es es'))
theorem letS_self (c:List Int) (s:Bool) (es:List S30):letS c s es c s es=true:=by
 unfold letS
 rw [allS_self]
 simp
theorem goSameAll_ev (c:List Int) (s:Bool) (es:List S30) (c':List Int) (s':Bool) (es':List S30) (hc:c.length≤140737488355328) (hp:∀ x ∈ es,x.f1.length≤140737488355328∧x.f2.length≤140737488355328):Ev (fun k=>gossip_Same.f k c s es c' s' es') (letS c s es c' s' es'):=by
 unfold gossip_Same.f letS
 cases h1:(s == s') with
 | false=>exact ck_else (by decide) (Ev.now _)
 | true =>
  refine ck_if rfl ?_
  rw [Bool.true_and]
  refine Ev.bind (eqC_ev c c' hc) ?_
  by_cases h2:c=c'
  rotate_left
  ·rw [decide_eq_false h2]
   exact ck_else (by decide) (Ev.now _)
  rw [decide_eq_true h2,Bool.true_and]
  refine ck_if rfl ?_
  refine Ev.bind ?_ (Ev.now _)
  unfold api_Event_85.f
  by_cases h3:es.length=es'.length
  ·rw [decide_eq_true h3,Bool.true_and]
   exact ck_if h3 (eqAll_ev es es' hp)
  ·rw [decide_eq_false h3]
   exact ck_else h3 (Ev.now _)
theorem refSame28All_ev (c:List Int) (s:Bool) (es:List S30) (c':List Int) (s':Bool) (es':List S30) (hc:c.length≤140737488355328) (hn:es.length≤140737488355328) (hp:∀ x ∈ es,x.f1.length≤140737488355328∧x.f2.length≤140737488355328):Ev (fun k=>r28_Same.f k c s es c' s' es') (letS c s es c' s' es'):=by
 unfold r28_Same.f letS
 cases h1:(s == s') with
 | false=>exact ck_else (by decide) (Ev.now _)
 | true =>
  refine ck_if rfl ?_
  rw [Bool.true_and]
  refine Ev.bind (same_ev c c' hc) ?_
  by_cases h2:c=c'
  rotate_left
  ·rw [decide_eq_false h2]
   exact ck_else (by decide) (Ev.now _)
  rw [decide_eq_true h2,Bool.true_and]
  refine ck_if rfl ?_
  refine Ev.bind ?_ (Ev.now _)
  unfold r05_All.f
  by_cases h3:es.length=es'.length
  ·rw [decide_eq_true h3,Bool.true_and]
   have:=refAll_loop es es' h3 hn hp es.length 0 (by omega)
   rw [List.drop_zero,List.drop_zero] at this
   exact ck_if (by omega) this
  ·rw [decide_eq_false h3]
   exact ck_else (by omega) (Ev.now _)
theorem puts28_j (b:Bool) (c:List Int) (s:Bool) (es:List S30) (c':List Int) (s':Bool) (es':List S30) (hc:c.length≤140737488355328) (hn:es.length≤140737488355328) (hp:∀ x ∈ es,x.f1.length≤140737488355328∧x.f2.length≤140737488355328):Ev (fun k=>w28_GossipPuts.j0 k b c s es c' s' es') true:=by
 refine Ev.step (fun k=>by simp only [w28_GossipPuts.j0];rfl) ?_
 cases b with
 | true=>exact ck_if rfl (Ev.bind awake28_ev (Ev.now _))
 | false =>
  refine ck_else (by decide) ?_
  refine Ev.bind (goPut_ev c s es) ?_
  refine Ev.bind (goSameAll_ev c s es c' s' es' hc hp) ?_
  refine Ev.bind (refSame28All_ev c s es c' s' es' hc hn hp) ?_
  refine ck_else (by simp) ?_
  refine Ev.bind (refMay28_ev c s es hc hn hp) ?_
  by_cases hk:OkL c es
  ·rw [decide_eq_true hk,if_pos hk]
   refine ck_if rfl ?_
   have hB:=letB_bytes s hk
   have hL:=letB_le s hk
   refine Ev.bind (goGet_ev (letB c s es) hB (by omega)) ?_
   rw [letG_put s hk]
   refine ck_if rfl ?_
   refine Ev.bind (refPut28_ev s hk) ?_
   refine Ev.bind (eq_ev (letB c s es) (letB c s es) (by omega)) ?_
   refine ck_if (decide_eq_true rfl) ?_
   refine ck_if rfl ?_
   refine Ev.bind (refSame28All_ev c s es c s es hc hn hp) ?_
   rw [letS_self]
   exact ck_if rfl (Ev.bind awake28_ev (Ev.now _))
  ·rw [decide_eq_false hk,if_neg hk]
   refine ck_else (by decide) ?_
   refine ck_if rfl ?_
   exact ck_if rfl (Ev.bind awake28_ev (Ev.now _))
theorem light28_ev (c:List Int) (s:Bool) (es:List S30) (hn:es.length≤140737488355328) (hp:∀ x ∈ es,x.f1.length≤140737488355328∧x.f2.length≤140737488355328):∃ b,Ev (fun k=>w28_Light.f k c s es) b:=by
 unfold w28_Light.f
 obtain ⟨b,hb⟩:=light_ev es hn (fun i hi=>by rw [rd30_at hi];exact(hp _ (List.getElem_mem hi)).2)
 by_cases h:(c.length:Int)≤20
 ·exact ⟨b,ck_if h (Ev.bind hb (Ev.now _))⟩
 ·exact ⟨false,ck_else h (Ev.now _)⟩
theorem GossipPuts (c:List Int) (s:Bool) (es:List S30) (c':List Int) (s':Bool) (es':List S30) (hc:c.length≤140737488355328) (hn:es.length≤140737488355328) (hp:∀ x ∈ es,x.f1.length≤140737488355328∧x.f2.length≤140737488355328) (hn':es'.length≤140737488355328) (hp':∀ x ∈ es',x.f1.length≤140737488355328∧x.f2.length≤140737488355328):∃ k,w28_GossipPuts.f k c s es c' s' es'=some true:=by
 refine Ev.rounds (g:=fun k=>w28_GossipPuts.f k c s es c' s' es') ?_
 unfold w28_GossipPuts.f
 obtain ⟨b,hb⟩:=light28_ev c s es hn hp
 refine Ev.bind hb ?_
 cases b with
 | false=>exact ck_else (by decide) (puts28_j true c s es c' s' es' hc hn hp)
 | true =>
  refine ck_if rfl ?_
  obtain ⟨b',hb'⟩:=light28_ev c' s' es' hn' hp'
  refine Ev.bind hb' ?_
  exact puts28_j (!b') c s es c' s' es' hc hn hp
end Go.Proofs.Ytgocnchjpecafaa.Pure
namespace Go.Proofs.Ytgocnchjpecafaa.gossipPuts
open Go.ChangeShapes Go.WideShapes Go.ChangeAt Go.RowKit Go.Proofs.YtgocnchjpecafaaW.PrintWords Go.Proofs.Ytgocnchjpecafaa.Open Go.Proofs.Ytgocnchjpecafaa.PEv
set_option linter.unusedVariables false
theorem own:ownKnob Try.prog.godebug=none:=by kernel_rfl
theorem laidOut:laidOutB Try.prog=true:=by kernel_rfl
theorem o53 {H:Type} {enc:TypeId×Value→H} {W:World}:Opens enc Try.prog W 53 (Kd.pair (Kd.slice 3 (Kd.int .i64)) (Kd.pair Kd.bool (Kd.slice 30 k30))) (fun x=>x.1.length≤140737488355328∧x.2.2.length≤140737488355328∧∀ y ∈ x.2.2,y.f1.length≤140737488355328∧y.f2.length≤140737488355328):=fun fuel cs x h hz=>by
 obtain ⟨y,hy,hg⟩:=opens_struct (d:=Kd.pair (Kd.slice 3 (Kd.int .i64)) (Kd.pair Kd.bool (Kd.slice 30 k30))) Try.underlying53 (by kernel_rfl)
   (opensAt_cons (by decide) (by kernel_rfl) (by rfl) (by decide) (opens_slice (d:=Kd.int .i64) (q:=3) Try.underlying27 (by kernel_rfl) (B:=8) (by kernel_rfl) (opens_int Try.underlying3)) (opensAt_cons (by decide) (by kernel_rfl) (by rfl) (by decide) (opens_bool Try.underlying4) (opensAt_last (by decide) (by kernel_rfl) (opens_slice (d:=k30) (q:=30) Try.underlying38 (by kernel_rfl) (B:=64) (by kernel_rfl) o30)))) fuel cs x h hz
 refine ⟨y,hy,?_,?_,hg.2.2.2⟩
 ·have h_:y.1.length*8≤140737488351232:=hg.1.1
  omega
 ·have h_:y.2.2.length*64≤140737488351232:=hg.2.2.1
  omega
theorem open53 {w:World} {y:List Int×Bool×List S30} {cs:List Value} (h:(Kd.pair (Kd.slice 3 (Kd.int .i64)) (Kd.pair Kd.bool (Kd.slice 30 k30))).K w y cs):∃ A c B d,cs=[.slice A y.1.length c,.bool y.2.1,.slice B y.2.2.length d]∧y.1.length≤c∧(Kd.int .i64).C w A y.1.length y.1∧y.2.2.length≤d∧k30.C w B y.2.2.length y.2.2:=by
 obtain ⟨c1,c2,rfl,h1,h2⟩:=h
 obtain ⟨c3,c4,rfl,h3,h4⟩:=h2
 obtain ⟨A,c,rfl,hl,hr⟩:=h1
 obtain ⟨B,d,rfl,hl',hr'⟩:=h4
 obtain rfl:=h3
 exact ⟨A,c,B,d,rfl,hl,hr,hl',hr'⟩
set_option maxRecDepth 100000 in
theorem lifted (os:Os) (started:os.Started) (H:Type) (enc:TypeId×Value→H) :
  ReturnsInHanded {} Try.checked os 11 .any (Rows.gossipPutsSpec.pre6 enc Try.prog Try.f11 Rows.gossipPutsRow.domain false) (Rows.gossipPutsSpec.post enc Try.prog Try.f11 false true false false):=by
 refine returnsInHanded_of_change_sized (C:=Try.checked) own started (by kernel_rfl) Try.func11
  (ChangeSpec.witness6 (enc:=enc) (C:=Try.checked) false ⟨#[],#[.agg #[.slice none 0 0,.bool false,.slice none 0 0],.agg #[.slice none 0 0,.bool false,.slice none 0 0]],[]⟩ 8 (by kernel_rfl) (by kernel_rfl) (by kernel_rfl) (by kernel_rfl)) ?_
 intro W base args ds gs before hval0 hW hcnd hsz0 _
 have hval:∀ (j:Nat) t v,Try.f11.params[j]? = some t→args[j]? = some v→Value.okWide Try.prog W .any base t v:=hval0
 have hW':=hW
 obtain ⟨p,q,hA0,hV,rfl,hfz,hnd⟩:=hW
 have hA:DataW.TrodAll enc Try.prog W 0 (fun _=>true) true Try.f11.params.toList args.toList ds p:=hA0
 have hsz:(DataW.weightsEach Try.prog (Try.f11.params.toList++Rows.gossipPutsSpec.plain.varTypes Try.prog) (ds++gs)).all (·≤reachBytes)=true:=hsz0
 rw [Try.params11] at hA hval hsz
 obtain ⟨v0,vs0,d0,ds0,p0,q0,hargs,rfl,rfl,h0,r0⟩:=trodAll_cons hA
 obtain ⟨v1,vs1,d1,ds1,p1,q1,rfl,rfl,rfl,h1,r1⟩:=trodAll_cons r0
 obtain ⟨rfl,rfl,rfl⟩:=trodAll_nil r1
 obtain rfl:args=#[v0,v1]:=by cases args;simp_all
 obtain ⟨rfl,rfl⟩:=trodVars_none hV
 have k0:=h0
 have lt0:∀ x ∈ p0,x.block<W.heap.size:=by obtain ⟨m,hm⟩:=k0;exact DataW.trod_lt m _ _ _ hm
 obtain ⟨cs0,x0,rfl,K0,g0⟩:=opens_agg Try.underlying53 (hval 0 53 v0 rfl rfl) o53 h0 (fun n hn=>by simpa using List.all_eq_true.1 hsz _ (DataW.weights_mem_each (j:=0) (t:=53) rfl rfl n hn))
 obtain ⟨A0_0,c0_0,A0_2,c0_2,e0_,hl0_0,hr0_0,hl0_2,hr0_2⟩:=open53 K0
 obtain rfl:cs0=#[.slice A0_0 x0.1.length c0_0,.bool x0.2.1,.slice A0_2 x0.2.2.length c0_2]:=by apply Array.ext';exact e0_
 have k1:=h1
 have lt1:∀ x ∈ p1,x.block<W.heap.size:=by obtain ⟨m,hm⟩:=k1;exact DataW.trod_lt m _ _ _ hm
 obtain ⟨cs1,x1,rfl,K1,g1⟩:=opens_agg Try.underlying53 (hval 1 53 v1 rfl rfl) o53 h1 (fun n hn=>by simpa using List.all_eq_true.1 hsz _ (DataW.weights_mem_each (j:=1) (t:=53) rfl rfl n hn))
 obtain ⟨A1_0,c1_0,A1_2,c1_2,e1_,hl1_0,hr1_0,hl1_2,hr1_2⟩:=open53 K1
 obtain rfl:cs1=#[.slice A1_0 x1.1.length c1_0,.bool x1.2.1,.slice A1_2 x1.2.2.length c1_2]:=by apply Array.ext';exact e1_
 clear hA0 hval0 hsz0 hsz
 obtain ⟨k,hk⟩:=Pure.GossipPuts x0.1 x0.2.1 x0.2.2 x1.1 x1.2.1 x1.2.2 g0.1 g0.2.1 g0.2.2 g1.2.1 g1.2.2
 refine(PEv.w28_GossipPuts.calls k A0_0 c0_0 x0.1 x0.2.1 A0_2 c0_2 x0.2.2 A1_0 c1_0 x1.1 x1.2.1 A1_2 c1_2 x1.2.2 true W hr0_0 hl0_0 hr0_2 hl0_2 hr1_0 hl1_0 hr1_2 hl1_2 hk rfl).mono fun e W' ⟨he,bel⟩=>?_
 subst he
 exact ⟨_,rfl,_,_,_,[],_,[],hW',trodAll_mk1 (shut_bool Try.underlying4 _),(trodAll_cons_mk (Below.trod laidOut (by kernel_rfl) (of_decide_eq_true (by kernel_rfl)) k0 bel lt0) (trodAll_cons_mk (Below.trod laidOut (by kernel_rfl) (of_decide_eq_true (by kernel_rfl)) k1 bel lt1) trodAll_mk0)),rfl,bel.frame _,fun h=>by cases h⟩
theorem over:Rows.gossipPutsRow.holds Try.pinned (OpenSpec.ofChange Rows.gossipPutsSpec) :=
 OpenClaim.holds_of_wide 11 Try.f11 rfl rfl rfl rfl rfl rfl rfl ⟨rfl,rfl,rfl,rfl,rfl⟩ rfl rfl rfl rfl rfl (by kernel_rfl) Try.func11 (by kernel_rfl)
  (of_decide_eq_true (by kernel_rfl)) (by unfold Func.isWrapper;first|(rw [if_pos (by decide +kernel)];kernel_rfl)|(rw [if_neg (by decide +kernel)];exact ⟨rfl,rfl⟩))
  (fun os started H enc _=>lifted os started H enc)
theorem proved:Rows.GossipPutsSaid:=over
end Go.Proofs.Ytgocnchjpecafaa.gossipPuts
namespace Go.Proofs.Ytgocnchjpecafaa
theorem gossipPuts_holds:Rows.GossipPutsSaid:=gossipPuts.proved
end Go.Proofs.Ytgocnchjpecafaa
