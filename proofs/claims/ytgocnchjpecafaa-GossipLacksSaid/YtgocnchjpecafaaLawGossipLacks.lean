/- GossipLacks: for every input the law returns true. -/
import Derived.Test.YtgocnchjpecafaaGoLk
import Derived.Test.YtgocnchjpecafaaPEvx34
import Derived.Test.YtgocnchjpecafaaRows
import Derived.Test.YtgocnchjpecafaaEvOpens
import Derived.ProofKit
import Derived.OpenShut
import Derived.ShutString
import Derived.ChangeOld
namespace Go.Proofs.Ytgocnchjpecafaa.Pure
open Go.RowKit Go.Proofs.Ytgocnchjpecafaa.PEv Go.Proofs.YtgocnchjpecafaaW.PrintWords Go.Proofs.YtgocnchjpecafaaW.PrintLast Go.Proofs.Ytgocnchjpecafaa.ClockBase Go.Proofs.Ytgocnchjpecafaa.Wr Go.Sort Go.Proofs.Ytgocnchjpecafaa.Srt
set_option linter.unusedVariables false
theorem lacks_no (L:List S30) (own:List Int) (most:Int):Ev (fun k=>w28_GossipLacks.j1 k false L true own most [] false []) true:=by
 refine Ev.step (fun k=>by simp only [w28_GossipLacks.j1];rfl) ?_
 refine ck_if trivial ?_
 refine ck_else (by decide) ?_
 refine Ev.bind (lkSame_ev [] false [] (by simp) (by simp) (fun x hx=>by cases hx)) ?_
 exact ck_if rfl (Ev.bind awake28_ev (Ev.now _))
theorem lacks_yes (L:List S30) (own:List Int) (most:Int) (ho:own.length≤140737488355328) (hn:L.length≤16) (hk:∀ x ∈ L,OkE x):Ev (fun k=>w28_GossipLacks.j1 k true L false own most (trim (ofL own)) false L) true:=by
 have hp:∀ x ∈ L,x.f1.length≤140737488355328∧x.f2.length≤140737488355328:=fun x hx=>OkE_len (hk x hx)
 have h5:=plain_len own
 refine Ev.step (fun k=>by simp only [w28_GossipLacks.j1];rfl) ?_
 refine ck_else (by decide) ?_
 refine ck_if trivial ?_
 refine Ev.bind (plain_ev own ho) ?_
 refine Ev.bind (lkSame_ev (trim (ofL own)) false L (by omega) (by omega) hp) ?_
 refine ck_if rfl ?_
 refine Ev.bind (refMay28_ev (trim (ofL own)) false L (by omega) (by omega) hp) ?_
 have:OkL (trim (ofL own)) L:=⟨okC_iff.mpr ⟨h5,plain_small own⟩,by rw [ofL_plain],hn,hk⟩
 rw [decide_eq_true this]
 exact ck_if rfl (Ev.bind awake28_ev (Ev.now _))
theorem lacks_j (l:List S30) (b:Bool) (c:List Int) (s:Bool) (es:List S30) (own:List Int) (most:Int) (hl:l.length<2199023255552) (hf:Fits l) (hc:c.length≤140737488355328) (ho:own.length≤140737488355328):Ev (fun k=>w28_GossipLacks.j0 k l b c s es own most) true:=by
 refine Ev.step (fun k=>by simp only [w28_GossipLacks.j0];rfl) ?_
 cases b with
 | true=>exact ck_if rfl (Ev.bind awake28_ev (Ev.now _))
 | false =>
  refine ck_else (by decide) ?_
  refine Ev.bind (answer_ev l hl own c s es) ?_
  refine Ev.bind (refLacks_ev l hl hf c hc 16) ?_
  refine Ev.bind (goLacks_ev l hl c most) ?_
  refine Ev.bind (refLacks_ev l hl hf c hc most) ?_
  have hmem:∀ m,∀ x ∈ lkS c m (ordL event_Order.lt l) [],OkE x:=fun m x hx=>(lkS_mem _ _ x hx).resolve_left (fun h=>by cases h)
  have hlen:=lkS_le (c:=c) (most:=most) (ordL event_Order.lt l) []
  rw [ordL_len] at hlen
  refine Ev.bind (lkAll_ev _ (by simp only [List.length_nil] at hlen;omega) (fun x hx=>OkE_len (hmem most x hx))) ?_
  refine ck_if rfl ?_
  refine Ev.bind (may_ev own ho) ?_
  have h16:=lkS_len (c:=c) (most:=16) (ordL event_Order.lt l) [] (.inr rfl)
  have hm16:=hmem 16
  generalize lkS c 16 (ordL event_Order.lt l) []=L at h16 hm16
  by_cases h1:okC own=true
  rotate_left
  ·rw [if_neg (fun h:okC own=true∧s=true∧L≠[]=>h1 h.1)]
   exact ck_else h1 (lacks_no L own most)
  refine ck_if h1 ?_
  cases s with
  | false =>
   rw [if_neg (fun h:okC own=true∧false=true∧L≠[]=>by cases h.2.1)]
   exact ck_else (by decide) (lacks_no L own most)
  | true =>
   refine ck_if rfl ?_
   by_cases h3:L=[]
   ·rw [if_neg (fun h:okC own=true∧true=true∧L≠[]=>h.2.2 h3)]
    subst h3
    exact lacks_no [] own most
   ·rw [if_pos (show okC own=true∧true=true∧L≠[] from ⟨h1,rfl,h3⟩)]
    have e:((L.length:Int) == 0)=false:=beq_eq_false_iff_ne.2 (fun h=>h3 (List.eq_nil_of_length_eq_zero (by omega)))
    rw [e]
    exact lacks_yes L own most ho (by rcases h16 with h|h;omega;exact absurd h h3) hm16
theorem GossipLacks (l:List S30) (c:List Int) (s:Bool) (es:List S30) (own:List Int) (most:Int) (hl:l.length<2199023255552) (hf:Fits l) (hc:c.length≤140737488355328) (hn:es.length≤140737488355328) (hp:Fits es) (ho:own.length≤140737488355328):∃ k,w28_GossipLacks.f k l c s es own most=some true:=by
 refine Ev.rounds (g:=fun k=>w28_GossipLacks.f k l c s es own most) ?_
 unfold w28_GossipLacks.f
 obtain ⟨b,hb⟩:=light_ev l (by omega) (fun i hi=>by rw [rd30_at hi];exact(hf _ (List.getElem_mem hi)).2)
 refine Ev.bind hb ?_
 have no:=lacks_j l true c s es own most hl hf hc ho
 cases b with
 | false=>exact ck_else (by decide) no
 | true =>
  refine ck_if rfl ?_
  have h28:∃ b,Ev (fun k=>w28_Light.f k c s es) b:=by
   unfold w28_Light.f
   obtain ⟨b,hb⟩:=light_ev es hn (fun i hi=>by rw [rd30_at hi];exact(hp _ (List.getElem_mem hi)).2)
   by_cases h:(c.length:Int)≤20
   ·exact ⟨b,ck_if h (Ev.bind hb (Ev.now _))⟩
   ·exact ⟨false,ck_else h (Ev.now _)⟩
  obtain ⟨b',hb'⟩:=h28
  refine Ev.bind hb' ?_
  cases b' with
  | false=>exact ck_else (by decide) no
  | true=>exact ck_if rfl (lacks_j l _ c s es own most hl hf hc ho)
end Go.Proofs.Ytgocnchjpecafaa.Pure
namespace Go.Proofs.Ytgocnchjpecafaa.gossipLacks
open Go.ChangeShapes Go.WideShapes Go.ChangeAt Go.RowKit Go.Proofs.YtgocnchjpecafaaW.PrintWords Go.Proofs.Ytgocnchjpecafaa.Open Go.Proofs.Ytgocnchjpecafaa.PEv
set_option linter.unusedVariables false
theorem own:ownKnob Try.prog.godebug=none:=by kernel_rfl
theorem laidOut:laidOutB Try.prog=true:=by kernel_rfl
theorem o53 {H:Type} {enc:TypeId×Value→H} {W:World}:Opens enc Try.prog W 53 (Kd.pair (Kd.slice 3 (Kd.int .i64)) (Kd.pair Kd.bool (Kd.slice 30 k30))) (fun x=>x.1.length≤140737488355328∧x.2.2.length≤140737488355328∧∀ y ∈ x.2.2,y.f1.length≤140737488355328∧y.f2.length≤140737488355328):=fun fuel cs x h hz=>by
 obtain ⟨y,hy,hg⟩:=opens_struct (d:=Kd.pair (Kd.slice 3 (Kd.int .i64)) (Kd.pair Kd.bool (Kd.slice 30 k30))) Try.underlying53 (by kernel_rfl)
   (opensAt_cons (by decide) (by kernel_rfl) (by rfl) (by decide) (opens_slice (d:=Kd.int .i64) (q:=3) Try.underlying27 (by kernel_rfl) (B:=8) (by kernel_rfl) (opens_int Try.underlying3)) (opensAt_cons (by decide) (by kernel_rfl) (by rfl) (by decide) (opens_bool Try.underlying4) (opensAt_last (by decide) (by kernel_rfl) (opens_slice (d:=k30) (q:=30) Try.underlying38 (by kernel_rfl) (B:=64) (by kernel_rfl) o30)))) fuel cs x h hz
 refine ⟨y,hy,?_,?_,hg.2.2.2⟩
 ·have h_:y.1.length*8≤140737488351232:=hg.1.1
  omega
 ·have h_:y.2.2.length*64≤140737488351232:=hg.2.2.1
  omega
theorem open53 {w:World} {y:List Int×Bool×List S30} {cs:List Value} (h:(Kd.pair (Kd.slice 3 (Kd.int .i64)) (Kd.pair Kd.bool (Kd.slice 30 k30))).K w y cs):∃ A c B d,cs=[.slice A y.1.length c,.bool y.2.1,.slice B y.2.2.length d]∧y.1.length≤c∧(Kd.int .i64).C w A y.1.length y.1∧y.2.2.length≤d∧k30.C w B y.2.2.length y.2.2:=by
 obtain ⟨c1,c2,rfl,h1,h2⟩:=h
 obtain ⟨c3,c4,rfl,h3,h4⟩:=h2
 obtain ⟨A,c,rfl,hl,hr⟩:=h1
 obtain ⟨B,d,rfl,hl',hr'⟩:=h4
 obtain rfl:=h3
 exact ⟨A,c,B,d,rfl,hl,hr,hl',hr'⟩
theorem o65 {H:Type} {enc:TypeId×Value→H} {W:World}:Opens enc Try.prog W 65 (Kd.pair (Kd.slice 3 (Kd.int .i64)) (Kd.int .i64)) (fun x=>x.1.length≤140737488355328):=fun fuel cs x h hz=>by
 obtain ⟨y,hy,hg⟩:=opens_struct (d:=Kd.pair (Kd.slice 3 (Kd.int .i64)) (Kd.int .i64)) Try.underlying65 (by kernel_rfl)
  (opensAt_cons (by decide) (by kernel_rfl) (by rfl) (by decide) (opens_slice (d:=Kd.int .i64) (q:=3) Try.underlying27 (by kernel_rfl) (B:=8) (by kernel_rfl) (opens_int Try.underlying3)) (opensAt_last (by decide) (by kernel_rfl) (opens_int Try.underlying3))) fuel cs x h hz
 refine ⟨y,hy,?_⟩
 have h_:y.1.length*8≤140737488351232:=hg.1.1
 omega
theorem open65 {w:World} {y:List Int×Int} {cs:List Value} (h:(Kd.pair (Kd.slice 3 (Kd.int .i64)) (Kd.int .i64)).K w y cs):∃ A c,cs=[.slice A y.1.length c,.int .i64 y.2]∧y.1.length≤c∧(Kd.int .i64).C w A y.1.length y.1:=by
 obtain ⟨c1,c2,rfl,h1,h2⟩:=h
 obtain ⟨A,c,rfl,hl,hr⟩:=h1
 obtain rfl:=h2
 exact ⟨A,c,rfl,hl,hr⟩
set_option maxRecDepth 100000 in
theorem lifted (os:Os) (started:os.Started) (H:Type) (enc:TypeId×Value→H) :
  ReturnsInHanded {} Try.checked os 10 .any (Rows.gossipLacksSpec.pre6 enc Try.prog Try.f10 Rows.gossipLacksRow.domain false) (Rows.gossipLacksSpec.post enc Try.prog Try.f10 false true false false):=by
 refine returnsInHanded_of_change_sized (C:=Try.checked) own started (by kernel_rfl) Try.func10
  (ChangeSpec.witness6 (enc:=enc) (C:=Try.checked) false ⟨#[],#[.slice none 0 0,.agg #[.slice none 0 0,.bool false,.slice none 0 0],.agg #[.slice none 0 0,.int .i64 0]],[]⟩ 8 (by kernel_rfl) (by kernel_rfl) (by kernel_rfl) (by kernel_rfl)) ?_
 intro W base args ds gs before hval0 hW hcnd hsz0 _
 have hval:∀ (j:Nat) t v,Try.f10.params[j]? = some t→args[j]? = some v→Value.okWide Try.prog W .any base t v:=hval0
 have hW':=hW
 obtain ⟨p,q,hA0,hV,rfl,hfz,hnd⟩:=hW
 have hA:DataW.TrodAll enc Try.prog W 0 (fun _=>true) true Try.f10.params.toList args.toList ds p:=hA0
 have hsz:(DataW.weightsEach Try.prog (Try.f10.params.toList++Rows.gossipLacksSpec.plain.varTypes Try.prog) (ds++gs)).all (·≤reachBytes)=true:=hsz0
 rw [Try.params10] at hA hval hsz
 obtain ⟨v0,vs0,d0,ds0,p0,q0,hargs,rfl,rfl,h0,r0⟩:=trodAll_cons hA
 obtain ⟨v1,vs1,d1,ds1,p1,q1,rfl,rfl,rfl,h1,r1⟩:=trodAll_cons r0
 obtain ⟨v2,vs2,d2,ds2,p2,q2,rfl,rfl,rfl,h2,r2⟩:=trodAll_cons r1
 obtain ⟨rfl,rfl,rfl⟩:=trodAll_nil r2
 obtain rfl:args=#[v0,v1,v2]:=by cases args;simp_all
 obtain ⟨rfl,rfl⟩:=trodVars_none hV
 obtain ⟨A0,len0,c0,rfl⟩:=okWide_slice Try.underlying38 (hval 0 38 v0 rfl rfl)
 have k0:=h0
 have lt0:∀ x ∈ p0,x.block<W.heap.size:=by obtain ⟨m,hm⟩:=k0;exact DataW.trod_lt m _ _ _ hm
 obtain ⟨l0,rfl,hl0,hr0,hg0⟩:=opens_row (opens_slice (d:=k30) (q:=0) Try.underlying38 (by kernel_rfl) (B:=64) (by kernel_rfl) o30) h0 (fun n hn=>by simpa using List.all_eq_true.1 hsz _ (DataW.weights_mem_each (j:=0) (t:=38) rfl rfl n hn))
 have k1:=h1
 have lt1:∀ x ∈ p1,x.block<W.heap.size:=by obtain ⟨m,hm⟩:=k1;exact DataW.trod_lt m _ _ _ hm
 obtain ⟨cs1,x1,rfl,K1,g1⟩:=opens_agg Try.underlying53 (hval 1 53 v1 rfl rfl) o53 h1 (fun n hn=>by simpa using List.all_eq_true.1 hsz _ (DataW.weights_mem_each (j:=1) (t:=53) rfl rfl n hn))
 obtain ⟨A1_0,c1_0,A1_2,c1_2,e1_,hl1_0,hr1_0,hl1_2,hr1_2⟩:=open53 K1
 obtain rfl:cs1=#[.slice A1_0 x1.1.length c1_0,.bool x1.2.1,.slice A1_2 x1.2.2.length c1_2]:=by apply Array.ext';exact e1_
 have k2:=h2
 have lt2:∀ x ∈ p2,x.block<W.heap.size:=by obtain ⟨m,hm⟩:=k2;exact DataW.trod_lt m _ _ _ hm
 obtain ⟨cs2,x2,rfl,K2,g2⟩:=opens_agg Try.underlying65 (hval 2 65 v2 rfl rfl) o65 h2 (fun n hn=>by simpa using List.all_eq_true.1 hsz _ (DataW.weights_mem_each (j:=2) (t:=65) rfl rfl n hn))
 obtain ⟨A2_0,c2_0,e2_,hl2_0,hr2_0⟩:=open65 K2
 obtain rfl:cs2=#[.slice A2_0 x2.1.length c2_0,.int .i64 x2.2]:=by apply Array.ext';exact e2_
 clear hA0 hval0 hsz0 hsz
 have hl64:=hg0.1
 obtain ⟨k,hk⟩:=Pure.GossipLacks l0 x1.1 x1.2.1 x1.2.2 x2.1 x2.2 (by omega) hg0.2 g1.1 g1.2.1 g1.2.2 g2
 refine(PEv.w28_GossipLacks.calls k A0 c0 l0 A1_0 c1_0 x1.1 x1.2.1 A1_2 c1_2 x1.2.2 A2_0 c2_0 x2.1 x2.2 true W hr0 hl0 hr1_0 hl1_0 hr1_2 hl1_2 hr2_0 hl2_0 hk rfl).mono fun e W' ⟨he,bel⟩=>?_
 subst he
 exact ⟨_,rfl,_,_,_,[],_,[],hW',trodAll_mk1 (shut_bool Try.underlying4 _),(trodAll_cons_mk (Below.trod laidOut (by kernel_rfl) (of_decide_eq_true (by kernel_rfl)) k0 bel lt0) (trodAll_cons_mk (Below.trod laidOut (by kernel_rfl) (of_decide_eq_true (by kernel_rfl)) k1 bel lt1) (trodAll_cons_mk (Below.trod laidOut (by kernel_rfl) (of_decide_eq_true (by kernel_rfl)) k2 bel lt2) trodAll_mk0))),rfl,bel.frame _,fun h=>by cases h⟩
theorem over:Rows.gossipLacksRow.holds Try.pinned (OpenSpec.ofChange Rows.gossipLacksSpec) :=
 OpenClaim.holds_of_wide 10 Try.f10 rfl rfl rfl rfl rfl rfl rfl ⟨rfl,rfl,rfl,rfl,rfl⟩ rfl rfl rfl rfl rfl (by kernel_rfl) Try.func10 (by kernel_rfl)
  (of_decide_eq_true (by kernel_rfl)) (by unfold Func.isWrapper;first|(rw [if_pos (by decide +kernel)];kernel_rfl)|(rw [if_neg (by decide +kernel)];exact ⟨rfl,rfl⟩))
  (fun os started H enc _=>lifted os started H enc)
theorem proved:Rows.GossipLacksSaid:=over
end Go.Proofs.Ytgocnchjpecafaa.gossipLacks
namespace Go.Proofs.Ytgocnchjpecafaa
theorem gossipLacks_holds:Rows.GossipLacksSaid:=gossipLacks.proved
end Go.Proofs.Ytgocnchjpecafaa
