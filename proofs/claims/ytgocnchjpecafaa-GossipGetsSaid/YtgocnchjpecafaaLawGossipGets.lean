/- GossipGets: for every input the law returns true. -/
import Derived.Test.YtgocnchjpecafaaEvMore
import Derived.Test.YtgocnchjpecafaaPEvx30
import Derived.Test.YtgocnchjpecafaaRows
import Derived.ProofKit
import Derived.OpenShut
import Derived.ShutString
import Derived.ChangeOld
import Derived.Test.YtgocnchjpecafaaWSized
namespace Go.Proofs.Ytgocnchjpecafaa.Pure
open Go.RowKit Go.Proofs.Ytgocnchjpecafaa.PEv Go.Proofs.YtgocnchjpecafaaW.PrintWords Go.Proofs.YtgocnchjpecafaaW.PrintLast Go.Proofs.Ytgocnchjpecafaa.ClockBase Go.Proofs.Ytgocnchjpecafaa.Wr
theorem goAll_loop (l:List S30) (hn:l.length<=140737488355328) (hp:∀ x ∈ l,x.f1.length<=140737488355328/\x.f2.length<=140737488355328) (d:Nat):∀ (i:Nat),i+d=l.length->Ev (λk=>r05_All.l0 k l l (i:Int)) true:=by
 induction d with
 | zero =>
  intro i hi
  refine Ev.step (f:=λ_=>some true) (λk=>?_) (Ev.now _)
  simp only [r05_All.l0]
  rw [if_neg (by omega)]
 | succ d ih =>
  intro i hi
  have hlt:i<l.length:=by omega
  have hx:=hp _ (List.getElem_mem hlt)
  have er:rd_T30 l (i:Int)=l[i]:=rd30_at hlt
  refine Ev.step (f:=λk=>(r05_Same.f k (l[i]).f0.f0 (l[i]).f0.f1 (l[i]).f1 (l[i]).f2 (l[i]).f0.f0 (l[i]).f0.f1 (l[i]).f1 (l[i]).f2).bind λt=>if t=true then r05_All.l0 k l l ((i+1:Nat):Int) else some false) (λk=>?_) ?_
  ·simp only [r05_All.l0]
   rw [if_pos (by omega),if_pos (by omega),if_pos (by omega),er,ck_w (by omega)]
  ·refine Ev.bind (evSame_ev _ _ _ _ hx.1 hx.2) ?_
   exact ck_if rfl (ih (i+1) (by omega))
theorem goSame_ev (c:List Int) (s:Bool) (es:List S30) (hc:c.length<=140737488355328) (hn:es.length<=140737488355328) (hp:∀ x ∈ es,x.f1.length<=140737488355328/\x.f2.length<=140737488355328):Ev (λk=>r28_Same.f k c s es c s es) true:=by
 unfold r28_Same.f
 refine ck_if (by simp) ?_
 refine Ev.bind (same_yes c hc) ?_
 refine ck_if rfl ?_
 refine Ev.bind ?_ (Ev.now _)
 unfold r05_All.f
 exact ck_if rfl (goAll_loop es hn hp es.length 0 (by omega))
theorem GossipGets:w28_GossipGets.Pure:=by
 intro l0 hl hl2 hb
 refine Ev.rounds (g:=λk=>w28_GossipGets.f k l0) ?_
 have hB:Wr.Bytes l0:=λx hx=>by
  have:=bounds_u8 (hb x hx)
  omega
 unfold w28_GossipGets.f
 by_cases h1:(l0.length:Int) > 4000
 ·exact ck_if h1 (Ev.bind awake28_ev (Ev.now _))
 refine ck_else h1 ?_
 refine Ev.bind (ev_is rfl) ?_
 refine ck_if (by simp;omega) ?_
 rw [List.nil_append]
 refine Ev.bind (goGet_ev l0 hB (by omega)) ?_
 refine Ev.bind (refGet28_ev l0 hB (by omega)) ?_
 cases hg:letG l0 with
 | none =>
  refine Ev.bind (goSame_ev [] false [] (by simp) (by simp) (λx hx=>by cases hx)) ?_
  refine ck_if rfl ?_
  refine ck_if rfl ?_
  exact ck_if rfl (Ev.bind awake28_ev (Ev.now _))
 | some e =>
  obtain ⟨c,s,es⟩:=e
  obtain ⟨hk,he⟩:=(letG_iff hB c s es).mp hg
  refine Ev.bind (goSame_ev c s es (by have:=(okC_iff.mp hk.1).1;omega) (by have:=hk.2.2.1;omega) (λx hx=>OkE_len (hk.2.2.2 x hx))) ?_
  refine ck_if rfl ?_
  refine ck_if rfl ?_
  exact ck_if rfl (Ev.bind awake28_ev (Ev.now _))
end Go.Proofs.Ytgocnchjpecafaa.Pure
namespace Go.Proofs.Ytgocnchjpecafaa.gossipGets
open Go.ChangeShapes Go.WideShapes Go.ChangeAt Go.RowKit
open Go.ChangeMaps (open_string shut_string)
set_option linter.unusedVariables false
theorem own:ownKnob Try.prog.godebug=none:=by kernel_rfl
theorem laidOut:laidOutB Try.prog=true:=by kernel_rfl
def IsRow (k:IntKind) (w:World) (a:Option Addr) (len cap:Nat) (zs:List Int):Prop :=
 (a=none/\len=0/\cap=0/\zs=[]) \/
 ∃ x,a=some x/\len<=cap/\cap<=maxLen/\zs.length=cap/\(∀ i,i<zs.length->w.cell? (x.add i)=some (.int k (zs.getD i 0)))/\∀ n ∈ zs,(Lit.int k n).wf=true
set_option maxRecDepth 100000 in
theorem lifted (os:Os) (started:os.Started) (H:Type) (enc:TypeId×Value->H) :
  ReturnsInHanded {} Try.checked os 7 .any (Rows.gossipGetsSpec.pre6 enc Try.prog Try.f7 Rows.gossipGetsRow.domain false) (Rows.gossipGetsSpec.post enc Try.prog Try.f7 false true false false):=by
 refine returnsInHanded_of_change_sized (C:=Try.checked) own started (by kernel_rfl) Try.func7
  (ChangeSpec.witness6 (enc:=enc) (C:=Try.checked) false ⟨#[],#[.slice none 0 0],[]⟩ 8 (by kernel_rfl) (by kernel_rfl) (by kernel_rfl) (by kernel_rfl)) ?_
 intro W base args ds gs before hval0 hW hcnd hsz0 _
 have hsz:(DataW.weightsEach Try.prog (Try.f7.params.toList++Rows.gossipGetsSpec.plain.varTypes Try.prog) (ds++gs)).all (·<=reachBytes)=true:=hsz0
 have hval:∀ (j:Nat) t v,Try.f7.params[j]? = some t->args[j]? = some v->Value.okWide Try.prog W .any base t v:=hval0
 have hW':=hW
 obtain ⟨p,q,hA0,hV,rfl,hfz,hnd⟩:=hW
 have hA:DataW.TrodAll enc Try.prog W 0 (λ_=>true) true Try.f7.params.toList args.toList ds p:=hA0
 rw [Try.params7] at hA hval hsz
 obtain ⟨v0,vs0,d0,ds0,p0,q0,hargs,rfl,rfl,h0,r0⟩:=trodAll_cons hA
 obtain ⟨rfl,rfl,rfl⟩:=trodAll_nil r0
 obtain rfl:args=#[v0]:=by cases args;simp_all
 obtain ⟨rfl,rfl⟩:=trodVars_none hV
 obtain ⟨a0,len0,cap0,rfl⟩:=okWide_slice Try.underlying22 (hval 0 22 v0 rfl rfl)
 have k0:=h0
 have lt0:∀ x ∈ p0,x.block<W.heap.size:=by obtain ⟨m,hm⟩:=k0;exact DataW.trod_lt m _ _ _ hm
 obtain ⟨z0,w0⟩:∃ zs,IsRow .u8 W a0 len0 cap0 zs:=by
  obtain ⟨fuel,hf⟩:=h0
  rcases open_ints Try.underlying22 Try.underlying5 (by kernel_rfl) hf with ⟨hcs,_⟩|⟨x,l,c,zs,hcs,_,hl,hm,hz,_,hcell,hwz⟩
  ·simp [Value.cells] at hcs
   obtain ⟨rfl,rfl,rfl⟩:=hcs
   exact ⟨[],.inl ⟨rfl,rfl,rfl,rfl⟩⟩
  ·simp [Value.cells] at hcs
   obtain ⟨rfl,rfl,rfl⟩:=hcs
   exact ⟨zs,.inr ⟨_,rfl,hl,hm,by simpa using hz,hcell,hwz⟩⟩
 have y0:len0*1<=140737488351232:=Go.Proofs.YtgocnchjpecafaaW.PrintWords.sized_ints hsz (j:=0) (t:=22) rfl rfl Try.underlying22 Try.underlying5 (by kernel_rfl) (by kernel_rfl) h0
 clear hA0 hval0 hsz0 hsz
 refine(PEv.w28_GossipGets.walk Pure.GossipGets a0 len0 cap0 z0 W w0 y0).mono λe W' ⟨he,bel⟩=>?_
 subst he
 exact ⟨_,rfl,_,_,_,[],_,[],hW',trodAll_mk1 (shut_bool Try.underlying4 _),(trodAll_cons_mk (Below.trod laidOut (by kernel_rfl) (of_decide_eq_true (by kernel_rfl)) k0 bel lt0) trodAll_mk0),rfl,bel.frame _,λh=>by cases h⟩
theorem over:Rows.gossipGetsRow.holds Try.pinned (OpenSpec.ofChange Rows.gossipGetsSpec) :=
 OpenClaim.holds_of_wide 7 Try.f7 rfl rfl rfl rfl rfl rfl rfl ⟨rfl,rfl,rfl,rfl,rfl⟩ rfl rfl rfl rfl rfl (by kernel_rfl) Try.func7 (by kernel_rfl)
  (of_decide_eq_true (by kernel_rfl)) (by unfold Func.isWrapper;first|(rw [if_pos (by decide +kernel)];kernel_rfl)|(rw [if_neg (by decide +kernel)];exact ⟨rfl,rfl⟩))
  (λos started H enc _=>lifted os started H enc)
theorem proved:Rows.GossipGetsSaid:=over
end Go.Proofs.Ytgocnchjpecafaa.gossipGets
namespace Go.Proofs.Ytgocnchjpecafaa
theorem gossipGets_holds:Rows.GossipGetsSaid:=gossipGets.proved
end Go.Proofs.Ytgocnchjpecafaa
