/- DiskSafe: for every input the law returns true. -/
import Derived.Test.YtpahdlgpiecdkaaRows
import Derived.Test.YtpahdlgpiecdkaaDkOpens
import Derived.Test.YtpahdlgpiecdkaaDkSafe2
import Derived.ProofKit
import Derived.OpenShut
import Derived.ShutString
import Derived.ChangeOld
namespace Go.Proofs.Ytpahdlgpiecdkaa.diskSafe
open Go.Proofs.Ytpahdlgpiecdkaa.PDk Go.ChangeShapes Go.WideShapes Go.ChangeAt Go.RowKit Go.Proofs.YtpahdlgpiecdkaaW.PrintWords Go.Proofs.Ytpahdlgpiecdkaa.Open
set_option linter.unusedVariables false
theorem own:ownKnob Try.prog.godebug=none:=by kernel_rfl
theorem laidOut:laidOutB Try.prog=true:=by kernel_rfl
set_option maxRecDepth 100000 in
theorem lifted (os:Os) (started:os.Started) (H:Type) (enc:TypeId×Value->H) :
  ReturnsInHanded {} Try.checked os 7 .any (Rows.diskSafeSpec.pre6 enc Try.prog Try.f7 Rows.diskSafeRow.domain false) (Rows.diskSafeSpec.post enc Try.prog Try.f7 false true false false):=by
 refine returnsInHanded_of_change_sized (C:=Try.checked) own started (by kernel_rfl) Try.func7
  (ChangeSpec.witness6 (enc:=enc) (C:=Try.checked) false ⟨#[],#[.slice none 0 0,.slice none 0 0,.bool false],[]⟩ 8 (by kernel_rfl) (by kernel_rfl) (by kernel_rfl) (by kernel_rfl)) ?_
 intro W base args ds gs before hval0 hW hcnd hsz0 _
 have hval:∀ (j:Nat) t v,Try.f7.params[j]? = some t->args[j]? = some v->Value.okWide Try.prog W .any base t v:=hval0
 have hW':=hW
 obtain ⟨p,q,hA0,hV,rfl,hfz,hnd⟩:=hW
 have hA:DataW.TrodAll enc Try.prog W 0 (λ_=>true) true Try.f7.params.toList args.toList ds p:=hA0
 have hsz:(DataW.weightsEach Try.prog (Try.f7.params.toList++Rows.diskSafeSpec.plain.varTypes Try.prog) (ds++gs)).all (·<=reachBytes)=true:=hsz0
 rw [Try.params7] at hA hval hsz
 obtain ⟨v0,vs0,d0,ds0,p0,q0,hargs,rfl,rfl,h0,r0⟩:=trodAll_cons hA
 obtain ⟨v1,vs1,d1,ds1,p1,q1,rfl,rfl,rfl,h1,r1⟩:=trodAll_cons r0
 obtain ⟨v2,vs2,d2,ds2,p2,q2,rfl,rfl,rfl,h2,r2⟩:=trodAll_cons r1
 obtain ⟨rfl,rfl,rfl⟩:=trodAll_nil r2
 obtain rfl:args=#[v0,v1,v2]:=by cases args;simp_all
 obtain ⟨rfl,rfl⟩:=trodVars_none hV
 obtain ⟨A0,len0,c0,rfl⟩:=okWide_slice Try.underlying34 (hval 0 34 v0 rfl rfl)
 have k0:=h0
 have lt0:∀ x ∈ p0,x.block<W.heap.size:=by obtain ⟨m,hm⟩:=k0;exact DataW.trod_lt m _ _ _ hm
 obtain ⟨l0,rfl,hl0,hr0,hg0⟩:=opens_row (opens_slice (d:=k49) (q:=0) Try.underlying34 (by kernel_rfl) (B:=72) (by kernel_rfl) o49) h0 (λn hn=>by simpa using List.all_eq_true.1 hsz _ (DataW.weights_mem_each (j:=0) (t:=34) rfl rfl n hn))
 obtain ⟨A1,len1,c1,rfl⟩:=okWide_slice Try.underlying34 (hval 1 34 v1 rfl rfl)
 have k1:=h1
 have lt1:∀ x ∈ p1,x.block<W.heap.size:=by obtain ⟨m,hm⟩:=k1;exact DataW.trod_lt m _ _ _ hm
 obtain ⟨l1,rfl,hl1,hr1,hg1⟩:=opens_row (opens_slice (d:=k49) (q:=0) Try.underlying34 (by kernel_rfl) (B:=72) (by kernel_rfl) o49) h1 (λn hn=>by simpa using List.all_eq_true.1 hsz _ (DataW.weights_mem_each (j:=1) (t:=34) rfl rfl n hn))
 obtain ⟨a2,rfl,rfl,rfl⟩:=open_bool Try.underlying4 (hval 2 4 v2 rfl rfl) h2
 clear hA0 hval0 hsz0 hsz
 refine(Dsk.safe_calls a2 A0 A1 c0 c1 l0 l1 W hr0 hl0 (by have:=hg0.1;omega) (λx hx=>hg0.2 x hx) hr1 hl1 (by have:=hg1.1;omega) (λx hx=>hg1.2 x hx)).mono λe W' ⟨he,bel⟩=>?_
 subst he
 exact ⟨_,rfl,_,_,_,[],_,[],hW',trodAll_mk1 (shut_bool Try.underlying4 _),(trodAll_cons_mk (Below.trod laidOut (by kernel_rfl) (of_decide_eq_true (by kernel_rfl)) k0 bel lt0) (trodAll_cons_mk (Below.trod laidOut (by kernel_rfl) (of_decide_eq_true (by kernel_rfl)) k1 bel lt1) (trodAll_cons_mk (shut_bool Try.underlying4 _) trodAll_mk0))),rfl,bel.frame _,λh=>by cases h⟩
theorem over:Rows.diskSafeRow.holds Try.pinned (OpenSpec.ofChange Rows.diskSafeSpec) :=
 OpenClaim.holds_of_wide 7 Try.f7 rfl rfl rfl rfl rfl rfl rfl ⟨rfl,rfl,rfl,rfl,rfl⟩ rfl rfl rfl rfl rfl (by kernel_rfl) Try.func7 (by kernel_rfl)
  (of_decide_eq_true (by kernel_rfl)) (by unfold Func.isWrapper;first|(rw [if_pos (by decide +kernel)];kernel_rfl)|(rw [if_neg (by decide +kernel)];exact ⟨rfl,rfl⟩))
  (λos started H enc _=>lifted os started H enc)
theorem proved:Rows.DiskSafeSaid:=over
end Go.Proofs.Ytpahdlgpiecdkaa.diskSafe
namespace Go.Proofs.Ytpahdlgpiecdkaa
theorem diskSafe_holds:Rows.DiskSafeSaid:=diskSafe.proved
end Go.Proofs.Ytpahdlgpiecdkaa
