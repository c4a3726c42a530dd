/- StableSafe: for every input the law returns true. -/
import Derived.Test.YtjpjdipdhakjnaaRows
import Derived.Test.YtjpjdipdhakjnaaOpen
import Derived.Test.YtjpjdipdhakjnaaSafeWalk
import Derived.ProofKit
import Derived.OpenShut
import Derived.ShutString
import Derived.ChangeOld
namespace Go.Proofs.Ytjpjdipdhakjnaa.stableSafe
open Go.Proofs.Ytjpjdipdhakjnaa.PStab Go.ChangeShapes Go.WideShapes Go.ChangeAt Go.RowKit Go.Proofs.YtjpjdipdhakjnaaW.PrintWords Go.Proofs.Ytjpjdipdhakjnaa.Open
set_option linter.unusedVariables false
theorem own:ownKnob Try.prog.godebug=none:=by kernel_rfl
theorem laidOut:laidOutB Try.prog=true:=by kernel_rfl
set_option maxRecDepth 100000 in
theorem lifted (os:Os) (started:os.Started) (H:Type) (enc:TypeId×Value->H) :
  ReturnsInHanded {} Try.checked os 8 .any (Rows.stableSafeSpec.pre6 enc Try.prog Try.f8 Rows.stableSafeRow.domain false) (Rows.stableSafeSpec.post enc Try.prog Try.f8 false true false false):=by
 refine returnsInHanded_of_change_sized (C:=Try.checked) own started (by kernel_rfl) Try.func8
  (ChangeSpec.witness6 (enc:=enc) (C:=Try.checked) false ⟨#[],#[.slice none 0 0],[]⟩ 8 (by kernel_rfl) (by kernel_rfl) (by kernel_rfl) (by kernel_rfl)) ?_
 intro W base args ds gs before hval0 hW hcnd hsz0 _
 have hval:∀ (j:Nat) t v,Try.f8.params[j]? = some t->args[j]? = some v->Value.okWide Try.prog W .any base t v:=hval0
 have hW':=hW
 obtain ⟨p,q,hA0,hV,rfl,hfz,hnd⟩:=hW
 have hA:DataW.TrodAll enc Try.prog W 0 (λ_=>true) true Try.f8.params.toList args.toList ds p:=hA0
 have hsz:(DataW.weightsEach Try.prog (Try.f8.params.toList++Rows.stableSafeSpec.plain.varTypes Try.prog) (ds++gs)).all (·<=reachBytes)=true:=hsz0
 rw [Try.params8] at hA hval hsz
 obtain ⟨v0,vs0,d0,ds0,p0,q0,hargs,rfl,rfl,h0,r0⟩:=trodAll_cons hA
 obtain ⟨rfl,rfl,rfl⟩:=trodAll_nil r0
 obtain rfl:args=#[v0]:=by cases args;simp_all
 obtain ⟨rfl,rfl⟩:=trodVars_none hV
 obtain ⟨A0,len0,c0,rfl⟩:=okWide_slice Try.underlying53 (hval 0 53 v0 rfl rfl)
 have k0:=h0
 have lt0:∀ x ∈ p0,x.block<W.heap.size:=by obtain ⟨m,hm⟩:=k0;exact DataW.trod_lt m _ _ _ hm
 obtain ⟨l0,rfl,hl0,hr0,hg0⟩:=opens_row (opens_slice (d:=kT) (q:=0) Try.underlying53 (by kernel_rfl) (B:=32) (by kernel_rfl) (opens_struct (d:=kT) Try.underlying57 (by kernel_rfl) (opensAt_cons (by decide) (by kernel_rfl) (by rfl) (by decide) (opens_int Try.underlying3) (opensAt_cons (by decide) (by kernel_rfl) (by rfl) (by decide) (opens_int Try.underlying3) (opensAt_cons (by decide) (by kernel_rfl) (by rfl) (by decide) (opens_int Try.underlying3) (opensAt_last (by decide) (by kernel_rfl) (opens_bool Try.underlying4))))))) h0 (λn hn=>by simpa using List.all_eq_true.1 hsz _ (DataW.weights_mem_each (j:=0) (t:=53) rfl rfl n hn))
 clear hA0 hval0 hsz0 hsz
 refine(PStab.safe_calls A0 c0 l0 W hr0 hl0).mono λe W' ⟨he,bel⟩=>?_
 subst he
 exact ⟨_,rfl,_,_,_,[],_,[],hW',trodAll_mk1 (shut_bool Try.underlying4 _),(trodAll_cons_mk (Below.trod laidOut (by kernel_rfl) (of_decide_eq_true (by kernel_rfl)) k0 bel lt0) trodAll_mk0),rfl,bel.frame _,λh=>by cases h⟩
theorem over:Rows.stableSafeRow.holds Try.pinned (OpenSpec.ofChange Rows.stableSafeSpec) :=
 OpenClaim.holds_of_wide 8 Try.f8 rfl rfl rfl rfl rfl rfl rfl ⟨rfl,rfl,rfl,rfl,rfl⟩ rfl rfl rfl rfl rfl (by kernel_rfl) Try.func8 (by kernel_rfl)
  (of_decide_eq_true (by kernel_rfl)) (by unfold Func.isWrapper;first|(rw [if_pos (by decide +kernel)];kernel_rfl)|(rw [if_neg (by decide +kernel)];exact ⟨rfl,rfl⟩))
  (λos started H enc _=>lifted os started H enc)
theorem proved:Rows.StableSafeSaid:=over
end Go.Proofs.Ytjpjdipdhakjnaa.stableSafe
namespace Go.Proofs.Ytjpjdipdhakjnaa
theorem stableSafe_holds:Rows.StableSafeSaid:=stableSafe.proved
end Go.Proofs.Ytjpjdipdhakjnaa
