/- CausalFull: for every input the law returns true. -/
import Derived.Test.YtfhamdobagjakaaRows
import Derived.Test.YtfhamdobagjakaaCaFull
import Derived.ProofKit
import Derived.OpenShut
import Derived.ShutString
import Derived.ChangeOld
import Derived.SizedLaws
namespace Go.Proofs.Ytfhamdobagjakaa.causalFull
open Go.Proofs.Ytfhamdobagjakaa.PCa Go.ChangeShapes Go.WideShapes Go.ChangeAt Go.RowKit Go.Proofs.YtfhamdobagjakaaW.PrintWords
set_option linter.unusedVariables false
theorem own:ownKnob Try.prog.godebug=none:=by kernel_rfl
theorem laidOut:laidOutB Try.prog=true:=by kernel_rfl
set_option maxRecDepth 100000 in
theorem lifted (os:Os) (started:os.Started) (H:Type) (enc:TypeId×Value->H) :
  ReturnsInHanded {} Try.checked os 4 .any (Rows.causalFullSpec.pre6 enc Try.prog Try.f4 Rows.causalFullRow.domain false) (Rows.causalFullSpec.post enc Try.prog Try.f4 false true false false):=by
 refine returnsInHanded_of_change_sized (C:=Try.checked) own started (by kernel_rfl) Try.func4
  (ChangeSpec.witness6 (enc:=enc) (C:=Try.checked) false ⟨#[],#[.int .u8 0],[]⟩ 8 (by kernel_rfl) (by kernel_rfl) (by kernel_rfl) (by kernel_rfl)) ?_
 intro W base args ds gs before hval0 hW hcnd hsz0 _
 have hval:∀ (j:Nat) t v,Try.f4.params[j]? = some t->args[j]? = some v->Value.okWide Try.prog W .any base t v:=hval0
 have hW':=hW
 obtain ⟨p,q,hA0,hV,rfl,hfz,hnd⟩:=hW
 have hA:DataW.TrodAll enc Try.prog W 0 (λ_=>true) true Try.f4.params.toList args.toList ds p:=hA0
 have hsz:(DataW.weightsEach Try.prog (Try.f4.params.toList++Rows.causalFullSpec.plain.varTypes Try.prog) (ds++gs)).all (·<=reachBytes)=true:=hsz0
 rw [Try.params4] at hA hval hsz
 obtain ⟨v1,vs1,d1,ds1,p1,q1,hargs,rfl,rfl,h1,r1⟩:=trodAll_cons hA
 obtain ⟨rfl,rfl,rfl⟩:=trodAll_nil r1
 obtain rfl:args=#[v1]:=by cases args;simp_all
 obtain ⟨rfl,rfl⟩:=trodVars_none hV
 obtain ⟨a1,rfl,rfl,rfl,hw1⟩:=open_int Try.underlying5 (hval 0 5 v1 rfl rfl) h1
 clear hA0 hval0 hsz0 hsz
 have b1:0<=a1/\a1<256:=by
  have h_:=hw1
  simp [Lit.wf,IntKind.min,IntKind.max,IntKind.signed,IntKind.bits] at h_
  omega
 refine(Cau.full_calls a1 b1.1 (by omega) W).mono λe W' ⟨he,bel⟩=>?_
 subst he
 exact ⟨_,rfl,_,_,_,[],_,[],hW',trodAll_mk1 (shut_bool Try.underlying4 _),(trodAll_cons_mk (shut_int Try.underlying5 hw1) trodAll_mk0),rfl,bel.frame _,λh=>by cases h⟩
theorem over:Rows.causalFullRow.holds Try.pinned (OpenSpec.ofChange Rows.causalFullSpec) :=
 OpenClaim.holds_of_wide 4 Try.f4 rfl rfl rfl rfl rfl rfl rfl ⟨rfl,rfl,rfl,rfl,rfl⟩ rfl rfl rfl rfl rfl (by kernel_rfl) Try.func4 (by kernel_rfl)
  (of_decide_eq_true (by kernel_rfl)) (by unfold Func.isWrapper;first|(rw [if_pos (by decide +kernel)];kernel_rfl)|(rw [if_neg (by decide +kernel)];exact ⟨rfl,rfl⟩))
  (λos started H enc _=>lifted os started H enc)
theorem proved:Rows.CausalFullSaid:=over
end Go.Proofs.Ytfhamdobagjakaa.causalFull
namespace Go.Proofs.Ytfhamdobagjakaa
theorem causalFull_holds:Rows.CausalFullSaid:=causalFull.proved
end Go.Proofs.Ytfhamdobagjakaa
