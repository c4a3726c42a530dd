/- a part -/
import Derived.Test.YtgocnchjpecafaaSortWords
namespace Go.Proofs.Ytgocnchjpecafaa.Srt
open Go.Sort
set_option linter.unusedVariables false
set_option linter.unusedSimpArgs false
set_option linter.unusedSectionVars false
section
variable {α : Type} [Inhabited α] {lt : α → α → Bool} {d c : Array α} {bs q n a : Nat}
def Blocks (lt:α→α→Bool) (bs n:Nat) (d:Array α):Prop:=∀ p,SortedIn lt (p*bs) (min ((p+1)*bs) n) d
def Half (lt:α→α→Bool) (bs q n:Nat) (d:Array α):Prop :=
 (∀ p,p<q→SortedIn lt (p*(2*bs)) (min ((p+1)*(2*bs)) n) d)∧(∀ p,2*q≤p→SortedIn lt (p*bs) (min ((p+1)*bs) n) d)
theorem SortedIn.empty {x y:Nat} (h:y≤x):SortedIn lt x y d:=fun i j hi hij hj=>by omega
theorem Half.start (h:Blocks lt bs n d):Half lt bs 0 n d:=⟨fun p hp=>by omega,fun p _=>h p⟩
theorem Half.runs (h:Half lt bs q n d) (ha:a=q*(2*bs)):SortedIn lt a (min (a+bs) n) d∧SortedIn lt (a+bs) (min (a+2*bs) n) d:=by
 have e1:2*q*bs=a:=by rw [ha,Nat.mul_comm 2 q,Nat.mul_assoc]
 have e2:(2*q+1)*bs=a+bs:=by rw [Nat.add_mul,e1,Nat.one_mul]
 have e3:(2*q+1+1)*bs=a+2*bs:=by rw [Nat.add_mul,e2];omega
 have h1:=h.2 (2*q) (Nat.le_refl _)
 have h2:=h.2 (2*q+1) (by omega)
 rw [e1,e2] at h1
 rw [e2,e3] at h2
 exact ⟨h1,h2⟩
theorem Half.next (h:Half lt bs q n d) (ha:a=q*(2*bs)) (hout:∀ t,t<a∨min (a+2*bs) n≤t→c[t]! = d[t]!) (hs:SortedIn lt a (min (a+2*bs) n) c):Half lt bs (q+1) n c:=by
 refine ⟨fun p hp=>?_,fun p hp=>?_⟩
 ·by_cases hpq:p=q
  ·subst hpq
   rw [Nat.add_mul,←ha,Nat.one_mul]
   exact hs
  ·have hle:(p+1)*(2*bs)≤q*(2*bs):=Nat.mul_le_mul_right _ (by omega)
   exact SortedIn.same (h.1 p (by omega)) fun t t1 t2=>hout t (by omega)
 ·have hle:(2*(q+1))*bs≤p*bs:=Nat.mul_le_mul_right _ hp
  have e:(2*(q+1))*bs=a+2*bs:=by rw [Nat.mul_add,Nat.add_mul,ha,Nat.mul_comm 2 q,Nat.mul_assoc]
  exact SortedIn.same (h.2 p (by omega)) fun t t1 t2=>hout t (by omega)
theorem Half.stop (h:Half lt bs q n d) (ha:n≤q*(2*bs)):Blocks lt (2*bs) n d:=fun p=>by
 by_cases hp:p<q
 ·exact h.1 p hp
 ·have hle:q*(2*bs)≤p*(2*bs):=Nat.mul_le_mul_right _ (by omega)
  exact SortedIn.empty (by omega)
theorem Half.skip (h:Half lt bs q n d) (ha:a=q*(2*bs)) (hn:n≤a+bs):Half lt bs (q+1) n d:=by
 refine h.next ha (fun _ _=>rfl) ?_
 have h1:=(h.runs ha).1
 rw [Nat.min_eq_right (by omega)] at h1 ⊢
 exact h1
def First (lt:α→α→Bool) (bs q n:Nat) (d:Array α):Prop:=∀ p,p<q→SortedIn lt (p*bs) (min ((p+1)*bs) n) d
theorem First.next (h:First lt bs q n d) (ha:a=q*bs) (hout:∀ t,t<a∨min (a+bs) n≤t→c[t]! = d[t]!) (hs:SortedIn lt a (min (a+bs) n) c):First lt bs (q+1) n c:=fun p hp=>by
 by_cases hpq:p=q
 ·subst hpq
  rw [Nat.add_mul,←ha,Nat.one_mul]
  exact hs
 ·have hle:(p+1)*bs≤q*bs:=Nat.mul_le_mul_right _ (by omega)
  exact SortedIn.same (h p (by omega)) fun t t1 t2=>hout t (by omega)
theorem First.stop (h:First lt bs q n d) (hn:n≤q*bs):Blocks lt bs n d:=fun p=>by
 by_cases hp:p<q
 ·exact h p hp
 ·have hle:q*bs≤p*bs:=Nat.mul_le_mul_right _ (by omega)
  exact SortedIn.empty (by omega)
theorem Blocks.one (h:Blocks lt bs n d) (hn:n≤bs):SortedIn lt 0 n d:=by
 have h0:=h 0
 rw [Nat.zero_mul,Nat.zero_add,Nat.one_mul,Nat.min_eq_right hn] at h0
 exact h0
end
end Go.Proofs.Ytgocnchjpecafaa.Srt
