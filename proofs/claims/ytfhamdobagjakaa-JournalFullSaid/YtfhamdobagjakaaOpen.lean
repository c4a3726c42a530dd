/- a part -/
import Derived.Test.YtfhamdobagjakaaWWords
import Derived.Deep.Slices
import Derived.WideShapes
import Derived.SizedLaws
namespace Go.Proofs.Ytfhamdobagjakaa.Open
open Go.RowKit Go.ChangeShapes Go.WideShapes Go.Deep Go.Proofs.YtfhamdobagjakaaW.PrintWords
set_option linter.unusedVariables false
set_option linter.unusedSimpArgs false
section
variable {H : Type} {enc : TypeId × Value -> H} {P : Program} {w : World} {t e : TypeId}
def Opens {α:Type} (enc:TypeId×Value->H) (P:Program) (w:World) (t:TypeId) (d:Kd α) (good:α->Prop):Prop :=
 ∀ (fuel:Nat) (cs:List Value) (x:DataW H×List MemPlace),DataW.trod enc P w 0 (λ_=>true) true fuel t cs=some x->(∀ n ∈ x.1.weights P t,n<=reachBytes)->∃ y:α,d.K w y cs/\good y
theorem weights_all {e:TypeId}:∀ {ds:List (DataW H)} {d:DataW H},d ∈ ds->∀ n ∈ d.weights P e,n ∈ DataW.weightsAll P e ds
 | [],d,h,_,_=>by cases h
 | d0 :: ds,d,h,n,hn=>by
  simp only [DataW.weightsAll,List.mem_append]
  rcases List.mem_cons.1 h with rfl|h
  ·exact .inl hn
  ·exact .inr (weights_all h n hn)
theorem opens_int {k:IntKind} (ht:P.underlying t=some (.int k)):Opens enc P w t (Kd.int k) (λn=>(Lit.int k n).wf=true):=by
 intro fuel cs x h hz
 obtain ⟨n,rfl,_,hw⟩:=DataW.trod_int ht h
 exact ⟨n,rfl,hw⟩
theorem opens_slice {α:Type} {d:Kd α} {q:Nat} {good:α->Prop} (ht:P.underlying t=some (.slice e)) (hs:P.cellsOf e=d.sz) {B:Nat} (hB:P.bytesOf e=B) (he:Opens enc P w e d good):Opens enc P w t (Kd.slice q d) (λxs=>xs.length*B<=140737488351232/\∀ y ∈ xs,good y):=by
 intro fuel cs x h hz
 rcases open_slice ht h with ⟨rfl,_⟩|⟨a,len,cap,m,n,D,Pl,rfl,_,hl,hm,hmm,hxx,hx⟩
 ·refine ⟨[],⟨none,0,rfl,Nat.le_refl _,rfl,by simp,λh=>?_⟩,by simp,by simp⟩
  simp at h
 ·simp only [if_true] at hmm
  subst hxx
  simp only [DataW.weights,ht,List.mem_cons,List.mem_append,List.length_map,List.length_range] at hz
  have hz0:=hz _ (.inl rfl)
  rw [hB] at hz0
  have hzB:len*B<=140737488351232:=Nat.le_trans (Nat.mul_le_mul_right _ (Nat.le_add_right _ _)) hz0
  have each:∀ i,i<len->∃ y:α,(∃ cs',w.cells? 0 (a.add (i*P.cellsOf e)) (P.cellsOf e)=some cs'/\d.K w y cs')/\good y:=by
   intro i hi
   obtain ⟨cs',h1,h2⟩:=hx i (by omega)
   obtain ⟨y,k1,k2⟩:=he n cs' _ h2 (λn hn=>hz n (.inr (.inl (weights_all (List.mem_map.2 ⟨i,List.mem_range.2 hi,rfl⟩) n hn))))
   exact ⟨y,⟨cs',h1,k1⟩,k2⟩
  have all:∀ n,n<=len->∃ ys:List α,ys.length=n/\∀ i y,ys[i]? = some y->(∃ cs',w.cells? 0 (a.add (i*P.cellsOf e)) (P.cellsOf e)=some cs'/\d.K w y cs')/\good y:=by
   intro n
   induction n with
   | zero=>exact λ_=>⟨[],rfl,λi y h=>by simp at h⟩
   | succ n ih =>
    intro hn
    obtain ⟨ys,h1,h2⟩:=ih (by omega)
    obtain ⟨y,hy⟩:=each n (by omega)
    refine ⟨ys++[y],by simp [h1],λi z hz=>?_⟩
    by_cases hi:i<ys.length
    ·rw [List.getElem?_append_left hi] at hz
     exact h2 i z hz
    ·rw [List.getElem?_append_right (by omega)] at hz
     by_cases hi0:i - ys.length=0
     ·rw [hi0] at hz
      simp only [List.getElem?_cons_zero,Option.some.injEq] at hz
      subst hz
      rw [show i=n by omega]
      exact hy
     ·obtain ⟨j,hj⟩:∃ j,i - ys.length=j+1:=⟨i - ys.length - 1,by omega⟩
      rw [hj] at hz
      simp at hz
  obtain ⟨ys,h1,h2⟩:=all len (Nat.le_refl _)
  subst h1
  refine ⟨ys,⟨some a,cap,rfl,hl,rfl,?_,λ_=>⟨a,rfl,λj p hj=>?_⟩⟩,hzB,λy hy=>?_⟩
  ·have:maxLen<=9223372036854775807:=by decide
   omega
  ·obtain ⟨⟨cs',c1,c2⟩,_⟩:=h2 j p hj
   obtain ⟨_,l1,l2⟩:=World.cells?_some c1
   refine ⟨cs',by rw [l1,hs],c2,λi u hu=>?_⟩
   have hi:i<P.cellsOf e:=by
    rw [<-l1]
    by_cases hi:i<cs'.length
    ·exact hi
    ·rw [List.getElem?_eq_none (by omega)] at hu
     cases hu
   rw [<-Go.Deep.add_add,<-hs,l2 i hi,hu]
  ·obtain ⟨i,hi⟩:=List.mem_iff_getElem?.1 hy
   exact(h2 i y hi).2
theorem opens_row {α:Type} {d:Kd α} {q:Nat} {good:List α->Prop} {A:Option Addr} {len cap:Nat} {x:DataW H} {p:List MemPlace} (ho:Opens enc P w t (Kd.slice q d) good) (h:DataW.Trod enc P w 0 (λ_=>true) true t (.slice A len cap) x p) (hz:∀ n ∈ x.weights P t,n<=reachBytes):∃ xs:List α,len=xs.length/\xs.length<=cap/\d.C w A xs.length xs/\good xs:=by
 obtain ⟨fuel,hf⟩:=h
 obtain ⟨xs,⟨A',c',e1,hl,hr⟩,hg⟩:=ho fuel _ _ hf hz
 have e2:(Value.slice A len cap).cells.toList=[Value.slice A len cap]:=rfl
 rw [e2] at e1
 simp only [List.cons.injEq,and_true,Value.slice.injEq] at e1
 obtain ⟨rfl,rfl,rfl⟩:=e1
 exact ⟨xs,rfl,hl,hr,hg⟩
def OpensAt {α:Type} (enc:TypeId×Value->H) (P:Program) (w:World) (fs:List Field) (o:Nat) (d:Kd α) (good:α->Prop):Prop :=
 ∀ (n:Nat) (cs:List Value) (xs:List (DataW H×List MemPlace)),xs.length=fs.length->cs.length=d.sz ->
  (∀ (j:Nat) (f:Field),fs[j]? = some f->o<=f.offset/\DataW.trod enc P w 0 (λ_=>true) true n f.type ((cs.drop (f.offset - o)).take (P.cellsOf f.type))=xs[j]?) ->
  (∀ m ∈ DataW.weightsEach P (fs.map (·.type)) (xs.map (·.1)),m<=reachBytes)->∃ y:α,d.K w y cs/\good y
theorem opensAt_last {α:Type} {d:Kd α} {good:α->Prop} {f:Field} {o:Nat} (ho:f.offset=o) (hs:P.cellsOf f.type=d.sz) (he:Opens enc P w f.type d good):OpensAt enc P w [f] o d good:=by
 intro n cs xs hl hc h hz
 match xs,hl with
 | [x],_ =>
  have h0:=(h 0 f rfl).2
  rw [ho,Nat.sub_self,List.drop_zero,hs,<-hc,List.take_length] at h0
  refine he n cs x (by simpa using h0) (λm hm=>hz m ?_)
  simp only [List.map_cons,List.map_nil,DataW.weightsEach,List.mem_append]
  exact .inl hm
theorem opensAt_cons {α β:Type} {d:Kd α} {e':Kd β} {good:α->Prop} {good':β->Prop} {f:Field} {fs:List Field} {o o':Nat} (ho:f.offset=o) (hs:P.cellsOf f.type=d.sz) (ho':o'=o+d.sz) (hfs:∀ g ∈ fs,o'<=g.offset) (he:Opens enc P w f.type d good) (hr:OpensAt enc P w fs o' e' good') :
  OpensAt enc P w (f :: fs) o (Kd.pair d e') (λy=>good y.1/\good' y.2):=by
 intro n cs xs hl hc h hz
 subst ho'
 match xs,hl with
 | x :: xs,hl =>
  have hc:cs.length=d.sz+e'.sz:=hc
  have h0:=(h 0 f rfl).2
  rw [ho,Nat.sub_self,List.drop_zero,hs] at h0
  simp only [List.map_cons,DataW.weightsEach,List.mem_append] at hz
  obtain ⟨y,hy,gy⟩:=he n (cs.take d.sz) x (by simpa using h0) (λm hm=>hz m (.inl hm))
  obtain ⟨z,hzz,gz⟩:=hr n (cs.drop d.sz) xs (by simpa using hl) (by rw [List.length_drop];omega) (λj g hj=>by
   have hg:=hfs g (List.mem_of_getElem? hj)
   refine ⟨hg,?_⟩
   have h1:=(h (j+1) g (by simpa using hj)).2
   rw [List.drop_drop,show d.sz+(g.offset - (o+d.sz))=g.offset - o by omega]
   simpa using h1) (λm hm=>hz m (.inr hm))
  exact ⟨(y,z),⟨cs.take d.sz,cs.drop d.sz,(List.take_append_drop _ _).symm,hy,hzz⟩,gy,gz⟩
theorem opens_struct {α:Type} {d:Kd α} {good:α->Prop} {fs:Array Field} (ht:P.underlying t=some (.struct fs)) (hs:P.cellsOf t=d.sz) (h:OpensAt enc P w fs.toList 0 d good):Opens enc P w t d good:=by
 intro fuel cs x hx hz
 obtain ⟨xs,n,_,rfl,hl,hlen,hf⟩:=DataW.trod_struct ht hx
 refine h n cs xs (by simpa using hlen) (by rw [hl,hs]) (λj f hj=>⟨Nat.zero_le _,?_⟩) (λm hm=>hz m ?_)
 ·have hj':fs[j]? = some f:=by simpa using hj
  exact hf j f hj'
 ·simp only [DataW.weights,ht]
  simpa using hm
theorem opens_iso {α β:Type} {d:Kd α} {good:α->Prop} {f:β->α} (g:α->β) (hg:∀ x,f (g x)=x) (h:Opens enc P w t d good):Opens enc P w t (Kd.iso d f) (λy=>good (f y)):=by
 intro fuel cs x hx hz
 obtain ⟨y,hy,gy⟩:=h fuel cs x hx hz
 refine ⟨g y,?_,by show good (f (g y));rw [hg];exact gy⟩
 show d.K w (f (g y)) cs
 rw [hg]
 exact hy
end
end Go.Proofs.Ytfhamdobagjakaa.Open
