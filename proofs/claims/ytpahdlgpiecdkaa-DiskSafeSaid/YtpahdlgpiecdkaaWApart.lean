/- a part -/
import Derived.Test.YtpahdlgpiecdkaaWWords
import Derived.Test.YtpahdlgpiecdkaaWLast
namespace Go.Proofs.YtpahdlgpiecdkaaW.PrintWords
open Go.RowKit
namespace Kd
def tag {α:Type} (f:Nat->Nat) (d:Kd α):Kd (α×Nat) where
 sz:=d.sz
 E:=d.E
 K:=λw x cs=>d.K w x.1 cs
 M:=λw base ok x cs=>d.M w base (λk=>ok k/\f k=x.2) x.1 cs
 K_len:=λh=>d.K_len h
 K_one:=λh=>d.K_one h
 K_below:=λhb h=>d.K_below hb h
 K_of_M:=λh=>d.K_of_M h
 M_mono:=λhok h=>d.M_mono (λk hk=>⟨hok k hk.1,hk.2⟩) h
 M_bound:=λh=>d.M_mono (λ_ hk=>⟨⟨hk.1.1,hk.2⟩,hk.1.2⟩) (d.M_bound h)
 M_move:=λhm h=>d.M_move (λk hk=>hm k hk.1) h
 M_lower:=λhb h=>d.M_lower hb h
def raw (sz:Nat):Kd (List Value) where
 sz:=sz
 E:=[]
 K:=λ_ x cs=>cs=x/\cs.length=sz/\∀ u ∈ cs,u.oneCell'=true
 M:=λ_ _ _ x cs=>cs=x/\cs.length=sz/\∀ u ∈ cs,u.oneCell'=true
 K_len:=λh=>h.2.1
 K_one:=λh=>h.2.2
 K_below:=λ_ h=>h
 K_of_M:=λh=>h
 M_mono:=λ_ h=>h
 M_bound:=λh=>h
 M_move:=λ_ h=>h
 M_lower:=λ_ h=>h
def S {α:Type} (d:Kd α) (e:Nat) (w:World) (base:Nat) (ok:Nat->Prop) (v:Value) (xs:List α):Prop:=∃ f,(tag f d).R e w base ok v xs.zipIdx
section
variable {α β : Type} {d : Kd α} {d' : Kd β} {e e' : Nat} {w w1 W : World} {base b : Nat} {ok ok' okv oku : Nat -> Prop} {u v : Value} {xs : List α} {ys : List β}
theorem R_tight (hE:d.E=[]) (h:d.R e w base ok v xs):d.R e w base (λk=>some k=v.ownBlock) v xs:=by
 obtain ⟨h0,inner,ho,hr⟩:=h
 refine ⟨λk hk=>hk.symm,inner,ho,hr.imp_ (λp c hp=>d.M_mono (λk hk=>?_) (d.M_bound hp))⟩
 obtain ⟨_,_,_,q,hq,_⟩:=hk
 rw [hE] at hq
 cases hq
theorem S_nil (d:Kd α) (e:Nat) (w:World) (base:Nat) (ok:Nat->Prop):S d e w base ok (.slice none 0 0) []:=⟨λ_=>0,R_nil _ _ _ _ _⟩
end
def gap {α:Type} (f:Nat->Nat) (d:Kd α) (i:Nat) (c:List Value):Kd (α×Nat) where
 sz:=d.sz
 E:=d.E
 K:=λw x cs=>(x.2=i->cs=c/\cs.length=d.sz/\∀ u ∈ cs,u.oneCell'=true)/\(x.2≠i->d.K w x.1 cs)
 M:=λw base ok x cs=>(x.2=i->cs=c/\cs.length=d.sz/\∀ u ∈ cs,u.oneCell'=true)/\(x.2≠i->d.M w base (λk=>ok k/\f k=x.2) x.1 cs)
 K_len:=λ{w x cs} h=>by
  by_cases hx:x.2=i
  ·exact(h.1 hx).2.1
  ·exact d.K_len (h.2 hx)
 K_one:=λ{w x cs} h=>by
  by_cases hx:x.2=i
  ·exact(h.1 hx).2.2
  ·exact d.K_one (h.2 hx)
 K_below:=λhb h=>⟨h.1,λhx=>d.K_below hb (h.2 hx)⟩
 K_of_M:=λh=>⟨h.1,λhx=>d.K_of_M (h.2 hx)⟩
 M_mono:=λhok h=>⟨h.1,λhx=>d.M_mono (λk hk=>⟨hok k hk.1,hk.2⟩) (h.2 hx)⟩
 M_bound:=λh=>⟨h.1,λhx=>d.M_mono (λ_ hk=>⟨⟨hk.1.1,hk.2⟩,hk.1.2⟩) (d.M_bound (h.2 hx))⟩
 M_move:=λhm h=>⟨h.1,λhx=>d.M_move (λk hk=>hm k hk.1) (h.2 hx)⟩
 M_lower:=λhb h=>⟨h.1,λhx=>d.M_lower hb (h.2 hx)⟩
def H {α:Type} (d:Kd α) (e:Nat) (w:World) (base:Nat) (ok:Nat->Prop) (v:Value) (xs:List α) (i:Int) (oki:Nat->Prop) (c:List Value):Prop :=
 (∀ k,oki k->ok k)/\∃ f,(gap f d i.toNat c).R e w base (λk=>ok k/\¬ oki k) v xs.zipIdx
end Kd
end Go.Proofs.YtpahdlgpiecdkaaW.PrintWords
