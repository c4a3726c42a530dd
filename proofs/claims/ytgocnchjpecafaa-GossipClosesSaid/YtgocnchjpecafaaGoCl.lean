/- a part -/
import Derived.Test.YtgocnchjpecafaaGoLk
import Derived.Test.YtgocnchjpecafaaPEvx37
import Derived.Test.YtgocnchjpecafaaPEvx39
namespace Go.Proofs.Ytgocnchjpecafaa.PEv
open Go.RowKit Go.Proofs.YtgocnchjpecafaaW.PrintWords Go.Proofs.YtgocnchjpecafaaW.PrintLast Go.Proofs.Ytgocnchjpecafaa.ClockBase Go.Proofs.Ytgocnchjpecafaa.Wr Go.Sort Go.Proofs.Ytgocnchjpecafaa.Srt
set_option linter.unusedVariables false
set_option linter.unusedSimpArgs false
theorem lenle:∀ (D E:List (Int×Int)),D.Nodup->(∀ d ∈ D,d ∈ E)->D.length<=E.length
 | [],E,_,_=>Nat.zero_le _
 | a :: D,E,hn,hs=>by
  have ha:=hs a List.mem_cons_self
  have hn':=List.nodup_cons.mp hn
  have ih:=lenle D (E.erase a) hn'.2 (λd hd=>(List.mem_erase_of_ne (λe=>hn'.1 (by rw [<-e];exact hd))).mpr (hs d (List.mem_cons_of_mem _ hd)))
  rw [List.length_erase_of_mem ha] at ih
  have:=List.length_pos_of_mem ha
  rw [List.length_cons]
  omega
theorem ints_le:∀ (g:Nat) (L:List Int),(∀ n:Nat,1<=n->n<=g->(n:Int) ∈ L)->g<=L.length
 | 0,L,_=>Nat.zero_le _
 | g+1,L,h=>by
  have ha:=h (g+1) (by omega) (Nat.le_refl _)
  have ih:=ints_le g (L.erase ((g+1:Nat):Int)) (λn h1 h2=>(List.mem_erase_of_ne (by omega)).mpr (h n h1 (by omega)))
  rw [List.length_erase_of_mem ha] at ih
  have:=List.length_pos_of_mem ha
  omega
def ofRep (E:List S30) (r:Int):List S30:=E.filter λy=>decide (y.f0.f0=r)
theorem five_le:∀ E:List S30,(ofRep E 1).length+(ofRep E 2).length+(ofRep E 3).length+(ofRep E 4).length+(ofRep E 5).length<=E.length
 | []=>Nat.le_refl _
 | y :: E=>by
  have ih:=five_le E
  unfold ofRep at ih ⊢
  simp only [List.filter_cons]
  by_cases h1:y.f0.f0=1
  ·simp [h1];omega
  ·by_cases h2:y.f0.f0=2
   ·simp [h2];omega
   ·by_cases h3:y.f0.f0=3
    ·simp [h3];omega
    ·by_cases h4:y.f0.f0=4
     ·simp [h4];omega
     ·by_cases h5:y.f0.f0=5
      ·simp [h5];omega
      ·simp [h1,h2,h3,h4,h5];omega
def HasD (l:List S30) (r n:Int):Prop:=∃ y ∈ l,y.f0.f0=r/\y.f0.f1=n
theorem rep_le {E:List S30} {r:Int} (g:Nat) (h:∀ n:Nat,1<=n->n<=g->HasD E r (n:Int)):g<=(ofRep E r).length:=by
 have:=ints_le g ((ofRep E r).map λy=>y.f0.f1) (λn h1 h2=>by
  obtain ⟨y,hy,hr,hq⟩:=h n h1 h2
  exact List.mem_map.mpr ⟨y,List.mem_filter.mpr ⟨hy,decide_eq_true hr⟩,hq⟩)
 rw [List.length_map] at this
 exact this
theorem rep_nat {r:Int} (h1:1<=r) (h2:r<=5):∃ i:Nat,r=((i+1:Nat):Int)/\i<5:=⟨(r - 1).toNat,by omega,by omega⟩
theorem within_get (a b:List Int):withinS a b=true↔∀ r,1<=r->r<=5->getS a r<=getS b r:=by
 rw [withinS_iff]
 constructor
 ·intro h r h1 h2
  obtain ⟨i,rfl,hi⟩:=rep_nat h1 h2
  rw [getS_nat a i hi,getS_nat b i hi]
  exact h i hi
 ·intro h i hi
  have:=h ((i+1:Nat):Int) (by omega) (by omega)
  rwa [getS_nat a i hi,getS_nat b i hi] at this
theorem sum_get (a:List Int):sumS a=getS a 1+getS a 2+getS a 3+getS a 4+getS a 5:=by
 rw [sum_eq]
 have e1:=getS_nat a 0 (by omega)
 have e2:=getS_nat a 1 (by omega)
 have e3:=getS_nat a 2 (by omega)
 have e4:=getS_nat a 3 (by omega)
 have e5:=getS_nat a 4 (by omega)
 rw [show getS a 1=_ from e1,show getS a 2=_ from e2,show getS a 3=_ from e3,show getS a 4=_ from e4,show getS a 5=_ from e5]
theorem getS_set {c:List Int} {rep n r:Int} (hr1:1<=rep) (hr2:rep<=5) (hn0:0<=n) (hn1:n<=1048576) (h1:1<=r) (h2:r<=5):getS (setS c rep n) r=if r=rep then n else getS c r:=by
 obtain ⟨j,rfl,hj⟩:=rep_nat hr1 hr2
 obtain ⟨i,rfl,hi⟩:=rep_nat h1 h2
 have e:(((j+1:Nat):Int) - 1).toNat=j:=by omega
 unfold setS
 rw [getS_nat _ i hi,e,good_trim (good_set (good_of c) j hn0 hn1),getS_nat c i hi]
 have hl:(ofL c).length=5:=ofL_length c
 by_cases h:i=j
 ·subst h
  rw [if_pos rfl,List.getD_eq_getElem?_getD,List.getElem?_set_self (by omega)]
  rfl
 ·rw [if_neg (by omega),List.getD_eq_getElem?_getD,List.getElem?_set_ne (λhh=>h hh.symm),List.getD_eq_getElem?_getD]
theorem getS_none {r:Int} (h1:1<=r) (h2:r<=5):getS [] r=0:=by
 obtain ⟨i,rfl,hi⟩:=rep_nat h1 h2
 rw [getS_nat _ i hi]
 have e:ofL []=[0,0,0,0,0]:=by decide
 rw [e]
 rcases (by omega:i=0\/i=1\/i=2\/i=3\/i=4) with rfl|rfl|rfl|rfl|rfl<;>rfl
def dotOf (x:S30):Int×Int:=(x.f0.f0,x.f0.f1)
theorem hasD_dot {l:List S30} {r n:Int}:HasD l r n↔(r,n) ∈ l.map dotOf:=by
 unfold HasD dotOf
 rw [List.mem_map]
 constructor
 ·rintro ⟨y,hy,rfl,rfl⟩;exact ⟨y,hy,rfl⟩
 ·rintro ⟨y,hy,e⟩;injection e with e1 e2;exact ⟨y,hy,e1,e2⟩
structure ClosedP (l:List S30):Prop where
 ok:∀ x ∈ l,OkE x
 nd:(l.map dotOf).Nodup
 sum:∀ x ∈ l,sumS x.f1<l.length
 dn:∀ x ∈ l,∀ r n,1<=r->r<=5->1<=n->n<=getS x.f1 r->HasD l r n
structure WholeP (l:List S30):Prop extends ClosedP l where
 wh:∀ a ∈ l,∀ b ∈ l,a.f0.f1<=getS b.f1 a.f0.f0->withinS a.f1 b.f1=true
theorem ok_dot {x:S30} (h:OkE x):1<=x.f0.f0/\x.f0.f0<=5/\1<=x.f0.f1/\x.f0.f1<=1048576/\getS x.f1 x.f0.f0=x.f0.f1 - 1:=⟨h.1,h.2.1,h.2.2.1,h.2.2.2.1,h.2.2.2.2.2.2.1⟩
theorem sum_lt {E:List S30} {x:S30} (hx:x ∈ E) (hk:OkE x) (h:∀ r n,1<=r->r<=5->1<=n->n<=getS x.f1 r->HasD E r n):sumS x.f1<E.length:=by
 obtain ⟨o1,o2,o3,o4,o5⟩:=ok_dot hk
 have key:∀ r,1<=r->r<=5->getS x.f1 r+(if r=x.f0.f0 then 1 else 0)<=((ofRep E r).length:Int):=by
  intro r h1 h2
  have hg:=getS_in x.f1 h1 h2
  by_cases e:r=x.f0.f0
  ·rw [if_pos e]
   have:=rep_le (E:=E) (r:=r) ((getS x.f1 r).toNat+1) (λn n1 n2=>by
    by_cases hn:(n:Int)<=getS x.f1 r
    ·exact h r n h1 h2 (by omega) hn
    ·refine ⟨x,hx,e.symm,?_⟩
     rw [e] at hn n2
     omega)
   omega
  ·rw [if_neg e]
   have:=rep_le (E:=E) (r:=r) (getS x.f1 r).toNat (λn n1 n2=>h r n h1 h2 (by omega) (by omega))
   omega
 have k1:=key 1 (by omega) (by omega)
 have k2:=key 2 (by omega) (by omega)
 have k3:=key 3 (by omega) (by omega)
 have k4:=key 4 (by omega) (by omega)
 have k5:=key 5 (by omega) (by omega)
 have h5:=five_le E
 rw [sum_get]
 split at k1<;>split at k2<;>split at k3<;>split at k4<;>split at k5<;>omega
theorem sum_ahead {a b:S30} (ha:OkE a) (h:a.f0.f1<=getS b.f1 a.f0.f0) (hw:withinS a.f1 b.f1=true):sumS a.f1<sumS b.f1:=by
 obtain ⟨o1,o2,o3,o4,o5⟩:=ok_dot ha
 have w:=(within_get _ _).mp hw
 have w1:=w 1 (by omega) (by omega)
 have w2:=w 2 (by omega) (by omega)
 have w3:=w 3 (by omega) (by omega)
 have w4:=w 4 (by omega) (by omega)
 have w5:=w 5 (by omega) (by omega)
 rw [sum_get,sum_get]
 rcases (by omega:a.f0.f0=1\/a.f0.f0=2\/a.f0.f0=3\/a.f0.f0=4\/a.f0.f0=5) with e|e|e|e|e<;>rw [e] at h o5<;>omega
def seenOf (out:List S30):List Int:=out.foldl (λc x=>setS c x.f0.f0 x.f0.f1) []
theorem seenOf_snoc (out:List S30) (x:S30):seenOf (out++[x])=setS (seenOf out) x.f0.f0 x.f0.f1:=by unfold seenOf;rw [List.foldl_append];rfl
structure Inv (l out:List S30):Prop where
 sub:∀ x ∈ out,x ∈ l
 nd:(out.map dotOf).Nodup
 low:∀ r n,1<=r->r<=5->1<=n->(n<=getS (seenOf out) r↔HasD out r n)
 past:∀ x ∈ out,withinS x.f1 (seenOf out)=true
theorem inv_nil (l:List S30):Inv l []:=by
 refine ⟨λx hx=>(by cases hx),List.nodup_nil,λr n h1 h2 h3=>?_,λx hx=>(by cases hx)⟩
 have:getS (seenOf []) r=0:=getS_none h1 h2
 rw [this]
 exact ⟨λh=>by omega,λ⟨y,hy,_⟩=>by cases hy⟩
theorem inv_snoc {l out:List S30} (hw:WholeP l) (h:Inv l out) {x:S30} (hx:x ∈ l) (h1:getS (seenOf out) x.f0.f0<x.f0.f1) (h2:withinS x.f1 (seenOf out)=true):Inv l (out++[x]):=by
 obtain ⟨o1,o2,o3,o4,o5⟩:=ok_dot (hw.ok x hx)
 have w:=(within_get _ _).mp h2
 have wr:=w _ o1 o2
 have hg:∀ r,1<=r->r<=5->getS (seenOf (out++[x])) r=if r=x.f0.f0 then x.f0.f1 else getS (seenOf out) r:=λr r1 r2=>by
  rw [seenOf_snoc];exact getS_set o1 o2 (by omega) o4 r1 r2
 have up:∀ r,1<=r->r<=5->getS (seenOf out) r<=getS (seenOf (out++[x])) r:=λr r1 r2=>by
  rw [hg r r1 r2]
  split
  ·rename_i e;rw [e];omega
  ·exact Int.le_refl _
 have hno:¬ HasD out x.f0.f0 x.f0.f1:=λhh=>by
  have:=(h.low _ _ o1 o2 o3).mpr hh
  omega
 refine ⟨λy hy=>?_,?_,λr n r1 r2 n1=>?_,λy hy=>?_⟩
 ·rcases List.mem_append.mp hy with hy|hy
  ·exact h.sub y hy
  ·rw [List.mem_singleton.mp hy];exact hx
 ·rw [List.map_append,List.nodup_append]
  refine ⟨h.nd,by simp,λa ha b hb e=>?_⟩
  rw [List.map_cons,List.map_nil,List.mem_singleton] at hb
  subst hb
  exact hno (hasD_dot.mpr (by have e':a=(x.f0.f0,x.f0.f1):=e;rw [<-e'];exact ha))
 ·rw [hg r r1 r2]
  have hsn:HasD (out++[x]) r n↔HasD out r n\/(x.f0.f0=r/\x.f0.f1=n):=by
   unfold HasD
   constructor
   ·rintro ⟨y,hy,e⟩
    rcases List.mem_append.mp hy with hy|hy
    ·exact .inl ⟨y,hy,e⟩
    ·rw [List.mem_singleton.mp hy] at e;exact .inr e
   ·rintro(⟨y,hy,e⟩|e)
    ·exact ⟨y,List.mem_append_left _ hy,e⟩
    ·exact ⟨x,List.mem_append_right _ (List.mem_singleton.mpr rfl),e⟩
  rw [hsn,<-h.low r n r1 r2 n1]
  split
  ·rename_i e
   subst e
   omega
  ·omega
 ·refine(within_get _ _).mpr λr r1 r2=>Int.le_trans ?_ (up r r1 r2)
  rcases List.mem_append.mp hy with hy|hy
  ·exact(within_get _ _).mp (h.past y hy) r r1 r2
  ·rw [List.mem_singleton.mp hy];exact w r r1 r2
theorem prog {l out:List S30} (hw:WholeP l) (h:Inv l out) (hlt:out.length<l.length):∃ x ∈ l,getS (seenOf out) x.f0.f0<x.f0.f1/\withinS x.f1 (seenOf out)=true:=by
 have step:∀ (m:Nat) (x:S30),x ∈ l->sumS x.f1<=(m:Int)->getS (seenOf out) x.f0.f0<x.f0.f1->∃ x ∈ l,getS (seenOf out) x.f0.f0<x.f0.f1/\withinS x.f1 (seenOf out)=true:=by
  intro m
  induction m with
  | zero =>
   intro x hx hs hr
   refine ⟨x,hx,hr,(within_get _ _).mpr λr r1 r2=>?_⟩
   rw [sum_get] at hs
   have g:=λr r1 r2=>getS_in x.f1 (a:=r) r1 r2
   have g1:=g 1 (by omega) (by omega)
   have g2:=g 2 (by omega) (by omega)
   have g3:=g 3 (by omega) (by omega)
   have g4:=g 4 (by omega) (by omega)
   have g5:=g 5 (by omega) (by omega)
   have s:=getS_in (seenOf out) r1 r2
   have:getS x.f1 r=0:=by
    rcases (by omega:r=1\/r=2\/r=3\/r=4\/r=5) with e|e|e|e|e<;>rw [e]<;>omega
   omega
  | succ m ih =>
   intro x hx hs hr
   by_cases hwi:withinS x.f1 (seenOf out)=true
   ·exact ⟨x,hx,hr,hwi⟩
   ·have:∃ r,1<=r/\r<=5/\getS (seenOf out) r<getS x.f1 r:=by
     refine Classical.byContradiction λhno=>hwi ((within_get _ _).mpr λr r1 r2=>?_)
     exact Classical.byContradiction λhh=>hno ⟨r,r1,r2,by omega⟩
    obtain ⟨r,r1,r2,hlt2⟩:=this
    have s:=getS_in (seenOf out) r1 r2
    obtain ⟨y,hy,e1,e2⟩:=hw.dn x hx r (getS x.f1 r) r1 r2 (by omega) (Int.le_refl _)
    have ha:y.f0.f1<=getS x.f1 y.f0.f0:=by rw [e1,e2];exact Int.le_refl _
    have:=sum_ahead (hw.ok y hy) ha (hw.wh y hy x hx ha)
    exact ih y hy (by omega) (by rw [e1,e2];exact hlt2)
 have:∃ x ∈ l,getS (seenOf out) x.f0.f0<x.f0.f1:=by
  refine Classical.byContradiction λhno=>?_
  have:=lenle (l.map dotOf) (out.map dotOf) hw.nd (λd hd=>by
   obtain ⟨x,hx,rfl⟩:=List.mem_map.mp hd
   obtain ⟨o1,o2,o3,o4,o5⟩:=ok_dot (hw.ok x hx)
   refine hasD_dot.mp ((h.low _ _ o1 o2 o3).mp ?_)
   exact Classical.byContradiction λhh=>hno ⟨x,hx,by omega⟩)
  rw [List.length_map,List.length_map] at this
  omega
 obtain ⟨x,hx,hr⟩:=this
 exact step (sumS x.f1).toNat x hx (by omega) hr
theorem lkS_eq (c:List Int) (most:Nat):∀ (l acc:List S30),acc.length<=most->lkS c (most:Int) l acc=acc++(l.filter λx=>decide (OkE x/\getS c x.f0.f0<x.f0.f1)).take (most - acc.length)
 | [],acc,_=>by unfold lkS;simp
 | x :: l,acc,h=>by
  unfold lkS
  by_cases hm:(most:Int)<=(acc.length:Int)
  ·rw [if_pos hm,show most - acc.length=0 by omega,List.take_zero,List.append_nil]
  rw [if_neg hm]
  by_cases hk:OkE x/\getS c x.f0.f0<x.f0.f1
  ·rw [if_pos hk,lkS_eq c most l _ (by rw [List.length_append,List.length_singleton];omega),List.filter_cons,if_pos (decide_eq_true hk),List.length_append,List.length_singleton,List.append_assoc]
   congr 1
   obtain ⟨m,hm2⟩:∃ m,most - acc.length=m+1:=⟨most - acc.length - 1,by omega⟩
   rw [hm2,show most - (acc.length+1)=m by omega]
   rfl
  ·rw [if_neg hk,lkS_eq c most l acc h,List.filter_cons,if_neg (by rw [decide_eq_true_eq];exact hk)]
theorem insL_perm (x:S30):∀ ys:List S30,(insL event_Order.lt x ys).Perm (x :: ys)
 | []=>List.Perm.refl _
 | y :: ys=>by
  unfold insL
  split
  ·exact List.Perm.refl _
  ·exact((insL_perm x ys).cons y).trans (List.Perm.swap x y ys)
theorem ordL_perm (l:List S30):(ordL event_Order.lt l).Perm l:=by
 have:∀ (l acc:List S30),(l.foldl (λacc x=>insL event_Order.lt x acc) acc).Perm (acc++l):=by
  intro l
  induction l with
  | nil=>intro acc;rw [List.append_nil];exact List.Perm.refl _
  | cons x l ih =>
   intro acc
   rw [List.foldl_cons]
   refine(ih _).trans ?_
   refine((insL_perm x acc).append_right l).trans ?_
   exact(List.perm_middle (a:=x) (l₁:=acc) (l₂:=l)).symm
 exact this l []
theorem closes {l part:List S30} (hw:WholeP l) (h:Inv l part) (most:Nat):ClosedP (part++lkS (seenOf part) (most:Int) (ordL event_Order.lt l) [])/\((part++lkS (seenOf part) (most:Int) (ordL event_Order.lt l) []).length=l.length\/(lkS (seenOf part) (most:Int) (ordL event_Order.lt l) []).length=most):=by
 have hL:=lkS_eq (seenOf part) most (ordL event_Order.lt l) [] (Nat.zero_le _)
 rw [List.nil_append,List.length_nil,Nat.sub_zero] at hL
 rw [hL]
 have hp:=ordL_perm l
 have hs:=ordL_sorted event_Order.swo l
 generalize ordL event_Order.lt l=s at hp hs
 have hsm:∀ x,x ∈ s↔x ∈ l:=λx=>hp.mem_iff
 have hsn:(s.map dotOf).Nodup:=(hp.map dotOf).nodup_iff.mpr hw.nd
 have hF:∀ x,x ∈ s.filter (λx=>decide (OkE x/\getS (seenOf part) x.f0.f0<x.f0.f1))↔x ∈ l/\getS (seenOf part) x.f0.f0<x.f0.f1:=λx=>by
  rw [List.mem_filter,decide_eq_true_eq,hsm]
  exact ⟨λhh=>⟨hh.1,hh.2.2⟩,λhh=>⟨hh.1,hw.ok x hh.1,hh.2⟩⟩
 have hFs:=hs.filter (λx=>decide (OkE x/\getS (seenOf part) x.f0.f0<x.f0.f1))
 have hFn:((s.filter (λx=>decide (OkE x/\getS (seenOf part) x.f0.f0<x.f0.f1))).map dotOf).Nodup:=hsn.sublist ((List.filter_sublist).map dotOf)
 generalize s.filter (λx=>decide (OkE x/\getS (seenOf part) x.f0.f0<x.f0.f1))=F at hF hFs hFn
 have hT:∀ x,x ∈ F.take most->x ∈ l/\getS (seenOf part) x.f0.f0<x.f0.f1:=λx hx=>(hF x).mp (List.mem_of_mem_take hx)
 have hok:∀ x ∈ part++F.take most,OkE x:=λx hx=>by
  rcases List.mem_append.mp hx with hx|hx
  ·exact hw.ok x (h.sub x hx)
  ·exact hw.ok x (hT x hx).1
 have left:∀ r n,HasD part r n->HasD (part++F.take most) r n:=λr n ⟨y,hy,e⟩=>⟨y,List.mem_append_left _ hy,e⟩
 have hdn:∀ x ∈ part++F.take most,∀ r n,1<=r->r<=5->1<=n->n<=getS x.f1 r->HasD (part++F.take most) r n:=by
  intro x hx r n r1 r2 n1 n2
  rcases List.mem_append.mp hx with hx|hx
  ·have:=(within_get _ _).mp (h.past x hx) r r1 r2
   exact left r n ((h.low r n r1 r2 n1).mp (by omega))
  ·by_cases hc:n<=getS (seenOf part) r
   ·exact left r n ((h.low r n r1 r2 n1).mp hc)
   ·obtain ⟨y,hy,e1,e2⟩:=hw.dn x (hT x hx).1 r n r1 r2 n1 n2
    have hyF:y ∈ F:=(hF y).mpr ⟨hy,by rw [e1,e2];omega⟩
    have ha:y.f0.f1<=getS x.f1 y.f0.f0:=by rw [e1,e2];exact n2
    have hsl:=sum_ahead (hw.ok y hy) ha (hw.wh y hy x (hT x hx).1 ha)
    have hlt:event_Order.lt y x=true:=(event_Order.lt_iff y x).mpr (.inl hsl)
    obtain ⟨i,hi,ei⟩:=List.mem_iff_getElem.mp hx
    obtain ⟨j,hj,ej⟩:=List.mem_iff_getElem.mp hyF
    rw [List.length_take] at hi
    rw [List.getElem_take] at ei
    have hij:j<i:=by
     rcases Nat.lt_trichotomy j i with h1|h1|h1
     ·exact h1
     ·subst h1
      rw [<-ei,<-ej] at hsl
      omega
     ·have:=List.pairwise_iff_getElem.mp hFs i j (by omega) hj h1
      rw [ei,ej,hlt] at this
      cases this
    refine ⟨y,List.mem_append_right _ (List.mem_iff_getElem.mpr ⟨j,by rw [List.length_take];omega,?_⟩),e1,e2⟩
    rw [List.getElem_take]
    exact ej
 have hnd:((part++F.take most).map dotOf).Nodup:=by
  rw [List.map_append,List.nodup_append]
  refine ⟨h.nd,hFn.sublist ((List.take_sublist _ _).map dotOf),λa ha b hb e=>?_⟩
  subst e
  obtain ⟨x,hx,rfl⟩:=List.mem_map.mp hb
  obtain ⟨o1,o2,o3,o4,o5⟩:=ok_dot (hw.ok x (hT x hx).1)
  have:=(h.low _ _ o1 o2 o3).mpr (hasD_dot.mpr ha)
  have:=(hT x hx).2
  omega
 refine ⟨⟨hok,hnd,λx hx=>sum_lt hx (hok x hx) (hdn x hx),hdn⟩,?_⟩
 by_cases hm:most<=F.length
 ·exact .inr (by rw [List.length_take];omega)
 ·refine .inl ?_
  rw [List.take_of_length_le (by omega)] at hnd ⊢
  have h1:=lenle ((part++F).map dotOf) (l.map dotOf) hnd (λd hd=>by
   obtain ⟨x,hx,rfl⟩:=List.mem_map.mp hd
   rcases List.mem_append.mp hx with hx|hx
   ·exact List.mem_map.mpr ⟨x,h.sub x hx,rfl⟩
   ·exact List.mem_map.mpr ⟨x,((hF x).mp hx).1,rfl⟩)
  have h2:=lenle (l.map dotOf) ((part++F).map dotOf) hw.nd (λd hd=>by
   obtain ⟨x,hx,rfl⟩:=List.mem_map.mp hd
   obtain ⟨o1,o2,o3,o4,o5⟩:=ok_dot (hw.ok x hx)
   rw [List.map_append]
   by_cases hc:x.f0.f1<=getS (seenOf part) x.f0.f0
   ·exact List.mem_append_left _ (hasD_dot.mp ((h.low _ _ o1 o2 o3).mp hc))
   ·exact List.mem_append_right _ (List.mem_map.mpr ⟨x,(hF x).mpr ⟨hx,by omega⟩,rfl⟩))
  rw [List.length_map,List.length_map] at h1 h2
  omega
end Go.Proofs.Ytgocnchjpecafaa.PEv
namespace Go.Proofs.Ytgocnchjpecafaa.PEv
open Go.RowKit Go.Proofs.YtgocnchjpecafaaW.PrintWords Go.Proofs.YtgocnchjpecafaaW.PrintLast Go.Proofs.Ytgocnchjpecafaa.ClockBase Go.Proofs.Ytgocnchjpecafaa.Wr Go.Sort Go.Proofs.Ytgocnchjpecafaa.Srt
set_option linter.unusedVariables false
set_option linter.unusedSimpArgs false
def Tells (g:Nat->Option Bool) (P:Prop):Prop:=∃ b,Ev g b/\(b=true↔P)
theorem Tells.step {g f:Nat->Option Bool} {P:Prop} (h:∀ k,g (k+1)=f k) (hf:Tells f P):Tells g P:=by
 obtain ⟨b,hb,hp⟩:=hf
 exact ⟨b,Ev.step h hb,hp⟩
theorem Tells.to {g:Nat->Option Bool} {P Q:Prop} (h:Tells g P) (e:P↔Q):Tells g Q:=by
 obtain ⟨b,hb,hp⟩:=h
 exact ⟨b,hb,hp.trans e⟩
theorem Tells.yes {P:Prop} (h:P):Tells (λ_=>some true) P:=⟨true,Ev.now _,iff_of_true rfl h⟩
theorem Tells.no {P:Prop} (h:¬ P):Tells (λ_=>some false) P:=⟨false,Ev.now _,iff_of_false Bool.false_ne_true h⟩
theorem Tells.bind {α:Type} {f:Nat->Option α} {g:Nat->α->Option Bool} {r:α} {P:Prop} (hf:Ev f r) (hg:Tells (λk=>g k r) P):Tells (λk=>(f k).bind (g k)) P:=by
 obtain ⟨b,hb,hp⟩:=hg
 exact ⟨b,Ev.bind hf hb,hp⟩
theorem Tells.pos {c:Prop} [Decidable c] {f g:Nat->Option Bool} {P:Prop} (hc:c) (h:Tells f P):Tells (λk=>if c then f k else g k) P:=by
 obtain ⟨b,hb,hp⟩:=h
 exact ⟨b,ck_if hc hb,hp⟩
theorem Tells.neg {c:Prop} [Decidable c] {f g:Nat->Option Bool} {P:Prop} (hc:¬ c) (h:Tells g P):Tells (λk=>if c then f k else g k) P:=by
 obtain ⟨b,hb,hp⟩:=h
 exact ⟨b,ck_else hc hb,hp⟩
theorem hasD_nil {r n:Int}:¬ HasD [] r n:=λ⟨y,hy,_⟩=>by cases hy
theorem hasD_cons {x:S30} {l:List S30} {r n:Int}:HasD (x :: l) r n↔(x.f0.f0=r/\x.f0.f1=n)\/HasD l r n:=by
 unfold HasD
 simp only [List.mem_cons]
 constructor
 ·rintro ⟨y,rfl|hy,e⟩
  ·exact .inl e
  ·exact .inr ⟨y,hy,e⟩
 ·rintro(e|⟨y,hy,e⟩)
  ·exact ⟨x,.inl rfl,e⟩
  ·exact ⟨y,.inr hy,e⟩
theorem find_loop (l:List S30) (hl:l.length<=2199023255552) (r n:Int) (d:Nat):∀ i:Nat,i+d=l.length->Tells (λk=>r05_find.l0 k l (i:Int) r n) (HasD (l.drop i) r n):=by
 induction d with
 | zero =>
  intro i hi
  rw [List.drop_eq_nil_of_le (by omega)]
  refine Tells.step (f:=λ_=>some false) (λk=>?_) (Tells.no hasD_nil)
  simp only [r05_find.l0]
  rw [if_neg (by omega)]
 | succ d ih =>
  intro i hi
  have hlt:i<l.length:=by omega
  rw [List.drop_eq_getElem_cons hlt]
  refine Tells.step (f:=λk=>if ((l[i]).f0.f0 == r && ((l[i]).f0.f1 == n))=true then some true else r05_find.l0 k l ((i+1:Nat):Int) r n) (λk=>?_) ?_
  ·simp only [r05_find.l0]
   rw [if_pos (by omega),if_pos (by omega),rd30_at hlt,ck_w (by omega)]
  ·by_cases h:((l[i]).f0.f0 == r && ((l[i]).f0.f1 == n))=true
   ·have e:=h
    rw [Bool.and_eq_true,beq_iff_eq,beq_iff_eq] at e
    exact Tells.pos h (Tells.yes (hasD_cons.mpr (.inl e)))
   ·have e:=h
    rw [Bool.and_eq_true,beq_iff_eq,beq_iff_eq] at e
    exact Tells.neg h ((ih (i+1) (by omega)).to ⟨λhh=>hasD_cons.mpr (.inr hh),λhh=>(hasD_cons.mp hh).resolve_left e⟩)
theorem find_ev (l:List S30) (hl:l.length<=2199023255552) (r n:Int):Tells (λk=>r05_find.f k l r n) (HasD l r n):=find_loop l hl r n l.length 0 (by omega)
theorem cl_l3 (l:List S30) (hf:Fits l) (hl:l.length<=2199023255552) (i:Nat) (hi:i<l.length) (r:Int) (r1:1<=r) (r2:r<=5) (Q:Prop) (nx:Tells (λk=>r05_Closed.l2 k l (i:Int) (wrap64 (r+1))) Q) (d:Nat) :
  ∀ n:Nat,1<=n->(n:Int)+d=getS (l[i]).f1 r+1->Tells (λk=>r05_Closed.l3 k l (i:Int) r (n:Int)) ((∀ m:Int,(n:Int)<=m->m<=getS (l[i]).f1 r->HasD l r m)/\Q):=by
 have hx:=hf _ (List.getElem_mem hi)
 have hg:=getS_in (l[i]).f1 r1 r2
 induction d with
 | zero =>
  intro n n1 hn
  refine Tells.step (f:=λk=>(r03_Get.f k (l[i]).f1 r).bind λt=>if (n:Int)<=t then((r05_find.f k l r (n:Int)).bind λt=>if t=true then r05_Closed.l3 k l (i:Int) r (wrap64 ((n:Int)+1)) else some false) else r05_Closed.l2 k l (i:Int) (wrap64 (r+1))) (λk=>?_) ?_
  ·simp only [r05_Closed.l3]
   rw [if_pos (by omega),if_pos (by omega),rd30_at hi]
  ·refine Tells.bind (get_ev _ _ hx.1) (Tells.neg (by omega) (nx.to ⟨λh=>⟨λm h1 h2=>by omega,h⟩,λh=>h.2⟩))
 | succ d ih =>
  intro n n1 hn
  refine Tells.step (f:=λk=>(r03_Get.f k (l[i]).f1 r).bind λt=>if (n:Int)<=t then((r05_find.f k l r (n:Int)).bind λt=>if t=true then r05_Closed.l3 k l (i:Int) r (wrap64 ((n:Int)+1)) else some false) else r05_Closed.l2 k l (i:Int) (wrap64 (r+1))) (λk=>?_) ?_
  ·simp only [r05_Closed.l3]
   rw [if_pos (by omega),if_pos (by omega),rd30_at hi]
  ·refine Tells.bind (get_ev _ _ hx.1) (Tells.pos (by omega) ?_)
   obtain ⟨b,hb,hp⟩:=find_ev l hl r (n:Int)
   refine Tells.bind hb ?_
   cases b with
   | false=>exact Tells.neg (by decide) (Tells.no λh=>by
     have:=hp.mpr (h.1 _ (Int.le_refl _) (by omega))
     cases this)
   | true =>
    refine Tells.pos rfl ?_
    rw [ck_w (by omega)]
    refine(ih (n+1) (by omega) (by omega)).to ⟨λh=>⟨λm h1 h2=>?_,h.2⟩,λh=>⟨λm h1 h2=>h.1 m (by omega) h2,h.2⟩⟩
    by_cases e:m=(n:Int)
    ·rw [e];exact hp.mp rfl
    ·exact h.1 m (by omega) h2
def DnAt (l:List S30) (x:S30) (r:Int):Prop:=∀ m:Int,1<=m->m<=getS x.f1 r->HasD l r m
theorem cl_l2 (l:List S30) (hf:Fits l) (hl:l.length<=2199023255552) (i:Nat) (hi:i<l.length) (Q:Prop) (nx:Tells (λk=>r05_Closed.l1 k l (wrap64 ((i:Int)+1))) Q) (d:Nat) :
  ∀ r:Nat,1<=r->r+d=6->Tells (λk=>r05_Closed.l2 k l (i:Int) (r:Int)) ((∀ s:Int,(r:Int)<=s->s<=5->DnAt l (l[i]) s)/\Q):=by
 induction d with
 | zero =>
  intro r r1 hr
  refine Tells.step (f:=λk=>r05_Closed.l1 k l (wrap64 ((i:Int)+1))) (λk=>?_) (nx.to ⟨λh=>⟨λs h1 h2=>by omega,h⟩,λh=>h.2⟩)
  simp only [r05_Closed.l2]
  rw [if_neg (by omega)]
 | succ d ih =>
  intro r r1 hr
  have hx:=hf _ (List.getElem_mem hi)
  have hg:=getS_in (l[i]).f1 (a:=(r:Int)) (by omega) (by omega)
  have nx2:=ih (r+1) (by omega) (by omega)
  rw [<-ck_w (by omega)] at nx2
  have ew:=ck_w (i:=r) (by omega)
  refine Tells.step (f:=λk=>r05_Closed.l3 k l (i:Int) (r:Int) ((1:Nat):Int)) (λk=>?_) ?_
  ·simp only [r05_Closed.l2]
   rw [if_pos (by omega)]
   rfl
  ·refine(cl_l3 l hf hl i hi (r:Int) (by omega) (by omega) _ nx2 (getS (l[i]).f1 (r:Int)).toNat 1 (by omega) (by omega)).to ⟨λh=>⟨λs h1 h2=>?_,h.2.2⟩,λh=>⟨h.1 _ (Int.le_refl _) (by omega),λs h1 h2=>h.1 s (by omega) h2,h.2⟩⟩
   by_cases e:s=(r:Int)
   ·rw [e];exact h.1
   ·exact h.2.1 s (by omega) h2
theorem cl_l1 (l:List S30) (hf:Fits l) (hl:l.length<=2199023255552) (d:Nat) :
  ∀ i:Nat,i+d=l.length->Tells (λk=>r05_Closed.l1 k l (i:Int)) (∀ j,(h:j<l.length)->i<=j->∀ s:Int,1<=s->s<=5->DnAt l (l[j]) s):=by
 induction d with
 | zero =>
  intro i hi
  refine Tells.step (f:=λ_=>some true) (λk=>?_) (Tells.yes λj h1 h2=>by omega)
  simp only [r05_Closed.l1]
  rw [if_neg (by omega)]
 | succ d ih =>
  intro i hi
  have hlt:i<l.length:=by omega
  have nx:=ih (i+1) (by omega)
  rw [<-ck_w (by omega)] at nx
  refine Tells.step (f:=λk=>r05_Closed.l2 k l (i:Int) ((1:Nat):Int)) (λk=>?_) ?_
  ·simp only [r05_Closed.l1]
   rw [if_pos (by omega)]
   rfl
  ·refine(cl_l2 l hf hl i hlt _ nx 5 1 (by omega) (by omega)).to ⟨λh j hj hij=>?_,λh=>⟨h i hlt (Nat.le_refl _),λj hj hij=>h j hj (by omega)⟩⟩
   by_cases e:j=i
   ·subst e;exact h.1
   ·exact h.2 j hj (by omega)
theorem cl_l0 (l:List S30) (hf:Fits l) (hl:l.length<=2199023255552) (d:Nat) :
  ∀ i:Nat,i+d=l.length->Tells (λk=>r05_Closed.l0 k l (i:Int)) ((∀ j,(h:j<l.length)->i<=j->OkE (l[j])/\¬ HasD (l.take j) (l[j]).f0.f0 (l[j]).f0.f1/\sumS (l[j]).f1<l.length)/\∀ j,(h:j<l.length)->0<=j->∀ s:Int,1<=s->s<=5->DnAt l (l[j]) s):=by
 induction d with
 | zero =>
  intro i hi
  refine Tells.step (f:=λk=>r05_Closed.l1 k l ((0:Nat):Int)) (λk=>?_) ((cl_l1 l hf hl l.length 0 (by omega)).to ⟨λh=>⟨λj h1 h2=>by omega,h⟩,λh=>h.2⟩)
  simp only [r05_Closed.l0]
  rw [if_neg (by omega)]
  rfl
 | succ d ih =>
  intro i hi
  have hlt:i<l.length:=by omega
  have hx:=hf _ (List.getElem_mem hlt)
  refine Tells.step (f:=λk=>(r05_May.f k (l[i]).f0.f0 (l[i]).f0.f1 (l[i]).f1 (l[i]).f2).bind λt=>if t=true then((r05_find.f k (l.take i) (l[i]).f0.f0 (l[i]).f0.f1).bind λt=>if t=true then some false else((r03_Sum.f k (l[i]).f1).bind λt=>if t>=(l.length:Int) then some false else r05_Closed.l0 k l ((i+1:Nat):Int))) else some false) (λk=>?_) ?_
  ·simp only [r05_Closed.l0]
   rw [if_pos (by omega),if_pos (by omega),rd30_at hlt,if_pos (show(i:Int)<=(l.length:Int) by omega),ck_w (by omega)]
   rfl
  ·refine Tells.bind (refMay_ev _ _ _ _ hx.1 hx.2) ?_
   by_cases hk:OkE l[i]
   rotate_left
   ·exact Tells.neg (λh=>hk (of_decide_eq_true h)) (Tells.no λh=>hk (h.1 i hlt (Nat.le_refl _)).1)
   refine Tells.pos (decide_eq_true hk) ?_
   obtain ⟨b,hb,hp⟩:=find_ev (l.take i) (by rw [List.length_take];omega) (l[i]).f0.f0 (l[i]).f0.f1
   refine Tells.bind hb ?_
   cases b with
   | true=>exact Tells.pos rfl (Tells.no λh=>(h.1 i hlt (Nat.le_refl _)).2.1 (hp.mp rfl))
   | false =>
    refine Tells.neg (by decide) ?_
    refine Tells.bind (sum_ev _ hx.1) ?_
    by_cases hs:sumS (l[i]).f1>=(l.length:Int)
    ·exact Tells.pos hs (Tells.no λh=>by have:=(h.1 i hlt (Nat.le_refl _)).2.2;omega)
    ·refine Tells.neg hs ((ih (i+1) (by omega)).to ⟨λh=>⟨λj hj hij=>?_,h.2⟩,λh=>⟨λj hj hij=>h.1 j hj (by omega),h.2⟩⟩)
     by_cases e:j=i
     ·subst e
      exact ⟨hk,λhh=>Bool.false_ne_true (hp.mpr hh),by omega⟩
     ·exact h.1 j hj (by omega)
theorem closed_ev (l:List S30) (hf:Fits l) (hl:l.length<=2199023255552):Tells (λk=>r05_Closed.f k l) (ClosedP l):=by
 refine(cl_l0 l hf hl l.length 0 (by omega)).to ⟨λh=>⟨λx hx=>?_,?_,λx hx=>?_,λx hx r n r1 r2 n1 n2=>?_⟩,λh=>⟨λj hj _=>⟨h.ok _ (List.getElem_mem hj),λhh=>?_,h.sum _ (List.getElem_mem hj)⟩,λj hj _ s s1 s2 m m1 m2=>h.dn _ (List.getElem_mem hj) s m s1 s2 m1 m2⟩⟩
 ·obtain ⟨j,hj,rfl⟩:=List.mem_iff_getElem.mp hx
  exact(h.1 j hj (Nat.zero_le _)).1
 ·refine List.pairwise_iff_getElem.mpr λi j hi hj hij e=>?_
  rw [List.length_map] at hi hj
  rw [List.getElem_map,List.getElem_map] at e
  refine(h.1 j hj (Nat.zero_le _)).2.1 (hasD_dot.mpr (List.mem_map.mpr ⟨l[i],List.mem_iff_getElem.mpr ⟨i,by rw [List.length_take];omega,List.getElem_take⟩,e⟩))
 ·obtain ⟨j,hj,rfl⟩:=List.mem_iff_getElem.mp hx
  exact(h.1 j hj (Nat.zero_le _)).2.2
 ·obtain ⟨j,hj,rfl⟩:=List.mem_iff_getElem.mp hx
  exact h.2 j hj (Nat.zero_le _) r r1 r2 n n1 n2
 ·obtain ⟨y,hy,e1,e2⟩:=hh
  obtain ⟨i,hi,rfl⟩:=List.mem_iff_getElem.mp hy
  rw [List.length_take] at hi
  rw [List.getElem_take] at e1 e2
  have hi2:i<(l.map dotOf).length:=by rw [List.length_map];omega
  refine List.pairwise_iff_getElem.mp h.nd i j hi2 (by rw [List.length_map];exact hj) (by omega) ?_
  rw [List.getElem_map,List.getElem_map]
  unfold dotOf
  rw [e1,e2]
theorem ahead05_ev (a b:S30) (ha:OkE a) (hb:b.f1.length<=140737488355328):Ev (λk=>r05_Ahead.f k a.f0.f0 a.f0.f1 a.f1 a.f2 b.f0.f0 b.f0.f1 b.f1 b.f2) (decide (a.f0.f1<=getS b.f1 a.f0.f0)):=by
 obtain ⟨o1,o2,o3,o4,o5⟩:=ok_dot ha
 unfold r05_Ahead.f
 refine Ev.bind (ev_is (dotMay04_eq a.f0.f0 a.f0.f1)) ?_
 rw [decide_eq_true ⟨o1,o2,o3,o4⟩]
 refine ck_if rfl ?_
 exact Ev.bind (get_ev b.f1 a.f0.f0 hb) (Ev.now _)
def WhAt (a b:S30):Prop:=a.f0.f1<=getS b.f1 a.f0.f0->withinS a.f1 b.f1=true
theorem wh_l1 (l:List S30) (hf:Fits l) (hk:∀ x ∈ l,OkE x) (hl:l.length<=2199023255552) (i:Nat) (hi:i<l.length) (Q:Prop) (nx:Tells (λk=>w08_Whole.l0 k l (wrap64 ((i:Int)+1))) Q) (d:Nat) :
  ∀ j:Nat,j+d=l.length->Tells (λk=>w08_Whole.l1 k l (i:Int) (j:Int)) ((∀ q,(h:q<l.length)->j<=q->WhAt (l[q]) (l[i]))/\Q):=by
 induction d with
 | zero =>
  intro j hj
  refine Tells.step (f:=λk=>w08_Whole.l0 k l (wrap64 ((i:Int)+1))) (λk=>?_) (nx.to ⟨λh=>⟨λq h1 h2=>by omega,h⟩,λh=>h.2⟩)
  simp only [w08_Whole.l1]
  rw [if_neg (by omega)]
 | succ d ih =>
  intro j hj
  have hlt:j<l.length:=by omega
  have hx:=hf _ (List.getElem_mem hlt)
  have hy:=hf _ (List.getElem_mem hi)
  have nx2:=ih (j+1) (by omega)
  refine Tells.step (f:=λk=>(r05_Ahead.f k (l[j]).f0.f0 (l[j]).f0.f1 (l[j]).f1 (l[j]).f2 (l[i]).f0.f0 (l[i]).f0.f1 (l[i]).f1 (l[i]).f2).bind λt=>if t=true then((r03_Within.f k (l[j]).f1 (l[i]).f1).bind λt=>if t=true then w08_Whole.l1 k l (i:Int) ((j+1:Nat):Int) else some false) else w08_Whole.l1 k l (i:Int) ((j+1:Nat):Int)) (λk=>?_) ?_
  ·simp only [w08_Whole.l1]
   rw [if_pos (by omega),if_pos (by omega),if_pos (by omega),if_pos (by omega),rd30_at hlt,rd30_at hi,ck_w (by omega)]
  ·refine Tells.bind (ahead05_ev _ _ (hk _ (List.getElem_mem hlt)) hy.1) ?_
   have more:WhAt (l[j]) (l[i])->((∀ q,(h:q<l.length)->j+1<=q->WhAt (l[q]) (l[i]))/\Q↔(∀ q,(h:q<l.length)->j<=q->WhAt (l[q]) (l[i]))/\Q):=λhw=>⟨λh=>⟨λq hq hjq=>by
    by_cases e:q=j
    ·subst e;exact hw
    ·exact h.1 q hq (by omega),h.2⟩,λh=>⟨λq hq hjq=>h.1 q hq (by omega),h.2⟩⟩
   by_cases ha:(l[j]).f0.f1<=getS (l[i]).f1 (l[j]).f0.f0
   rotate_left
   ·exact Tells.neg (λh=>ha (of_decide_eq_true h)) (nx2.to (more λh=>absurd h ha))
   refine Tells.pos (decide_eq_true ha) ?_
   refine Tells.bind (within_ev _ _ hx.1 hy.1) ?_
   by_cases hw:withinS (l[j]).f1 (l[i]).f1=true
   ·exact Tells.pos hw (nx2.to (more λ_=>hw))
   ·exact Tells.neg hw (Tells.no λh=>hw (h.1 j hlt (Nat.le_refl _) ha))
theorem wh_l0 (l:List S30) (hf:Fits l) (hk:∀ x ∈ l,OkE x) (hl:l.length<=2199023255552) (d:Nat) :
  ∀ i:Nat,i+d=l.length->Tells (λk=>w08_Whole.l0 k l (i:Int)) (∀ j,(h:j<l.length)->i<=j->∀ q,(h:q<l.length)->0<=q->WhAt (l[q]) (l[j])):=by
 induction d with
 | zero =>
  intro i hi
  refine Tells.step (f:=λ_=>some true) (λk=>?_) (Tells.yes λj h1 h2=>by omega)
  simp only [w08_Whole.l0]
  rw [if_neg (by omega)]
 | succ d ih =>
  intro i hi
  have hlt:i<l.length:=by omega
  have nx:=ih (i+1) (by omega)
  rw [<-ck_w (by omega)] at nx
  refine Tells.step (f:=λk=>w08_Whole.l1 k l (i:Int) ((0:Nat):Int)) (λk=>?_) ?_
  ·simp only [w08_Whole.l0]
   rw [if_pos (by omega)]
   rfl
  ·refine(wh_l1 l hf hk hl i hlt _ nx l.length 0 (by omega)).to ⟨λh j hj hij=>?_,λh=>⟨h i hlt (Nat.le_refl _),λj hj hij=>h j hj (by omega)⟩⟩
   by_cases e:j=i
   ·subst e;exact h.1
   ·exact h.2 j hj (by omega)
theorem wholeE_ev (l:List S30) (hf:Fits l) (hl:l.length<=2199023255552):Tells (λk=>w08_Whole.f k l) (WholeP l):=by
 unfold w08_Whole.f
 obtain ⟨b,hb,hp⟩:=closed_ev l hf hl
 refine Tells.bind hb ?_
 cases b with
 | false=>exact Tells.neg (by decide) (Tells.no λh=>by have:=hp.mpr h.toClosedP;cases this)
 | true =>
  have hc:=hp.mp rfl
  refine Tells.pos rfl ((wh_l0 l hf hc.ok hl l.length 0 (by omega)).to ⟨λh=>⟨hc,λa ha b hb=>?_⟩,λh j hj _ q hq _=>h.wh _ (List.getElem_mem hq) _ (List.getElem_mem hj)⟩)
  obtain ⟨q,hq,rfl⟩:=List.mem_iff_getElem.mp ha
  obtain ⟨j,hj,rfl⟩:=List.mem_iff_getElem.mp hb
  exact h j hj (Nat.zero_le _) q hq (Nat.zero_le _)
theorem setS_le (c:List Int) (r n:Int):(setS c r n).length<=5:=by
 unfold setS
 have h:=trim_le ((ofL c).set (r - 1).toNat n)
 rw [List.length_set,ofL_length] at h
 exact h
theorem seenOf_le (out:List S30):(seenOf out).length<=5:=by
 rcases List.eq_nil_or_concat out with rfl|⟨o,x,rfl⟩
 ·exact Nat.zero_le _
 ·rw [List.concat_eq_append,seenOf_snoc];exact setS_le _ _ _
theorem setOk_of {x:S30} (h:OkE x):setOk x.f0.f0 x.f0.f1=true:=by
 obtain ⟨o1,o2,o3,o4,o5⟩:=ok_dot h
 unfold setOk
 simp only [Bool.and_eq_true,Bool.or_eq_true,decide_eq_true_eq]
 omega
def Can (out:List S30) (x:S30):Prop:=getS (seenOf out) x.f0.f0<x.f0.f1/\withinS x.f1 (seenOf out)=true
def Gives {α:Type} (g:Nat->Option α) (P:α->Prop):Prop:=∃ o,Ev g o/\P o
theorem Gives.step {α:Type} {g f:Nat->Option α} {P:α->Prop} (h:∀ k,g (k+1)=f k) (hf:Gives f P):Gives g P:=by
 obtain ⟨b,hb,hp⟩:=hf
 exact ⟨b,Ev.step h hb,hp⟩
theorem Gives.bind {α β:Type} {f:Nat->Option α} {g:Nat->α->Option β} {r:α} {P:β->Prop} (hf:Ev f r) (hg:Gives (λk=>g k r) P):Gives (λk=>(f k).bind (g k)) P:=by
 obtain ⟨b,hb,hp⟩:=hg
 exact ⟨b,Ev.bind hf hb,hp⟩
theorem Gives.pos {α:Type} {c:Prop} [Decidable c] {f g:Nat->Option α} {P:α->Prop} (hc:c) (h:Gives f P):Gives (λk=>if c then f k else g k) P:=by
 obtain ⟨b,hb,hp⟩:=h
 exact ⟨b,ck_if hc hb,hp⟩
theorem Gives.neg {α:Type} {c:Prop} [Decidable c] {f g:Nat->Option α} {P:α->Prop} (hc:¬ c) (h:Gives g P):Gives (λk=>if c then f k else g k) P:=by
 obtain ⟨b,hb,hp⟩:=h
 exact ⟨b,ck_else hc hb,hp⟩
theorem tu_l1 (l out:List S30) (hf:Fits l) (hl:l.length<2199023255552) (p:Int) (P:List S30->Prop) (nx:∀ x,x ∈ l->Can out x->∀ C:List S30,C.length<=l.length->Gives (λk=>w08_Turned.l1 k l [] out (seenOf out) p (x :: C) (l.length:Int)) P) (d:Nat) :
  ∀ (j:Nat) (C:List S30),j+d=l.length->C.length<=j->(∀ x ∈ C,x ∈ l/\Can out x)->(C≠[]\/∃ x ∈ l.drop j,Can out x)->Gives (λk=>w08_Turned.l1 k l [] out (seenOf out) p C (j:Int)) P:=by
 induction d with
 | zero =>
  intro j C hj hC hm ho
  rw [show j=l.length by omega]
  match C,hC,hm,ho with
  | [],_,_,ho =>
   rw [List.drop_eq_nil_of_le (by omega)] at ho
   rcases ho with h|⟨x,hx,_⟩
   ·exact absurd rfl h
   ·cases hx
  | x :: C,hC,hm,_ =>
   rw [List.length_cons] at hC
   exact nx x (hm x List.mem_cons_self).1 (hm x List.mem_cons_self).2 C (by omega)
 | succ d ih =>
  intro j C hj hC hm ho
  have hlt:j<l.length:=by omega
  have hx:=hf _ (List.getElem_mem hlt)
  have hsl:=seenOf_le out
  refine Gives.step (f:=λk=>(r03_Get.f k (seenOf out) (l[j]).f0.f0).bind λt=>if (l[j]).f0.f1 > t then((r03_Within.f k (l[j]).f1 (seenOf out)).bind λt=>if t=true then(if C.length<2199023255552 then w08_Turned.l1 k l [] out (seenOf out) p (C++[l[j]]) ((j+1:Nat):Int) else none) else w08_Turned.l1 k l [] out (seenOf out) p C ((j+1:Nat):Int)) else w08_Turned.l1 k l [] out (seenOf out) p C ((j+1:Nat):Int)) (λk=>?_) ?_
  ·simp only [w08_Turned.l1]
   rw [if_pos (by omega),if_pos (by omega),rd30_at hlt,ck_w (by omega)]
  ·rw [List.drop_eq_getElem_cons hlt] at ho
   have skip:¬ Can out l[j]->Gives (λk=>w08_Turned.l1 k l [] out (seenOf out) p C ((j+1:Nat):Int)) P:=λhn=>ih (j+1) C (by omega) (by omega) hm (by
    rcases ho with h|⟨x,hx,hc⟩
    ·exact .inl h
    ·rcases List.mem_cons.mp hx with rfl|hx
     ·exact absurd hc hn
     ·exact .inr ⟨x,hx,hc⟩)
   refine Gives.bind (get_ev _ _ (by omega)) ?_
   by_cases h1:(l[j]).f0.f1 > getS (seenOf out) (l[j]).f0.f0
   rotate_left
   ·exact Gives.neg h1 (skip λh=>h1 h.1)
   refine Gives.pos h1 ?_
   refine Gives.bind (within_ev _ _ hx.1 (by omega)) ?_
   by_cases h2:withinS (l[j]).f1 (seenOf out)=true
   rotate_left
   ·exact Gives.neg h2 (skip λh=>h2 h.2)
   refine Gives.pos h2 (Gives.pos (by omega) ?_)
   refine ih (j+1) (C++[l[j]]) (by omega) (by rw [List.length_append,List.length_singleton];omega) (λx hx=>?_) (.inl (by simp))
   rcases List.mem_append.mp hx with hx|hx
   ·exact hm x hx
   ·rw [List.mem_singleton.mp hx];exact ⟨List.getElem_mem hlt,h1,h2⟩
theorem tu_l0 (l:List S30) (hf:Fits l) (hl:l.length<2199023255552) (hw:WholeP l) (d:Nat) :
  ∀ out:List S30,out.length+d=l.length->(∀ k,Inv l (out.take k))->Gives (λk=>w08_Turned.l0 k l [] out (seenOf out) (out.length:Int)) λo=>o.length=l.length/\∀ k,Inv l (o.take k):=by
 induction d with
 | zero =>
  intro out ho hi
  refine ⟨out,Ev.step (f:=λ_=>some out) (λk=>?_) (Ev.now _),by omega,hi⟩
  simp only [w08_Turned.l0]
  rw [if_neg (by omega)]
 | succ d ih =>
  intro out ho hi
  have hI:=hi out.length
  rw [List.take_length] at hI
  have hsl:=seenOf_le out
  obtain ⟨x0,hx0,hc0⟩:=prog hw hI (by omega)
  refine Gives.step (f:=λk=>w08_Turned.l1 k l [] out (seenOf out) (out.length:Int) [] ((0:Nat):Int)) (λk=>?_) ?_
  ·simp only [w08_Turned.l0]
   rw [if_pos (by omega)]
   rfl
  ·refine tu_l1 l out hf hl _ _ (λx hx hc C hC=>?_) l.length 0 [] (by omega) (Nat.le_refl _) (λx hx=>by cases hx) (.inr ⟨x0,by rw [List.drop_zero];exact hx0,hc0⟩)
   refine Gives.step (f:=λk=>(r03_Set.f k (seenOf out) x.f0.f0 x.f0.f1).bind λt=>w08_Turned.l0 k l [] (out++[x]) t ((out.length+1:Nat):Int)) (λk=>?_) ?_
   ·have er:rd_T30 (x :: C) 0=x:=rfl
    simp only [w08_Turned.l1]
    rw [if_neg (by omega),if_neg (by rw [List.length_cons];omega),if_neg (by rw [List.length_nil];omega),if_pos (by rw [List.length_cons];omega),if_pos (by omega),er,ck_w (by omega)]
   ·refine Gives.bind (set_ev _ _ _ (by omega) (setOk_of (hw.ok x hx))) ?_
    have:=ih (out++[x]) (by rw [List.length_append,List.length_singleton];omega) (λk=>?_)
    ·rw [seenOf_snoc,List.length_append,List.length_singleton] at this
     exact this
    ·by_cases hk:k<=out.length
     ·rw [List.take_append_of_le_length hk];exact hi k
     ·rw [List.take_of_length_le (by rw [List.length_append,List.length_singleton];omega)]
      exact inv_snoc hw hI hx hc.1 hc.2
theorem turned_ev (l:List S30) (hf:Fits l) (hl:l.length<2199023255552) (hw:WholeP l):Gives (λk=>w08_Turned.f k l []) λo=>o.length=l.length/\∀ k,Inv l (o.take k) :=
 tu_l0 l hf hl hw l.length [] (by simp) (λk=>by rw [List.take_nil];exact inv_nil l)
end Go.Proofs.Ytgocnchjpecafaa.PEv
