/- a part -/
import Derived.Test.YtjpjdipdhakjnaaStableWords
namespace Go.Proofs.Ytjpjdipdhakjnaa.ClockBase
set_option linter.unusedVariables false
set_option linter.unusedSimpArgs false
theorem sf_nat {r:Int} (h1:1<=r) (h2:r<=5):∃ i:Nat,r=((i+1:Nat):Int)/\i<5:=⟨(r - 1).toNat,by omega,by omega⟩
theorem sf_at (l:List Int) (i:Nat) (hi:i<5):getS l ((i+1:Nat):Int)=(ofL l).getD i 0:=by
 unfold getS
 rw [if_pos (by omega),show(((i+1:Nat):Int) - 1).toNat=i by omega]
theorem sf_in (l:List Int) {r:Int} (h1:1<=r) (h2:r<=5):0<=getS l r/\getS l r<=1048576:=by
 obtain ⟨i,rfl,hi⟩:=sf_nat h1 h2
 rw [sf_at l i hi]
 exact good_at (good_of l) i
def Le (a b:List Int):Prop:=∀ r:Int,1<=r->r<=5->getS a r<=getS b r
theorem le_within {a b:List Int}:withinS a b=true↔Le a b:=by
 rw [withinS_iff]
 constructor
 ·intro h r h1 h2
  obtain ⟨i,rfl,hi⟩:=sf_nat h1 h2
  rw [sf_at a i hi,sf_at b i hi]
  exact h i hi
 ·intro h i hi
  have:=h ((i+1:Nat):Int) (by omega) (by omega)
  rwa [sf_at a i hi,sf_at b i hi] at this
theorem Le.refl (a:List Int):Le a a:=λ_ _ _=>Int.le_refl _
theorem Le.trans {a b c:List Int} (h:Le a b) (k:Le b c):Le a c:=λr h1 h2=>Int.le_trans (h r h1 h2) (k r h1 h2)
theorem sf_join (a b:List Int) {r:Int} (h1:1<=r) (h2:r<=5):getS (trim (joinS [a,b])) r=greater (getS a r) (getS b r):=by
 obtain ⟨i,rfl,hi⟩:=sf_nat h1 h2
 rw [sf_at _ i hi,sf_at a i hi,sf_at b i hi,good_trim (good_join _),join_two,zip5 (ofL_length a) (ofL_length b) i hi]
theorem sf_pl (a:List Int) (r:Int):getS (pl a) r=getS a r:=by unfold getS;rw [ofL_pl]
theorem Le.join {a b c:List Int} (h:Le a c) (k:Le b c):Le (trim (joinS [a,b])) c:=λr h1 h2=>by
 rw [sf_join a b h1 h2]
 have:=h r h1 h2
 have:=k r h1 h2
 unfold greater
 split<;>omega
theorem Le.left (a b:List Int):Le a (trim (joinS [a,b])):=λr h1 h2=>by
 rw [sf_join a b h1 h2]
 unfold greater
 split<;>omega
theorem Le.pl {a c:List Int} (h:Le a c):Le (pl a) c:=λr h1 h2=>by rw [sf_pl];exact h r h1 h2
theorem sf_goodset {f:List Int} (h:GoodC f) (i:Nat) {n:Int} (h0:0<=n) (h1:n<=1048576):GoodC (f.set i n):=by
 refine ⟨by rw [List.length_set];exact h.1,λx hx=>?_⟩
 rcases List.mem_or_eq_of_mem_set hx with hx|rfl
 ·exact h.2 x hx
 ·exact ⟨h0,h1⟩
theorem sf_set {c:List Int} {rep n r:Int} (hr1:1<=rep) (hr2:rep<=5) (hn0:0<=n) (hn1:n<=1048576) (h1:1<=r) (h2:r<=5):getS (setS c rep n) r=if r=rep then n else getS c r:=by
 obtain ⟨j,rfl,hj⟩:=sf_nat hr1 hr2
 obtain ⟨i,rfl,hi⟩:=sf_nat h1 h2
 have e:(((j+1:Nat):Int) - 1).toNat=j:=by omega
 unfold setS
 rw [sf_at _ i hi,e,good_trim (sf_goodset (good_of c) j hn0 hn1),sf_at c i hi]
 have hl:(ofL c).length=5:=ofL_length c
 by_cases h:i=j
 ·subst h
  rw [if_pos rfl,List.getD_eq_getElem?_getD,List.getElem?_set_self (by omega)]
  rfl
 ·rw [if_neg (by omega),List.getD_eq_getElem?_getD,List.getElem?_set_ne (λhh=>h hh.symm),List.getD_eq_getElem?_getD]
theorem sf_trim5 {f:List Int} (h:f.length=5):(trim f).length<=5:=by have:=trim_le f;omega
theorem sf_oktrim {f:List Int} (h:GoodC f):okC (trim f)=true:=okC_iff.mpr ⟨sf_trim5 h.1,λn hn=>h.2 n (List.mem_of_mem_take hn)⟩
theorem sf_okset {c:List Int} {rep n:Int} (hn0:0<=n) (hn1:n<=1048576):okC (setS c rep n)=true:=sf_oktrim (sf_goodset (good_of c) _ hn0 hn1)
theorem sf_stable_each (ls:List (List Int)) (own x:List Int) (hx:x ∈ ls):Le (stableS ls own) x:=le_within.mp (by
 rw [withinS_iff]
 intro i hi
 rw [stable_at ls own i hi]
 exact(leastF_le i ls _).2 x hx)
theorem gd_set {l:List (List Int)} {i j:Nat} {v:List Int} (hi:i<l.length):(l.set i v).getD j []=if j=i then v else l.getD j []:=by
 rw [List.getD_eq_getElem?_getD,List.getD_eq_getElem?_getD,List.getElem?_set]
 by_cases h:i=j
 ·subst h;rw [if_pos rfl,if_pos rfl,if_pos hi];rfl
 ·rw [if_neg h,if_neg (λe=>h e.symm)]
abbrev kn (l:List (List Int)) (j:Nat):List Int:=l.getD j []
structure SafeS (N:Nat) (K A L:List (List Int)) (M:List (Int×Int×List Int)):Prop where
 lenK:K.length=4
 lenA:A.length=4
 lenL:L.length=3
 ok:∀ j,okC (kn K j)=true
 small:∀ j,∀ r:Int,1<=r->r<=5->getS (kn K j) r<=(N:Int)
 okA:∀ j,okC (kn A j)=true
 leA:∀ j,Le (kn A j) (kn K j)
 okL:∀ x ∈ L,okC x=true
 leL:∀ j,j<3->Le (kn L j) (kn K (j+1))
 made:∀ x ∈ M,∃ j:Nat,j<3/\x.1=(j:Int)+1/\1<=x.2.1/\x.2.1<=getS (kn K (j+1)) x.1/\okC x.2.2=true/\(getS (kn A (j+1)) x.1<x.2.1->Le (kn A (j+1)) x.2.2)/\(getS (kn K 1) x.1<x.2.1->Le (kn L j) x.2.2)
theorem safe_start:SafeS 0 [[],[],[],[]] [[],[],[],[]] [[],[],[]] []:=by
 have e:∀ j,kn [[],[],[],[]] j=[]:=λj=>by
  match j with
  | 0=>rfl|1=>rfl|2=>rfl|3=>rfl
  | j+4=>rfl
 have e3:∀ j,kn [[],[],[]] j=[]:=λj=>by
  match j with
  | 0=>rfl|1=>rfl|2=>rfl
  | j+3=>rfl
 refine ⟨rfl,rfl,rfl,λj=>by rw [e];rfl,λj r r1 r2=>?_,λj=>by rw [e];rfl,λj=>Le.refl _,λx hx=>?_,λj _=>by rw [e,e3];exact Le.refl _,λx hx=>by cases hx⟩
 ·rw [e]
  obtain ⟨i,rfl,hi⟩:=sf_nat r1 r2
  rw [sf_at _ i hi,show ofL []=[0,0,0,0,0] from by decide]
  rcases (by omega:i=0\/i=1\/i=2\/i=3\/i=4) with rfl|rfl|rfl|rfl|rfl<;>decide
 ·simp only [List.mem_cons,List.not_mem_nil,or_false,or_self] at hx
  subst hx;rfl
theorem SafeS.more {N K A L M} (h:SafeS N K A L M):SafeS (N+1) K A L M :=
 ⟨h.lenK,h.lenA,h.lenL,h.ok,λj r r1 r2=>by have:=h.small j r r1 r2;omega,h.okA,h.leA,h.okL,h.leL,h.made⟩
theorem SafeS.grow {N K A L M} (h:SafeS N K A L M) {j:Nat} (hj:j<4) {v:List Int} (hv:okC v=true) (hs:∀ r:Int,1<=r->r<=5->getS v r<=((N+1:Nat):Int)) (hl:Le (kn K j) v):SafeS (N+1) (K.set j v) A L M:=by
 have e:∀ i,kn (K.set j v) i=if i=j then v else kn K i:=λi=>gd_set (by rw [h.lenK];exact hj)
 have up:∀ i,Le (kn K i) (kn (K.set j v) i):=λi=>by
  rw [e]
  split
  ·rename_i e;rw [e];exact hl
  ·exact Le.refl _
 refine ⟨by rw [List.length_set];exact h.lenK,h.lenA,h.lenL,λi=>?_,λi r r1 r2=>?_,h.okA,λi=>(h.leA i).trans (up i),h.okL,λi hi=>(h.leL i hi).trans (up _),λx hx=>?_⟩
 ·rw [e];split
  ·exact hv
  ·exact h.ok i
 ·rw [e];split
  ·exact hs r r1 r2
  ·have:=h.small i r r1 r2;omega
 ·obtain ⟨i,hi,e1,s0,s1,s2,s3,s4⟩:=h.made x hx
  have u1:=up (i+1) x.1 (by omega) (by omega)
  have u2:=up 1 x.1 (by omega) (by omega)
  exact ⟨i,hi,e1,s0,by omega,s2,s3,λhh=>s4 (by omega)⟩
theorem SafeS.take {N K A L M} (h:SafeS N K A L M) {j f:Nat} (hj:j<4):SafeS (N+1) (K.set j (trim (joinS [kn K j,kn K f]))) A L M:=by
 refine h.grow hj (sf_oktrim (good_join _)) (λr r1 r2=>?_) (Le.left _ _)
 rw [sf_join _ _ r1 r2]
 have:=h.small j r r1 r2
 have:=h.small f r r1 r2
 unfold greater
 split<;>omega
theorem SafeS.make {N K A L M} (h:SafeS N K A L M) (hN:N<=1000) {j:Nat} (hj:j<3) :
  SafeS (N+1) (K.set (j+1) (setS (kn K (j+1)) ((j:Int)+1) (getS (kn K (j+1)) ((j:Int)+1)+1))) A L (M++[((j:Int)+1,getS (kn K (j+1)) ((j:Int)+1)+1,kn K (j+1))]):=by
 have hb:=sf_in (kn K (j+1)) (r:=(j:Int)+1) (by omega) (by omega)
 have hs:=h.small (j+1) ((j:Int)+1) (by omega) (by omega)
 have hg:=h.grow (j:=j+1) (by omega) (v:=setS (kn K (j+1)) ((j:Int)+1) (getS (kn K (j+1)) ((j:Int)+1)+1)) (sf_okset (by omega) (by omega)) (λr r1 r2=>by
  rw [sf_set (by omega) (by omega) (by omega) (by omega) r1 r2]
  split
  ·omega
  ·have:=h.small (j+1) r r1 r2;omega) (λr r1 r2=>by
  rw [sf_set (by omega) (by omega) (by omega) (by omega) r1 r2]
  split
  ·rename_i e;rw [e];omega
  ·exact Int.le_refl _)
 have e:=gd_set (l:=K) (i:=j+1) (j:=j+1) (v:=setS (kn K (j+1)) ((j:Int)+1) (getS (kn K (j+1)) ((j:Int)+1)+1)) (by rw [h.lenK];omega)
 rw [if_pos rfl] at e
 refine ⟨hg.lenK,hg.lenA,hg.lenL,hg.ok,hg.small,hg.okA,hg.leA,hg.okL,hg.leL,λx hx=>?_⟩
 rcases List.mem_append.mp hx with hx|hx
 ·exact hg.made x hx
 ·obtain rfl:=List.mem_singleton.mp hx
  refine ⟨j,hj,rfl,by show 1<=getS _ _+1;omega,?_,h.ok _,λ_=>h.leA _,λ_=>h.leL j hj⟩
  show getS (kn K (j+1)) ((j:Int)+1)+1<=getS (kn (K.set (j+1) _) (j+1)) ((j:Int)+1)
  rw [show kn (K.set (j+1) (setS (kn K (j+1)) ((j:Int)+1) (getS (kn K (j+1)) ((j:Int)+1)+1))) (j+1)=_ from e,sf_set (by omega) (by omega) (by omega) (by omega) (by omega) (by omega),if_pos rfl]
  exact Int.le_refl _
theorem SafeS.learn {N K A L M} (h:SafeS N K A L M) {j:Nat} (hj:j<3) {c:List Int} (hc:c=kn A (j+1)\/c=kn K (j+1)) :
  SafeS (N+1) K (A.set (j+1) (kn K (j+1))) (learnS L (kn K 1) ((j:Int)+1) c) M:=by
 have ea:∀ i,kn (A.set (j+1) (kn K (j+1))) i=if i=j+1 then kn K (j+1) else kn A i:=λi=>gd_set (by rw [h.lenA];omega)
 have el:∀ i,i<3->kn (learnS L (kn K 1) ((j:Int)+1) c) i=if ((i:Int)+1=(j:Int)+1)/\getS c ((j:Int)+1)<=getS (kn K 1) ((j:Int)+1) then trim (joinS [pl (kn L i),c]) else pl (kn L i):=λi hi=>learn_at L (kn K 1) ((j:Int)+1) c (by omega) i (by rw [h.lenL];exact hi)
 have hcK:Le c (kn K (j+1)):=by
  rcases hc with rfl|rfl
  ·exact h.leA _
  ·exact Le.refl _
 refine ⟨h.lenK,by rw [List.length_set];exact h.lenA,by rw [learn_length];exact h.lenL,h.ok,h.more.small,λi=>?_,λi=>?_,λx hx=>?_,λi hi=>?_,λx hx=>?_⟩
 ·rw [ea];split
  ·exact h.ok _
  ·exact h.okA i
 ·rw [ea];split
  ·rename_i e;rw [e];exact Le.refl _
  ·exact h.leA i
 ·obtain ⟨i,hi,rfl⟩:=List.mem_iff_getElem.mp hx
  have hi3:i<3:=by rw [learn_length,h.lenL] at hi;exact hi
  have:=el i hi3
  unfold kn at this
  rw [List.getD_eq_getElem?_getD,List.getElem?_eq_getElem hi,Option.getD_some] at this
  rw [this]
  split
  ·exact sf_oktrim (good_join _)
  ·exact sf_oktrim (good_of _)
 ·rw [el i hi]
  split
  ·rename_i e
   obtain rfl:i=j:=by omega
   exact((h.leL i hi).pl).join hcK
  ·exact(h.leL i hi).pl
 ·obtain ⟨i,hi,e1,s0,s1,s2,s3,s4⟩:=h.made x hx
  refine ⟨i,hi,e1,s0,s1,s2,λhh=>?_,λhh=>?_⟩
  ·rw [ea] at hh ⊢
   split at hh
   ·rename_i e
    rw [if_pos e]
    rw [e] at s1
    omega
   ·rename_i e
    rw [if_neg e]
    exact s3 hh
  ·rw [el i hi]
   split
   ·rename_i e
    obtain rfl:i=j:=by omega
    refine((s4 hh).pl).join ?_
    have e2:=e.2
    rw [<-e1] at e2
    rcases hc with rfl|rfl
    ·exact s3 (by omega)
    ·omega
   ·exact(s4 hh).pl
theorem SafeS.all {N K A L M} (h:SafeS N K A L M) {j:Nat} (hj:j<3):withinS (stableS L (kn K 1)) (kn K (j+1))=true :=
 le_within.mpr ((sf_stable_each L _ _ (by unfold kn;rw [List.getD_eq_getElem?_getD,List.getElem?_eq_getElem (by rw [h.lenL];exact hj)];exact List.getElem_mem _)).trans (h.leL j hj))
theorem SafeS.past {N K A L M} (h:SafeS N K A L M) {x:Int×Int×List Int} (hx:x ∈ M) (hh:x.2.1 > getS (kn K 1) x.1):withinS (stableS L (kn K 1)) x.2.2=true:=by
 obtain ⟨i,hi,e1,s0,s1,s2,s3,s4⟩:=h.made x hx
 exact le_within.mpr ((sf_stable_each L _ _ (by unfold kn;rw [List.getD_eq_getElem?_getD,List.getElem?_eq_getElem (by rw [h.lenL];exact hi)];exact List.getElem_mem _)).trans (s4 (by omega)))
theorem SafeS.may {N K A L M} (h:SafeS N K A L M):mayS L (kn K 1)=true:=mayS_iff.mpr ⟨by rw [h.lenL];omega,h.ok 1,h.okL⟩
end Go.Proofs.Ytjpjdipdhakjnaa.ClockBase
