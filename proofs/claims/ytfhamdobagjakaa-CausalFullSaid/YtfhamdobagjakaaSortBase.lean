import Derived.Sort.LotA
import Derived.Shelf.SlSortCmp.KitK
import Derived.Deep.Quiet
import Derived.Deep.QuietTactic
import Derived.Below
import Derived.KernelRfl
/- a part -/
namespace Go.Proofs.Ytfhamdobagjakaa.Srt
open Go.Sort
set_option linter.unusedVariables false
set_option linter.unusedSimpArgs false
set_option linter.unusedSectionVars false
section
variable {α : Type} [Inhabited α]
def seg (d:Array α) (a n:Nat):List α:=(List.range' a n).map λt=>d[t]!
theorem seg_add (d:Array α) (a n m:Nat):seg d a (n+m)=seg d a n++seg d (a+n) m:=by
 unfold seg
 rw [<-List.map_append,List.range'_append_1]
theorem seg_congr {d d':Array α} {a b n:Nat} (h:∀ t,t<n->d[a+t]! = d'[b+t]!):seg d a n=seg d' b n:=by
 unfold seg
 rw [List.range'_eq_map_range,List.range'_eq_map_range,List.map_map,List.map_map]
 refine List.map_congr_left λt ht=>?_
 exact h t (List.mem_range.mp ht)
theorem seg_mem {d:Array α} {a n:Nat} {x:α}:x ∈ seg d a n↔∃ t,a<=t/\t<a+n/\x=d[t]!:=by
 unfold seg
 rw [List.mem_map]
 constructor
 ·rintro ⟨t,ht,rfl⟩
  rw [List.mem_range'_1] at ht
  exact ⟨t,ht.1,ht.2,rfl⟩
 ·rintro ⟨t,h1,h2,rfl⟩
  exact ⟨t,List.mem_range'_1.mpr ⟨h1,h2⟩,rfl⟩
theorem seg_length (d:Array α) (a n:Nat):(seg d a n).length=n:=by
 unfold seg
 rw [List.length_map,List.length_range']
def eqv (lt:α->α->Bool) (z x:α):Bool:=!lt z x && !lt x z
theorem eqv_self {lt:α->α->Bool} (hS:SWO lt) (x:α):eqv lt x x=true:=by
 unfold eqv
 rw [hS.irrefl]
 rfl
theorem eqv_not {lt:α->α->Bool} (hS:SWO lt) {x y z:α} (hx:eqv lt z x=true) (hy:eqv lt z y=true):lt y x=false:=by
 unfold eqv at hx hy
 simp only [Bool.and_eq_true,Bool.not_eq_true'] at hx hy
 exact hS.ntrans y z x hy.2 hx.1
structure StabIn (lt:α->α->Bool) (a b:Nat) (d d':Array α):Prop where
 size:d'.size=d.size
 out:∀ t,t<a\/b<=t->d'[t]! = d[t]!
 stab:∀ z,(seg d' a (b - a)).filter (eqv lt z)=(seg d a (b - a)).filter (eqv lt z)
variable {lt : α -> α -> Bool} {a b m : Nat} {d d' d'' c : Array α}
theorem StabIn.refl (a b:Nat) (d:Array α):StabIn lt a b d d:=⟨rfl,λ_ _=>rfl,λ_=>rfl⟩
theorem StabIn.trans (h:StabIn lt a b d d') (h':StabIn lt a b d' d''):StabIn lt a b d d'' :=
 ⟨h'.size.trans h.size,λt ht=>(h'.out t ht).trans (h.out t ht),λz=>(h'.stab z).trans (h.stab z)⟩
theorem StabIn.mono (h:StabIn lt a b d d') {p q:Nat} (h1:p<=a) (h2:a<=b) (h3:b<=q):StabIn lt p q d d':=by
 refine ⟨h.size,λt ht=>h.out t (by omega),λz=>?_⟩
 have e:∀ f:Array α,seg f p (q - p)=(seg f p (a - p)++seg f a (b - a))++seg f b (q - b):=λf=>by
  rw [show q - p=((a - p)+(b - a))+(q - b) by omega,seg_add,seg_add,show p+(a - p)=a by omega,show p+(a - p+(b - a))=b by omega]
 have e1:seg d' p (a - p)=seg d p (a - p):=seg_congr λt ht=>h.out _ (by omega)
 have e2:seg d' b (q - b)=seg d b (q - b):=seg_congr λt ht=>h.out _ (by omega)
 rw [e,e,List.filter_append,List.filter_append,List.filter_append,List.filter_append,h.stab z,e1,e2]
theorem StabIn.mem (hS:SWO lt) (h:StabIn lt a b d d') {i:Nat} (h1:a<=i) (h2:i<b):∃ j,a<=j/\j<b/\d'[i]! = d[j]!:=by
 have hm:d'[i]! ∈ (seg d' a (b - a)).filter (eqv lt d'[i]!):=List.mem_filter.mpr ⟨seg_mem.mpr ⟨i,h1,by omega,rfl⟩,eqv_self hS _⟩
 rw [h.stab] at hm
 obtain ⟨j,hj1,hj2,e⟩:=seg_mem.mp (List.mem_filter.mp hm).1
 exact ⟨j,hj1,by omega,e⟩
theorem stab_turn (hS:SWO lt) {L R:List α} (h:∀ x ∈ L,∀ y ∈ R,lt y x=true) (z:α):(R++L).filter (eqv lt z)=(L++R).filter (eqv lt z):=by
 rw [List.filter_append,List.filter_append]
 by_cases hl:L.filter (eqv lt z)=[]
 ·rw [hl,List.append_nil,List.nil_append]
 by_cases hr:R.filter (eqv lt z)=[]
 ·rw [hr,List.append_nil,List.nil_append]
 obtain ⟨x,hx⟩:=List.exists_mem_of_ne_nil _ hl
 obtain ⟨y,hy⟩:=List.exists_mem_of_ne_nil _ hr
 have hx:=List.mem_filter.mp hx
 have hy:=List.mem_filter.mp hy
 have h1:=h x hx.1 y hy.1
 rw [eqv_not hS hx.2 hy.2] at h1
 cases h1
def SwR (a b n:Nat) (d d':Array α):Prop:=d'.size=d.size/\∀ t,d'[t]! = if a<=t/\t<a+n then d[t+(b - a)]! else if b<=t/\t<b+n then d[t - (b - a)]! else d[t]!
def Rot (a m b:Nat) (d d':Array α):Prop:=d'.size=d.size/\∀ t,d'[t]! = if a<=t/\t<a+(b - m) then d[t+(m - a)]! else if a+(b - m)<=t/\t<b then d[t - (b - m)]! else d[t]!
theorem get_congr {d:Array α} {i j:Nat} (h:i=j):d[i]! = d[j]!:=by rw [h]
theorem SwR.zero (a b:Nat) (d:Array α):SwR a b 0 d d:=⟨rfl,λt=>by rw [if_neg (by omega),if_neg (by omega)]⟩
theorem SwR.succ {n:Nat} (h:SwR a b n d c) (hab:a+n<b) (hb:b+n<d.size):SwR a b (n+1) d (swp c (a+n) (b+n)):=by
 refine ⟨by rw [size_swp];exact h.1,λt=>?_⟩
 rw [swp_get _ (by rw [h.1];omega) (by rw [h.1];omega)]
 simp only [h.2]
 repeat' split
 all_goals first
  | (exfalso;omega)
  | exact get_congr (by omega)
theorem Rot.refl_l (a b:Nat) (d:Array α):Rot a a b d d:=⟨rfl,λt=>by
 by_cases h:a<=t/\t<a+(b - a)
 ·rw [if_pos h]
  exact get_congr (by omega)
 ·rw [if_neg h,if_neg (by omega)]⟩
theorem Rot.refl_r (a m:Nat) (d:Array α):Rot a m m d d:=⟨rfl,λt=>by
 rw [if_neg (by omega)]
 by_cases h:a+(m - m)<=t/\t<m
 ·rw [if_pos h]
  exact get_congr (by omega)
 ·rw [if_neg h]⟩
theorem Rot.left {i j:Nat} (hi:i<=m) (hj:j<i) (h:SwR (m - i) m j d c) (h':Rot (m - i+j) m (m+j) c d'):Rot (m - i) m (m+j) d d':=by
 refine ⟨h'.1.trans h.1,λt=>?_⟩
 rw [h'.2]
 simp only [h.2]
 repeat' split
 all_goals first
  | (exfalso;omega)
  | exact get_congr (by omega)
theorem Rot.right {i j:Nat} (hi:i<=m) (hj:i<j) (h:SwR (m - i) (m+j - i) i d c) (h':Rot (m - i) m (m+(j - i)) c d'):Rot (m - i) m (m+j) d d':=by
 refine ⟨h'.1.trans h.1,λt=>?_⟩
 rw [h'.2]
 simp only [h.2]
 repeat' split
 all_goals first
  | (exfalso;omega)
  | exact get_congr (by omega)
theorem Rot.even {i:Nat} (hi:i<=m) (h:SwR (m - i) m i d d'):Rot (m - i) m (m+i) d d':=by
 refine ⟨h.1,λt=>?_⟩
 rw [h.2]
 repeat' split
 all_goals first
  | (exfalso;omega)
  | exact get_congr (by omega)
theorem Rot.up {k:Nat} (h:Rot a (a+1) (k+1) d c) (hak:a<=k) (hk:k+1<d.size):Rot a (a+1) (k+2) d (swp c k (k+1)):=by
 refine ⟨by rw [size_swp];exact h.1,λt=>?_⟩
 rw [swp_get _ (by rw [h.1];omega) (by rw [h.1];omega)]
 simp only [h.2]
 repeat' split
 all_goals first
  | (exfalso;omega)
  | exact get_congr (by omega)
theorem Rot.down {k:Nat} (h:Rot (k+1) m (m+1) d c) (hk:k<m) (hm:m<d.size):Rot k m (m+1) d (swp c (k+1) k):=by
 refine ⟨by rw [size_swp];exact h.1,λt=>?_⟩
 rw [swp_get _ (by rw [h.1];omega) (by rw [h.1];omega)]
 simp only [h.2]
 repeat' split
 all_goals first
  | (exfalso;omega)
  | exact get_congr (by omega)
theorem Rot.stab (hS:SWO lt) (h:Rot a m b d d') (h1:a<=m) (h2:m<=b) (hlt:∀ i j,a<=i->i<m->m<=j->j<b->lt d[j]! d[i]! = true):StabIn lt a b d d':=by
 refine ⟨h.1,λt ht=>by rw [h.2,if_neg (by omega),if_neg (by omega)],λz=>?_⟩
 have e1:seg d a (b - a)=seg d a (m - a)++seg d m (b - m):=by
  rw [show b - a=(m - a)+(b - m) by omega,seg_add,show a+(m - a)=m by omega]
 have e2:seg d' a (b - a)=seg d m (b - m)++seg d a (m - a):=by
  rw [show b - a=(b - m)+(m - a) by omega,seg_add]
  congr 1
  ·refine seg_congr λt ht=>?_
   rw [h.2,if_pos (by omega)]
   exact get_congr (by omega)
  ·refine seg_congr λt ht=>?_
   rw [h.2,if_neg (by omega),if_pos (by omega)]
   exact get_congr (by omega)
 rw [e1,e2]
 refine stab_turn hS (λx hx y hy=>?_) z
 obtain ⟨i,i1,i2,rfl⟩:=seg_mem.mp hx
 obtain ⟨j,j1,j2,rfl⟩:=seg_mem.mp hy
 exact hlt i j i1 (by omega) j1 (by omega)
theorem swp_stab (hS:SWO lt) {j:Nat} (h1:a<=j) (h2:j+1<b) (hb:b<=d.size) (hl:lt d[j+1]! d[j]! = true):StabIn lt a b d (swp d (j+1) j):=by
 have hr:Rot j (j+1) (j+2) d (swp d (j+1) j):=by
  have:=Rot.down (k:=j) (m:=j+1) (Rot.refl_l (j+1) (j+2) d) (by omega) (by omega)
  exact this
 refine(hr.stab hS (by omega) (by omega) λi k i1 i2 k1 k2=>?_).mono h1 (by omega) (by omega)
 obtain rfl:i=j:=by omega
 obtain rfl:k=i+1:=by omega
 exact hl
theorem insInner_stab (hS:SWO lt):∀ (j:Nat) (d:Array α),j<b->b<=d.size->StabIn lt a b d (insInner lt a j d)
 | 0,d,_,_=>StabIn.refl a b d
 | j+1,d,hj,hb=>by
  unfold insInner
  split
  ·rename_i h
   simp only [Bool.and_eq_true,decide_eq_true_eq] at h
   exact(swp_stab hS (by omega) hj hb h.2).trans (insInner_stab hS j _ (by omega) (by rw [size_swp];exact hb))
  ·exact StabIn.refl a b d
theorem insOuter_stab (hS:SWO lt):∀ (k i:Nat) (d:Array α),b - i=k->b<=d.size->StabIn lt a b d (insOuter lt a b i d)
 | 0,i,d,hk,hb=>by
  unfold insOuter
  rw [if_neg (by omega)]
  exact StabIn.refl a b d
 | k+1,i,d,hk,hb=>by
  unfold insOuter
  rw [if_pos (by omega)]
  have h:=insInner_stab (a:=a) (b:=b) hS i d (by omega) hb
  exact h.trans (insOuter_stab hS k (i+1) _ (by omega) (by rw [h.size];exact hb))
def Merged (lt:α->α->Bool) (a b:Nat) (d d':Array α):Prop:=StabIn lt a b d d'/\SortedIn lt a b d'
theorem insertion_merged (hS:SWO lt) (h1:a<=b) (h2:b<=d.size):Merged lt a b d (insertionSort lt d a b) :=
 ⟨insOuter_stab hS _ (a+1) d rfl h2,(insertionSort_holds hS d a b h1 h2).2⟩
theorem SortedIn.le (hS:SWO lt) (h:SortedIn lt a b d) {i j:Nat} (h1:a<=i) (h2:i<=j) (h3:j<b):lt d[j]! d[i]! = false:=by
 rcases Nat.lt_or_eq_of_le h2 with h2|rfl
 ·exact h i j h1 h2 h3
 ·exact hS.irrefl _
theorem SortedIn.part (h:SortedIn lt a b d) {p q:Nat} (h1:a<=p) (h2:q<=b):SortedIn lt p q d:=λi j hi hij hj=>h i j (by omega) hij (by omega)
theorem SortedIn.same (h:SortedIn lt a b d) (he:∀ t,a<=t->t<b->d'[t]! = d[t]!):SortedIn lt a b d':=λi j hi hij hj=>by
 rw [he i hi (by omega),he j (by omega) hj]
 exact h i j hi hij hj
theorem SortedIn.join (h:SortedIn lt a m d) (h':SortedIn lt m b d) (hx:∀ i j,a<=i->i<m->m<=j->j<b->lt d[j]! d[i]! = false):SortedIn lt a b d:=λi j hi hij hj=>by
 by_cases h1:j<m
 ·exact h i j hi hij h1
 by_cases h2:i<m
 ·exact hx i j hi h2 (by omega) hj
 ·exact h' i j (by omega) hij hj
theorem lt_le (hS:SWO lt) {x y z:α} (h1:lt x y=true) (h2:lt z y=false):lt x z=true:=by
 cases h:lt x z with
 | true=>rfl
 | false =>
  have:=hS.ntrans x z y h h2
  rw [h1] at this
  cases this
theorem le_lt (hS:SWO lt) {x y z:α} (h1:lt y x=false) (h2:lt y z=true):lt x z=true:=by
 cases h:lt x z with
 | true=>rfl
 | false =>
  have:=hS.ntrans y x z h1 h
  rw [h2] at this
  cases this
theorem merged_of (hS:SWO lt) {s e:Nat} {c1 c2:Array α} (h1:a<=s) (h2:s<=m) (h3:m<=e) (h4:e<=b)
  (hA:SortedIn lt a m d) (hB:SortedIn lt m b d)
  (hX:∀ i j,a<=i->i<s->e<=j->j<b->lt d[j]! d[i]! = false)
  (hL:∀ i j,s<=i->i<m->m<=j->j<e->lt d[j]! d[i]! = true)
  (hr:Rot s m e d c) (hl:Merged lt a (s+(e - m)) c c1) (hh:Merged lt (s+(e - m)) b c1 c2):Merged lt a b d c2:=by
 have hR:=hr.stab hS h2 h3 hL
 refine ⟨(hR.mono h1 (by omega) h4).trans ((hl.1.mono (Nat.le_refl _) (by omega) (by omega)).trans (hh.1.mono (by omega) (by omega) (Nat.le_refl _))),?_⟩
 have low:∀ i,a<=i->i<s+(e - m)->∃ j,((a<=j/\j<s)\/(m<=j/\j<e))/\c2[i]! = d[j]!:=λi i1 i2=>by
  rw [hh.1.out i (by omega)]
  obtain ⟨j,j1,j2,ej⟩:=hl.1.mem hS i1 i2
  rw [ej,hr.2]
  by_cases hj:j<s
  ·exact ⟨j,.inl ⟨j1,hj⟩,by rw [if_neg (by omega),if_neg (by omega)]⟩
  ·exact ⟨j+(m - s),.inr ⟨by omega,by omega⟩,by rw [if_pos (by omega)]⟩
 have high:∀ i,s+(e - m)<=i->i<b->∃ j,((s<=j/\j<m)\/(e<=j/\j<b))/\c2[i]! = d[j]!:=λi i1 i2=>by
  obtain ⟨j,j1,j2,ej⟩:=hh.1.mem hS i1 i2
  rw [ej,hl.1.out j (by omega),hr.2,if_neg (by omega)]
  by_cases hj:j<e
  ·exact ⟨j - (e - m),.inl ⟨by omega,by omega⟩,by rw [if_pos (by omega)]⟩
  ·exact ⟨j,.inr ⟨by omega,by omega⟩,by rw [if_neg (by omega)]⟩
 refine SortedIn.join (m:=s+(e - m)) (SortedIn.same hl.2 λt t1 t2=>hh.1.out t (by omega)) hh.2 λi j i1 i2 j1 j2=>?_
 obtain ⟨x,hx,ex⟩:=low i i1 i2
 obtain ⟨y,hy,ey⟩:=high j j1 j2
 rw [ex,ey]
 rcases hx with hx|hx<;>rcases hy with hy|hy
 ·exact SortedIn.le hS hA hx.1 (by omega) hy.2
 ·exact hX x y hx.1 hx.2 hy.1 hy.2
 ·exact hS.asymmA (hL y x hy.1 hy.2 hx.1 hx.2)
 ·exact SortedIn.le hS hB hx.1 (by omega) hy.2
theorem merged_sorted (h:SortedIn lt a b d):Merged lt a b d d:=⟨StabIn.refl a b d,h⟩
theorem merged_first (hS:SWO lt) {i:Nat} (h0:a<b) (hB:SortedIn lt (a+1) b d) (h1:a+1<=i) (h2:i<=b)
  (hlo:∀ t,a+1<=t->t<i->lt d[t]! d[a]! = true) (hhi:∀ t,i<=t->t<b->lt d[t]! d[a]! = false) (hr:Rot a (a+1) i d c):Merged lt a b d c:=by
 refine merged_of hS (s:=a) (m:=a+1) (e:=i) (Nat.le_refl a) (by omega) h1 h2 (λx y hx hxy hy=>by omega) hB (λx y hx hx'=>by omega) (λx y hx hx' hy hy'=>?_) hr (merged_sorted ?_) (merged_sorted ?_)
 ·obtain rfl:x=a:=by omega
  exact hlo y hy hy'
 ·intro x y hx hxy hy
  rw [hr.2,hr.2,if_pos (by omega),if_pos (by omega)]
  exact hB _ _ (by omega) (by omega) (by omega)
 ·intro x y hx hxy hy
  by_cases hxi:x<i
  ·rw [hr.2,hr.2,if_neg (by omega),if_neg (by omega),if_neg (by omega),if_pos (by omega)]
   rw [show x - (i - (a+1))=a by omega]
   exact hhi y (by omega) hy
  ·rw [hr.2,hr.2,if_neg (by omega),if_neg (by omega),if_neg (by omega),if_neg (by omega)]
   exact hB _ _ (by omega) hxy hy
theorem merged_last (hS:SWO lt) {i:Nat} (hA:SortedIn lt a m d) (h1:a<=i) (h2:i<=m)
  (hlo:∀ t,a<=t->t<i->lt d[m]! d[t]! = false) (hhi:∀ t,i<=t->t<m->lt d[m]! d[t]! = true) (hr:Rot i m (m+1) d c):Merged lt a (m+1) d c:=by
 refine merged_of hS (s:=i) (m:=m) (e:=m+1) h1 h2 (by omega) (Nat.le_refl _) hA (λx y hx hxy hy=>by omega) (λx y hx hx' hy hy'=>by omega) (λx y hx hx' hy hy'=>?_) hr (merged_sorted ?_) (merged_sorted ?_)
 ·obtain rfl:y=m:=by omega
  exact hhi x hx hx'
 ·intro x y hx hxy hy
  by_cases hyi:y<i
  ·rw [hr.2,hr.2,if_neg (by omega),if_neg (by omega),if_neg (by omega),if_neg (by omega)]
   exact hA _ _ hx hxy (by omega)
  ·rw [hr.2,hr.2,if_pos (by omega),if_neg (by omega),if_neg (by omega),show y+(m - i)=m by omega]
   exact hlo x hx (by omega)
 ·intro x y hx hxy hy
  rw [hr.2,hr.2,if_neg (by omega),if_pos (by omega),if_neg (by omega),if_pos (by omega)]
  exact hA _ _ (by omega) (by omega) (by omega)
def lo (a m b:Nat):Nat:=if m > (a+b) / 2 then(a+b) / 2+m - b else a
def hi (a m b:Nat):Nat:=if m > (a+b) / 2 then(a+b) / 2 else m
theorem place (hA:SortedIn lt a m d) (hB:SortedIn lt m b d) (hS:SWO lt) (h1:a<m) (h2:m<b) {x y:Nat} (hx:lo a m b<=x) (hxy:x<=y) (hy:y<hi a m b)
  (h:lt d[(a+b) / 2+m - 1 - x]! d[x]! = true):lt d[(a+b) / 2+m - 1 - y]! d[y]! = true:=by
 by_cases hm:m > (a+b) / 2
 all_goals
  simp only [lo,hi,hm,↓reduceIte] at hx hy
  have e1:lt d[y]! d[x]! = false:=SortedIn.le hS hA (by omega) hxy (by omega)
  have e2:lt d[(a+b) / 2+m - 1 - x]! d[(a+b) / 2+m - 1 - y]! = false:=SortedIn.le hS hB (by omega) (by omega) (by omega)
  exact le_lt hS e2 (lt_le hS h e1)
theorem place_rows (hA:SortedIn lt a m d) (hB:SortedIn lt m b d) (hS:SWO lt) (h1:a<m) (h2:m<b) {s:Nat} (hs1:lo a m b<=s) (hs2:s<=hi a m b)
  (hlo:∀ t,lo a m b<=t->t<s->lt d[(a+b) / 2+m - 1 - t]! d[t]! = false) (hhi:∀ t,s<=t->t<hi a m b->lt d[(a+b) / 2+m - 1 - t]! d[t]! = true) :
  (a<=s/\s<=m/\m<=(a+b) / 2+m - s/\(a+b) / 2+m - s<=b/\s+((a+b) / 2+m - s - m)=(a+b) / 2) /\
  (∀ i j,a<=i->i<s->(a+b) / 2+m - s<=j->j<b->lt d[j]! d[i]! = false) /\
  (∀ i j,s<=i->i<m->m<=j->j<(a+b) / 2+m - s->lt d[j]! d[i]! = true):=by
 by_cases hm:m > (a+b) / 2
 all_goals
  simp only [lo,hi,hm,↓reduceIte] at hs1 hs2 hlo hhi
  refine ⟨by omega,λi j i1 i2 j1 j2=>?_,λi j i1 i2 j1 j2=>?_⟩
  ·have h:=hlo (s - 1) (by omega) (by omega)
   have e1:lt d[s - 1]! d[i]! = false:=SortedIn.le hS hA i1 (by omega) (by omega)
   have e2:lt d[j]! d[(a+b) / 2+m - 1 - (s - 1)]! = false:=SortedIn.le hS hB (by omega) (by omega) j2
   exact hS.ntrans _ _ _ e2 (hS.ntrans _ _ _ h e1)
  ·have h:=hhi s (Nat.le_refl s) (by omega)
   have e1:lt d[i]! d[s]! = false:=SortedIn.le hS hA (by omega) i1 i2
   have e2:lt d[(a+b) / 2+m - 1 - s]! d[j]! = false:=SortedIn.le hS hB j1 (by omega) (by omega)
   exact le_lt hS e2 (lt_le hS h e1)
theorem sorted_once (hS:SWO lt):∀ (A B:List α),A.Pairwise (λx y=>lt y x=false)->B.Pairwise (λx y=>lt y x=false)->(∀ z,A.filter (eqv lt z)=B.filter (eqv lt z))->A=B
 | [],[],_,_,_=>rfl
 | [],y :: B,_,_,h=>by
  have:=h y
  rw [List.filter_cons,if_pos (eqv_self hS y)] at this
  cases this
 | x :: A,[],_,_,h=>by
  have:=h x
  rw [List.filter_cons,if_pos (eqv_self hS x)] at this
  cases this
 | x :: A,y :: B,hA,hB,h=>by
  have hA':=List.pairwise_cons.mp hA
  have hB':=List.pairwise_cons.mp hB
  have m1:x ∈ y :: B:=by
   have:x ∈ (x :: A).filter (eqv lt x):=List.mem_filter.mpr ⟨List.mem_cons_self,eqv_self hS x⟩
   rw [h] at this
   exact(List.mem_filter.mp this).1
  have m2:y ∈ x :: A:=by
   have:y ∈ (y :: B).filter (eqv lt y):=List.mem_filter.mpr ⟨List.mem_cons_self,eqv_self hS y⟩
   rw [<-h] at this
   exact(List.mem_filter.mp this).1
  have e1:lt x y=false:=by
   rcases List.mem_cons.mp m1 with rfl|m1
   ·exact hS.irrefl _
   ·exact hB'.1 x m1
  have e2:lt y x=false:=by
   rcases List.mem_cons.mp m2 with rfl|m2
   ·exact hS.irrefl _
   ·exact hA'.1 y m2
  have hxy:x=y:=by
   have:=h x
   rw [List.filter_cons,if_pos (eqv_self hS x),List.filter_cons,if_pos (by unfold eqv;rw [e1,e2];rfl)] at this
   exact(List.cons.inj this).1
  subst hxy
  rw [sorted_once hS A B hA'.2 hB'.2 λz=>?_]
  have:=h z
  rw [List.filter_cons,List.filter_cons] at this
  split at this
  ·exact(List.cons.inj this).2
  ·exact this
theorem seg_sorted (h:SortedIn lt a b d):(seg d a (b - a)).Pairwise (λx y=>lt y x=false):=by
 unfold seg
 rw [List.pairwise_map]
 refine List.Pairwise.imp_of_mem ?_ (List.pairwise_lt_range' (s:=a) (n:=b - a) (step:=1) (by omega))
 intro i j hi hj hij
 rw [List.mem_range'_1] at hi hj
 exact h i j hi.1 hij (by omega)
def insL (lt:α->α->Bool) (x:α):List α->List α
 | []=>[x]
 | y :: ys=>if lt x y=true then x :: y :: ys else y :: insL lt x ys
def ordL (lt:α->α->Bool) (l:List α):List α:=l.foldl (λacc x=>insL lt x acc) []
theorem insL_mem {x z:α}:∀ {ys:List α},z ∈ insL lt x ys->z=x\/z ∈ ys
 | [],h=>.inl (List.mem_singleton.mp h)
 | y :: ys,h=>by
  unfold insL at h
  split at h
  ·rcases List.mem_cons.mp h with h|h
   ·exact .inl h
   ·exact .inr h
  ·rcases List.mem_cons.mp h with h|h
   ·exact .inr (h ▸ List.mem_cons_self)
   ·rcases insL_mem h with h|h
    ·exact .inl h
    ·exact .inr (List.mem_cons_of_mem _ h)
theorem insL_sorted (hS:SWO lt) (x:α):∀ (ys:List α),ys.Pairwise (λx y=>lt y x=false)->(insL lt x ys).Pairwise (λx y=>lt y x=false)
 | [],_=>by unfold insL;exact List.pairwise_singleton _ _
 | y :: ys,h=>by
  have h':=List.pairwise_cons.mp h
  unfold insL
  split
  ·rename_i hxy
   refine List.pairwise_cons.mpr ⟨λz hz=>?_,h⟩
   rcases List.mem_cons.mp hz with rfl|hz
   ·exact hS.asymmA hxy
   ·exact hS.asymmA (lt_le hS hxy (h'.1 z hz))
  ·rename_i hxy
   refine List.pairwise_cons.mpr ⟨λz hz=>?_,insL_sorted hS x ys h'.2⟩
   rcases insL_mem hz with rfl|hz
   ·simpa using hxy
   ·exact h'.1 z hz
theorem insL_filter (hS:SWO lt) (x z:α):∀ (ys:List α),ys.Pairwise (λx y=>lt y x=false)->(insL lt x ys).filter (eqv lt z)=(ys++[x]).filter (eqv lt z)
 | [],_=>rfl
 | y :: ys,h=>by
  have h':=List.pairwise_cons.mp h
  unfold insL
  split
  ·rename_i hxy
   exact stab_turn hS (L:=y :: ys) (R:=[x]) (λa ha b hb=>by
    rw [List.mem_singleton.mp hb]
    rcases List.mem_cons.mp ha with rfl|ha
    ·exact hxy
    ·exact lt_le hS hxy (h'.1 a ha)) z
  ·rw [List.cons_append,List.filter_cons,List.filter_cons,insL_filter hS x z ys h'.2]
theorem ordL_spec (hS:SWO lt):∀ (l acc:List α),acc.Pairwise (λx y=>lt y x=false)->(l.foldl (λacc x=>insL lt x acc) acc).Pairwise (λx y=>lt y x=false)/\∀ z,(l.foldl (λacc x=>insL lt x acc) acc).filter (eqv lt z)=(acc++l).filter (eqv lt z)
 | [],acc,h=>⟨h,λz=>by rw [List.append_nil];rfl⟩
 | x :: l,acc,h=>by
  have ih:=ordL_spec hS l (insL lt x acc) (insL_sorted hS x acc h)
  refine ⟨ih.1,λz=>?_⟩
  rw [List.foldl_cons,ih.2 z,List.filter_append,insL_filter hS x z acc h,List.filter_append,List.filter_append,List.append_assoc,<-List.filter_append]
  rfl
theorem ordL_sorted (hS:SWO lt) (l:List α):(ordL lt l).Pairwise (λx y=>lt y x=false):=(ordL_spec hS l [] List.Pairwise.nil).1
theorem ordL_filter (hS:SWO lt) (l:List α) (z:α):(ordL lt l).filter (eqv lt z)=l.filter (eqv lt z):=(ordL_spec hS l [] List.Pairwise.nil).2 z
theorem eqv_same (hS:SWO lt) {x z:α} (h:eqv lt z x=true) (y:α):eqv lt z y=eqv lt x y:=by
 have h1:lt z x=false/\lt x z=false:=by
  unfold eqv at h
  simpa using h
 have e:∀ p q:α,lt p q=false->lt q p=false->∀ y,eqv lt p y=true->eqv lt q y=true:=λp q hpq hqp y hy=>by
  unfold eqv at hy ⊢
  simp only [Bool.and_eq_true,Bool.not_eq_true'] at hy ⊢
  exact ⟨hS.ntrans q p y hqp hy.1,hS.ntrans y p q hy.2 hpq⟩
 cases h2:eqv lt z y with
 | true=>rw [e z x h1.1 h1.2 y h2]
 | false =>
  cases h3:eqv lt x y with
  | false=>rfl
  | true =>
   rw [e x z h1.2 h1.1 y h3] at h2
   cases h2
theorem merged_map {β:Type} [Inhabited β] {ltb:β->β->Bool} {d d':Array β} {n:Nat} (f:β->α) (hlt:∀ i j,ltb i j=lt (f i) (f j)) (hS:SWO lt) (hSb:SWO ltb) (h:Merged ltb 0 n d d') :
  (seg d' 0 n).map f=ordL lt ((seg d 0 n).map f):=by
 have hs:=seg_sorted h.2
 rw [Nat.sub_zero] at hs
 refine sorted_once hS _ _ ?_ (ordL_sorted hS _) λz=>?_
 ·rw [List.pairwise_map]
  exact hs.imp λ{i j} hij=>by rw [<-hlt];exact hij
 ·rw [ordL_filter hS,List.filter_map,List.filter_map]
  congr 1
  by_cases he:∃ i,i ∈ seg d 0 n/\eqv lt z (f i)=true
  ·obtain ⟨i,hi,hz⟩:=he
   have hp:(eqv lt z ∘ f)=eqv ltb i:=by
    funext j
    show eqv lt z (f j)=_
    rw [eqv_same hS hz]
    unfold eqv
    rw [hlt,hlt]
   have h3:=h.1.stab i
   rw [Nat.sub_zero] at h3
   rw [hp,h3]
  ·have h0:∀ i,i ∈ seg d 0 n->¬ (eqv lt z ∘ f) i=true:=λi hi hz=>he ⟨i,hi,hz⟩
   rw [List.filter_eq_nil_iff.mpr h0,List.filter_eq_nil_iff.mpr λi hi=>?_]
   obtain ⟨t,t1,t2,rfl⟩:=seg_mem.mp hi
   obtain ⟨j,j1,j2,ej⟩:=h.1.mem hSb (i:=t) t1 (by omega)
   rw [ej]
   exact h0 _ (seg_mem.mpr ⟨j,j1,by omega,rfl⟩)
end
end Go.Proofs.Ytfhamdobagjakaa.Srt
/- a part -/
namespace Go.Proofs.Ytfhamdobagjakaa.Srt
open Go.Shelf Go.RowKit Go.Lib Go.Sort
set_option linter.unusedVariables false
set_option linter.unusedSimpArgs false
set_option linter.unusedSectionVars false
section
variable {α : Type} [Inhabited α] {P : Program} {enc : α -> List Value} {k : Nat} {w0 W W' : World} {blk off : Nat} {dk d0 : Array α}
structure SWB (enc:α->List Value) (k:Nat) (w0:World) (blk off:Nat) (dk:Array α) (W:World):Prop where
 b:Below w0.heap.size (putRowK enc k w0 blk off dk) W
theorem SWB.le (h:SWB enc k w0 blk off dk W):w0.heap.size<=W.heap.size:=by
 have:=h.b.size
 rw [size_putRowK] at this
 exact this
theorem SWB.start (h:HoldsK enc k w0 blk off dk):SWB enc k w0 blk off dk w0:=⟨by rw [putRowK_self enc k w0 blk off dk h];exact Below.refl _ _⟩
theorem SWB.below (h:SWB enc k w0 blk off dk W) (hb:Below W.heap.size W W'):SWB enc k w0 blk off dk W':=⟨h.b.trans (hb.mono h.le)⟩
theorem SWB.drew (h:SWB enc k w0 blk off dk W):SWB enc k w0 blk off dk W.drew:=⟨h.b.drew⟩
theorem SWB.holds (h:SWB enc k w0 blk off dk W) (R:RowK enc k w0 blk off d0) (hs:dk.size=d0.size):HoldsK enc k W blk off dk:=by
 have h0:=holdsK_putRowK enc k w0 blk off d0 dk R.hH hs
 intro j hj
 have h1:=h0 j hj
 exact ⟨(h.b.cell (p:=⟨blk,off+j,none⟩) R.hblk).trans h1.1,(h.b.frozen (p:=⟨blk,off+j,none⟩) R.hblk).trans h1.2⟩
theorem SWB.load (h:SWB enc k w0 blk off dk W) (R:RowK enc k w0 blk off d0) (hs:dk.size=d0.size) (P:Program) (i:Nat) (hi:i<dk.size) :
  Sem.run P (loadCellsFrom ⟨blk,off+i*k,none⟩ 0 k #[]) W = .ok (enc dk[i]!).toArray W :=
 run_loadCellsFrom_list P _ _ _ k (R.hk _) (HoldsK.cells (h.holds R hs) R.hk hi)
theorem SWB.ld1 (h:SWB enc k w0 blk off dk W) (R:RowK enc k w0 blk off d0) (hs:dk.size=d0.size) (P:Program) (i:Nat) (hi:i<dk.size) :
 Sem.run P (loadCellsFrom ⟨blk,off+i*k,none⟩ 0 k #[]) W.drew = .ok (enc dk[i]!).toArray W.drew:=h.drew.load R hs P i hi
theorem SWB.st1 (h:SWB enc k w0 blk off dk W) (R:RowK enc k w0 blk off d0) (hs:dk.size=d0.size) (P:Program) (i:Nat) (hi:i<dk.size) (y:α) :
  Sem.run P (storeCells ⟨blk,off+i*k,none⟩ (enc y) 0) W.drew = .ok () (W.drew.setCells blk (off+i*k) (enc y)) :=
 stores_of_holds P (h.drew.holds R hs) (i*k) _ (by rw [R.hk,size_flatK];exact rowK_bnd dk k i hi) (R.h1 _)
theorem SWB.st2 (h:SWB enc k w0 blk off dk W) (R:RowK enc k w0 blk off d0) (hs:dk.size=d0.size) (P:Program) (i j:Nat) (hi:i<dk.size) (hj:j<dk.size) (y x:α) :
  Sem.run P (storeCells ⟨blk,off+j*k,none⟩ (enc x) 0) (W.drew.setCells blk (off+i*k) (enc y)) = .ok () ((W.drew.setCells blk (off+i*k) (enc y)).setCells blk (off+j*k) (enc x)) :=
 stores_of_holds P (holds_setCells_c (h.drew.holds R hs) (i*k) _ (by rw [R.hk,size_flatK];exact rowK_bnd dk k i hi)) (j*k) _ (by rw [R.hk,size_setMany,size_flatK];exact rowK_bnd dk k j hj) (R.h1 _)
theorem below_setCell2 {B:Nat} {a b:World} (h:Below B a b) (x:Addr) (v:Value):Below B (a.setCell x v) (b.setCell x v):=by
 refine ⟨h.os,h.tape,h.output,by simp only [World.setCell,Array.size_modify];exact h.size,λj hj=>?_⟩
 simp only [World.setCell,Array.getElem?_modify,h.block j hj]
theorem below_setCells2 {B:Nat} (blk:Nat):∀ (vs:List Value) (o:Nat) {a b:World},Below B a b->Below B (a.setCells blk o vs) (b.setCells blk o vs)
 | [],_,_,_,h=>h
 | v :: r,o,_,_,h=>below_setCells2 blk r (o+1) (below_setCell2 h _ v)
theorem SWB.swapped (h:SWB enc k w0 blk off dk W) (R:RowK enc k w0 blk off d0) (i j:Nat) (hi:i<dk.size) (hj:j<dk.size) :
  SWB enc k w0 blk off (swp dk i j) ((W.drew.setCells blk (off+i*k) (enc dk[j]!)).setCells blk (off+j*k) (enc dk[i]!)):=by
 refine ⟨?_⟩
 rw [<-putRowK_swp enc k R.hk w0 blk off dk i j hi hj]
 exact below_setCells2 blk _ _ (below_setCells2 blk _ _ h.drew.b)
structure SomeW (enc:α->List Value) (k:Nat) (w0:World) (blk off:Nat) (dk:Array α) where
 w:World
 h:SWB enc k w0 blk off dk w
theorem wp_region_some {id:Nat} {Q:Exit->Act->World->Prop} {a:Act} {l:List Oper} (hm:P.follows .mixedOrders=true) (hB:Region.lexB .any l.toArray=true) (S:SWB enc k w0 blk off dk W)
  (h:wpQuiet P l.toArray (λw'=>∃ p:SomeW enc k w0 blk off dk,w'=p.w) (λa'=>∀ w',(∃ p:SomeW enc k w0 blk off dk,w'=p.w)->Q .normal a' w') l a):(Code.region id l.toArray true).wp P Q a W :=
 wp_region_quiet (C:=λw'=>∃ p:SomeW enc k w0 blk off dk,w'=p.w) hm hB ⟨⟨W.drew,S.drew⟩,rfl⟩ (by simpa using h)
def CmpB (P:Program) (g:Nat) (cb:Array Value) (enc:α->List Value) (k:Nat) (cf:α->α->Int) (blk off size:Nat) (w0:World):Prop :=
 ∀ (dk:Array α) (W:World),dk.size=size->SWB enc k w0 blk off dk W->∀ x y:α,
  Calls P g (#[.agg (enc x).toArray,.agg (enc y).toArray]++cb) W λe w'=>e = .returned (.int .i64 (cf x y))/\Below W.heap.size W w'
theorem CmpB.at {g:Nat} {cb:Array Value} {cf:α->α->Int} {size:Nat} (hC:CmpB P g cb enc k cf blk off size w0) (hs:dk.size=size) (x y:α) (p:SomeW enc k w0 blk off dk) :
  Calls P g (#[.agg (enc x).toArray,.agg (enc y).toArray]++cb) p.w λe w'=>e = .returned (.int .i64 (cf x y))/\∃ q:SomeW enc k w0 blk off dk,w'=q.w :=
 (hC dk p.w hs p.h x y).mono λe w' ⟨h1,h2⟩=>⟨h1,⟨w',p.h.below h2⟩,rfl⟩
end
end Go.Proofs.Ytfhamdobagjakaa.Srt
