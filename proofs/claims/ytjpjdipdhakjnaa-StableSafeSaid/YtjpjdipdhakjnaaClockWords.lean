/- a part -/
import Derived.Test.YtjpjdipdhakjnaaClockJoin
namespace Go.Proofs.Ytjpjdipdhakjnaa.ClockBase
set_option linter.unusedVariables false
set_option linter.unusedSimpArgs false
def GoodC (f:List Int):Prop:=f.length=5/\∀ n ∈ f,0<=n/\n<=1048576
theorem bad_not {n:Int}:bad n=false↔0<=n/\n<=1048576:=by
 unfold bad
 simp only [Bool.or_eq_false_iff,decide_eq_false_iff_not]
 omega
theorem okC_iff {l:List Int}:okC l=true↔l.length<=5/\∀ n ∈ l,0<=n/\n<=1048576:=by
 unfold okC
 simp only [Bool.and_eq_true,decide_eq_true_eq,Bool.not_eq_true',List.any_eq_false,Bool.not_eq_true,bad_not]
theorem good_of (l:List Int):GoodC (ofL l):=by
 refine ⟨ofL_length l,λn hn=>?_⟩
 unfold ofL at hn
 by_cases h:okC l=true
 ·rw [if_pos h] at hn
  rcases List.mem_append.1 hn with hn|hn
  ·exact(okC_iff.1 h).2 n hn
  ·rw [(List.mem_replicate.1 hn).2]
   omega
 ·rw [if_neg h] at hn
  rw [(List.mem_replicate.1 hn).2]
  omega
theorem ofL_good {f:List Int} (h:GoodC f):ofL f=f:=by
 have hk:okC f=true:=okC_iff.2 ⟨by have:=h.1;omega,h.2⟩
 unfold ofL
 rw [if_pos hk,h.1]
 simp
theorem okC_take {f:List Int} (h:GoodC f) (n:Nat):okC (f.take n)=true :=
 okC_iff.2 ⟨by have:=h.1;rw [List.length_take];omega,λx hx=>h.2 x (List.mem_of_mem_take hx)⟩
theorem upto0_le (f:List Int):∀ n,upto0 f n<=n
 | 0=>Nat.le_refl _
 | n+1=>by
  unfold upto0
  by_cases h:f.getD n 0=0
  ·rw [if_pos h]
   exact Nat.le_succ_of_le (upto0_le f n)
  ·rw [if_neg h]
   exact Nat.le_refl _
theorem upto0_app (f g:List Int):∀ n,n<=f.length->upto0 (f++g) n=upto0 f n
 | 0,_=>rfl
 | n+1,h=>by
  have e:(f++g).getD n 0=f.getD n 0:=by
   rw [List.getD_eq_getElem?_getD,List.getD_eq_getElem?_getD,List.getElem?_append_left (by omega)]
  unfold upto0
  rw [e,upto0_app f g n (by omega)]
theorem trim_snoc (f:List Int) (y:Int):trim (f++[y])=if y=0 then trim f else f++[y]:=by
 have e:(f++[y]).getD f.length 0=y:=by simp
 have hl:(f++[y]).length=f.length+1:=by simp
 unfold trim
 rw [hl]
 have hu:upto0 (f++[y]) (f.length+1)=if y=0 then upto0 (f++[y]) f.length else f.length+1:=by
  rw [upto0,e]
 rw [hu]
 by_cases h:y=0
 ·rw [if_pos h,if_pos h,upto0_app f [y] _ (Nat.le_refl _),List.take_append_of_le_length (upto0_le f _)]
 ·rw [if_neg h,if_neg h,<-hl,List.take_length]
theorem snoc_ind {α:Type} {P:List α->Prop} (nil:P []) (snoc:∀ l c,P l->P (l++[c])) (l:List α):P l:=by
 have h:∀ l:List α,P l.reverse:=λl=>by
  induction l with
  | nil=>exact nil
  | cons c l ih =>
   rw [List.reverse_cons]
   exact snoc _ _ ih
 simpa using h l.reverse
theorem trim_pad (f:List Int):trim f++List.replicate (f.length - (trim f).length) 0=f:=by
 induction f using snoc_ind with
 | nil=>rfl
 | snoc f y ih =>
  rw [trim_snoc]
  by_cases h:y=0
  ·subst h
   rw [if_pos rfl]
   have hle:(trim f).length<=f.length:=by
    unfold trim
    rw [List.length_take]
    exact Nat.min_le_right _ _
   have e:(f++[(0:Int)]).length - (trim f).length=(f.length - (trim f).length)+1:=by
    rw [List.length_append,List.length_singleton]
    omega
   rw [e,List.replicate_succ',<-List.append_assoc,ih]
  ·rw [if_neg h]
   simp
theorem trim_le (f:List Int):(trim f).length<=f.length:=by
 unfold trim
 rw [List.length_take]
 exact Nat.min_le_right _ _
theorem good_trim {f:List Int} (h:GoodC f):ofL (trim f)=f:=by
 have hk:okC (trim f)=true:=okC_take h _
 unfold ofL
 rw [if_pos hk]
 have:=trim_pad f
 rw [h.1] at this
 exact this
theorem ofL_plain (l:List Int):ofL (trim (ofL l))=ofL l:=good_trim (good_of l)
theorem zip5 {g:Int->Int->Int} {a b:List Int} (ha:a.length=5) (hb:b.length=5) (i:Nat) (hi:i<5):(List.zipWith g a b).getD i 0=g (a.getD i 0) (b.getD i 0):=by
 rw [List.getD_eq_getElem?_getD,List.getD_eq_getElem?_getD,List.getD_eq_getElem?_getD,List.getElem?_zipWith,List.getElem?_eq_getElem (by omega),List.getElem?_eq_getElem (by omega)]
 rfl
theorem good_zip {g:Int->Int->Int} (hg:∀ x y,0<=x->x<=1048576->0<=y->y<=1048576->0<=g x y/\g x y<=1048576) {a b:List Int} (ha:GoodC a) (hb:GoodC b):GoodC (List.zipWith g a b):=by
 refine ⟨by rw [List.length_zipWith,ha.1,hb.1];rfl,λn hn=>?_⟩
 obtain ⟨i,hi,rfl⟩:=List.mem_iff_getElem.1 hn
 rw [List.getElem_zipWith]
 rw [List.length_zipWith] at hi
 have h1:=ha.2 _ (List.getElem_mem (show i<a.length by omega))
 have h2:=hb.2 _ (List.getElem_mem (show i<b.length by omega))
 exact hg _ _ h1.1 h1.2 h2.1 h2.2
theorem good_ext {a b:List Int} (ha:a.length=5) (hb:b.length=5) (h:∀ i,i<5->a.getD i 0=b.getD i 0):a=b:=by
 refine List.ext_getElem (by omega) (λi h1 h2=>?_)
 have:=h i (by omega)
 rw [List.getD_eq_getElem?_getD,List.getD_eq_getElem?_getD,List.getElem?_eq_getElem h1,List.getElem?_eq_getElem h2] at this
 exact this
theorem good_at {a:List Int} (ha:GoodC a) (i:Nat):0<=a.getD i 0/\a.getD i 0<=1048576:=by
 rw [List.getD_eq_getElem?_getD]
 by_cases h:i<a.length
 ·rw [List.getElem?_eq_getElem h]
  exact ha.2 _ (List.getElem_mem h)
 ·rw [List.getElem?_eq_none (by omega)]
  exact ⟨Int.le_refl _,by decide⟩
theorem good_zeros:GoodC [0,0,0,0,0]:=⟨rfl,λn hn=>by simp at hn;omega⟩
theorem good_greater {a b:List Int} (ha:GoodC a) (hb:GoodC b):GoodC (List.zipWith greater a b):=good_zip (λx y _ _ _ _=>by unfold greater;split<;>omega) ha hb
theorem good_lesser {a b:List Int} (ha:GoodC a) (hb:GoodC b):GoodC (List.zipWith lesser a b):=good_zip (λx y _ _ _ _=>by unfold lesser;split<;>omega) ha hb
theorem good_join (ls:List (List Int)):GoodC (joinS ls):=by
 have h:∀ (ls:List (List Int)) (acc:List Int),GoodC acc->GoodC (ls.foldl (λacc c=>List.zipWith greater acc (ofL c)) acc):=by
  intro ls
  induction ls with
  | nil=>exact λ_ h=>h
  | cons c ls ih=>exact λacc h=>ih _ (good_greater h (good_of c))
 exact h ls _ good_zeros
theorem good_meet (a b:List Int):GoodC (meetS a b):=good_lesser (good_of a) (good_of b)
theorem greater_zero {b:List Int} (hb:GoodC b):List.zipWith greater [0,0,0,0,0] b=b :=
 good_ext (by rw [List.length_zipWith,hb.1];rfl) hb.1 (λi hi=>by
  rw [zip5 rfl hb.1 i hi]
  have h0:([0,0,0,0,0]:List Int).getD i 0=0:=by
   match i,hi with
   | 0,_=>rfl
   | 1,_=>rfl
   | 2,_=>rfl
   | 3,_=>rfl
   | 4,_=>rfl
  rw [h0]
  have:=good_at hb i
  unfold greater
  split<;>omega)
theorem join_two (a b:List Int):joinS [a,b]=List.zipWith greater (ofL a) (ofL b):=by
 show List.zipWith greater (List.zipWith greater [0,0,0,0,0] (ofL a)) (ofL b)=_
 rw [greater_zero (good_of a)]
def le5 (a b:List Int):Prop:=∀ i,i<5->a.getD i 0<=b.getD i 0
theorem withinS_iff (a b:List Int):withinS a b=true↔le5 (ofL a) (ofL b):=by
 unfold withinS le5
 simp
instance (a b:List Int):Decidable (le5 a b):=by unfold le5;infer_instance
end Go.Proofs.Ytjpjdipdhakjnaa.ClockBase
