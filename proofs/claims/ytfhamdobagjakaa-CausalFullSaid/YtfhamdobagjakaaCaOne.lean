/- a part -/
import Derived.Test.YtfhamdobagjakaaCaNew
namespace Go.Proofs.Ytfhamdobagjakaa.Cau
open Go.RowKit Go.Proofs.YtfhamdobagjakaaW.PrintWords Go.Proofs.YtfhamdobagjakaaW.PrintLast Go.Proofs.YtfhamdobagjakaaW.PrintMore Go.Proofs.Ytfhamdobagjakaa.Hand Go.Proofs.Ytfhamdobagjakaa.Cards Go.Proofs.Ytfhamdobagjakaa.PCa Go.Proofs.Ytfhamdobagjakaa.DotMap
set_option linter.unusedVariables false
set_option linter.unusedSimpArgs false
def effK:S111:=⟨1,0,(⟨#[107]⟩:ByteArray),0,0,(⟨#[]⟩:ByteArray)⟩
def oneE (s:Int):Ev:=⟨⟨1,s⟩,if s=1 then [] else [s - 1],[effK]⟩
theorem wrap_small {n:Int} (h0:-1000000<=n) (h1:n<=1000000):wrap64 n=n:=by unfold wrap64;omega
theorem one_f {s:Int} (h1:1<=s) (h2:s<=1000):w26_one.f s=some (1,s,(oneE s).f1,(oneE s).f2):=by
 unfold w26_one.f oneE
 by_cases h:s=1
 ·rw [if_pos h,if_pos h];rfl
 ·rw [if_neg h,if_neg h,wrap_small (by omega) (by omega)];rfl
theorem okC_one {n:Int} (h0:0<=n) (h1:n<=1000):ClockBase.okC [n]=true:=by
 unfold ClockBase.okC ClockBase.bad
 simp
 omega
theorem ofL_one {n:Int} (h0:0<=n) (h1:n<=1000):ClockBase.ofL [n]=[n,0,0,0,0]:=by
 unfold ClockBase.ofL
 rw [if_pos (okC_one h0 h1)]
 rfl
theorem ofL_nil:ClockBase.ofL []=[0,0,0,0,0]:=by decide
theorem trim_one {n:Int} (h0:1<=n):ClockBase.trim [n,0,0,0,0]=[n]:=by
 have:n≠0:=by omega
 simp [ClockBase.trim,ClockBase.upto0,this]
theorem getS_one {n:Int} (h0:0<=n) (h1:n<=1000):ClockBase.getS [n] 1=n:=by
 unfold ClockBase.getS
 rw [if_pos (by decide),ofL_one h0 h1]
 rfl
theorem getS_nil:ClockBase.getS [] 1=0:=by decide
theorem setS_one {n s:Int} (h0:0<=n) (h1:n<=1000) (hs:1<=s):ClockBase.setS [n] 1 s=[s]:=by
 unfold ClockBase.setS
 rw [ofL_one h0 h1]
 exact trim_one hs
theorem setS_nil {s:Int} (hs:1<=s):ClockBase.setS [] 1 s=[s]:=by
 unfold ClockBase.setS
 rw [ofL_nil]
 exact trim_one hs
theorem any_k:event_Check.any 100 [effK]=some false:=by kernel_rfl
theorem check_one {s:Int} (h1:1<=s) (h2:s<=1000):event_Check.f 100 (oneE s).f0.f0 (oneE s).f0.f1 (oneE s).f1 (oneE s).f2=some 0:=by
 unfold event_Check.f dots_May.f oneE
 simp only
 rw [if_pos (by decide),if_pos (by decide),if_pos h1,decide_eq_true (by omega)]
 simp only [Option.bind_some,if_true]
 by_cases h:s=1
 ·subst h
  rw [if_pos rfl,if_pos (by decide),if_pos (by decide),if_pos (by rw [getS_nil,wrap_small (by omega) (by omega)];rfl)]
  simp only [List.length_singleton]
  rw [if_neg (by decide),if_neg (by decide),any_k]
  rfl
 ·rw [if_neg h,if_pos (okC_one (by omega) (by omega)),ofL_one (by omega) (by omega),trim_one (by omega),if_pos rfl,getS_one (by omega) (by omega),wrap_small (by omega) (by omega),if_pos rfl]
  simp only [List.length_singleton]
  rw [if_neg (by decide),if_neg (by decide),any_k]
  rfl
theorem one_lens {s:Int}:(oneE s).f1.length<=1000/\(oneE s).f2.length<=100000:=by
 refine ⟨?_,by simp [oneE]⟩
 unfold oneE
 simp only
 split<;>simp
theorem one_set {s:Int} (h1:1<=s) (h2:s<=1000):ClockBase.setOk (oneE s).f0.f0 (oneE s).f0.f1=true:=by
 unfold ClockBase.setOk oneE
 simp
 omega
theorem can_nil {s:Int} (h1:2<=s) (h2:s<=1000):canB [] (oneE s)=false:=by
 have:ClockBase.withinS (oneE s).f1 []=false:=by
  unfold ClockBase.withinS oneE
  simp only
  rw [if_neg (by omega),ofL_one (by omega) (by omega),ofL_nil]
  simp [List.range_succ]
  omega
 unfold canB
 rw [this]
 rfl
theorem can_first:canB [] (oneE 1)=true:=by
 unfold canB
 rw [show ClockBase.withinS (oneE 1).f1 []=true by decide,if_pos rfl,show(oneE 1).f0.f0=1 from rfl,show(oneE 1).f0.f1=1 from rfl,getS_nil,wrap_small (by omega) (by omega)]
 rfl
theorem can_one {n s:Int} (hn0:1<=n) (hn:n<=500) (h1:2<=s) (h2:s<=500):canB [n] (oneE s)=true↔s=n+1:=by
 have hw:ClockBase.withinS (oneE s).f1 [n]=decide (s - 1<=n):=by
  unfold ClockBase.withinS oneE
  simp only
  rw [if_neg (by omega),ofL_one (by omega) (by omega),ofL_one (by omega) (by omega)]
  simp [List.range_succ]
 unfold canB
 rw [hw]
 have e1:(oneE s).f0.f1=s:=rfl
 have e0:(oneE s).f0.f0=1:=rfl
 rw [e1,e0,getS_one (by omega) (by omega),wrap_small (by omega) (by omega)]
 by_cases h:s - 1<=n
 ·rw [decide_eq_true h,if_pos rfl,beq_iff_eq]
 ·rw [decide_eq_false h,if_neg (by decide)]
  constructor
  ·intro hc;cases hc
  ·intro hc;omega
def ones (a:Int):Nat->List Ev
 | 0=>[]
 | n+1=>oneE a :: ones (a+1) n
theorem ones_len:∀ (n:Nat) (a:Int),(ones a n).length=n
 | 0,_=>rfl
 | n+1,a=>by rw [ones,List.length_cons,ones_len n]
theorem ones_mem:∀ (n:Nat) (a:Int) {y:Ev},y ∈ ones a n->∃ s,a<=s/\s<a+n/\y=oneE s
 | 0,_,_,h=>by cases h
 | n+1,a,y,h=>by
  rcases List.mem_cons.1 h with rfl|h
  ·exact ⟨a,Int.le_refl _,by omega,rfl⟩
  ·obtain ⟨s,h1,h2,rfl⟩:=ones_mem n (a+1) h
   exact ⟨s,by omega,by omega,rfl⟩
theorem ones_snoc:∀ (n:Nat) (a:Int),ones a n++[oneE (a+n)]=ones a (n+1)
 | 0,a=>by simp [ones]
 | n+1,a=>by
  have h:=ones_snoc n (a+1)
  rw [show a+1+(n:Int)=a+((n+1:Nat):Int) by omega] at h
  rw [ones,List.cons_append,h]
  rfl
theorem ones_in {n:Nat} {a s:Int} (h1:a<=s) (h2:s<a+n):oneE s ∈ ones a n:=by
 induction n generalizing a with
 | zero=>omega
 | succ n ih =>
  by_cases h:s=a
  ·rw [h];exact List.mem_cons_self ..
  ·exact List.mem_cons_of_mem _ (ih (by omega) (by omega))
theorem dot_one (s:Int):dotE (oneE s)=(1,s):=rfl
theorem known_ones {n:Nat} {s:Int} {es:List En} (he:es.map (·.x)=ones 2 n) (h1:1<=s):knownB [] es (oneE s)=decide (2<=s/\s<2+n):=by
 unfold knownB waitB
 rw [find_some]
 have hm:((dotE (oneE s)) ∈ es.map λe=>dotE e.x)↔(2<=s/\s<2+n):=by
  rw [show(es.map λe=>dotE e.x)=(es.map (·.x)).map dotE by rw [List.map_map];rfl,he]
  constructor
  ·intro h
   obtain ⟨y,hy,e⟩:=List.mem_map.1 h
   obtain ⟨t,h1,h2,rfl⟩:=ones_mem _ _ hy
   rw [dot_one,dot_one] at e
   injection e with _ e
   omega
  ·intro h
   exact List.mem_map.2 ⟨_,ones_in h.1 h.2,rfl⟩
 by_cases h:2<=s/\s<2+n
 ·rw [decide_eq_true (hm.2 h),if_pos rfl,decide_eq_true h]
 ·rw [decide_eq_false (λhc=>h (hm.1 hc)),if_neg (by decide),decide_eq_false h]
  have e1:(oneE s).f0.f1=s:=rfl
  have e0:(oneE s).f0.f0=1:=rfl
  rw [e1,e0,getS_nil]
  exact decide_eq_false (by omega)
theorem next_ones {n:Nat} {a:Int} (ha:1<=a) (hb:a+n<=400):nextS [a] (ones (a+1) (n+1))=some (oneE (a+1)):=by
 unfold nextS
 cases h:(Srt.ordL event_Order.lt (ones (a+1) (n+1))).find? (canB [a]) with
 | none =>
  have h1:=List.find?_eq_none.1 h (oneE (a+1)) ((ordL_perm _).mem_iff.2 (List.mem_cons_self ..))
  exact absurd ((can_one ha (by omega) (by omega) (by omega)).2 rfl) h1
 | some y =>
  have hm:=(ordL_perm _).mem_iff.1 (List.mem_of_find?_eq_some h)
  have hp:=List.find?_some h
  obtain ⟨s,h1,h2,rfl⟩:=ones_mem _ _ hm
  rw [(can_one ha (by omega) (by omega) (by omega)).1 hp]
theorem gone_ones {n:Nat} {a:Int}:goneS (dotE (oneE a)) (ones a (n+1))=ones (a+1) n:=by
 unfold goneS
 rw [ones,List.filter_cons_of_neg (by simp),List.filter_eq_self.2]
 intro y hy
 obtain ⟨s,h1,h2,rfl⟩:=ones_mem _ _ hy
 refine decide_eq_true (λe=>?_)
 rw [dot_one,dot_one] at e
 injection e with _ e
 omega
theorem run_ones:∀ (n m:Nat) (a:Int),1<=a->a+n<=400->n<=m->runS m [a] (ones (a+1) n)=(ones (a+1) n,[a+n],[])
 | 0,m,a,ha,hb,hm=>by
  rw [runS_none (by rfl)]
  simp [ones]
 | n+1,m,a,ha,hb,hm=>by
  rw [runS_some (by rw [ones_len];omega) (next_ones ha (by omega))]
  have e1:(oneE (a+1)).f0.f1=a+1:=rfl
  have e0:(oneE (a+1)).f0.f0=1:=rfl
  rw [gone_ones,e1,e0,setS_one (by omega) (by omega) (by omega),run_ones n m (a+1) (by omega) (by omega) (by omega)]
  simp only [ones,Prod.mk.injEq,true_and,and_true,List.cons.injEq]
  omega
end Go.Proofs.Ytfhamdobagjakaa.Cau
