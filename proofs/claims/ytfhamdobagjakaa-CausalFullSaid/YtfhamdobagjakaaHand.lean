/- a part -/
import Derived.StillTail
import Derived.Orders
import Derived.Test.YtfhamdobagjakaaWMore
namespace Go.Proofs.Ytfhamdobagjakaa.Cards
open Go Go.RowKit Go.Proofs.YtfhamdobagjakaaW.PrintWords Go.Proofs.YtfhamdobagjakaaW.PrintLast
set_option linter.unusedVariables false
set_option linter.unusedSimpArgs false
section
variable {P : Program} {ops : Array Oper}
def fill (p:Nat->Bool) (vs:Nat->Value):List Oper->Nat->Act->Act
 | [],_,a=>a
 | o :: l,k,a=>fill p vs l (k+1) (if p k then a.put o.dst (vs k) else a)
theorem fill_put (p:Nat->Bool) (vs:Nat->Value) (d:Option Tmp) (v:Value):∀ (l:List Oper) (k:Nat) (a:Act),
  (∀ j o,l[j]? = some o->p (k+j)=true->∀ t,d=some t->o.dst≠some t)->fill p vs l k (a.put d v)=(fill p vs l k a).put d v
 | [],_,_,_=>rfl
 | o :: l,k,a,h=>by
  have ih:=fill_put p vs d v l (k+1)
  simp only [fill]
  by_cases hp:p k=true
  ·simp only [hp,if_true]
   rw [Act.put_comm a v (vs k) (λt ht=>h 0 o (by simp) (by simpa using hp) t ht)]
   exact ih _ (λj o' ho' hpj t ht=>h (j+1) o' (by simpa using ho') (by rw [<-hpj];congr 1;omega) t ht)
  ·simp only [hp,Bool.false_eq_true,if_false]
   exact ih _ (λj o' ho' hpj t ht=>h (j+1) o' (by simpa using ho') (by rw [<-hpj];congr 1;omega) t ht)
theorem fill_congr (p q:Nat->Bool) (vs us:Nat->Value):∀ (l:List Oper) (k:Nat) (a:Act),
  (∀ j,j<l.length->p (k+j)=q (k+j)/\(p (k+j)=true->vs (k+j)=us (k+j)))->fill p vs l k a=fill q us l k a
 | [],_,_,_=>rfl
 | o :: l,k,a,h=>by
  have h0:=h 0 (by simp)
  simp only [Nat.add_zero] at h0
  have e:(if p k then a.put o.dst (vs k) else a)=(if q k then a.put o.dst (us k) else a):=by
   rw [<-h0.1]
   split
   ·rename_i hp;rw [h0.2 hp]
   ·rfl
  simp only [fill]
  rw [e]
  exact fill_congr p q vs us l (k+1) _ (λj hj=>by
   have:=h (j+1) (by simp;omega)
   rw [show k+(j+1)=k+1+j by omega] at this
   exact this)
theorem fill_set (p:Nat->Bool) (vs:Nat->Value) (i:Nat) (v:Value):∀ (l:List Oper) (k:Nat) (a:Act) (o:Oper),k<=i->l[i - k]? = some o->p i=false ->
  (∀ j o',l[j]? = some o'->k+j≠i->p (k+j)=true->∀ t,o.dst=some t->o'.dst≠some t) ->
  fill (λx=>x == i || p x) (λx=>if x=i then v else vs x) l k a=(fill p vs l k a).put o.dst v
 | [],k,a,o,_,h,_,_=>by simp at h
 | o0 :: l,k,a,o,hk,h,hp,hd=>by
  by_cases hi:k=i
  ·subst hi
   simp only [Nat.sub_self,List.getElem?_cons_zero,Option.some.injEq] at h
   subst h
   simp only [fill,BEq.rfl,Bool.true_or,if_true,hp,Bool.false_eq_true,if_false]
   rw [fill_put _ _ _ _ l (k+1) a (λj o' ho' hpj t ht=>hd (j+1) o' (by simpa using ho') (by omega) (by
    have hne:(k+1+j == k)=false:=by simp;omega
    simp only [hne,Bool.false_or] at hpj
    rw [<-hpj];congr 1;omega) t ht)]
   congr 1
   refine fill_congr _ _ _ _ l (k+1) a (λj hj=>⟨?_,λhq=>?_⟩)
   ·have hne:(k+1+j == k)=false:=by simp;omega
    simp [hne]
   ·rw [if_neg (by omega)]
  ·have hlt:k+1<=i:=by omega
   have h':l[i - (k+1)]? = some o:=by
    rw [show i - k=(i - (k+1))+1 by omega] at h
    simpa using h
   have e:(if (k == i || p k) then a.put o0.dst (if k=i then v else vs k) else a)=(if p k then a.put o0.dst (vs k) else a):=by
    have hne:(k == i)=false:=by simpa using hi
    simp only [hne,Bool.false_or,if_neg hi]
   simp only [fill]
   rw [e]
   exact fill_set p vs i v l (k+1) _ o hlt h' hp (λj o' ho' hne hpj t ht=>hd (j+1) o' (by simpa using ho') (by omega) (by rw [<-hpj];congr 1;omega) t ht)
theorem fill_eval (p q:Nat->Bool) (vs:Nat->Value) (x:Operand):∀ (l:List Oper) (k:Nat) (a b:Act),a.eval x=b.eval x ->
  (∀ j o,l[j]? = some o->p (k+j)≠q (k+j)->∀ t,o.dst=some t->x≠.tmp t)->(∀ t,x = .tmp t->a.tmps.size=b.tmps.size) ->
  (fill p vs l k a).eval x=(fill q vs l k b).eval x
 | [],_,_,_,h,_,_=>h
 | o :: l,k,a,b,h,hd,hs=>by
  simp only [fill]
  have hx:=λhne=>hd 0 o (by simp) (by simpa using hne)
  refine fill_eval p q vs x l (k+1) _ _ ?_ (λj o' ho' hne t ht=>hd (j+1) o' (by simpa using ho') (by rw [show k+(j+1)=k+1+j by omega];exact hne) t ht) ?_
  ·by_cases hpq:p k=q k
   ·rw [hpq]
    split
    ·cases hod:o.dst with
     | none=>exact h
     | some d =>
      cases x with
      | tmp t =>
       have hsz:=hs t rfl
       simp only [Act.eval,Act.put] at h ⊢
       by_cases hdt:d=t
       ·subst hdt
        simp only [Array.getD_eq_getD_getElem?] at h ⊢
        by_cases hlt:d<a.tmps.size
        ·simp [hlt,hsz ▸ hlt]
        ·have hlt':¬ d<b.tmps.size:=hsz ▸ hlt
         simp [hlt,hlt']
       ·simpa [Array.getD_eq_getD_getElem?,Array.getElem?_setIfInBounds_ne hdt] using h
      | _=>exact h
    ·exact h
   ·have hx:=hx hpq
    have e1:∀ c:Act,(if p k then c.put o.dst (vs k) else c).eval x=c.eval x:=λc=>by
     split
     ·exact Act.eval_put hx
     ·rfl
    have e2:∀ c:Act,(if q k then c.put o.dst (vs k) else c).eval x=c.eval x:=λc=>by
     split
     ·exact Act.eval_put hx
     ·rfl
    rw [e1,e2]
    exact h
  ·intro t ht
   have hsz:=hs t ht
   have e:∀ (b:Bool) (c:Act) (v:Value),(if b then c.put o.dst v else c).tmps.size=c.tmps.size:=λb c v=>by
    cases b
    ·rfl
    ·cases o.dst<;>simp [Act.put]
   rw [e,e]
   exact hsz
theorem getD_eq_get {x y:Array Value} (hs:x.size=y.size) {t:Nat} (h:x.getD t undef=y.getD t undef):x[t]? = y[t]?:=by
 simp only [Array.getD_eq_getD_getElem?] at h
 by_cases ht:t<x.size
 ·have ht2:t<y.size:=by omega
  rw [Array.getElem?_eq_getElem ht,Array.getElem?_eq_getElem ht2] at h ⊢
  simpa using h
 ·rw [Array.getElem?_eq_none (by omega),Array.getElem?_eq_none (by omega)]
theorem fill_size (p:Nat->Bool) (vs:Nat->Value):∀ (l:List Oper) (k:Nat) (a:Act),(fill p vs l k a).tmps.size=a.tmps.size
 | [],_,_=>rfl
 | o :: l,k,a=>by
  have ih:=fill_size p vs l (k+1)
  simp only [fill]
  rw [ih]
  split
  ·cases o.dst<;>simp [Act.put]
  ·rfl
def does (P:Program) (ρ:Operand->Value) (o:Oper) (w:World) (R:Value->World->Prop):Prop :=
 match (execOp ρ o).run P w with
 | .ok (.value v) w'=>R v w'
 | .ok .skip w'=>R undef w'
 | .ok (.enter f args) w'=>Calls P f args w' λe w''=>∃ v,e = .returned v/\R v w''
 | _=>False
theorem does_mono {ρ:Operand->Value} {o:Oper} {w:World} {R R':Value->World->Prop} (h:∀ v w,R v w->R' v w) (hd:does P ρ o w R):does P ρ o w R':=by
 unfold does at *
 split<;>simp_all
 exact Calls.mono hd (λe w'' ⟨v,he,hr⟩=>⟨v,he,h _ _ hr⟩)
theorem wp_of_does {o:Oper} {a:Act} {w:World} {K:Act->World->Prop} {Q:Exit->Act->World->Prop} (h:does P a.eval o w λv w'=>K (a.put o.dst v) w'):o.wp P a w K Q:=by
 unfold does at h
 unfold Oper.wp
 generalize (execOp a.eval o).run P w=r at *
 cases r with
 | ok n w' =>
  cases n<;>simp only [Oper.upon] at h ⊢<;>try exact h
  exact Calls.mono h (λe w'' ⟨v,he,hr⟩=>by subst he;exact hr)
 | halt x w'=>exact h.elim
def distinctB (ops:Array Oper) (l1:Array Bool) (n:Nat):Bool :=
 (List.range n).all λi=>(l1.getD i false) || (List.range n).all λj=>i == j || l1.getD j false ||
  match ops[i]?,ops[j]? with
  | some oi,some oj=>oi.dst.isNone || oi.dst != oj.dst
  | _,_=>true
def looksB (ops:Array Oper) (l1:Array Bool) (n:Nat):Bool :=
 (List.range n).all λi=>(l1.getD i false) || (List.range n).all λj=>l1.getD j false || i == j ||
  match ops[i]?,ops[j]? with
  | some oi,some oj=>(match oj.dst with|some d=>!(oi.looksAt ops).contains d|none=>true) || Region.waitsFor .any ops i j
  | _,_=>true
def plainB (ops:Array Oper) (l1:Array Bool) (n:Nat):Bool :=
 (List.range n).all λi=>(l1.getD i false) || match ops[i]? with|some o=>(match o.dst with|some d=>!(o.looksAt ops).contains d|none=>true)|none=>false
def bareB (ops:Array Oper) (n:Nat):Bool:=(List.range n).all λi=>match ops[i]? with|some o=>o.guard.isNone|none=>true
theorem bareB_get {ops:Array Oper} {n:Nat} (h:bareB ops n=true) {i:Nat} {o:Oper} (hi:i<n) (ho:ops[i]? = some o):o.guard=none:=by
 have h:=List.all_eq_true.1 h i (List.mem_range.2 hi)
 simpa [ho] using h
def sinkB (ops:Array Oper) (l1:Array Bool) (n:Nat):Bool :=
 (List.range n).all λi=>l1.getD i false || (List.range (n+1)).any λj=>decide (i<j) && Region.waitsFor .any ops j i
def closedB (ops:Array Oper) (l1:Array Bool):Bool :=
 (List.range ops.size).all λi=>!l1.getD i false || match ops[i]? with|some o=>o.after.all λe=>!Region.binds .any e || l1.getD e.on false|none=>true
def chainsB (ops:Array Oper) (n:Nat):Bool :=
 (List.range ops.size).all λt=>decide (t<=n) || (List.range t).any λs=>decide (n<=s) && Region.waitsFor .any ops t s
def headB (n:Nat) (l1:Array Bool):Array Bool:=(List.range n).foldl (λl i=>l.setIfInBounds i true) l1
def goodB (ops:Array Oper) (l1:Array Bool) (n:Nat):Bool :=
 Region.noSelect ops && decide (n<ops.size) && (l1.size == ops.size) && sinkB ops l1 n && chainsB ops n && distinctB ops l1 n && looksB ops l1 n && plainB ops l1 n && closedB ops l1 &&
  ((List.range ops.size).all λt=>decide (t<n) || !l1.getD t true)
theorem tail_waits {n:Nat} {l1 listed:Array Bool} (hs:sinkB ops l1 n=true) (hc:chainsB ops n=true) (hn:n<ops.size) (hle:∀ j,l1.getD j false=true->listed.getD j false=true) (inv:HeadInv .any ops n listed) :
  ∀ (d i:Nat),n - i=d->i<n->listed.getD i true=false->∀ t,n<=t->t ∉ Region.ready .any ops listed:=by
 intro d
 induction d using Nat.strongRecOn with
 | _ d ih =>
  intro i hd hi hun t ht hr
  obtain ⟨_,ot,hot,hall⟩:=mem_ready.1 hr
  have htlt:t<ops.size:=(Array.getElem?_eq_some_iff.1 hot).1
  by_cases htn:t=n
  ·subst htn
   have h1:=List.all_eq_true.1 hs i (List.mem_range.2 hi)
   simp only [Bool.or_eq_true] at h1
   have h1:=h1.resolve_left (λh=>by have:=hle i h;rw [getD_both hun] at this;cases this)
   obtain ⟨j,hj,hj2⟩:=List.any_eq_true.1 h1
   simp only [Bool.and_eq_true,decide_eq_true_eq] at hj2
   obtain ⟨oj,hoj,e,he,hb,hon⟩:=Region.waitsFor_spec hj2.2
   have hjle:j<=t:=by have:=List.mem_range.1 hj;omega
   by_cases hjt:j=t
   ·subst hjt
    have:oj=ot:=Option.some.inj (hoj.symm.trans hot)
    subst this
    have h2:=hall e he hb
    rw [hon,getD_both hun] at h2
    cases h2
   ·cases hl:listed.getD j false with
    | true =>
     have h2:=inv.closed j oj hoj hl e he hb
     rw [hon,getD_both hun] at h2
     cases h2
    | false =>
     have hjs:j<listed.size:=by rw [inv.size];omega
     exact ih (t - j) (by omega) j rfl (by omega) (getD_in hjs hl) t (Nat.le_refl _) hr
  ·have h1:=List.all_eq_true.1 hc t (List.mem_range.2 htlt)
   simp only [Bool.or_eq_true,decide_eq_true_eq] at h1
   rcases h1 with h1|h1
   ·omega
   ·obtain ⟨s,hs1,hs2⟩:=List.any_eq_true.1 h1
    simp only [Bool.and_eq_true,decide_eq_true_eq] at hs2
    have hst:s<t:=List.mem_range.1 hs1
    obtain ⟨o',ho',e,he,hb,hon⟩:=Region.waitsFor_spec hs2.2
    have:o'=ot:=Option.some.inj (ho'.symm.trans hot)
    subst this
    have h2:=hall e he hb
    rw [hon,getD_both (inv.tail s (by omega) (by omega))] at h2
    cases h2
theorem wpAny_fuel {Q:Exit->Act->World->Prop} {md:Region.Mode}:∀ (f:Nat) (listed:Array Bool) (a:Act) (w:World),wpAny P md ops Q f listed a w->wpAny P md ops Q (f+1) listed a w
 | 0,listed,a,w,h=>wpAny_done h.1 h.2 1
 | f+1,listed,a,w,h=>⟨h.1,λi hi=>wpOp_mono (λa' w' h'=>wpAny_fuel f _ a' w' h') (h.2 i hi)⟩
theorem wpAny_more {Q:Exit->Act->World->Prop} {md:Region.Mode} {f:Nat} {listed:Array Bool} {a:Act} {w:World} (h:wpAny P md ops Q f listed a w):∀ g,f<=g->wpAny P md ops Q g listed a w:=by
 intro g hg
 obtain ⟨d,rfl⟩:=Nat.exists_eq_add_of_le hg
 clear hg
 induction d with
 | zero=>exact h
 | succ d ih=>exact wpAny_fuel _ _ _ _ ih
def cnt (n:Nat) (l:Array Bool):Nat:=((List.range n).filter λi=>!l.getD i false).length
theorem cnt_set {n i:Nat} {l:Array Bool} (hi:i<n) (hn:n<=l.size) (h:l.getD i false=false):cnt n (l.setIfInBounds i true)+1=cnt n l:=by
 have key:∀ (r:List Nat),r.Nodup->(r.filter λj=>!(l.setIfInBounds i true).getD j false).length+(if i ∈ r then 1 else 0)=(r.filter λj=>!l.getD j false).length:=by
  intro r
  induction r with
  | nil=>intro _;simp
  | cons x r ih =>
   intro hnd
   have hnd':=List.nodup_cons.1 hnd
   have ih:=ih hnd'.2
   by_cases hx:x=i
   ·subst hx
    have h1:(l.setIfInBounds x true).getD x false=true:=by simp [show x<l.size by omega]
    rw [List.filter_cons,List.filter_cons]
    simp only [h1,h,Bool.not_true,Bool.not_false,Bool.false_eq_true,if_false,if_true,List.length_cons,List.mem_cons,true_or]
    rw [if_neg hnd'.1] at ih
    omega
   ·have h1:(l.setIfInBounds i true).getD x false=l.getD x false:=getD_set_ne false (Ne.symm hx)
    rw [List.filter_cons,List.filter_cons]
    simp only [h1,List.mem_cons,Ne.symm hx,false_or]
    split
    ·simp only [List.length_cons]
     omega
    ·exact ih
 have:=key (List.range n) List.nodup_range
 rw [if_pos (List.mem_range.2 hi)] at this
 exact this
theorem cnt_zero {n:Nat} {l:Array Bool} (h:cnt n l=0):∀ i,i<n->l.getD i false=true:=by
 intro i hi
 unfold cnt at h
 have h':=List.eq_nil_of_length_eq_zero h
 have:=List.filter_eq_nil_iff.1 h' i (List.mem_range.2 hi)
 simpa using this
theorem cnt_le (n:Nat) (l:Array Bool):cnt n l<=n:=by
 unfold cnt
 exact Nat.le_trans (List.length_filter_le _ _) (by rw [List.length_range];exact Nat.le_refl _)
theorem headB_get (n:Nat) (l1:Array Bool):∀ j,j<l1.size->(headB n l1)[j]? = some (if j<n then true else l1.getD j false):=by
 unfold headB
 induction n with
 | zero=>intro j hj;simp [hj]
 | succ n ih =>
  intro j hj
  rw [List.range_succ,List.foldl_append]
  simp only [List.foldl_cons,List.foldl_nil]
  by_cases hjn:n=j
  ·subst hjn
   have hs:n<(List.foldl (λl i=>l.setIfInBounds i true) l1 (List.range n)).size:=by
    have:=ih n hj
    exact(Array.getElem?_eq_some_iff.1 this).1
   simp [hs]
  ·rw [Array.getElem?_setIfInBounds_ne hjn,ih j hj]
   congr 1
   by_cases h:j<n
   ·simp [h,show j<n+1 by omega]
   ·simp [h,show ¬ j<n+1 by omega]
theorem headB_size (n:Nat) (l1:Array Bool):(headB n l1).size=l1.size:=by
 unfold headB
 induction n with
 | zero=>simp
 | succ n ih=>rw [List.range_succ,List.foldl_append];simp [ih]
def backB (ops:Array Oper):Bool:=(List.range ops.size).all λi=>match ops[i]? with|some o=>o.after.all λe=>!Region.binds .any e || decide (e.on<i)|none=>true
theorem wpAny_cards {Q:Exit->Act->World->Prop} {n:Nat} {l1:Array Bool} {a1:Act} (S:World->Prop) (φ:Nat->Value->World->Nat->Nat->Prop)
  (hB:goodB ops l1 n=true) (hback:backB ops=true)
  (hgd:∀ i o,i<n->l1.getD i false=false->ops[i]? = some o->∀ (vs:Nat->Value) (lo hi:Nat->Nat) (w:World),S w ->
   (∀ j,j<n->l1.getD j false=false->Region.waitsFor .any ops i j=true->φ j (vs j) w (lo j) (hi j)) ->
   o.guard=none\/Region.wanted o (yielded ops (fill (λj=>!l1.getD j false) vs (ops.toList.take n) 0 a1).tmps)=true)
  (step:∀ i o,i<n->l1.getD i false=false->ops[i]? = some o->∀ (vs:Nat->Value) (lo hi:Nat->Nat) (w:World),S w ->
   (∀ j,j<n->l1.getD j false=false->Region.waitsFor .any ops i j=true->φ j (vs j) w (lo j) (hi j)) ->
   does P (fill (λj=>!l1.getD j false) vs (ops.toList.take n) 0 a1).eval o w λv w'=>φ i v w' w.heap.size w'.heap.size/\S w'/\w.heap.size<=w'.heap.size/\∀ j u a b,φ j u w a b->φ j u w' a b)
  (hend:∀ (vs:Nat->Value) (lo hi:Nat->Nat) (w:World),S w->(∀ j,j<n->l1.getD j false=false->φ j (vs j) w (lo j) (hi j)) ->
   (∀ j k,j<n->k<n->l1.getD j false=false->l1.getD k false=false->j≠k->hi j<=lo k\/hi k<=lo j) ->
   wpAny P .any ops Q (ops.size - n) (headB n l1) (fill (λj=>!l1.getD j false) vs (ops.toList.take n) 0 a1) w) :
  ∀ (w:World),S w->∀ f,cnt n l1+(ops.size - n)<=f->wpAny P .any ops Q f l1 a1 w:=by
 simp only [goodB,Bool.and_eq_true,decide_eq_true_eq,beq_iff_eq] at hB
 obtain ⟨⟨⟨⟨⟨⟨⟨⟨⟨hsel,hn⟩,hsz⟩,hs⟩,hc⟩,hdis⟩,hlook⟩,hplain⟩,hcl⟩,htl⟩:=hB
 have dis:∀ i j oi oj,i<n->j<n->i≠j->l1.getD i false=false->l1.getD j false=false->ops[i]? = some oi->ops[j]? = some oj->∀ t,oi.dst=some t->oj.dst≠some t:=by
  intro i j oi oj hi hj hij h1 h2 hoi hoj t ht
  have h:=List.all_eq_true.1 hdis i (List.mem_range.2 hi)
  simp only [h1,Bool.false_or] at h
  have h:=List.all_eq_true.1 h j (List.mem_range.2 hj)
  simp only [h2,Bool.or_false,Bool.or_eq_true,beq_iff_eq,hij,false_or,hoi,hoj,ht,Option.isNone_some,Bool.false_eq_true,bne_iff_ne] at h
  exact λe=>h e.symm
 have looks:∀ i j oi oj,i<n->j<n->i≠j->l1.getD i false=false->l1.getD j false=false->ops[i]? = some oi->ops[j]? = some oj->∀ t,oj.dst=some t->t ∈ oi.looksAt ops->Region.waitsFor .any ops i j=true:=by
  intro i j oi oj hi hj hij h1 h2 hoi hoj t ht hm
  have h:=List.all_eq_true.1 hlook i (List.mem_range.2 hi)
  simp only [h1,Bool.false_or] at h
  have h:=List.all_eq_true.1 h j (List.mem_range.2 hj)
  simp only [h2,Bool.false_or,Bool.or_eq_true,beq_iff_eq,hij,false_or,hoi,hoj,ht] at h
  rcases h with h|h
  ·simp [hm] at h
  ·exact h
 have plain:∀ i oi,i<n->l1.getD i false=false->ops[i]? = some oi->∀ t,oi.dst=some t->t ∉ oi.looksAt ops:=by
  intro i oi hi h1 hoi
  have h:=List.all_eq_true.1 hplain i (List.mem_range.2 hi)
  simp only [h1,Bool.false_or,hoi] at h
  exact λt ht hm=>by simp [ht,hm] at h
 have back:∀ i oi,ops[i]? = some oi->∀ e ∈ oi.after,Region.binds .any e=true->e.on<i:=by
  intro i oi hoi e he hb
  have h:=List.all_eq_true.1 hback i (List.mem_range.2 (Array.getElem?_eq_some_iff.1 hoi).1)
  simp only [hoi] at h
  have:=Array.all_eq_true_iff_forall_mem.1 h e he
  simpa [hb] using this
 have hcl1:∀ j oj,ops[j]? = some oj->l1.getD j false=true->∀ e ∈ oj.after,Region.binds .any e=true->l1.getD e.on false=true:=by
  intro j oj hoj hl e he hb
  have h:=List.all_eq_true.1 hcl j (List.mem_range.2 (Array.getElem?_eq_some_iff.1 hoj).1)
  simp only [hl,Bool.not_true,Bool.false_or,hoj] at h
  have:=Array.all_eq_true_iff_forall_mem.1 h e he
  simpa [hb] using this
 have htl1:∀ t,n<=t->t<ops.size->l1.getD t true=false:=by
  intro t ht ht'
  have h:=List.all_eq_true.1 htl t (List.mem_range.2 ht')
  simpa [show ¬ t<n by omega] using h
 have main:∀ (m:Nat) (listed:Array Bool) (vs:Nat->Value) (lo hi:Nat->Nat) (w:World),cnt n listed=m->(∀ j,l1.getD j false=true->listed.getD j false=true)->HeadInv .any ops n listed->S w ->
   (∀ j,j<n->l1.getD j false=false->listed.getD j false=true->φ j (vs j) w (lo j) (hi j)) ->
   (∀ j,j<n->l1.getD j false=false->listed.getD j false=true->hi j<=w.heap.size) ->
   (∀ j k,j<n->k<n->l1.getD j false=false->l1.getD k false=false->listed.getD j false=true->listed.getD k false=true->j≠k->hi j<=lo k\/hi k<=lo j) ->
   wpAny P .any ops Q (m+(ops.size - n)) listed (fill (λj=>listed.getD j false && !l1.getD j false) vs (ops.toList.take n) 0 a1) w:=by
  intro m
  induction m with
  | zero =>
   intro listed vs lo hi w hm hle inv hS hφ hhi hap
   have hall:=cnt_zero hm
   have hlist:listed=headB n l1:=by
    apply Array.ext
    ·rw [inv.size,headB_size,hsz]
    ·intro j h1 h2
     have h3:=headB_get n l1 j (by rw [headB_size] at h2;exact h2)
     have h4:(headB n l1)[j]? = some (headB n l1)[j]:=Array.getElem?_eq_getElem h2
     rw [h4] at h3
     injection h3 with h3
     rw [h3]
     by_cases hj:j<n
     ·have:=hall j hj
      simp only [hj,if_true]
      simpa [h1] using this
     ·simp only [hj,if_false]
      have hb:=htl1 j (by omega) (by rw [inv.size] at h1;exact h1)
      have ha:=inv.tail j (by omega) (by rw [inv.size] at h1;exact h1)
      have hj1:j<l1.size:=by rw [headB_size] at h2;exact h2
      simp [h1] at ha
      simp [hj1] at hb ⊢
      rw [ha,hb]
   subst hlist
   have e:fill (λj=>(headB n l1).getD j false && !l1.getD j false) vs (ops.toList.take n) 0 a1=fill (λj=>!l1.getD j false) vs (ops.toList.take n) 0 a1:=by
    refine fill_congr _ _ _ _ _ _ _ (λj hj=>⟨?_,λ_=>rfl⟩)
    have hjn:0+j<n:=by simp at hj;omega
    rw [hall _ hjn,Bool.true_and]
   rw [e,Nat.zero_add]
   exact hend vs lo hi w hS (λj hj h1=>hφ j hj h1 (hall j hj)) (λj k hj hk h1 h2 hne=>hap j k hj hk h1 h2 (hall j hj) (hall k hk) hne)
  | succ m ih =>
   intro listed vs lo hi w hm hle inv hS hφ hhi hap
   rw [show m+1+(ops.size - n)=(m+(ops.size - n))+1 by omega]
   have hex:∃ i,i<n/\listed.getD i false=false/\∀ j,j<i->listed.getD j false=true:=by
    have h0:∃ i,i<n/\listed.getD i false=false:=by
     refine Classical.byContradiction λh=>?_
     have hall:∀ i,i<n->listed.getD i false=true:=λi hi=>by
      cases hl:listed.getD i false with
      | true=>rfl
      | false=>exact absurd ⟨i,hi,hl⟩ h
     have:cnt n listed=0:=by
      unfold cnt
      rw [List.length_eq_zero_iff,List.filter_eq_nil_iff]
      intro i hi
      rw [hall i (List.mem_range.1 hi)]
      simp
     omega
    obtain ⟨i,hi0⟩:=h0
    have hi:=hi0
    clear hi0
    induction i using Nat.strongRecOn with
    | _ i ih' =>
     by_cases hmin:∀ j,j<i->listed.getD j false=true
     ·exact ⟨i,hi.1,hi.2,hmin⟩
     ·obtain ⟨j,hj⟩:=Classical.not_forall.1 hmin
      have hj':j<i/\listed.getD j false=false:=by
       refine ⟨Classical.byContradiction λh=>hj (λh'=>absurd h' h),?_⟩
       cases hl:listed.getD j false with
       | false=>rfl
       | true=>exact absurd (λ_=>hl) hj
      exact ih' j hj'.1 ⟨by omega,hj'.2⟩
   obtain ⟨i0,hi0,hun0,hmin⟩:=hex
   have hisz:∀ i,i<n->i<listed.size:=λi hi=>by rw [inv.size];omega
   refine ⟨λh0=>?_,λi hir=>?_⟩
   ·exfalso
    have hmem:i0 ∈ Region.ready .any ops listed:=mem_ready.2 ⟨getD_in (hisz _ hi0) hun0,ops[i0],Array.getElem?_eq_getElem (by omega),λe he hb=>hmin _ (back i0 _ (Array.getElem?_eq_getElem (by omega)) e he hb)⟩
    rw [h0] at hmem
    cases hmem
   ·have hin:i<n:=by
     rcases Nat.lt_or_ge i n with h|h
     ·exact h
     ·exact absurd hir (tail_waits hs hc hn hle inv _ i0 rfl hi0 (getD_in (hisz _ hi0) hun0) i h)
    obtain ⟨hun,oi,hoi,hpre⟩:=mem_ready.1 hir
    have hunf:=getD_both hun
    have h1i:l1.getD i false=false:=by
     cases h:l1.getD i false with
     | false=>rfl
     | true=>have:=hle i h;rw [hunf] at this;cases this
    have hself:=plain i oi hin h1i hoi
    have hwf:∀ j,j<n->l1.getD j false=false->Region.waitsFor .any ops i j=true->φ j (vs j) w (lo j) (hi j):=λj hj h1j hwt=>hφ j hj h1j (by
     obtain ⟨o',ho',e,he,hb,hon⟩:=Region.waitsFor_spec hwt
     have:o'=oi:=Option.some.inj (ho'.symm.trans hoi)
     subst this
     rw [<-hon]
     exact hpre e he hb)
    have hst:=step i oi hin h1i hoi vs lo hi w hS hwf
    have hops:∀ j o,(ops.toList.take n)[j]? = some o->j<n/\ops[j]? = some o:=by
     intro j o h
     have hj:j<(ops.toList.take n).length:=(List.getElem?_eq_some_iff.1 h).1
     rw [List.length_take] at hj
     rw [List.getElem?_take] at h
     split at h
     ·rename_i hjn
      exact ⟨hjn,by simpa using h⟩
     ·cases h
    have hlk:∀ x:Operand,(∀ t,x = .tmp t->t ∈ oi.looksAt ops)->(fill (λj=>listed.getD j false && !l1.getD j false) vs (ops.toList.take n) 0 a1).eval x=(fill (λj=>!l1.getD j false) vs (ops.toList.take n) 0 a1).eval x:=by
     intro x hx
     refine fill_eval _ _ vs x _ _ _ _ rfl (λj oj hoj hne t ht hxt=>?_) (λ_ _=>rfl)
     obtain ⟨hjn,hoj'⟩:=hops j oj hoj
     rw [Nat.zero_add] at hne
     have h1j:l1.getD j false=false:=by
      cases h:l1.getD j false with
      | false=>rfl
      | true=>rw [h] at hne;simp at hne
     have hlj:listed.getD j false=false:=by
      cases h:listed.getD j false with
      | false=>rfl
      | true=>rw [h] at hne;simp at hne
     have hmem:t ∈ oi.looksAt ops:=hx t hxt
     by_cases hij:i=j
     ·subst hij
      have:oj=oi:=Option.some.inj (hoj'.symm.trans hoi)
      subst this
      exact hself t ht hmem
     ·have hwt:=looks i j oi oj hin hjn hij h1i h1j hoi hoj' t ht hmem
      obtain ⟨o',ho',e,he,hb,hon⟩:=Region.waitsFor_spec hwt
      have:o'=oi:=Option.some.inj (ho'.symm.trans hoi)
      subst this
      have:=hpre e he hb
      rw [hon,hlj] at this
      cases this
    have heq:execOp (fill (λj=>listed.getD j false && !l1.getD j false) vs (ops.toList.take n) 0 a1).eval oi=execOp (fill (λj=>!l1.getD j false) vs (ops.toList.take n) 0 a1).eval oi:=by
     refine execOp_congr oi (λcs b=>Region.noSelect_spec hsel i oi cs b hoi) (λx hx=>hlk x (λt ht=>?_))
     subst ht
     exact List.mem_append_left _ (List.mem_filterMap.2 ⟨.tmp t,by simpa using hx,rfl⟩)
    have hwant:Region.wanted oi (yielded ops (fill (λj=>listed.getD j false && !l1.getD j false) vs (ops.toList.take n) 0 a1).tmps)=true:=by
     rcases hgd i oi hin h1i hoi vs lo hi w hS hwf with hgu|hgu
     ·simp [Region.wanted,hgu]
     ·cases hg:oi.guard with
      | none=>simp [Region.wanted,hg]
      | some gb =>
       obtain ⟨g,b⟩:=gb
       have hy:yielded ops (fill (λj=>listed.getD j false && !l1.getD j false) vs (ops.toList.take n) 0 a1).tmps g=yielded ops (fill (λj=>!l1.getD j false) vs (ops.toList.take n) 0 a1).tmps g:=by
        unfold yielded
        cases hd:(ops[g]?).bind (·.dst) with
        | none=>rfl
        | some t =>
         have hm:t ∈ oi.looksAt ops:=List.mem_append_right _ (by simp [hg,hd])
         have h:=hlk (.tmp t) (λt' ht'=>by injection ht' with ht';rw [<-ht'];exact hm)
         have s1:=fill_size (λj=>listed.getD j false && !l1.getD j false) vs (ops.toList.take n) 0 a1
         have s2:=fill_size (λj=>!l1.getD j false) vs (ops.toList.take n) 0 a1
         have e:(fill (λj=>listed.getD j false && !l1.getD j false) vs (ops.toList.take n) 0 a1).tmps[t]? = (fill (λj=>!l1.getD j false) vs (ops.toList.take n) 0 a1).tmps[t]?:=by
          exact getD_eq_get (s1.trans s2.symm) h
         simp only [Option.bind_some,e]
       have hw:∀ y:Nat->Option Bool,Region.wanted oi y=(y g == some b):=λy=>by simp [Region.wanted,hg]
       rw [hw] at hgu ⊢
       rw [hy]
       exact hgu
    unfold wpOp
    simp only [hoi]
    rw [if_pos hwant]
    refine .inl (wp_of_does ?_)
    unfold does at hst ⊢
    rw [heq]
    refine does_mono (P:=P) (ρ:=(fill (λj=>!l1.getD j false) vs (ops.toList.take n) 0 a1).eval) (o:=oi) (w:=w) ?_ hst
    rintro v w' ⟨hφi,hS',hsz',hmono⟩
    have hset:=fill_set (λj=>listed.getD j false && !l1.getD j false) vs i v (ops.toList.take n) 0 a1 oi (Nat.zero_le _) (by
     rw [Nat.sub_zero,List.getElem?_take,if_pos hin]
     simpa using hoi) (by simp only [hunf,Bool.false_and]) (λj oj hoj hne hp t ht=>by
      obtain ⟨hjn,hoj'⟩:=hops j oj hoj
      rw [Nat.zero_add] at hne hp
      simp only [Bool.and_eq_true,Bool.not_eq_true'] at hp
      exact dis i j oi oj hin hjn (Ne.symm hne) h1i hp.2 hoi hoj' t ht)
    rw [<-hset]
    have e2:(λx=>x == i || (listed.getD x false && !l1.getD x false))=(λj=>(listed.setIfInBounds i true).getD j false && !l1.getD j false):=by
     funext x
     by_cases hx:x=i
     ·subst hx
      have:(listed.setIfInBounds x true).getD x false=true:=by simp [hisz x hin]
      simp [this,h1i]
     ·have:(listed.setIfInBounds i true).getD x false=listed.getD x false:=getD_set_ne false (Ne.symm hx)
      rw [this]
      simp [hx]
    rw [e2]
    have hcnt:=cnt_set hin (by rw [inv.size];omega) hunf
    refine ih (listed.setIfInBounds i true) (λx=>if x=i then v else vs x) (λx=>if x=i then w.heap.size else lo x) (λx=>if x=i then w'.heap.size else hi x) w' (by omega) (λj hj=>getD_set_true (hle j hj)) (inv.set hir hin) hS' (λj hj h1j hlj=>?_) (λj hj h1j hlj=>?_) (λj k hj hk h1j h1k hlj hlk hne=>?_)
    ·by_cases hji:j=i
     ·subst hji;simp only [if_true];exact hφi
     ·simp only [hji,if_false]
      exact hmono j _ _ _ (hφ j hj h1j (by rw [getD_set_ne false (Ne.symm hji)] at hlj;exact hlj))
    ·by_cases hji:j=i
     ·subst hji;simp only [if_true];exact Nat.le_refl _
     ·simp only [hji,if_false]
      exact Nat.le_trans (hhi j hj h1j (by rw [getD_set_ne false (Ne.symm hji)] at hlj;exact hlj)) hsz'
    ·by_cases hji:j=i
     ·subst hji
      have hki:=Ne.symm hne
      simp only [if_true,hki,if_false]
      exact .inr (hhi k hk h1k (by rw [getD_set_ne false hne] at hlk;exact hlk))
     ·by_cases hki:k=i
      ·subst hki
       simp only [if_true,hji,if_false]
       exact .inl (hhi j hj h1j (by rw [getD_set_ne false (Ne.symm hji)] at hlj;exact hlj))
      ·simp only [hji,hki,if_false]
       exact hap j k hj hk h1j h1k (by rw [getD_set_ne false (Ne.symm hji)] at hlj;exact hlj) (by rw [getD_set_ne false (Ne.symm hki)] at hlk;exact hlk) hne
 intro w hS f hf
 have inv1:HeadInv .any ops n l1:=⟨hsz,hcl1,htl1⟩
 have h:=main (cnt n l1) l1 (λ_=>undef) (λ_=>0) (λ_=>0) w rfl (λ_ h=>h) inv1 hS (λj hj h1 h2=>by rw [h1] at h2;cases h2) (λj hj h1 h2=>by rw [h1] at h2;cases h2) (λj k hj hk h1 h1k h2=>by rw [h1] at h2;cases h2)
 have e:fill (λj=>l1.getD j false && !l1.getD j false) (λ_=>undef) (ops.toList.take n) 0 a1=a1:=by
  have:∀ (l:List Oper) (k:Nat) (a:Act),fill (λj=>l1.getD j false && !l1.getD j false) (λ_=>undef) l k a=a:=by
   intro l
   induction l with
   | nil=>intro _ _;rfl
   | cons o l ih=>intro k a;simp only [fill];rw [ih];simp
  exact this _ _ _
 rw [e] at h
 exact wpAny_more h _ hf
end
section
variable {P : Program}
abbrev Card:=Value->World->Nat->Nat->Prop
def holds (φs:List Card) (k:Nat):Card:=φs[k]?.getD λ_ _ _ _=>True
def steps (P:Program) (ops:Array Oper) (S:World->Prop) (φs:List Card) (F:(Nat->Value)->Act) (pre:List Nat):List Oper->Nat->Prop
 | [],_=>True
 | o :: l,k=>(pre.contains k=false->∀ (vs:Nat->Value) (lo hi:Nat->Nat) (w:World),S w->(∀ j,Region.waitsFor .any ops k j=true->pre.contains j=false->holds φs j (vs j) w (lo j) (hi j)) ->
  does P (F vs).eval o w λv w'=>holds φs k v w' w.heap.size w'.heap.size/\Below w.heap.size w w')/\steps P ops S φs F pre l (k+1)
def stays:List Card->Prop
 | []=>True
 | φ :: l=>(∀ u w w' a b,Below w.heap.size w w'->φ u w a b->φ u w' a b)/\stays l
theorem stays_holds:∀ {φs:List Card} (h:stays φs) (j:Nat) (u:Value) (w w':World) (a b:Nat),Below w.heap.size w w'->holds φs j u w a b->holds φs j u w' a b
 | [],_,_,_,_,_,_,_,_,_=>by simp [holds]
 | φ :: l,h,0,u,w,w',a,b,hb,hu=>by simp only [holds,List.getElem?_cons_zero,Option.getD_some] at hu ⊢;exact h.1 u w w' a b hb hu
 | φ :: l,h,j+1,u,w,w',a,b,hb,hu=>by
  have:=stays_holds h.2 j u w w' a b hb
  simp only [holds,List.getElem?_cons_succ] at hu ⊢ this
  exact this hu
theorem steps_at {ops:Array Oper} {S:World->Prop} {φs:List Card} {F:(Nat->Value)->Act} {pre:List Nat}:∀ {l:List Oper} {k:Nat},steps P ops S φs F pre l k->∀ i o,l[i]? = some o->pre.contains (k+i)=false ->
  ∀ (vs:Nat->Value) (lo hi:Nat->Nat) (w:World),S w->(∀ j,Region.waitsFor .any ops (k+i) j=true->pre.contains j=false->holds φs j (vs j) w (lo j) (hi j))->does P (F vs).eval o w λv w'=>holds φs (k+i) v w' w.heap.size w'.heap.size/\Below w.heap.size w w'
 | [],_,_,i,o,h=>by simp at h
 | o0 :: l,k,hs,0,o,h=>by
  simp only [List.getElem?_cons_zero,Option.some.injEq] at h
  subst h
  exact hs.1
 | o0 :: l,k,hs,i+1,o,h=>by
  have:=steps_at hs.2 i o (by simpa using h)
  rw [show k+1+i=k+(i+1) by omega] at this
  exact this
def listedOf (m:Nat) (pre:List Nat):Array Bool:=pre.foldl (λl i=>l.setIfInBounds i true) (Array.replicate m false)
def okB (l:List Oper) (pre:List Nat) (n:Nat):Bool :=
 goodB l.toArray (listedOf l.length pre) n && backB l.toArray && bareB l.toArray n && Region.seqB .any l.toArray (l.length - n) n (headB n (listedOf l.length pre)) &&
  (List.range l.length).all λj=>(listedOf l.length pre).getD j false == pre.contains j
theorem any_cards {l:List Oper} {Q:Exit->Act->World->Prop} {a1:Act} {w:World} {f:Nat} {listed:Array Bool} (pre:List Nat) (n:Nat) (S:World->Prop) (φs:List Card) {F:(Nat->Value)->Act}
  (hl:listedOf l.length pre=listed) (hf:decide (cnt n (listedOf l.length pre)+(l.length - n)<=f)=true) (hB:okB l pre n=true) (hF:∀ vs,fill (λj=>!pre.contains j) vs (l.take n) 0 a1=F vs)
  (hS0:S w) (hS:∀ w w',Below w.heap.size w w'->S w->S w') (hstay:stays φs) (hsteps:steps P l.toArray S φs F pre (l.take n) 0)
  (hend:∀ (vs:Nat->Value) (lo hi:Nat->Nat) (w:World),S w->(∀ j,j<n->pre.contains j=false->holds φs j (vs j) w (lo j) (hi j))->(∀ j k,j<n->k<n->pre.contains j=false->pre.contains k=false->j≠k->hi j<=lo k\/hi k<=lo j)->wpList P l.toArray Q (l.drop n) (F vs) w) :
  wpAny P .any l.toArray Q f listed a1 w:=by
 simp only [okB,Bool.and_eq_true] at hB
 obtain ⟨⟨⟨⟨hgood,hback⟩,hbare⟩,hseq⟩,hpre⟩:=hB
 have hn:n<l.length:=by
  simp only [goodB,Bool.and_eq_true,decide_eq_true_eq] at hgood
  simpa using hgood.1.1.1.1.1.1.1.1.2
 have hp:∀ j,j<n->(listedOf l.length pre).getD j false=pre.contains j:=λj hj=>by
  have:=List.all_eq_true.1 hpre j (List.mem_range.2 (by omega))
  simpa using this
 have hmask:∀ vs,fill (λj=>!(listedOf l.length pre).getD j false) vs (l.toArray.toList.take n) 0 a1=F vs:=λvs=>by
  rw [<-hF vs]
  refine fill_congr _ _ _ _ _ _ _ (λj hj=>⟨?_,λ_=>rfl⟩)
  have hjn:0+j<n:=by simp at hj;omega
  rw [hp _ hjn]
 have hsz:l.toArray.size=l.length:=by simp
 subst hl
 refine wpAny_cards (Q:=Q) (a1:=a1) (P:=P) (ops:=l.toArray) (n:=n) (l1:=listedOf l.length pre) S (holds φs) hgood hback (λi o hi _ ho _ _ _ _ _ _=>.inl (bareB_get hbare hi ho)) (λi o hi h1i ho vs lo hi_ w hw hpd=>by
  have:=steps_at hsteps i o (by rw [List.getElem?_take,if_pos hi];simpa using ho) (by rw [Nat.zero_add,<-hp i hi];exact h1i) vs lo hi_ w hw (λj hj hjp=>by
   rw [Nat.zero_add] at hj
   have hji:j<i:=by
    obtain ⟨oj,hoj,e,he,hb,hon⟩:=Region.waitsFor_spec hj
    have hlt:=List.all_eq_true.1 hback i (List.mem_range.2 (Array.getElem?_eq_some_iff.1 hoj).1)
    simp only [hoj] at hlt
    have:=Array.all_eq_true_iff_forall_mem.1 hlt e he
    simp only [hb,Bool.not_true,Bool.false_or,decide_eq_true_eq] at this
    omega
   exact hpd j (by omega) (by rw [hp j (by omega)];exact hjp) hj)
  rw [Nat.zero_add,<-hmask vs] at this
  exact does_mono (λv w' hv=>⟨hv.1,hS _ _ hv.2 hw,hv.2.size,λj u a b hu=>stays_holds hstay j u w w' a b hv.2 hu⟩) this) (λvs lo hi_ w hw hpd hap=>by
  rw [hmask vs]
  have ht:=hend vs lo hi_ w hw (λj hj hjp=>hpd j hj (by rw [hp j hj];exact hjp)) (λj k hj hk hjp hkp hne=>hap j k hj hk (by rw [hp j hj];exact hjp) (by rw [hp k hk];exact hkp) hne)
  have hdl:(l.drop n).length=l.length - n:=by simp
  have:=wpAny_of_seq (md:=.any) (P:=P) (ops:=l.toArray) (Q':=Q) (l.drop n) n (headB n (listedOf l.length pre)) (F vs) w (λj=>by simp [List.getElem?_drop]) (by rw [hdl];exact hseq) ht
  rw [hdl] at this
  rw [hsz]
  exact this) w hS0 f (by rw [hsz];exact of_decide_eq_true hf)
theorem region_cards {id:Nat} {l:List Oper} {Q:Exit->Act->World->Prop} {a1:Act} {w:World} (n:Nat) (S:World->Prop) (φs:List Card) {F:(Nat->Value)->Act}
  (hm:P.follows .mixedOrders=true) (hB:okB l [] n=true) (hF:∀ vs,fill (λ_=>true) vs (l.take n) 0 a1=F vs)
  (hS0:S w.drew) (hS:∀ w w',Below w.heap.size w w'->S w->S w') (hstay:stays φs) (hsteps:steps P l.toArray S φs F [] (l.take n) 0)
  (hend:∀ (vs:Nat->Value) (lo hi:Nat->Nat) (w:World),S w->(∀ j,j<n->holds φs j (vs j) w (lo j) (hi j))->(∀ j k,j<n->k<n->j≠k->hi j<=lo k\/hi k<=lo j)->wpList P l.toArray Q (l.drop n) (F vs) w) :
  (Code.region id l.toArray true).wp P Q a1 w:=by
 have hn:n<l.length:=by
  simp only [okB,Bool.and_eq_true] at hB
  have hgood:=hB.1.1.1.1
  simp only [goodB,Bool.and_eq_true,decide_eq_true_eq] at hgood
  simpa using hgood.1.1.1.1.1.1.1.1.2
 refine wp_region_any hm ?_
 refine any_cards (w:=w.drew) [] n S φs (by simp [listedOf]) (by have:=cnt_le n (listedOf l.length []);simp;omega) hB hF hS0 hS hstay hsteps (λvs lo hi w hw hp hap=>hend vs lo hi w hw (λj hj=>hp j hj rfl) (λj k hj hk hne=>hap j k hj hk rfl rfl hne))
theorem any_does {Q:Exit->Act->World->Prop} {ops:Array Oper} {md:Region.Mode} {i:Nat} {o:Oper} {N:Option Tmp} {f:Nat} {listed:Array Bool} {a:Act} {w:World} (ho:ops[i]? = some o) (hN:o.dst=N) (hr:Region.ready md ops listed=[i]) (hg:o.guard=none)
  (hd:does P a.eval o w λv w'=>wpAny P md ops Q f (listed.setIfInBounds i true) (a.put N v) w'):wpAny P md ops Q (f+1) listed a w:=by
 subst hN
 refine ⟨λh0=>(by rw [hr] at h0;cases h0),λj hj=>?_⟩
 rw [hr] at hj
 obtain rfl:j=i:=by simpa using hj
 unfold wpOp
 simp only [ho]
 have hw:Region.wanted o (yielded ops a.tmps)=true:=by unfold Region.wanted;rw [hg]
 rw [if_pos hw]
 exact .inl (wp_of_does hd)
theorem take_pre {Q:Exit->Act->World->Prop} {md:Region.Mode} {ops:Array Oper} {i:Nat} {oi:Oper} {N:Option Tmp} {v:Value} {fuel:Nat} {listed:Array Bool} {a:Act} {w:World} (hi:ops[i]? = some oi) (hN:oi.dst=N)
  (hs:Region.noSelect ops=true) (hf:Region.free md ops listed i=true) (hr:(Region.ready md ops listed).contains i=true)
  (hQ:∀ c a w,Q (.panic c) (a.put N v) w->Q (.panic c) a w) (hw:Region.wanted oi (yielded ops a.tmps)=true) (hy:∀ w,(execOp a.eval oi).run P w = .ok (.value v) w)
  (h:wpAny P md ops Q fuel (listed.setIfInBounds i true) (a.put N v) w):wpAny P md ops Q (fuel+1) listed a w:=by
 subst hN
 exact wpAny_take hi hs hf hr hQ (Or.inl ⟨hw,hy⟩) h
theorem does_val {ρ:Operand->Value} {o:Oper} {w w1:World} {R:Value->World->Prop} {v:Value} (hrun:(execOp ρ o).run P w = .ok (.value v) w1) (h:R v w1):does P ρ o w R:=by
 unfold does
 rw [hrun]
 exact h
theorem does_call {ρ : Operand -> Value} {o : Oper} {w : World} {R : Value -> World -> Prop} {f : FuncId} {fn : Func} {as : Array Operand} {ts : Array TypeId} (hf : P.funcs[f]? = some fn) (hname : (fn.name == "runtime.NumGoroutine") = false) (hb : fn.body.isSome = true) (args : Array Value)
  (hop:o.op = .call { callee:=.value (.func f),args:=as,argTypes:=ts }) (hfn:ρ (.func f) = .func (.func f) #[] #[]) (hargs:as.map ρ=args)
  (h:Calls P f args w λe w'=>∃ v,e = .returned v/\R v w'):does P ρ o w R:=by
 have he:=enters_ hf hname hb args w
 have hrun:(execOp ρ o).run P w = .ok (.enter f args) w:=by
  unfold execOp
  simp [hop,resolve,Deferred.ofValue,invoke,hfn,hargs,he]
 unfold does
 rw [hrun]
 exact h
end
end Go.Proofs.Ytfhamdobagjakaa.Cards
namespace Go.Proofs.Ytfhamdobagjakaa.Hand
open Go.RowKit Go.Proofs.YtfhamdobagjakaaW.PrintWords Go.Proofs.YtfhamdobagjakaaW.PrintLast Go.Proofs.YtfhamdobagjakaaW.PrintMore Go.Proofs.Ytfhamdobagjakaa.Cards
set_option linter.unusedVariables false
set_option linter.unusedSimpArgs false
end Go.Proofs.Ytfhamdobagjakaa.Hand
