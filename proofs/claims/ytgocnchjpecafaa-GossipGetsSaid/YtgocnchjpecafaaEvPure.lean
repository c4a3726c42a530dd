/- a part -/
import Derived.Laws.BitsAllLaws
import Derived.Test.YtgocnchjpecafaaPEvx18
import Derived.Shelf.Spec.RuneCount
theorem yep_0 {P:Prop} (h:P:=by omega):P:=h
theorem yep_1 {P:Prop} (h:P:=by rw [List.length_append,List.length_singleton];omega):P:=h
theorem yep_2 {P:Prop} (h:P:=by(try simp only);omega):P:=h
theorem yep_3 {P:Prop} (h:P:=by simp only;omega):P:=h
theorem yep_4 {P:Prop} (h:P:=by unfold numsB;rw [List.length_map];have:=plain_len c;omega):P:=h
namespace Go.Proofs.Ytgocnchjpecafaa.Wr
set_option linter.unusedVariables false
set_option linter.unusedSimpArgs false
def Bytes (l:List Int):Prop:=∀ x ∈ l,0<=x/\x<256
theorem rev_ind {P:List Int->Prop} (nil:P []) (snoc:∀ l c,P l->P (l++[c])) (l:List Int):P l:=by
 rw [<-List.reverse_reverse l]
 induction l.reverse with
 | nil=>exact nil
 | cons c l ih =>
  rw [List.reverse_cons]
  exact snoc _ _ ih
def be (u:Nat):List Int:=if h:u=0 then [] else be (u / 256)++[((u % 256:Nat):Int)]
termination_by u
decreasing_by omega
theorem be_zero:be 0=[]:=by rw [be];simp
theorem be_pos {u:Nat} (h:0<u):be u=be (u / 256)++[((u % 256:Nat):Int)]:=by rw [be];simp [Nat.ne_of_gt h]
def num (u:Nat):List Int:=((be u).length:Int) :: be u
def val (l:List Int):Nat:=l.foldl (λa c=>a*256+c.toNat) 0
theorem val_nil:val []=0:=rfl
theorem val_snoc (l:List Int) (c:Int):val (l++[c])=val l*256+c.toNat:=by simp [val]
theorem be_bytes (u:Nat):Bytes (be u):=by
 induction u using Nat.strongRecOn with
 | _ u ih =>
  rcases Nat.eq_zero_or_pos u with h|h
  ·subst h
   rw [be_zero]
   intro x hx
   cases hx
  ·rw [be_pos h]
   intro x hx
   rcases List.mem_append.1 hx with hx|hx
   ·exact ih _ yep_0 x hx
   ·rw [List.mem_singleton.1 hx];omega
theorem val_be (u:Nat):val (be u)=u:=by
 induction u using Nat.strongRecOn with
 | _ u ih =>
  rcases Nat.eq_zero_or_pos u with h|h
  ·subst h;rw [be_zero];rfl
  ·rw [be_pos h,val_snoc,ih _ yep_0];omega
theorem be_head (u:Nat) (h:0<u):∃ c l,be u=c :: l/\0<c:=by
 induction u using Nat.strongRecOn with
 | _ u ih =>
  rw [be_pos h]
  rcases Nat.eq_zero_or_pos (u / 256) with h0|h0
  ·rw [h0,be_zero]
   exact ⟨_,[],rfl,by omega⟩
  ·obtain ⟨c,l,e,hc⟩:=ih (u / 256) yep_0 h0
   rw [e]
   exact ⟨c,l++[((u % 256:Nat):Int)],rfl,hc⟩
theorem be_len_le (n:Nat):∀ u,u<256 ^ n->(be u).length<=n:=by
 induction n with
 | zero =>
  intro u h
  have:u=0:=by simpa using h
  subst this
  rw [be_zero]
  simp
 | succ n ih =>
  intro u h
  rcases Nat.eq_zero_or_pos u with h0|h0
  ·subst h0;rw [be_zero];simp
  ·rw [be_pos h0,List.length_append]
   have h1:u / 256<256 ^ n:=by
    rw [Nat.div_lt_iff_lt_mul yep_0]
    rwa [Nat.pow_succ] at h
   have:=ih _ h1
   simp
   omega
theorem be_len8 {u:Nat} (h:u<18446744073709551616):(be u).length<=8:=be_len_le 8 u h
theorem val_lt (l:List Int) (hl:Bytes l):val l<256 ^ l.length:=by
 induction l using rev_ind with
 | nil=>simp [val]
 | snoc l c ih =>
  have h1:=ih (λx hx=>hl x (List.mem_append_left _ hx))
  have h2:=hl c (List.mem_append_right _ (List.mem_singleton.2 rfl))
  rw [val_snoc,List.length_append,List.length_singleton,Nat.pow_succ]
  have:c.toNat<256:=by omega
  have h3:(val l+1)*256<=256 ^ l.length*256:=Nat.mul_le_mul_right _ h1
  omega
theorem be_val (l:List Int) (hl:Bytes l) (h:∀ c r,l=c :: r->0<c):be (val l)=l:=by
 induction l using rev_ind with
 | nil=>rw [val_nil,be_zero]
 | snoc l c ih =>
  have h2:=hl c (List.mem_append_right _ (List.mem_singleton.2 rfl))
  have hb:Bytes l:=λx hx=>hl x (List.mem_append_left _ hx)
  rw [val_snoc]
  cases l with
  | nil =>
   have hc:=h c [] rfl
   rw [val_nil,be_pos yep_0]
   have e1:(0*256+c.toNat) / 256=0:=by omega
   have e2:(((0*256+c.toNat) % 256:Nat):Int)=c:=by omega
   rw [e1,e2,be_zero]
  | cons d l =>
   have hd:=h d (l++[c]) rfl
   have ih':=ih hb (λc' r' e=>by
    injection e with e1 e2
    rw [<-e1]
    exact hd)
   have hp:0<val (d :: l):=by
    rcases Nat.eq_zero_or_pos (val (d :: l)) with h0|h0
    ·rw [h0,be_zero] at ih'
     cases ih'
    ·exact h0
   rw [be_pos yep_0]
   have e1:(val (d :: l)*256+c.toNat) / 256=val (d :: l):=by omega
   have e2:(((val (d :: l)*256+c.toNat) % 256:Nat):Int)=c:=by omega
   rw [e1,e2,ih']
def getNum (l:List Int):Option (Nat×Nat) :=
 match l with
 | []=>none
 | c :: r=>if c.toNat<=8/\c.toNat<=r.length/\(0<c.toNat->r.getD 0 0≠0) then some (val (r.take c.toNat),c.toNat+1) else none
theorem num_length (u:Nat):(num u).length=(be u).length+1:=by simp [num]
theorem num_bytes {u:Nat} (h:u<18446744073709551616):Bytes (num u):=by
 intro x hx
 rcases List.mem_cons.1 hx with rfl|hx
 ·have:=be_len8 h
  omega
 ·exact be_bytes u x hx
theorem getNum_num (u:Nat) (hu:u<18446744073709551616) (r:List Int):getNum (num u++r)=some (u,(num u).length):=by
 have h8:=be_len8 hu
 show getNum (((be u).length:Int) :: (be u++r))=_
 unfold getNum
 simp only [Int.toNat_natCast]
 rw [if_pos]
 ·rw [List.take_left,val_be,num_length]
 ·refine ⟨h8,by simp,λh0=>?_⟩
  have hp:0<u:=by
   rcases Nat.eq_zero_or_pos u with h|h
   ·subst h;rw [be_zero] at h0;simp at h0
   ·exact h
  obtain ⟨c,l,e,hc⟩:=be_head u hp
  rw [e]
  simp
  omega
theorem getNum_some {l:List Int} (hl:Bytes l) {u n:Nat} (h:getNum l=some (u,n)):l.take n=num u/\u<18446744073709551616/\n=(num u).length/\n<=l.length:=by
 cases l with
 | nil=>cases h
 | cons c r =>
  unfold getNum at h
  simp only at h
  split at h
  ·rename_i hc
   obtain ⟨h8,hr,h0⟩:=hc
   simp only [Option.some.injEq,Prod.mk.injEq] at h
   obtain ⟨rfl,rfl⟩:=h
   have hb:Bytes (r.take c.toNat):=λx hx=>hl x (List.mem_cons_of_mem _ (List.mem_of_mem_take hx))
   have hlen:(r.take c.toNat).length=c.toNat:=by rw [List.length_take];omega
   have hv:be (val (r.take c.toNat))=r.take c.toNat:=be_val _ hb (λd q e=>by
    have hpos:0<c.toNat:=by
     rcases Nat.eq_zero_or_pos c.toNat with hz|hz
     ·rw [hz] at e
      cases e
     ·exact hz
    have h1:=h0 hpos
    have h2:r.getD 0 0=d:=by
     cases r with
     | nil=>simp at e
     | cons r0 r' =>
      obtain ⟨m,hm⟩:∃ m,c.toNat=m+1:=⟨c.toNat - 1,by omega⟩
      rw [hm,List.take_succ_cons] at e
      injection e with e1
    rw [h2] at h1
    have h3:=hb d (by rw [e];exact List.mem_cons_self)
    omega)
   have hc0:=hl c List.mem_cons_self
   have e:num (val (r.take c.toNat))=c :: r.take c.toNat:=by
    unfold num
    rw [hv,hlen]
    congr 1
    omega
   refine ⟨?_,?_,?_,?_⟩
   ·rw [e,List.take_succ_cons]
   ·have h1:=val_lt _ hb
    rw [hlen] at h1
    have h2:256 ^ c.toNat<=256 ^ 8:=Nat.pow_le_pow_right yep_0 h8
    exact Nat.lt_of_lt_of_le h1 h2
   ·rw [e,List.length_cons,hlen]
   ·simp;omega
  ·cases h
theorem num_take {c:Int} {r:List Int} (hl:Bytes (c :: r)) (h8:c.toNat<=8) (hr:c.toNat<=r.length):num (val (r.take c.toNat))=(c :: r).take (c.toNat+1)↔(0<c.toNat->r.getD 0 0≠0):=by
 have hb:Bytes (r.take c.toNat):=λx hx=>hl x (List.mem_cons_of_mem _ (List.mem_of_mem_take hx))
 constructor
 ·intro h hc h0
  rw [List.take_succ_cons] at h
  unfold num at h
  injection h with h1 h2
  obtain ⟨m,hm⟩:∃ m,c.toNat=m+1:=⟨c.toNat - 1,by omega⟩
  cases r with
  | nil=>simp at hr;omega
  | cons d r =>
   have hd:d=0:=by simpa using h0
   subst hd
   rw [hm,List.take_succ_cons] at h2
   rcases Nat.eq_zero_or_pos (val (0 :: r.take m)) with hz|hz
   ·rw [hz,be_zero] at h2
    cases h2
   ·obtain ⟨c',l',e',hc'⟩:=be_head _ hz
    rw [e'] at h2
    injection h2 with h3
    omega
 ·intro h
  have:getNum (c :: r)=some (val (r.take c.toNat),c.toNat+1):=by
   unfold getNum
   simp only
   rw [if_pos ⟨h8,hr,h⟩]
  exact(getNum_some hl this).1.symm
def text (t:List Int):List Int:=num t.length++t
def getText (l:List Int):Option (List Int×Nat) :=
 match getNum l with
 | none=>none
 | some (u,n)=>if u<=65536/\n+u<=l.length then some ((l.take (n+u)).drop n,n+u) else none
theorem getText_text (t:List Int) (ht:t.length<=65536) (r:List Int):getText (text t++r)=some (t,(text t).length):=by
 unfold getText text
 rw [List.append_assoc,getNum_num _ yep_0]
 simp only
 rw [if_pos ⟨ht,by simp⟩]
 have:List.take ((num t.length).length+t.length) (num t.length++(t++r))=num t.length++t:=by
  rw [<-List.append_assoc,show(num t.length).length+t.length=(num t.length++t).length by simp,List.take_left]
 rw [this,List.drop_left,List.length_append]
theorem getText_some {l:List Int} (hl:Bytes l) {t:List Int} {n:Nat} (h:getText l=some (t,n)):l.take n=text t/\t.length<=65536/\n=(text t).length/\n<=l.length/\Bytes t:=by
 unfold getText at h
 cases hg:getNum l with
 | none=>rw [hg] at h;cases h
 | some p =>
  obtain ⟨u,m⟩:=p
  rw [hg] at h
  simp only at h
  split at h
  ·rename_i hc
   simp only [Option.some.injEq,Prod.mk.injEq] at h
   obtain ⟨rfl,rfl⟩:=h
   obtain ⟨h1,h2,h3,h4⟩:=getNum_some hl hg
   have hlen:((l.take (m+u)).drop m).length=u:=by rw [List.length_drop,List.length_take];omega
   have e:l.take (m+u)=num u++(l.take (m+u)).drop m:=by
    have:=List.take_append_drop m (l.take (m+u))
    rw [List.take_take,Nat.min_eq_left yep_0,h1] at this
    exact this.symm
   refine ⟨?_,by omega,?_,by omega,λx hx=>hl x (List.mem_of_mem_take (List.mem_of_mem_drop hx))⟩
   ·unfold text
    rw [hlen]
    exact e
   ·unfold text;rw [hlen,List.length_append,hlen,h3]
  ·cases h
def texts (l:List (List Int)):List Int:=(l.map text).flatten
def pack (l:List (List Int)):List Int:=num l.length++texts l
def getTexts:Nat->List Int->Option (List (List Int)×Nat)
 | 0,_=>some ([],0)
 | m+1,l =>
  match getText l with
  | none=>none
  | some (t,n) =>
   match getTexts m (l.drop n) with
   | none=>none
   | some (ts,n')=>some (t :: ts,n+n')
theorem texts_cons (t:List Int) (ts:List (List Int)):texts (t :: ts)=text t++texts ts:=by simp [texts]
theorem getTexts_texts:∀ (ts:List (List Int)),(∀ t ∈ ts,t.length<=65536)->∀ r,getTexts ts.length (texts ts++r)=some (ts,(texts ts).length)
 | [],_,r=>rfl
 | t :: ts,h,r=>by
  rw [texts_cons,List.append_assoc]
  show getTexts (ts.length+1) _=_
  unfold getTexts
  rw [getText_text t (h t List.mem_cons_self)]
  simp only
  rw [List.drop_left,getTexts_texts ts (λt ht=>h t (List.mem_cons_of_mem _ ht))]
  simp
theorem getTexts_some:∀ (m:Nat) {l:List Int} (hl:Bytes l) {ts:List (List Int)} {n:Nat},getTexts m l=some (ts,n)->l.take n=texts ts/\ts.length=m/\n=(texts ts).length/\n<=l.length/\∀ t ∈ ts,t.length<=65536/\Bytes t
 | 0,l,hl,ts,n,h=>by
  unfold getTexts at h
  simp only [Option.some.injEq,Prod.mk.injEq] at h
  obtain ⟨rfl,rfl⟩:=h
  exact ⟨by simp [texts],rfl,by simp [texts],by omega,λt ht=>by cases ht⟩
 | m+1,l,hl,ts,n,h=>by
  unfold getTexts at h
  cases h1:getText l with
  | none=>rw [h1] at h;cases h
  | some p =>
   obtain ⟨t,n1⟩:=p
   rw [h1] at h
   simp only at h
   cases h2:getTexts m (l.drop n1) with
   | none=>rw [h2] at h;cases h
   | some q =>
    obtain ⟨ts',n2⟩:=q
    rw [h2] at h
    simp only [Option.some.injEq,Prod.mk.injEq] at h
    obtain ⟨rfl,rfl⟩:=h
    obtain ⟨a1,a2,a3,a4,a5⟩:=getText_some hl h1
    obtain ⟨b1,b2,b3,b4,b5⟩:=getTexts_some m (λx hx=>hl x (List.mem_of_mem_drop hx)) h2
    rw [List.length_drop] at b4
    refine ⟨?_,by simp [b2],?_,by omega,?_⟩
    ·rw [texts_cons,<-a1,<-b1,List.take_add]
    ·rw [texts_cons,List.length_append];omega
    ·intro x hx
     rcases List.mem_cons.1 hx with rfl|hx
     ·exact ⟨a2,a5⟩
     ·exact b5 x hx
def unpack (l:List Int) (most:Nat):Option (List (List Int)×Nat) :=
 match getNum l with
 | none=>none
 | some (u,n) =>
  if u<=most then
   match getTexts u (l.drop n) with
   | none=>none
   | some (ts,n')=>some (ts,n+n')
  else none
theorem unpack_pack (ts:List (List Int)) (h:∀ t ∈ ts,t.length<=65536) (hn:ts.length<18446744073709551616) (most:Nat) (hm:ts.length<=most) (r:List Int):unpack (pack ts++r) most=some (ts,(pack ts).length):=by
 unfold unpack pack
 rw [List.append_assoc,getNum_num _ hn]
 simp only
 rw [if_pos hm,List.drop_left,getTexts_texts ts h]
 simp
theorem unpack_some {l:List Int} (hl:Bytes l) {most:Nat} {ts:List (List Int)} {n:Nat} (h:unpack l most=some (ts,n)):l.take n=pack ts/\ts.length<=most/\n=(pack ts).length/\n<=l.length/\0<n/\∀ t ∈ ts,t.length<=65536/\Bytes t:=by
 unfold unpack at h
 cases h1:getNum l with
 | none=>rw [h1] at h;cases h
 | some p =>
  obtain ⟨u,n1⟩:=p
  rw [h1] at h
  simp only at h
  split at h
  ·rename_i hu
   cases h2:getTexts u (l.drop n1) with
   | none=>rw [h2] at h;cases h
   | some q =>
    obtain ⟨ts',n2⟩:=q
    rw [h2] at h
    simp only [Option.some.injEq,Prod.mk.injEq] at h
    obtain ⟨rfl,rfl⟩:=h
    obtain ⟨a1,a2,a3,a4⟩:=getNum_some hl h1
    obtain ⟨b1,b2,b3,b4,b5⟩:=getTexts_some u (λx hx=>hl x (List.mem_of_mem_drop hx)) h2
    rw [List.length_drop] at b4
    have hp:=num_length u
    refine ⟨?_,by omega,?_,by omega,by omega,b5⟩
    ·unfold pack;rw [b2,<-a1,<-b1,List.take_add]
    ·unfold pack;rw [b2,List.length_append];omega
  ·cases h
theorem texts_bytes (ts:List (List Int)) (h:∀ t ∈ ts,Bytes t/\t.length<18446744073709551616):Bytes (texts ts):=by
 intro x hx
 unfold texts at hx
 obtain ⟨l,hl,hx⟩:=List.mem_flatten.1 hx
 obtain ⟨t,ht,rfl⟩:=List.mem_map.1 hl
 rcases List.mem_append.1 hx with hx|hx
 ·exact num_bytes (h t ht).2 x hx
 ·exact(h t ht).1 x hx
theorem pack_bytes (ts:List (List Int)) (hn:ts.length<18446744073709551616) (h:∀ t ∈ ts,Bytes t/\t.length<18446744073709551616):Bytes (pack ts):=by
 intro x hx
 rcases List.mem_append.1 hx with hx|hx
 ·exact num_bytes hn x hx
 ·exact texts_bytes ts h x hx
end Go.Proofs.Ytgocnchjpecafaa.Wr
namespace Go.Proofs.Ytgocnchjpecafaa.PEv
open Go.RowKit Go.Proofs.YtgocnchjpecafaaW.PrintWords Go.Proofs.YtgocnchjpecafaaW.PrintLast Go.Proofs.Ytgocnchjpecafaa.Wr
set_option linter.unusedVariables false
set_option linter.unusedSimpArgs false
theorem wl_if {α:Type} {c:Prop} [Decidable c] {f g:Nat->Option α} {r:α} (hc:c) (h:Ev f r):Ev (λk=>if c then f k else g k) r:=Ev.congr (λk=>if_pos hc) h
theorem wl_else {α:Type} {c:Prop} [Decidable c] {f g:Nat->Option α} {r:α} (hc:¬ c) (h:Ev g r):Ev (λk=>if c then f k else g k) r:=Ev.congr (λk=>if_neg hc) h
theorem wl_rd {l:List Int} {i:Nat} (h:i<l.length):rd l (i:Int)=l[i]:=by
 unfold rd
 rw [List.getD_eq_getElem?_getD,Int.toNat_natCast,List.getElem?_eq_getElem h,Option.getD_some]
theorem wl_rdL {l:List (List Int)} {i:Nat} (h:i<l.length):rd_L10 l (i:Int)=l[i]:=by
 unfold rd_L10
 rw [List.getD_eq_getElem?_getD,Int.toNat_natCast,List.getElem?_eq_getElem h,Option.getD_some]
theorem wl_u64 {x:Int} (h0:0<=x) (h1:x<18446744073709551616):IntKind.u64.wrap x=x:=by rw [IntKind.wrap_u64];omega
theorem wl_w64 {x:Int} (h0:-9223372036854775808<=x) (h1:x<9223372036854775808):wrap64 x=x:=by unfold wrap64;omega
def numR (l:List Int):Int×Int×Int:=match getNum l with|none=>(0,0,2)|some (u,n)=>((u:Int),(n:Int),0)
theorem or_digit (a c:Nat) (ha:a<72057594037927936) (hc:c<256):Go.bits .or .u64 ((a*256:Nat):Int) (c:Int)=((a*256+c:Nat):Int):=by
 have:=bits_join .u64 64 (Nat.le_refl _) (λn h0 h1=>wl_u64 h0 (by simpa using h1)) 8 ((a*256:Nat):Int) (c:Int) yep_0 yep_0 yep_0 yep_0 yep_0 yep_0
 rw [this]
 omega
theorem val_cons_le (l:List Int) (hl:Bytes l) (n:Nat) (h:l.length<=n):val l<256 ^ n:=Nat.lt_of_lt_of_le (val_lt l hl) (Nat.pow_le_pow_right yep_0 h)
theorem getNum_loop (l:List Int) (n:Int) (hl:Bytes l) (h8:l.length<=8) (d:Nat):∀ (i:Nat),i+d=l.length->Ev (λk=>wire_GetNum.l0 k n ((val (l.take i):Nat):Int) l (l.length:Int) (i:Int)) (((val l:Nat):Int),n,0):=by
 induction d with
 | zero =>
  intro i hi
  have e:l.take i=l:=List.take_of_length_le yep_0
  rw [e]
  refine Ev.step (f:=λ_=>some (((val l:Nat):Int),n,0)) (λk=>?_) (Ev.now _)
  simp only [wire_GetNum.l0]
  rw [if_neg yep_0]
 | succ d ih =>
  intro i hi
  have hlt:i<l.length:=by omega
  have hw:wrap64 ((i:Int)+1)=((i+1:Nat):Int):=by unfold wrap64;omega
  have hc:=hl _ (List.getElem_mem hlt)
  have hv:val (l.take i)<256 ^ 7:=val_cons_le _ (λx hx=>hl x (List.mem_of_mem_take hx)) 7 (by rw [List.length_take];omega)
  have hv':val (l.take i)<72057594037927936:=hv
  have e1:val (l.take (i+1))=val (l.take i)*256+l[i].toNat:=by
   rw [<-val_snoc]
   congr 1
   exact List.take_succ_eq_append_getElem hlt
  refine Ev.step (f:=λk=>wire_GetNum.l0 k n ((val (l.take (i+1)):Nat):Int) l (l.length:Int) ((i+1:Nat):Int)) (λk=>?_) (ih (i+1) yep_0)
  simp only [wire_GetNum.l0]
  rw [if_pos yep_0,if_pos yep_0,if_pos yep_0,hw,wl_rd hlt,wl_u64 (x:=l[i]) yep_0 yep_0]
  rw [show((val (l.take i):Nat):Int)*256=((val (l.take i)*256:Nat):Int) from by omega,wl_u64 yep_0 yep_0]
  have:=or_digit (val (l.take i)) l[i].toNat hv' yep_0
  rw [show((l[i].toNat:Nat):Int)=l[i] by omega] at this
  rw [this,e1]
theorem getNum_ev (l:List Int) (hl:Bytes l) (hn:l.length<=140737488351232):Ev (λk=>wire_GetNum.f k l) (numR l):=by
 have bad:Ev (λk=>wire_GetNum.j0 k l true) (0,0,2):=by
  refine Ev.step (f:=λ_=>some (0,0,2)) (λk=>?_) (Ev.now _)
  simp only [wire_GetNum.j0]
  rw [if_pos trivial]
 unfold wire_GetNum.f
 cases l with
 | nil=>exact wl_if rfl bad
 | cons c r =>
  have hc:=hl c List.mem_cons_self
  have hr0:rd (c :: r) 0=c:=rfl
  have hlen:(((c :: r).length:Nat):Int)=(r.length:Int)+1:=by simp
  have wc:wrap64 c=c:=wl_w64 yep_0 yep_0
  have n1:¬ ((((c :: r).length:Nat):Int)=0):=by omega
  have n2:(0:Int)<(((c :: r).length:Nat):Int):=by omega
  refine wl_else n1 ?_
  refine wl_if n2 ?_
  rw [hr0,wc]
  by_cases h8:c > 8
  ·have e:numR (c :: r)=(0,0,2):=by
    unfold numR getNum
    simp only
    rw [if_neg (λh=>by omega)]
   rw [e]
   exact wl_if h8 bad
  ·refine wl_else h8 ?_
   by_cases hle:(((c :: r).length:Nat):Int)<=c
   ·have e:numR (c :: r)=(0,0,2):=by
     unfold numR getNum
     simp only
     rw [if_neg (λh=>by omega)]
    rw [e]
    exact wl_if hle bad
   ·refine wl_else hle ?_
    have w2:wrap64 (c+1)=c+1:=wl_w64 yep_0 yep_0
    have good:(0<c.toNat->r.getD 0 0≠0)->Ev (λk=>wire_GetNum.j0 k (c :: r) false) (numR (c :: r)):=by
     intro h0
     have e:numR (c :: r)=(((val (r.take c.toNat):Nat):Int),c+1,0):=by
      unfold numR getNum
      simp only
      rw [if_pos ⟨by omega,by omega,h0⟩]
      simp only
      congr 2
      omega
     rw [e]
     have et:((c :: r).take (c+1).toNat).drop 1=r.take c.toNat:=by
      rw [show(c+1).toNat=c.toNat+1 by omega,List.take_succ_cons]
      rfl
     refine Ev.step (f:=λk=>wire_GetNum.l0 k (c+1) 0 (r.take c.toNat) (((r.take c.toNat).length:Nat):Int) 0) (λk=>?_) ?_
     ·simp only [wire_GetNum.j0]
      have n3:(1:Int)<=c+1:=by omega
      have n4:c+1<=(((c :: r).length:Nat):Int):=by omega
      rw [if_neg (by simp),if_pos n2,hr0,wc,w2,if_pos n3,if_pos n4,et]
     ·have hb:Bytes (r.take c.toNat):=λx hx=>hl x (List.mem_cons_of_mem _ (List.mem_of_mem_take hx))
      have:=getNum_loop (r.take c.toNat) (c+1) hb (by rw [List.length_take];omega) (r.take c.toNat).length 0 yep_0
      exact this
    by_cases hp:c > 0
    ·refine wl_if hp ?_
     have n3:(1:Int)<(((c :: r).length:Nat):Int):=by omega
     refine wl_if n3 ?_
     have hr1:rd (c :: r) 1=r.getD 0 0:=by
      unfold rd
      rfl
     rw [hr1]
     by_cases h0:r.getD 0 0=0
     ·rw [h0]
      have e:numR (c :: r)=(0,0,2):=by
       unfold numR getNum
       simp only
       rw [if_neg (λh=>h.2.2 yep_0 h0)]
      rw [e]
      exact bad
     ·have:(r.getD 0 0 == 0)=false:=beq_eq_false_iff_ne.2 h0
      rw [this]
      exact good (λ_=>h0)
    ·exact wl_else hp (good (λh=>absurd h yep_0))
def textR (l:List Int):List Int×Int×Int:=match getText l with|none=>([],0,2)|some (t,n)=>(t,(n:Int),0)
theorem clone_ev (l:List Int) (hn:l.length<140737488355328):Ev (λ(_:Nat)=>bytes_Clone.f l) l:=by
 refine Ev.congr (λk=>?_) (Ev.now l)
 unfold bytes_Clone.f
 simp only [Option.bind_some]
 rw [if_pos (by simpa using hn)]
 rfl
theorem getText_ev (l:List Int) (hl:Bytes l) (hn:l.length<=140737488351232):Ev (λk=>wire_GetText.f k l) (textR l):=by
 unfold wire_GetText.f
 refine Ev.bind (getNum_ev l hl hn) ?_
 unfold textR numR
 cases hg:getNum l with
 | none =>
  have e:getText l=none:=by
   unfold getText
   rw [hg]
  rw [e]
  simp only
  exact wl_else (by decide) (Ev.now _)
 | some p =>
  obtain ⟨u,n⟩:=p
  simp only
  obtain ⟨a1,a2,a3,a4⟩:=getNum_some hl hg
  refine wl_if trivial ?_
  by_cases h1:u<=65536
  ·have n1:¬ ((u:Int) > 65536):=by omega
   refine wl_else n1 ?_
   have w1:wrap64 (u:Int)=(u:Int):=wl_w64 yep_0 yep_0
   have w2:wrap64 ((l.length:Int) - (n:Int))=(l.length:Int) - (n:Int):=wl_w64 yep_0 yep_0
   have w3:wrap64 ((n:Int)+(u:Int))=((n+u:Nat):Int):=by unfold wrap64;omega
   rw [w1,w2,w3]
   by_cases h2:n+u<=l.length
   ·have e:getText l=some ((l.take (n+u)).drop n,n+u):=by
     unfold getText
     rw [hg]
     exact if_pos ⟨h1,h2⟩
    rw [e]
    have n2:¬ ((u:Int) > (l.length:Int) - (n:Int)):=by omega
    have n3:(0:Int)<=(n:Int):=by omega
    have n4:(n:Int)<=((n+u:Nat):Int):=by omega
    have n5:((n+u:Nat):Int)<=(l.length:Int):=by omega
    refine wl_else n2 ?_
    refine wl_if n3 ?_
    refine wl_if n4 ?_
    refine wl_if n5 ?_
    simp only [Int.toNat_natCast]
    refine Ev.bind (clone_ev _ (by rw [List.length_drop,List.length_take];omega)) ?_
    exact Ev.now _
   ·have e:getText l=none:=by
     unfold getText
     rw [hg]
     exact if_neg (λh=>h2 h.2)
    rw [e]
    have n2:(u:Int) > (l.length:Int) - (n:Int):=by omega
    exact wl_if n2 (Ev.now _)
  ·have e:getText l=none:=by
    unfold getText
    rw [hg]
    exact if_neg (λh=>h1 h.1)
   rw [e]
   have n1:(u:Int) > 65536:=by omega
   exact wl_if n1 (Ev.now _)
def packR (l:List Int) (most:Nat):List (List Int)×Int×Int:=match unpack l most with|none=>([],0,2)|some (ts,n)=>(ts,(n:Int),0)
def textsR (out:List (List Int)) (at_:Nat) (r:Option (List (List Int)×Nat)):List (List Int)×Int×Int:=match r with|none=>([],0,2)|some (ts,n)=>(out++ts,((at_+n:Nat):Int),0)
theorem unpack_loop (l:List Int) (hl:Bytes l) (hn:l.length<=140737488351232) (m:Nat) (hm:m<=1000) (d:Nat):∀ (out:List (List Int)) (i at_:Nat),i+d=m->at_<=l.length->out.length=i->Ev (λk=>wire_Unpack.l0 k l (at_:Int) out (m:Int) (i:Int)) (textsR out at_ (getTexts d (l.drop at_))):=by
 induction d with
 | zero =>
  intro out i at_ hi hat ho
  have e:textsR out at_ (getTexts 0 (l.drop at_))=(out,(at_:Int),0):=by
   unfold textsR getTexts
   simp
  rw [e]
  refine Ev.step (f:=λ_=>some (out,(at_:Int),0)) (λk=>?_) (Ev.now _)
  simp only [wire_Unpack.l0]
  rw [if_neg yep_0]
 | succ d ih =>
  intro out i at_ hi hat ho
  have hb:Bytes (l.drop at_):=λx hx=>hl x (List.mem_of_mem_drop hx)
  have hw:IntKind.u64.wrap ((i:Int)+1)=((i+1:Nat):Int):=by rw [wl_u64 yep_0 yep_0];omega
  refine Ev.step (f:=λk=>(wire_GetText.f k (l.drop at_)).bind λbt=>if bt.2.2=0 then(if out.length<5864062014805 then wire_Unpack.l0 k l (wrap64 ((at_:Int)+bt.2.1)) (out++[bt.1]) (m:Int) ((i+1:Nat):Int) else none) else some ([],0,bt.2.2)) (λk=>?_) ?_
  ·simp only [wire_Unpack.l0];rw [if_pos yep_0,if_pos yep_0,if_pos yep_0,hw,Int.toNat_natCast]
  ·refine Ev.bind (getText_ev _ hb (by rw [List.length_drop];omega)) ?_
   unfold textR
   conv=>rhs;unfold getTexts
   cases hg:getText (l.drop at_) with
   | none =>
    simp only
    exact wl_else (by decide) (Ev.now _)
   | some p =>
    obtain ⟨t,n⟩:=p
    simp only
    obtain ⟨a1,a2,a3,a4,a5⟩:=getText_some hb hg
    clear a1 a2 a3 a5
    rw [List.length_drop] at a4
    have hi':i+1+d=m:=by omega
    have hat':at_+n<=l.length:=by omega
    refine wl_if trivial ?_
    refine wl_if yep_0 ?_
    have w1:wrap64 ((at_:Int)+(n:Int))=((at_+n:Nat):Int):=by unfold wrap64;omega
    rw [w1]
    have ho':(out++[t]).length=i+1:=by rw [List.length_append,ho];rfl
    have:=ih (out++[t]) (i+1) (at_+n) hi' hat' ho'
    rw [List.drop_drop]
    cases hg2:getTexts d (l.drop (at_+n)) with
    | none =>
     rw [hg2] at this
     exact this
    | some q =>
     obtain ⟨ts,n'⟩:=q
     rw [hg2] at this
     unfold textsR at this ⊢
     simp only at this ⊢
     rw [List.append_assoc,Nat.add_assoc] at this
     exact this
theorem unpack_ev (l:List Int) (hl:Bytes l) (hn:l.length<=140737488351232) (most:Nat) (hm:most<=1000):Ev (λk=>wire_Unpack.f k l (most:Int)) (packR l most):=by
 unfold wire_Unpack.f
 have n0:¬ ((most:Int)<0):=by omega
 refine wl_else n0 ?_
 have n1:¬ ((most:Int) > 1000):=by omega
 rw [decide_eq_false n1]
 have wm:IntKind.u64.wrap (most:Int)=(most:Int):=wl_u64 yep_0 yep_0
 refine Ev.step (f:=λk=>(wire_GetNum.f k l).bind λbt=>if bt.2.2=0 then wire_Unpack.j1 k l bt.1 bt.2.1 (decide (bt.1 > (most:Int))) else wire_Unpack.j1 k l bt.1 bt.2.1 true) (λk=>?_) ?_
 ·simp only [wire_Unpack.j0];rw [if_neg (by simp),wm]
 ·refine Ev.bind (getNum_ev l hl hn) ?_
  have bad:∀ x y:Int,Ev (λk=>wire_Unpack.j1 k l x y true) ([],0,2):=λx y=>by
   refine Ev.step (f:=λ_=>some ([],0,2)) (λk=>?_) (Ev.now _)
   simp only [wire_Unpack.j1]
   rw [if_pos trivial]
  unfold packR unpack numR
  cases hg:getNum l with
  | none =>
   simp only
   exact wl_else (by decide) (bad _ _)
  | some p =>
   obtain ⟨u,n⟩:=p
   simp only
   obtain ⟨a1,a2,a3,a4⟩:=getNum_some hl hg
   refine wl_if trivial ?_
   by_cases h1:u<=most
   ·have n2:¬ ((u:Int) > (most:Int)):=by omega
    rw [decide_eq_false n2,if_pos h1]
    refine Ev.step (f:=λk=>wire_Unpack.l0 k l (n:Int) [] (u:Int) 0) (λk=>?_) ?_
    ·simp only [wire_Unpack.j1];rw [if_neg (by simp)]
    ·have:=unpack_loop l hl hn u yep_0 u [] 0 n yep_0 a4 rfl
     cases hg2:getTexts u (l.drop n) with
     | none =>
      rw [hg2] at this
      exact this
     | some q =>
      obtain ⟨ts,n'⟩:=q
      rw [hg2] at this
      exact this
   ·have n2:(u:Int) > (most:Int):=by omega
    rw [decide_eq_true n2,if_neg h1]
    exact bad _ _
end Go.Proofs.Ytgocnchjpecafaa.PEv
namespace Go.Proofs.Ytgocnchjpecafaa.PEv
open Go.RowKit Go.Proofs.YtgocnchjpecafaaW.PrintWords Go.Proofs.YtgocnchjpecafaaW.PrintLast Go.Proofs.Ytgocnchjpecafaa.Wr
set_option linter.unusedVariables false
set_option linter.unusedSimpArgs false
theorem cons_dec {α:Type} [DecidableEq α] (x y:α) (xs ys:List α):decide (x :: xs=y :: ys)=(decide (x=y) && decide (xs=ys)):=by
 rw [Bool.eq_iff_iff]
 simp
theorem eq_loop (a b:List Int) (hab:a.length=b.length) (hn:a.length<=140737488355328) (d:Nat):∀ (i:Nat),i+d=a.length->Ev (λk=>r02_Bytes.l0 k a b (i:Int)) (decide (a.drop i=b.drop i)):=by
 induction d with
 | zero =>
  intro i hi
  have e1:a.drop i=[]:=List.drop_eq_nil_of_le yep_0
  have e2:b.drop i=[]:=List.drop_eq_nil_of_le yep_0
  rw [e1,e2]
  refine Ev.step (f:=λ_=>some true) (λk=>?_) (Ev.now _)
  simp only [r02_Bytes.l0]
  rw [if_neg yep_0]
 | succ d ih =>
  intro i hi
  have ha:i<a.length:=by omega
  have hb:i<b.length:=by omega
  have hw:wrap64 ((i:Int)+1)=((i+1:Nat):Int):=by unfold wrap64;omega
  have e:decide (a.drop i=b.drop i)=(decide (a[i]=b[i]) && decide (a.drop (i+1)=b.drop (i+1))):=by
   rw [List.drop_eq_getElem_cons ha,List.drop_eq_getElem_cons hb]
   exact cons_dec _ _ _ _
  rw [e]
  by_cases h:a[i]=b[i]
  ·rw [decide_eq_true h,Bool.true_and]
   refine Ev.step (f:=λk=>r02_Bytes.l0 k a b ((i+1:Nat):Int)) (λk=>?_) (ih (i+1) yep_0)
   simp only [r02_Bytes.l0]
   rw [if_pos yep_0,if_pos yep_0,if_pos yep_0,wl_rd ha,wl_rd hb,if_pos h,hw]
  ·rw [decide_eq_false h,Bool.false_and]
   refine Ev.step (f:=λ_=>some false) (λk=>?_) (Ev.now _)
   simp only [r02_Bytes.l0]
   rw [if_pos yep_0,if_pos yep_0,if_pos yep_0,wl_rd ha,wl_rd hb,if_neg h]
theorem eq_ev (a b:List Int) (hn:a.length<=140737488355328):Ev (λk=>r02_Bytes.f k a b) (decide (a=b)):=by
 unfold r02_Bytes.f
 by_cases h:a.length=b.length
 ·have h':(a.length:Int)=(b.length:Int):=by omega
  exact wl_if h' (eq_loop a b h hn a.length 0 yep_0)
 ·have h':¬ ((a.length:Int)=(b.length:Int)):=by omega
  have e:decide (a=b)=false:=decide_eq_false (λe=>h (by rw [e]))
  rw [e]
  exact wl_else h' (Ev.now _)
theorem refNum_loop (u:Nat):∀ (out:List Int),u<18446744073709551616->(be u).length+out.length<=8->Ev (λk=>r02_Num.l0 k (u:Int) out) ((((be u++out).length:Nat):Int) :: (be u++out)):=by
 induction u using Nat.strongRecOn with
 | _ u ih =>
  intro out hu hl
  rcases Nat.eq_zero_or_pos u with h0|h0
  ·subst h0
   rw [be_zero] at hl ⊢
   simp only [List.length_nil,Nat.zero_add] at hl
   refine Ev.step (f:=λ_=>some (((out.length:Nat):Int) :: out)) (λk=>?_) (Ev.now _)
   simp only [r02_Num.l0]
   rw [if_neg yep_0]
   simp only [Option.bind_some]
   have e:((out.length:Nat):Int) % 256=((out.length:Nat):Int):=by omega
   rw [e,if_pos (by rw [List.length_singleton];omega)]
   rfl
  ·have e1:Int.tmod (u:Int) 256 % 256=((u % 256:Nat):Int):=by
    rw [show Int.tmod (u:Int) 256=((u % 256:Nat):Int) from rfl]
    omega
   have e2:IntKind.u64.wrap (Int.tdiv (u:Int) 256)=((u / 256:Nat):Int):=by
    rw [show Int.tdiv (u:Int) 256=((u / 256:Nat):Int) from rfl]
    exact wl_u64 yep_0 yep_0
   have hb:=be_pos h0
   rw [hb] at hl ⊢
   rw [List.length_append,List.length_singleton] at hl
   refine Ev.step (f:=λk=>r02_Num.l0 k ((u / 256:Nat):Int) (((u % 256:Nat):Int) :: out)) (λk=>?_) ?_
   ·simp only [r02_Num.l0]
    rw [if_pos yep_0]
    simp only [Option.bind_some]
    rw [e1,e2,if_pos (by rw [List.length_singleton];omega)]
    rfl
   ·have:=ih (u / 256) yep_0 (((u % 256:Nat):Int) :: out) yep_0 (by rw [List.length_cons];omega)
    rw [List.append_assoc]
    exact this
theorem refNum_ev (u:Nat) (hu:u<18446744073709551616):Ev (λk=>r02_Num.f k (u:Int)) (num u):=by
 have:=refNum_loop u [] hu (by have:=be_len8 hu;simpa using this)
 rw [List.append_nil] at this
 exact this
theorem refText_ev (t:List Int) (ht:t.length<140737488350000):Ev (λk=>r02_Text.f k t) (text t):=by
 unfold r02_Text.f
 rw [wl_u64 yep_0 yep_0]
 refine Ev.bind (refNum_ev t.length yep_0) ?_
 have h:=num_length t.length
 have h8:=be_len8 (u:=t.length) yep_0
 refine wl_if yep_0 ?_
 exact Ev.now _
theorem refPack_loop (l:List (List Int)) (hn:l.length<=1000000) (hl:∀ t ∈ l,t.length<=1000000) (d:Nat):∀ (out:List Int) (i:Nat),i+d=l.length->out.length<=9+i*1000009->Ev (λk=>r02_Pack.l0 k l out (i:Int)) (out++texts (l.drop i)):=by
 induction d with
 | zero =>
  intro out i hi ho
  have e:l.drop i=[]:=List.drop_eq_nil_of_le yep_0
  rw [e]
  refine Ev.step (f:=λ_=>some out) (λk=>?_) (by simpa [texts] using Ev.now out)
  simp only [r02_Pack.l0]
  rw [if_neg yep_0]
 | succ d ih =>
  intro out i hi ho
  have hlt:i<l.length:=by omega
  have hw:wrap64 ((i:Int)+1)=((i+1:Nat):Int):=by unfold wrap64;omega
  have hm:=hl _ (List.getElem_mem hlt)
  have hnum:=num_length l[i].length
  have h8:=be_len8 (u:=l[i].length) yep_0
  have hlen:(text l[i]).length<=1000009:=by unfold text;rw [List.length_append];omega
  have hmul:i*1000009<=1000000*1000009:=Nat.mul_le_mul_right _ yep_0
  refine Ev.step (f:=λk=>(r02_Text.f k l[i]).bind λt=>if out.length+t.length<140737488355328 then r02_Pack.l0 k l (out++t) ((i+1:Nat):Int) else none) (λk=>?_) ?_
  ·simp only [r02_Pack.l0];rw [if_pos yep_0,if_pos yep_0,hw,wl_rdL hlt]
  ·refine Ev.bind (refText_ev _ yep_0) ?_
   refine wl_if yep_0 ?_
   have:=ih (out++text l[i]) (i+1) yep_0 (by rw [List.length_append];omega)
   rw [List.drop_eq_getElem_cons hlt,texts_cons,<-List.append_assoc]
   exact this
theorem refPack_ev (l:List (List Int)) (hn:l.length<=1000000) (hl:∀ t ∈ l,t.length<=1000000):Ev (λk=>r02_Pack.f k l) (pack l):=by
 unfold r02_Pack.f
 rw [wl_u64 yep_0 yep_0]
 refine Ev.bind (refNum_ev l.length yep_0) ?_
 have h:=num_length l.length
 have h8:=be_len8 (u:=l.length) yep_0
 exact refPack_loop l hn hl l.length _ 0 yep_0 yep_0
def numR2 (l:List Int):Int×Int:=match getNum l with|none=>(0,0)|some (u,n)=>((u:Int),(n:Int))
theorem refGetNum_loop (c:Int) (r:List Int) (hl:Bytes (c :: r)) (h8:c.toNat<=8) (hr:c.toNat<=r.length) (hn:r.length<=140737488351231) (d:Nat):∀ (i:Nat),i+d=c.toNat->Ev (λk=>r02_GetNum.l0 k (c :: r) (c+1) ((val (r.take i):Nat):Int) ((i+1:Nat):Int)) (numR2 (c :: r)):=by
 have hc:=hl c List.mem_cons_self
 induction d with
 | zero =>
  intro i hi
  have hi':i=c.toNat:=by omega
  subst hi'
  have hb:Bytes (r.take c.toNat):=λx hx=>hl x (List.mem_cons_of_mem _ (List.mem_of_mem_take hx))
  have hv:val (r.take c.toNat)<18446744073709551616:=val_cons_le _ hb 8 (by rw [List.length_take];omega)
  refine Ev.step (f:=λk=>(r02_Num.f k ((val (r.take c.toNat):Nat):Int)).bind λt=>(r02_Bytes.f k t ((c :: r).take (c.toNat+1))).bind λq=>if q=true then some (((val (r.take c.toNat):Nat):Int),c+1) else some (0,0)) (λk=>?_) ?_
  ·simp only [r02_GetNum.l0]
   have n1:¬ (((c.toNat+1:Nat):Int)<c+1):=by omega
   have n2:(0:Int)<=c+1:=by omega
   have n3:c+1<=(((c :: r).length:Nat):Int):=by rw [List.length_cons];omega
   have n4:(c+1).toNat=c.toNat+1:=by omega
   rw [if_neg n1]
   congr 1
   funext t
   rw [if_pos n2,if_pos n3,n4]
  ·refine Ev.bind (refNum_ev _ hv) ?_
   have hlen:(num (val (r.take c.toNat))).length<=140737488355328:=by
    have:=num_length (val (r.take c.toNat))
    have:=be_len8 hv
    omega
   refine Ev.bind (eq_ev _ _ hlen) ?_
   have hq:=num_take hl h8 hr
   by_cases h:num (val (r.take c.toNat))=(c :: r).take (c.toNat+1)
   ·have e:numR2 (c :: r)=(((val (r.take c.toNat):Nat):Int),c+1):=by
     unfold numR2 getNum
     simp only
     rw [if_pos ⟨h8,hr,hq.1 h⟩]
     simp only
     congr 1
     omega
    rw [e]
    exact wl_if (decide_eq_true h) (Ev.now _)
   ·have e:numR2 (c :: r)=(0,0):=by
     unfold numR2 getNum
     simp only
     rw [if_neg (λhh=>h (hq.2 hh.2.2))]
    rw [e]
    exact wl_else (by rw [decide_eq_false h];decide) (Ev.now _)
 | succ d ih =>
  intro i hi
  have hlt:i<r.length:=by omega
  have hw:wrap64 (((i+1:Nat):Int)+1)=((i+1+1:Nat):Int):=by unfold wrap64;omega
  have hx:=hl _ (List.mem_cons_of_mem c (List.getElem_mem hlt))
  have hv:val (r.take i)<256 ^ 7:=val_cons_le _ (λx hx=>hl x (List.mem_cons_of_mem _ (List.mem_of_mem_take hx))) 7 (by rw [List.length_take];omega)
  have hv':val (r.take i)<72057594037927936:=hv
  have e1:val (r.take (i+1))=val (r.take i)*256+r[i].toNat:=by
   rw [<-val_snoc]
   congr 1
   exact List.take_succ_eq_append_getElem hlt
  have hrd:rd (c :: r) ((i+1:Nat):Int)=r[i]:=wl_rd (l:=c :: r) (i:=i+1) (by rw [List.length_cons];omega)
  refine Ev.step (f:=λk=>r02_GetNum.l0 k (c :: r) (c+1) ((val (r.take (i+1)):Nat):Int) ((i+1+1:Nat):Int)) (λk=>?_) (ih (i+1) yep_0)
  simp only [r02_GetNum.l0]
  have n1:((i+1:Nat):Int)<c+1:=by omega
  have n2:(0:Int)<=((i+1:Nat):Int):=by omega
  have n3:((i+1:Nat):Int)<(((c :: r).length:Nat):Int):=by rw [List.length_cons];omega
  rw [if_pos n1,if_pos n2,if_pos n3,hw,hrd,wl_u64 (x:=r[i]) yep_0 yep_0]
  rw [show((val (r.take i):Nat):Int)*256=((val (r.take i)*256:Nat):Int) from by omega,wl_u64 (x:=((val (r.take i)*256:Nat):Int)) yep_0 yep_0]
  have e2:((val (r.take i)*256:Nat):Int)+r[i]=((val (r.take (i+1)):Nat):Int):=by rw [e1];omega
  rw [e2,wl_u64 yep_0 (by rw [e1];omega)]
theorem refGetNum_ev (l:List Int) (hl:Bytes l) (hn:l.length<=140737488351232):Ev (λk=>r02_GetNum.f k l) (numR2 l):=by
 have bad:Ev (λk=>r02_GetNum.j0 k l true) (0,0):=by
  refine Ev.step (f:=λ_=>some (0,0)) (λk=>?_) (Ev.now _)
  simp only [r02_GetNum.j0]
  rw [if_pos trivial]
 unfold r02_GetNum.f
 cases l with
 | nil=>exact wl_if rfl bad
 | cons c r =>
  have hc:=hl c List.mem_cons_self
  have hr0:rd (c :: r) 0=c:=rfl
  have hlen:(((c :: r).length:Nat):Int)=(r.length:Int)+1:=by simp
  rw [List.length_cons] at hn
  have wc:wrap64 c=c:=wl_w64 yep_0 yep_0
  have w2:wrap64 (c+1)=c+1:=wl_w64 yep_0 yep_0
  have n1:¬ ((((c :: r).length:Nat):Int)=0):=by omega
  have n2:(0:Int)<(((c :: r).length:Nat):Int):=by omega
  refine wl_else n1 ?_
  refine wl_if n2 ?_
  rw [hr0,wc,w2]
  by_cases h8:c > 8
  ·have e:numR2 (c :: r)=(0,0):=by
    unfold numR2 getNum
    simp only
    rw [if_neg (λh=>by omega)]
   rw [e]
   exact wl_if h8 bad
  ·refine wl_else h8 ?_
   by_cases hle:(((c :: r).length:Nat):Int)<c+1
   ·have e:numR2 (c :: r)=(0,0):=by
     unfold numR2 getNum
     simp only
     rw [if_neg (λh=>by omega)]
    rw [e,decide_eq_true hle]
    exact bad
   ·rw [decide_eq_false hle]
    refine Ev.step (f:=λk=>r02_GetNum.l0 k (c :: r) (c+1) ((val (r.take 0):Nat):Int) ((0+1:Nat):Int)) (λk=>?_) (refGetNum_loop c r hl yep_0 yep_0 yep_0 c.toNat 0 yep_0)
    simp only [r02_GetNum.j0]
    rw [if_neg (by simp),if_pos n2,hr0,wc,w2]
    rfl
def textR2 (l:List Int):List Int×Int:=match getText l with|none=>([],0)|some (t,n)=>(t,(n:Int))
theorem num_pos {l:List Int} (hl:Bytes l) {u n:Nat} (h:getNum l=some (u,n)):0<n:=by
 have h3:=(getNum_some hl h).2.2.1
 have:=num_length u
 omega
theorem refGetText_ev (l:List Int) (hl:Bytes l) (hn:l.length<=140737488351232):Ev (λk=>r02_GetText.f k l) (textR2 l):=by
 unfold r02_GetText.f
 refine Ev.bind (refGetNum_ev l hl hn) ?_
 unfold textR2 numR2
 cases hg:getNum l with
 | none =>
  have e:getText l=none:=by
   unfold getText
   rw [hg]
  rw [e]
  simp only
  exact wl_if trivial (Ev.now _)
 | some p =>
  obtain ⟨u,n⟩:=p
  simp only
  have hp:=num_pos hl hg
  have hu:=(getNum_some hl hg).2.1
  have hnl:=(getNum_some hl hg).2.2.2
  have n0:¬ ((n:Int)=0):=by omega
  refine wl_else n0 ?_
  by_cases h1:u<=65536
  ·have n1:¬ ((u:Int) > 65536):=by omega
   refine wl_else n1 ?_
   have w1:wrap64 (u:Int)=(u:Int):=wl_w64 yep_0 yep_0
   have w3:wrap64 ((n:Int)+(u:Int))=((n+u:Nat):Int):=by unfold wrap64;omega
   rw [w1,w3]
   by_cases h2:n+u<=l.length
   ·have e:getText l=some ((l.take (n+u)).drop n,n+u):=by
     unfold getText
     rw [hg]
     exact if_pos ⟨h1,h2⟩
    rw [e]
    have n2:¬ (((n+u:Nat):Int) > (l.length:Int)):=by omega
    have n3:(0:Int)<=(n:Int):=by omega
    have n4:(n:Int)<=((n+u:Nat):Int):=by omega
    have n5:((n+u:Nat):Int)<=(l.length:Int):=by omega
    have n6:([]:List Int).length+((l.take (n+u)).drop n).length<140737488355328:=by rw [List.length_drop,List.length_take,List.length_nil];omega
    refine wl_else n2 ?_
    refine Ev.congr (λk=>Option.bind_some _ _) ?_
    refine wl_if n3 ?_
    refine wl_if n4 ?_
    refine wl_if n5 ?_
    simp only [Int.toNat_natCast,List.nil_append]
    exact wl_if n6 (Ev.now _)
   ·have e:getText l=none:=by
     unfold getText
     rw [hg]
     exact if_neg (λh=>h2 h.2)
    rw [e]
    have n2:((n+u:Nat):Int) > (l.length:Int):=by omega
    exact wl_if n2 (Ev.now _)
  ·have e:getText l=none:=by
    unfold getText
    rw [hg]
    exact if_neg (λh=>h1 h.1)
   rw [e]
   have n1:(u:Int) > 65536:=by omega
   exact wl_if n1 (Ev.now _)
theorem text_pos {l:List Int} (hl:Bytes l) {t:List Int} {n:Nat} (h:getText l=some (t,n)):0<n:=by
 have h3:=(getText_some hl h).2.2.1
 have:=num_length t.length
 unfold text at h3
 rw [List.length_append] at h3
 omega
def packR2 (l:List Int) (most:Nat):List (List Int)×Int:=match unpack l most with|none=>([],0)|some (ts,n)=>(ts,(n:Int))
def textsR2 (out:List (List Int)) (at_:Nat) (r:Option (List (List Int)×Nat)):List (List Int)×Int:=match r with|none=>([],0)|some (ts,n)=>(out++ts,((at_+n:Nat):Int))
theorem refUnpack_loop (l:List Int) (hl:Bytes l) (hn:l.length<=140737488351232) (m:Nat) (hm:m<=1000) (d:Nat):∀ (out:List (List Int)) (i at_:Nat),i+d=m->at_<=l.length->out.length=i->Ev (λk=>r02_Unpack.l0 k l (m:Int) (at_:Int) out (i:Int)) (textsR2 out at_ (getTexts d (l.drop at_))):=by
 have wm:wrap64 (m:Int)=(m:Int):=wl_w64 yep_0 yep_0
 induction d with
 | zero =>
  intro out i at_ hi hat ho
  have e:textsR2 out at_ (getTexts 0 (l.drop at_))=(out,(at_:Int)):=by
   unfold textsR2 getTexts
   simp
  rw [e]
  refine Ev.step (f:=λ_=>some (out,(at_:Int))) (λk=>?_) (Ev.now _)
  simp only [r02_Unpack.l0]
  rw [wm,if_neg yep_0]
 | succ d ih =>
  intro out i at_ hi hat ho
  have hb:Bytes (l.drop at_):=λx hx=>hl x (List.mem_of_mem_drop hx)
  have hw:wrap64 ((i:Int)+1)=((i+1:Nat):Int):=by unfold wrap64;omega
  refine Ev.step (f:=λk=>(r02_GetText.f k (l.drop at_)).bind λbt=>if bt.2=0 then some ([],0) else(if out.length<5864062014805 then r02_Unpack.l0 k l (m:Int) (wrap64 ((at_:Int)+bt.2)) (out++[bt.1]) ((i+1:Nat):Int) else none)) (λk=>?_) ?_
  ·simp only [r02_Unpack.l0];rw [wm,if_pos yep_0,if_pos yep_0,if_pos yep_0,hw,Int.toNat_natCast]
  ·refine Ev.bind (refGetText_ev _ hb (by rw [List.length_drop];omega)) ?_
   unfold textR2
   conv=>rhs;unfold getTexts
   cases hg:getText (l.drop at_) with
   | none =>
    simp only
    exact wl_if trivial (Ev.now _)
   | some p =>
    obtain ⟨t,n⟩:=p
    simp only
    have hp:=text_pos hb hg
    obtain ⟨a1,a2,a3,a4,a5⟩:=getText_some hb hg
    clear a1 a2 a3 a5
    rw [List.length_drop] at a4
    have hi':i+1+d=m:=by omega
    have hat':at_+n<=l.length:=by omega
    have n0:¬ ((n:Int)=0):=by omega
    refine wl_else n0 ?_
    refine wl_if yep_0 ?_
    have w1:wrap64 ((at_:Int)+(n:Int))=((at_+n:Nat):Int):=by unfold wrap64;omega
    rw [w1]
    have ho':(out++[t]).length=i+1:=by rw [List.length_append,ho];rfl
    have:=ih (out++[t]) (i+1) (at_+n) hi' hat' ho'
    rw [List.drop_drop]
    cases hg2:getTexts d (l.drop (at_+n)) with
    | none =>
     rw [hg2] at this
     exact this
    | some q =>
     obtain ⟨ts,n'⟩:=q
     rw [hg2] at this
     unfold textsR2 at this ⊢
     simp only at this ⊢
     rw [List.append_assoc,Nat.add_assoc] at this
     exact this
theorem refUnpack_ev (l:List Int) (hl:Bytes l) (hn:l.length<=140737488351232) (most:Nat) (hm:most<=1000):Ev (λk=>r02_Unpack.f k l (most:Int)) (packR2 l most):=by
 unfold r02_Unpack.f
 refine Ev.bind (refGetNum_ev l hl hn) ?_
 have wm:IntKind.u64.wrap (most:Int)=(most:Int):=wl_u64 yep_0 yep_0
 have bad:∀ x y:Int,Ev (λk=>r02_Unpack.j0 k l x y true) ([],0):=λx y=>by
  refine Ev.step (f:=λ_=>some ([],0)) (λk=>?_) (Ev.now _)
  simp only [r02_Unpack.j0]
  rw [if_pos trivial]
 unfold packR2 unpack numR2
 cases hg:getNum l with
 | none =>
  simp only
  exact wl_if trivial (bad _ _)
 | some p =>
  obtain ⟨u,n⟩:=p
  simp only
  have hp:=num_pos hl hg
  have hnl:=(getNum_some hl hg).2.2.2
  have n0:¬ ((n:Int)=0):=by omega
  refine wl_else n0 ?_
  rw [wm]
  by_cases h1:u<=most
  ·have n2:¬ ((u:Int) > (most:Int)):=by omega
   rw [decide_eq_false n2,if_pos h1]
   refine Ev.step (f:=λk=>r02_Unpack.l0 k l (u:Int) (n:Int) [] 0) (λk=>?_) ?_
   ·simp only [r02_Unpack.j0];rw [if_neg (by simp)]
   ·have:=refUnpack_loop l hl hn u yep_0 u [] 0 n yep_0 hnl rfl
    cases hg2:getTexts u (l.drop n) with
    | none =>
     rw [hg2] at this
     exact this
    | some q =>
     obtain ⟨ts,n'⟩:=q
     rw [hg2] at this
     exact this
  ·have n2:(u:Int) > (most:Int):=by omega
   rw [decide_eq_true n2,if_neg h1]
   exact bad _ _
end Go.Proofs.Ytgocnchjpecafaa.PEv
namespace Go.Proofs.Ytgocnchjpecafaa.ClockBase
open Go.Proofs.Ytgocnchjpecafaa.Wr
set_option linter.unusedVariables false
set_option linter.unusedSimpArgs false
def numsB (l:List Int):List (List Int):=l.map λn=>num n.toNat
def putB (c:List Int):List Int:=pack (numsB (trim (ofL c)))
def whole1 (t:List Int):Option Int:=match getNum t with|none=>none|some (u,k)=>if k=t.length/\u<=1048576 then some (u:Int) else none
def wholes:List (List Int)->Option (List Int)
 | []=>some []
 | t :: ts=>match whole1 t with|none=>none|some n=>match wholes ts with|none=>none|some l=>some (n :: l)
def readB (b:List Int):Option (List Int×Nat):=match unpack b 5 with
 | none=>none
 | some (ts,n)=>match wholes ts with
  | none=>none
  | some c=>if (trim (ofL c)).length=c.length then some (c,n) else none
theorem whole1_num {n:Int} (h0:0<=n) (h1:n<=1048576):whole1 (num n.toNat)=some n:=by
 have h:=getNum_num n.toNat yep_0 []
 rw [List.append_nil] at h
 unfold whole1
 rw [h]
 simp only
 rw [if_pos ⟨trivial,by omega⟩]
 congr 1
 omega
theorem whole1_some {t:List Int} (ht:Bytes t) {n:Int} (h:whole1 t=some n):t=num n.toNat/\0<=n/\n<=1048576:=by
 unfold whole1 at h
 cases hg:getNum t with
 | none =>
  rw [hg] at h
  cases h
 | some p =>
  obtain ⟨u,k⟩:=p
  rw [hg] at h
  simp only at h
  split at h
  ·rename_i hk
   obtain rfl:=Option.some.inj h
   have:=(getNum_some ht hg).1
   rw [hk.1,List.take_length] at this
   exact ⟨by simpa using this,by omega,by omega⟩
  ·cases h
theorem wholes_nums:∀ {l:List Int},(∀ n ∈ l,0<=n/\n<=1048576)->wholes (numsB l)=some l
 | [],_=>rfl
 | n :: l,h=>by
  have h1:=h n List.mem_cons_self
  show wholes (num n.toNat :: numsB l)=_
  unfold wholes
  rw [whole1_num h1.1 h1.2,wholes_nums (λm hm=>h m (List.mem_cons_of_mem _ hm))]
theorem wholes_some:∀ {ts:List (List Int)},(∀ t ∈ ts,Bytes t)->∀ {l:List Int},wholes ts=some l->ts=numsB l/\∀ n ∈ l,0<=n/\n<=1048576
 | [],_,l,h=>by
  obtain rfl:=Option.some.inj h
  exact ⟨rfl,λn hn=>by cases hn⟩
 | t :: ts,ht,l,h=>by
  unfold wholes at h
  cases h1:whole1 t with
  | none =>
   rw [h1] at h
   cases h
  | some n =>
   rw [h1] at h
   simp only at h
   cases h2:wholes ts with
   | none =>
    rw [h2] at h
    cases h
   | some l' =>
    rw [h2] at h
    obtain rfl:=Option.some.inj h
    obtain ⟨e1,k1⟩:=whole1_some (ht t List.mem_cons_self) h1
    obtain ⟨e2,k2⟩:=wholes_some (λt' ht'=>ht t' (List.mem_cons_of_mem _ ht')) h2
    refine ⟨?_,λm hm=>?_⟩
    ·rw [e2];show t :: numsB l'=num n.toNat :: numsB l';rw [<-e1]
    ·rcases List.mem_cons.1 hm with rfl|hm
     ·exact k1
     ·exact k2 m hm
theorem numsB_small {l:List Int} (h:∀ n ∈ l,0<=n/\n<=1048576):∀ t ∈ numsB l,t.length<=9:=by
 intro t ht
 obtain ⟨n,hn,rfl⟩:=List.mem_map.1 ht
 rw [num_length]
 have:=be_len8 (u:=n.toNat) (by have:=h n hn;omega)
 omega
theorem trim_mem {f:List Int} {n:Int} (h:n ∈ trim f):n ∈ f:=List.mem_of_mem_take h
theorem plain_small (c:List Int):∀ n ∈ trim (ofL c),0<=n/\n<=1048576:=λn hn=>(good_of c).2 n (trim_mem hn)
theorem plain_len (c:List Int):(trim (ofL c)).length<=5:=by
 have:=trim_le (ofL c)
 rwa [ofL_length] at this
theorem plain_self {c:List Int} (hk:okC c=true) (h:(trim (ofL c)).length=c.length):trim (ofL c)=c:=by
 have hp:trim (ofL c)=(ofL c).take c.length:=by
  have:trim (ofL c)=(ofL c).take (trim (ofL c)).length:=by
   unfold trim
   rw [List.length_take,Nat.min_eq_left (upto0_le _ _)]
  rw [this,h]
 rw [hp]
 unfold ofL
 rw [if_pos hk,List.take_left']
 rfl
theorem read_put (c r:List Int):readB (putB c++r)=some (trim (ofL c),(putB c).length):=by
 have hs:=plain_small c
 have hl:=plain_len c
 unfold readB putB
 rw [unpack_pack _ (λt ht=>by have:=numsB_small hs t ht;omega) (by unfold numsB;rw [List.length_map];omega) 5 (by unfold numsB;rw [List.length_map];omega) r]
 simp only
 rw [wholes_nums hs]
 simp only
 rw [ofL_plain,if_pos rfl]
theorem read_some {b:List Int} (hb:Bytes b) {c:List Int} {n:Nat} (h:readB b=some (c,n)):b.take n=putB c/\trim (ofL c)=c/\n=(putB c).length/\n<=b.length/\0<n/\okC c=true:=by
 unfold readB at h
 cases hu:unpack b 5 with
 | none =>
  rw [hu] at h
  cases h
 | some p =>
  obtain ⟨ts,n'⟩:=p
  rw [hu] at h
  simp only at h
  cases hw:wholes ts with
  | none =>
   rw [hw] at h
   cases h
  | some c' =>
   rw [hw] at h
   simp only at h
   split at h
   ·rename_i he
    simp only [Option.some.injEq,Prod.mk.injEq] at h
    obtain ⟨rfl,rfl⟩:=h
    obtain ⟨u1,u2,u3,u4,u5,u6⟩:=unpack_some hb hu
    obtain ⟨e,k⟩:=wholes_some (λt ht=>(u6 t ht).2) hw
    have hlen:ts.length=c'.length:=by rw [e];unfold numsB;rw [List.length_map]
    have hok:okC c'=true:=okC_iff.2 ⟨by omega,k⟩
    have hp:=plain_self hok he
    have hpb:putB c'=pack ts:=by unfold putB;rw [hp,e]
    exact ⟨by rw [u1,hpb],hp,by rw [hpb];exact u3,u4,u5,hok⟩
   ·cases h
theorem pack_inj {a b:List (List Int)} (ha:∀ t ∈ a,t.length<=65536) (hb:∀ t ∈ b,t.length<=65536) (hna:a.length<18446744073709551616) (hnb:b.length<18446744073709551616) (h:pack a=pack b):a=b:=by
 have h1:=unpack_pack a ha hna (a.length+b.length) yep_0 []
 have h2:=unpack_pack b hb hnb (a.length+b.length) yep_0 []
 rw [h,h2] at h1
 simp only [Option.some.injEq,Prod.mk.injEq] at h1
 exact h1.1.symm
def begins:List (List Int)->Option (List Int)
 | []=>some []
 | t :: ts=>match getNum t with|none=>none|some (u,_)=>if u<=1048576 then match begins ts with|none=>none|some l=>some ((u:Int) :: l) else none
theorem begins_wholes:∀ {ts:List (List Int)} {l:List Int},wholes ts=some l->begins ts=some l
 | [],l,h=>h
 | t :: ts,l,h=>by
  unfold wholes at h
  unfold begins
  cases h1:whole1 t with
  | none =>
   rw [h1] at h
   cases h
  | some n =>
   rw [h1] at h
   simp only at h
   cases h2:wholes ts with
   | none =>
    rw [h2] at h
    cases h
   | some l' =>
    rw [h2] at h
    obtain rfl:=Option.some.inj h
    unfold whole1 at h1
    cases hg:getNum t with
    | none =>
     rw [hg] at h1
     cases h1
    | some p =>
     obtain ⟨u,k⟩:=p
     rw [hg] at h1
     simp only at h1
     split at h1
     ·rename_i hk
      obtain rfl:=Option.some.inj h1
      simp only
      rw [if_pos hk.2,begins_wholes h2]
     ·cases h1
def readR (b:List Int):Option (List Int×Nat):=match unpack b 5 with
 | none=>none
 | some (ts,n)=>match begins ts with
  | none=>none
  | some c=>if putB c=b.take n then some (c,n) else none
theorem readR_eq {b:List Int} (hb:Bytes b):readR b=readB b:=by
 unfold readR readB
 cases hu:unpack b 5 with
 | none=>rfl
 | some p =>
  obtain ⟨ts,n⟩:=p
  simp only
  obtain ⟨u1,u2,u3,u4,u5,u6⟩:=unpack_some hb hu
  cases hw:wholes ts with
  | some c =>
   rw [begins_wholes hw]
   simp only
   obtain ⟨e,k⟩:=wholes_some (λt ht=>(u6 t ht).2) hw
   have hlen:ts.length=c.length:=by rw [e];unfold numsB;rw [List.length_map]
   have hok:okC c=true:=okC_iff.2 ⟨by omega,k⟩
   have hl:c.length<=5:=by omega
   by_cases h:(trim (ofL c)).length=c.length
   ·have hp:=plain_self hok h
    rw [if_pos h,if_pos (by unfold putB;rw [hp,<-e,u1])]
   ·rw [if_neg h,if_neg]
    intro hq
    rw [u1] at hq
    unfold putB at hq
    have hi:=pack_inj (λt ht=>by have:=numsB_small (plain_small c) t ht;omega) (λt ht=>(u6 t ht).1) yep_4 yep_0 hq
    have:=congrArg List.length hi
    unfold numsB at this
    rw [List.length_map] at this
    omega
  | none =>
   simp only
   cases hg:begins ts with
   | none=>rfl
   | some c =>
    simp only
    rw [if_neg]
    intro hq
    rw [u1] at hq
    unfold putB at hq
    have hi:=pack_inj (λt ht=>by have:=numsB_small (plain_small c) t ht;omega) (λt ht=>(u6 t ht).1) yep_4 yep_0 hq
    rw [<-hi,wholes_nums (plain_small c)] at hw
    cases hw
theorem putB_bytes (c:List Int):Bytes (putB c):=by
 unfold putB
 refine pack_bytes _ yep_4 (λt ht=>?_)
 have h9:=numsB_small (plain_small c) t ht
 obtain ⟨n,hn,rfl⟩:=List.mem_map.1 ht
 exact ⟨num_bytes (by have:=plain_small c n hn;omega),by omega⟩
theorem texts_len:∀ (l:List (List Int)),(∀ t ∈ l,t.length<=9)->(texts l).length<=l.length*18
 | [],_=>by simp [texts]
 | t :: l,h=>by
  rw [texts_cons,List.length_append,List.length_cons]
  have h1:=texts_len l (λt' ht'=>h t' (List.mem_cons_of_mem _ ht'))
  have h2:=h t List.mem_cons_self
  have h3:(text t).length<=18:=by
   unfold text
   rw [List.length_append,num_length]
   have:=be_len8 (u:=t.length) yep_0
   omega
  omega
theorem putB_len (c:List Int):(putB c).length<=99:=by
 have hl:=plain_len c
 have h1:=texts_len _ (numsB_small (plain_small c))
 have h2:(numsB (trim (ofL c))).length<=5:=by unfold numsB;rw [List.length_map];exact hl
 unfold putB pack
 rw [List.length_append,num_length]
 have:=be_len8 (u:=(numsB (trim (ofL c))).length) yep_0
 omega
end Go.Proofs.Ytgocnchjpecafaa.ClockBase
namespace Go.Proofs.Ytgocnchjpecafaa.PEv
open Go.RowKit Go.Proofs.YtgocnchjpecafaaW.PrintWords Go.Proofs.YtgocnchjpecafaaW.PrintLast Go.Proofs.Ytgocnchjpecafaa.ClockBase
set_option linter.unusedVariables false
set_option linter.unusedSimpArgs false
theorem ck_if {α:Type} {c:Prop} [Decidable c] {f g:Nat->Option α} {r:α} (hc:c) (h:Ev f r):Ev (λk=>if c then f k else g k) r:=Ev.congr (λk=>if_pos hc) h
theorem ck_else {α:Type} {c:Prop} [Decidable c] {f g:Nat->Option α} {r:α} (hc:¬ c) (h:Ev g r):Ev (λk=>if c then f k else g k) r:=Ev.congr (λk=>if_neg hc) h
theorem ck_rd {l:List Int} {i:Nat} (h:i<l.length):rd l (i:Int)=l[i]:=by
 unfold rd
 rw [Int.toNat_natCast,List.getD_eq_getElem?_getD,List.getElem?_eq_getElem h]
 rfl
theorem ck_w {i:Nat} (h:i<9223372036854775807):wrap64 ((i:Int)+1)=((i+1:Nat):Int):=by unfold wrap64;omega
theorem ck_may_loop (l:List Int) (hn:l.length<=140737488355328) (d:Nat):∀ (i:Nat),i+d=l.length->Ev (λk=>r03_May.l0 k l (i:Int)) (!(l.drop i).any bad && decide (l.length<=5)):=by
 induction d with
 | zero =>
  intro i hi
  have e1:l.drop i=[]:=List.drop_eq_nil_of_le yep_0
  rw [e1]
  refine Ev.step (f:=λ_=>some (decide ((l.length:Int)<=5))) (λk=>?_) ?_
  ·simp only [r03_May.l0];rw [if_neg yep_0]
  ·have e:decide ((l.length:Int)<=5)=(!([]:List Int).any bad && decide (l.length<=5)):=by
    rw [Bool.eq_iff_iff]
    simp
    omega
   rw [<-e]
   exact Ev.now _
 | succ d ih =>
  intro i hi
  have ha:i<l.length:=by omega
  rw [List.drop_eq_getElem_cons ha]
  simp only [List.any_cons]
  cases hb:bad l[i] with
  | true =>
   refine Ev.step (f:=λ_=>some false) (λk=>?_) (by simpa using Ev.now false)
   simp only [r03_May.l0]
   rw [if_pos yep_0,if_pos yep_0,ck_rd ha]
   unfold bad at hb
   simp only [Bool.or_eq_true,decide_eq_true_eq] at hb
   by_cases h0:l[i]<0
   ·rw [if_pos h0]
   ·rw [if_neg h0,if_pos yep_0]
  | false =>
   refine Ev.step (f:=λk=>r03_May.l0 k l ((i+1:Nat):Int)) (λk=>?_) (by simpa using ih (i+1) yep_0)
   have h0:=bad_not.1 hb
   simp only [r03_May.l0]
   rw [if_pos yep_0,if_pos yep_0,ck_rd ha,if_neg yep_0,if_neg yep_0,ck_w yep_0]
theorem may_ev (l:List Int) (hn:l.length<=140737488355328):Ev (λk=>r03_May.f k l) (okC l):=by
 have:=ck_may_loop l hn l.length 0 yep_0
 rw [List.drop_zero] at this
 unfold okC
 rw [Bool.and_comm]
 exact this
theorem ofL_at {l:List Int} (h:okC l=true) {i:Nat} (hi:i<l.length):(ofL l).getD i 0=l[i]:=by
 unfold ofL
 rw [if_pos h,List.getD_eq_getElem?_getD,List.getElem?_append_left hi,List.getElem?_eq_getElem hi]
 rfl
theorem getS_bad {l:List Int} (h:¬ okC l=true) (rep:Int):getS l rep=0:=by
 unfold getS ofL
 rw [if_neg h]
 split
 ·rw [List.getD_eq_getElem?_getD]
  by_cases hi:(rep - 1).toNat<5
  ·rw [List.getElem?_replicate,if_pos hi];rfl
  ·rw [List.getElem?_replicate,if_neg hi];rfl
 ·rfl
theorem getS_far {l:List Int} (h:okC l=true) {rep:Int} (h1:(l.length:Int)<rep):getS l rep=0:=by
 unfold getS ofL
 rw [if_pos h]
 split
 ·rw [List.getD_eq_getElem?_getD,List.getElem?_append_right yep_0]
  by_cases hi:(rep - 1).toNat - l.length<5 - l.length
  ·rw [List.getElem?_replicate,if_pos hi];rfl
  ·rw [List.getElem?_replicate,if_neg hi];rfl
 ·rfl
theorem get_ev (l:List Int) (rep:Int) (hn:l.length<=140737488355328):Ev (λk=>r03_Get.f k l rep) (getS l rep):=by
 unfold r03_Get.f
 refine Ev.bind (may_ev l hn) ?_
 by_cases h:okC l=true
 ·refine ck_if h ?_
  have h5:=(okC_iff.1 h).1
  by_cases h1:rep<1
  ·have e:getS l rep=0:=by unfold getS;rw [if_neg yep_0]
   rw [e]
   exact ck_if h1 (Ev.now _)
  ·refine ck_else h1 ?_
   by_cases h2:rep > (l.length:Int)
   ·rw [getS_far h h2]
    exact ck_if h2 (Ev.now _)
   ·refine ck_else h2 ?_
    have hw:wrap64 (rep - 1)=(((rep - 1).toNat:Nat):Int):=by unfold wrap64;omega
    have hi:(rep - 1).toNat<l.length:=by omega
    rw [hw]
    refine ck_if yep_0 (ck_if yep_0 ?_)
    have e:getS l rep=rd l (((rep - 1).toNat:Nat):Int):=by
     unfold getS
     rw [if_pos yep_0,ofL_at h hi,ck_rd hi]
    rw [<-e]
    exact Ev.now _
 ·refine ck_else h ?_
  rw [getS_bad h]
  exact Ev.now _
theorem getS_nat (l:List Int) (i:Nat) (hi:i<5):getS l ((i+1:Nat):Int)=(ofL l).getD i 0:=by
 unfold getS
 rw [if_pos yep_0]
 congr 1
 omega
theorem plain_pad (l:List Int) (hn:l.length<=140737488355328) (i:Nat) (hi:i<5) (r:List Int) (d:Nat):∀ out:List Int,out.length+d=i ->
  Ev (λk=>r03_Plain.l0 k l (out++List.replicate d 0++[getS l ((i+1:Nat):Int)]) ((i+1+1:Nat):Int)) r->Ev (λk=>r03_Plain.l1 k l out ((i+1:Nat):Int)) r:=by
 have hw:wrap64 (((i+1:Nat):Int) - 1)=(i:Int):=by unfold wrap64;omega
 induction d with
 | zero =>
  intro out ho h
  rw [List.replicate_zero,List.append_nil] at h
  refine Ev.step (f:=λk=>(r03_Get.f k l ((i+1:Nat):Int)).bind λt=>if out.length<17592186044416 then r03_Plain.l0 k l (out++[t]) ((i+1+1:Nat):Int) else none) (λk=>?_) ?_
  ·simp only [r03_Plain.l1];rw [hw,if_neg yep_0,ck_w yep_0]
  ·refine Ev.bind (get_ev l _ hn) ?_
   exact ck_if yep_0 h
 | succ d ih =>
  intro out ho h
  refine Ev.step (f:=λk=>r03_Plain.l1 k l (out++[0]) ((i+1:Nat):Int)) (λk=>?_) ?_
  ·simp only [r03_Plain.l1];rw [hw,if_pos yep_0,if_pos yep_0]
  ·refine ih (out++[0]) yep_1 ?_
   rw [show out++[0]++List.replicate d 0=out++List.replicate (d+1) 0 by rw [List.append_assoc,List.replicate_succ];rfl]
   exact h
theorem take_snoc5 {f:List Int} (h:f.length=5) (i:Nat) (hi:i<5):f.take (i+1)=f.take i++[f.getD i 0]:=by
 rw [List.take_add_one,List.getD_eq_getElem?_getD,List.getElem?_eq_getElem yep_0]
 rfl
theorem plain_loop (l:List Int) (hn:l.length<=140737488355328) (d:Nat):∀ i:Nat,i+d=5->Ev (λk=>r03_Plain.l0 k l (trim ((ofL l).take i)) ((i+1:Nat):Int)) (trim (ofL l)):=by
 have h5:=ofL_length l
 induction d with
 | zero =>
  intro i hi
  obtain rfl:i=5:=by omega
  have e:(ofL l).take 5=ofL l:=by rw [<-h5,List.take_length]
  rw [e]
  refine Ev.step (f:=λ_=>some (trim (ofL l))) (λk=>?_) (Ev.now _)
  simp only [r03_Plain.l0]
  rw [if_neg yep_0]
 | succ d ih =>
  intro i hi
  have hg:=getS_nat l i yep_0
  have hgood:=good_at (good_of l) i
  have ht:=take_snoc5 h5 i yep_0
  refine Ev.step (f:=λk=>(r03_Get.f k l ((i+1:Nat):Int)).bind λt=>if t > 0 then r03_Plain.l1 k l (trim ((ofL l).take i)) ((i+1:Nat):Int) else r03_Plain.l0 k l (trim ((ofL l).take i)) ((i+1+1:Nat):Int)) (λk=>?_) ?_
  ·simp only [r03_Plain.l0];rw [if_pos yep_0,ck_w yep_0]
  ·refine Ev.bind (get_ev l _ hn) ?_
   rw [hg]
   have hi1:=ih (i+1) yep_0
   rw [ht,trim_snoc] at hi1
   by_cases hz:(ofL l).getD i 0 > 0
   ·refine ck_if hz ?_
    have hl:(trim ((ofL l).take i)).length<=i:=Nat.le_trans (trim_le _) (by rw [List.length_take];omega)
    refine plain_pad l hn i yep_0 _ (i - (trim ((ofL l).take i)).length) _ yep_0 ?_
    have hp:=trim_pad ((ofL l).take i)
    rw [show((ofL l).take i).length=i by rw [List.length_take];omega] at hp
    rw [hp,hg]
    rw [if_neg yep_0] at hi1
    exact hi1
   ·refine ck_else hz ?_
    rw [if_pos yep_0] at hi1
    exact hi1
theorem plain_ev (l:List Int) (hn:l.length<=140737488355328):Ev (λk=>r03_Plain.f k l) (trim (ofL l)):=plain_loop l hn 5 0 yep_0
theorem ck_cons {α:Type} [DecidableEq α] (x y:α) (xs ys:List α):decide (x :: xs=y :: ys)=(decide (x=y) && decide (xs=ys)):=by
 rw [Bool.eq_iff_iff]
 simp
theorem same_loop (a b:List Int) (hab:a.length=b.length) (hn:a.length<=140737488355328) (d:Nat):∀ (i:Nat),i+d=a.length->Ev (λk=>r03_Same.l0 k a b (i:Int)) (decide (a.drop i=b.drop i)):=by
 induction d with
 | zero =>
  intro i hi
  have e1:a.drop i=[]:=List.drop_eq_nil_of_le yep_0
  have e2:b.drop i=[]:=List.drop_eq_nil_of_le yep_0
  rw [e1,e2]
  refine Ev.step (f:=λ_=>some true) (λk=>?_) (Ev.now _)
  simp only [r03_Same.l0]
  rw [if_neg yep_0]
 | succ d ih =>
  intro i hi
  have ha:i<a.length:=by omega
  have hb:i<b.length:=by omega
  have hw:wrap64 ((i:Int)+1)=((i+1:Nat):Int):=by unfold wrap64;omega
  have e:decide (a.drop i=b.drop i)=(decide (a[i]=b[i]) && decide (a.drop (i+1)=b.drop (i+1))):=by
   rw [List.drop_eq_getElem_cons ha,List.drop_eq_getElem_cons hb]
   exact ck_cons _ _ _ _
  rw [e]
  by_cases h:a[i]=b[i]
  ·rw [decide_eq_true h,Bool.true_and]
   refine Ev.step (f:=λk=>r03_Same.l0 k a b ((i+1:Nat):Int)) (λk=>?_) (ih (i+1) yep_0)
   simp only [r03_Same.l0]
   rw [if_pos yep_0,if_pos yep_0,if_pos yep_0,ck_rd ha,ck_rd hb,if_pos h,hw]
  ·rw [decide_eq_false h,Bool.false_and]
   refine Ev.step (f:=λ_=>some false) (λk=>?_) (Ev.now _)
   simp only [r03_Same.l0]
   rw [if_pos yep_0,if_pos yep_0,if_pos yep_0,ck_rd ha,ck_rd hb,if_neg h]
theorem same_ev (a b:List Int) (hn:a.length<=140737488355328):Ev (λk=>r03_Same.f k a b) (decide (a=b)):=by
 unfold r03_Same.f
 by_cases h:a.length=b.length
 ·have h':(a.length:Int)=(b.length:Int):=by omega
  exact ck_if h' (same_loop a b h hn a.length 0 yep_0)
 ·have h':¬ ((a.length:Int)=(b.length:Int)):=by omega
  have e:decide (a=b)=false:=decide_eq_false (λe=>h (by rw [e]))
  rw [e]
  exact ck_else h' (Ev.now _)
theorem same_yes (a:List Int) (hn:a.length<=140737488355328):Ev (λk=>r03_Same.f k a a) true:=by
 have:=same_ev a a hn
 rwa [decide_eq_true rfl] at this
theorem trim_five {f:List Int} (h:GoodC f):(trim f).length<=140737488355328:=Nat.le_trans (trim_le f) (by rw [h.1];decide)
end Go.Proofs.Ytgocnchjpecafaa.PEv
namespace Go.Proofs.Ytgocnchjpecafaa.PEv
open Go.RowKit Go.Proofs.YtgocnchjpecafaaW.PrintWords Go.Proofs.YtgocnchjpecafaaW.PrintLast Go.Proofs.Ytgocnchjpecafaa.ClockBase Go.Proofs.Ytgocnchjpecafaa.Wr
set_option linter.unusedVariables false
set_option linter.unusedSimpArgs false
theorem small_u64 {n:Int} (h0:0<=n) (h1:n<=1048576):IntKind.u64.wrap n=((n.toNat:Nat):Int):=by
 rw [wl_u64 h0 yep_0]
 omega
theorem refPut_loop (l:List Int) (hl:l.length<=5) (hs:∀ n ∈ l,0<=n/\n<=1048576) (r:List Int) (hr:pack (numsB l)=r) (d:Nat):∀ (i:Nat),i+d=l.length->Ev (λk=>r03_Put.l0 k l ((numsB l).take i) (i:Int)) r:=by
 have hn:(numsB l).length=l.length:=by unfold numsB;rw [List.length_map]
 induction d with
 | zero =>
  intro i hi
  obtain rfl:i=l.length:=by omega
  have e:(numsB l).take l.length=numsB l:=by rw [<-hn,List.take_length]
  rw [e]
  refine Ev.step (f:=λk=>(r02_Pack.f k (numsB l)).bind λt=>some t) (λk=>?_) ?_
  ·simp only [r03_Put.l0];rw [if_neg yep_0]
  ·subst hr
   exact Ev.bind (refPack_ev _ yep_0 (λt ht=>by have:=numsB_small hs t ht;omega)) (Ev.now _)
 | succ d ih =>
  intro i hi
  have hlt:i<l.length:=by omega
  have hg:=hs _ (List.getElem_mem hlt)
  have hlen:((numsB l).take i).length<5864062014805:=by rw [List.length_take];omega
  have ht:(numsB l).take (i+1)=(numsB l).take i++[num (l[i]).toNat]:=by
   rw [List.take_add_one,List.getElem?_eq_getElem yep_0]
   simp [numsB]
  refine Ev.step (f:=λk=>(r02_Num.f k (((l[i]).toNat:Nat):Int)).bind λt=>r03_Put.l0 k l ((numsB l).take i++[t]) ((i+1:Nat):Int)) (λk=>?_) ?_
  ·simp only [r03_Put.l0];rw [if_pos yep_0,if_pos yep_0,ck_rd hlt,small_u64 hg.1 hg.2,ck_w yep_0];simp only [if_pos hlen]
  ·refine Ev.bind (refNum_ev _ yep_0) ?_
   rw [<-ht]
   exact ih (i+1) yep_0
theorem refPut_ev (c:List Int) (hc:c.length<=140737488355328):Ev (λk=>r03_Put.f k c) (putB c):=by
 unfold r03_Put.f
 refine Ev.bind (plain_ev c hc) ?_
 have:=refPut_loop (trim (ofL c)) (plain_len c) (plain_small c) _ rfl (trim (ofL c)).length 0 yep_0
 rw [List.take_zero] at this
 exact this
def readV (n:Nat) (c:Option (List Int)):List Int×Int×Int:=match c with
 | none=>([],0,2)
 | some c=>if (trim (ofL c)).length=c.length then(c,(n:Int),0) else([],0,2)
theorem read_loop (ts:List (List Int)) (hts:ts.length<=5) (hb:∀ t ∈ ts,t.length<=65536/\Wr.Bytes t) (n:Nat) (d:Nat):∀ (i:Nat) (out:List Int),i+d=ts.length->out.length=i->Ev (λk=>clock_Read.l0 k (n:Int) out ts (ts.length:Int) (i:Int)) (readV n ((wholes (ts.drop i)).map (out++·))):=by
 induction d with
 | zero =>
  intro i out hi ho
  rw [List.drop_eq_nil_of_le yep_0]
  have e:(wholes []).map (out++·)=some out:=by simp [wholes]
  rw [e]
  refine Ev.step (f:=λ_=>some (readV n (some out))) (λk=>?_) (Ev.now _)
  simp only [clock_Read.l0,clock_Plain.f,Option.bind_some,readV]
  rw [if_neg yep_0]
  by_cases h:(trim (ofL out)).length=out.length
  ·rw [if_pos h,if_pos yep_0]
  ·rw [if_neg h,if_neg yep_0]
 | succ d ih =>
  intro i out hi ho
  have hlt:i<ts.length:=by omega
  have ht:=hb _ (List.getElem_mem hlt)
  rw [List.drop_eq_getElem_cons hlt]
  refine Ev.step (f:=λk=>(wire_GetNum.f k ts[i]).bind λbt=>(if bt.2.2=0 then(if bt.2.1=((ts[i]).length:Int) then(if bt.1 > 1048576 then(some (([]:List Int),0,2)) else(clock_Read.l0 k (n:Int) (out++[wrap64 (bt.1)]) ts (ts.length:Int) ((i+1:Nat):Int))) else(some (([]:List Int),0,2))) else(some (([]:List Int),0,2)))) (λk=>?_) ?_
  ·simp only [clock_Read.l0];rw [if_pos yep_0,if_pos yep_0,if_pos yep_0,wl_rdL hlt,ck_w yep_0];simp only [if_pos (show out.length<17592186044416 by omega)]
  ·refine Ev.bind (getNum_ev _ ht.2 yep_0) ?_
   unfold numR wholes whole1
   cases hg:getNum ts[i] with
   | none =>
    refine ck_else (by simp) ?_
    simpa [readV] using Ev.now _
   | some p =>
    obtain ⟨u,m⟩:=p
    refine ck_if (by rfl) ?_
    by_cases hm:m=(ts[i]).length
    ·refine ck_if yep_3 ?_
     by_cases hu:u<=1048576
     ·refine ck_else yep_3 ?_
      simp only [if_pos (And.intro hm hu)]
      rw [wl_w64 yep_0 yep_0]
      have h1:=ih (i+1) (out++[(u:Int)]) yep_0 yep_1
      cases hw:wholes (ts.drop (i+1)) with
      | none =>
       rw [hw] at h1
       exact h1
      | some l =>
       rw [hw] at h1
       simpa using h1
     ·refine ck_if yep_3 ?_
      simp only [if_neg (λh:m=(ts[i]).length/\u<=1048576=>hu h.2)]
      simpa [readV] using Ev.now _
    ·refine ck_else yep_3 ?_
     simp only [if_neg (λh:m=(ts[i]).length/\u<=1048576=>hm h.1)]
     simpa [readV] using Ev.now _
def readP (b:List Int):List Int×Int×Int:=match readB b with
 | none=>([],0,2)
 | some (c,n)=>(c,(n:Int),0)
theorem read_ev (b:List Int) (hb:Wr.Bytes b) (hn:b.length<=140737488351232):Ev (λk=>clock_Read.f k b) (readP b):=by
 unfold clock_Read.f
 refine Ev.bind (unpack_ev b hb hn 5 (by decide)) ?_
 unfold packR readP readB
 cases hu:unpack b 5 with
 | none=>exact ck_else (by simp) (Ev.now _)
 | some p =>
  obtain ⟨ts,n⟩:=p
  obtain ⟨u1,u2,u3,u4,u5,u6⟩:=unpack_some hb hu
  refine ck_if rfl ?_
  have h:=read_loop ts u2 u6 n ts.length 0 [] yep_0 rfl
  rw [List.drop_zero] at h
  have e:readV n ((wholes ts).map (([]:List Int)++·))=(match (match wholes ts with|none=>none|some c=>if (trim (ofL c)).length=c.length then some (c,n) else none) with|none=>(([]:List Int),(0:Int),(2:Int))|some (c,n)=>(c,(n:Int),0)):=by
   cases wholes ts with
   | none=>rfl
   | some c =>
    simp only [Option.map_some,List.nil_append,readV]
    split<;>rfl
  rw [e] at h
  exact h
def refV (b:List Int) (n:Nat) (c:Option (List Int)):List Int×Int:=match c with
 | none=>([],0)
 | some c=>if putB c=b.take n then(c,(n:Int)) else([],0)
theorem refRead_loop (b:List Int) (ts:List (List Int)) (hts:ts.length<=5) (hb:∀ t ∈ ts,t.length<=65536/\Wr.Bytes t) (n:Nat) (hn0:0<n) (hn:n<=b.length) (d:Nat):∀ (i:Nat) (out:List Int),i+d=ts.length->out.length=i->(∀ x ∈ out,0<=x/\x<=1048576)->Ev (λk=>r03_Read.l0 k b ts (n:Int) out (i:Int)) (refV b n ((begins (ts.drop i)).map (out++·))):=by
 induction d with
 | zero =>
  intro i out hi ho hs
  rw [List.drop_eq_nil_of_le yep_0]
  have e:(begins []).map (out++·)=some out:=by simp [begins]
  rw [e]
  refine Ev.step (f:=λk=>(r03_Put.f k out).bind λt=>(r02_Bytes.f k t (b.take n)).bind λq=>if q=true then some (out,(n:Int)) else some ([],0)) (λk=>?_) ?_
  ·simp only [r03_Read.l0];rw [if_neg yep_0,if_neg yep_0];simp only [if_pos (show(0:Int)<=(n:Int) by omega),if_pos (show(n:Int)<=(b.length:Int) by omega),Int.toNat_natCast]
  ·refine Ev.bind (refPut_ev out yep_0) ?_
   have:=putB_len out
   refine Ev.bind (eq_ev _ _ yep_0) ?_
   unfold refV
   by_cases h:putB out=b.take n
   ·simp only [if_pos h]
    exact ck_if (decide_eq_true h) (Ev.now _)
   ·simp only [if_neg h]
    exact ck_else (by simpa using h) (Ev.now _)
 | succ d ih =>
  intro i out hi ho hs
  have hlt:i<ts.length:=by omega
  have ht:=hb _ (List.getElem_mem hlt)
  rw [List.drop_eq_getElem_cons hlt]
  refine Ev.step (f:=λk=>(r02_GetNum.f k ts[i]).bind λbt=>(if bt.2=0 then(some (([]:List Int),0)) else(if bt.1 > 1048576 then(some (([]:List Int),0)) else r03_Read.l0 k b ts (n:Int) (out++[wrap64 (bt.1)]) ((i+1:Nat):Int)))) (λk=>?_) ?_
  ·simp only [r03_Read.l0];rw [if_pos yep_0,if_pos yep_0,wl_rdL hlt,ck_w yep_0];simp only [if_pos (show out.length<17592186044416 by omega)]
  ·refine Ev.bind (refGetNum_ev _ ht.2 yep_0) ?_
   unfold numR2 begins
   cases hg:getNum ts[i] with
   | none =>
    refine ck_if rfl ?_
    simpa [refV] using Ev.now _
   | some p =>
    obtain ⟨u,m⟩:=p
    have hm:=getNum_some ht.2 hg
    have hm0:0<m:=by
     rw [hm.2.2.1,num_length]
     omega
    refine ck_else yep_3 ?_
    by_cases hu:u<=1048576
    ·refine ck_else yep_3 ?_
     simp only [if_pos hu]
     rw [wl_w64 yep_0 yep_0]
     have h1:=ih (i+1) (out++[(u:Int)]) yep_0 yep_1 (λx hx=>by
      rcases List.mem_append.1 hx with hx|hx
      ·exact hs x hx
      ·rw [List.mem_singleton.1 hx]
       omega)
     cases hw:begins (ts.drop (i+1)) with
     | none =>
      rw [hw] at h1
      exact h1
     | some l =>
      rw [hw] at h1
      simpa using h1
    ·refine ck_if yep_3 ?_
     simp only [if_neg hu]
     simpa [refV] using Ev.now _
def readQ (b:List Int):List Int×Int:=match readB b with
 | none=>([],0)
 | some (c,n)=>(c,(n:Int))
theorem refRead_ev (b:List Int) (hb:Wr.Bytes b) (hn:b.length<=140737488351232):Ev (λk=>r03_Read.f k b) (readQ b):=by
 unfold r03_Read.f
 refine Ev.bind (refUnpack_ev b hb hn 5 (by decide)) ?_
 unfold readQ
 rw [<-readR_eq hb]
 unfold packR2 readR
 cases hu:unpack b 5 with
 | none =>
  refine Ev.step (f:=λ_=>some ([],0)) (λk=>?_) (Ev.now _)
  simp only [r03_Read.l0]
  rfl
 | some p =>
  obtain ⟨ts,n⟩:=p
  obtain ⟨u1,u2,u3,u4,u5,u6⟩:=unpack_some hb hu
  have h:=refRead_loop b ts u2 u6 n u5 u4 ts.length 0 [] yep_0 rfl (λx hx=>by cases hx)
  rw [List.drop_zero] at h
  have e:refV b n ((begins ts).map (([]:List Int)++·))=(match (match begins ts with|none=>none|some c=>if putB c=b.take n then some (c,n) else none) with|none=>(([]:List Int),(0:Int))|some (c,n)=>(c,(n:Int))):=by
   cases begins ts with
   | none=>rfl
   | some c =>
    simp only [Option.map_some,List.nil_append,refV]
    split<;>rfl
  rw [e] at h
  exact h
end Go.Proofs.Ytgocnchjpecafaa.PEv
namespace Go.Proofs.Ytgocnchjpecafaa.PEv
open Go.RowKit Go.Proofs.YtgocnchjpecafaaW.PrintWords Go.Proofs.YtgocnchjpecafaaW.PrintLast Go.Proofs.Ytgocnchjpecafaa.ClockBase
set_option linter.unusedVariables false
set_option linter.unusedSimpArgs false
def OkEff (x:S48):Prop:=x.f2.toList≠[]/\(x.f2.size:Int)<=32/\0<=x.f1/\x.f1<=15 /\
 ((x.f0=1\/x.f0=2)/\x.f3=0/\x.f4=0/\x.f5.toList=[]\/(x.f0=3\/x.f0=4)/\1<=x.f3/\x.f3<=1000/\x.f4=0/\x.f5.toList=[] \/
 x.f0=5/\1<=x.f3/\x.f3<=1000/\1<=x.f4/\x.f4<=5/\x.f5.toList=[]\/x.f0=6/\x.f3=0/\x.f4=0/\(x.f5.size:Int)<=64)
instance (x:S48):Decidable (OkEff x):=by unfold OkEff;infer_instance
theorem checkEff_eq' (x:S48) (k:Nat) (P:Prop) [Decidable P] (hP:P↔x.f2.toList≠[]/\(x.f2.size:Int)<=32/\0<=x.f1/\x.f1<=15 /\
 ((x.f0=1\/x.f0=2)/\x.f3=0/\x.f4=0/\x.f5.toList=[]\/(x.f0=3\/x.f0=4)/\1<=x.f3/\x.f3<=1000/\x.f4=0/\x.f5.toList=[] \/
 x.f0=5/\1<=x.f3/\x.f3<=1000/\1<=x.f4/\x.f4<=5/\x.f5.toList=[]\/x.f0=6/\x.f3=0/\x.f4=0/\(x.f5.size:Int)<=64)) :
  event_CheckEffect.f (k+4) x.f0 x.f1 x.f2 x.f3 x.f4 x.f5=some (if P then 0 else 1):=by
 simp only [event_CheckEffect.f,event_CheckEffect.j0,event_CheckEffect.j1,event_CheckEffect.j2,event_CheckEffect.j3]
 by_cases h1:x.f2.toList=[]
 ·have hn:¬ P:=λh=>(hP.1 h).1 h1
  simp [h1,hn]
 by_cases h2:(x.f2.size:Int) > 32
 ·rw [if_neg h1,if_pos h2,if_pos trivial,if_neg (λh=>by have:=(hP.1 h).2.1;omega)]
 by_cases h3:x.f1<0
 ·rw [if_neg h1,if_neg h2,if_pos h3,if_pos trivial,if_neg (λh=>by have:=(hP.1 h).2.2.1;omega)]
 by_cases h4:x.f1 > 15
 ·rw [if_neg h1,if_neg h2,if_neg h3,if_pos (by simpa using h4),if_neg (λh=>by have:=(hP.1 h).2.2.2.1;omega)]
 rw [if_neg h1,if_neg h2,if_neg h3,if_neg (by simpa using h4)]
 have a2:(x.f2.size:Int)<=32:=by omega
 have a3:0<=x.f1:=by omega
 have a4:x.f1<=15:=by omega
 simp only [ne_eq,h1,not_false_eq_true,a2,a3,a4,true_and] at hP
 clear h1 h2 h3 h4 a2 a3 a4
 generalize x.f0=a at *
 generalize x.f3=n at *
 generalize x.f4=t at *
 generalize x.f5=s at *
 by_cases e1:a=1
 ·subst e1;by_cases b1:n=0<;>by_cases b2:t=0<;>by_cases b3:s.toList=[]<;>simp [hP,b1,b2,b3]
 by_cases e2:a=2
 ·subst e2;by_cases b1:n=0<;>by_cases b2:t=0<;>by_cases b3:s.toList=[]<;>simp [hP,b1,b2,b3]
 by_cases e3:a=3
 ·subst e3;by_cases b1:n>=1<;>by_cases b0:n<=1000<;>by_cases b2:t=0<;>by_cases b3:s.toList=[]<;>simp [hP,b0,b1,b2,b3]
 by_cases e4:a=4
 ·subst e4;by_cases b1:n>=1<;>by_cases b0:n<=1000<;>by_cases b2:t=0<;>by_cases b3:s.toList=[]<;>simp [hP,b0,b1,b2,b3]
 by_cases e5:a=5
 ·subst e5;by_cases b1:n>=1<;>by_cases b0:n<=1000<;>by_cases b2:t>=1<;>by_cases b4:t<=5<;>by_cases b3:s.toList=[]<;>simp [hP,b0,b1,b2,b3,b4]
 by_cases e6:a=6
 ·subst e6;by_cases b1:n=0<;>by_cases b2:t=0<;>by_cases b3:(s.size:Int)<=64<;>simp [hP,b1,b2,b3]
 ·by_cases b1:n>=1<;>simp [hP,e1,e2,e3,e4,e5,e6]
theorem checkEff_eq (x:S48) (k:Nat):event_CheckEffect.f (k+4) x.f0 x.f1 x.f2 x.f3 x.f4 x.f5=some (if OkEff x then 0 else 1):=checkEff_eq' x k (OkEff x) Iff.rfl
theorem checkEff_ev (x:S48):Ev (λk=>event_CheckEffect.f k x.f0 x.f1 x.f2 x.f3 x.f4 x.f5) (if OkEff x then 0 else 1):=⟨4,λk hk=>by
 obtain ⟨m,rfl⟩:∃ m,k=m+4:=⟨k - 4,by omega⟩
 exact checkEff_eq x m⟩
end Go.Proofs.Ytgocnchjpecafaa.PEv
namespace Go.Proofs.Ytgocnchjpecafaa.PEv
open Go.RowKit Go.Proofs.YtgocnchjpecafaaW.PrintWords Go.Proofs.YtgocnchjpecafaaW.PrintLast Go.Proofs.Ytgocnchjpecafaa.ClockBase Go.Proofs.Ytgocnchjpecafaa.Wr
set_option linter.unusedVariables false
set_option linter.unusedSimpArgs false
theorem str_bytes (s:ByteArray):strOfNums (bytesOf s)=s:=strOfNums_bytes s
theorem bytes_bytes (s:ByteArray):Wr.Bytes (bytesOf s):=by
 intro x hx
 obtain ⟨b,_,rfl⟩:=List.mem_map.mp hx
 have:=b.toNat_lt
 omega
theorem bytes_str {l:List Int} (h:Wr.Bytes l):bytesOf (strOfNums l)=l:=by
 unfold bytesOf
 rw [strOfNums_data,List.map_map]
 conv=>rhs;rw [<-List.map_id l]
 refine List.map_congr_left λx hx=>?_
 have:=h x hx
 show((UInt8.ofNat x.toNat).toNat:Int)=x
 rw [UInt8.toNat_ofNat']
 omega
def effB (x:S48):List Int:=pack (numsB [x.f0,x.f1,x.f3,x.f4]++[bytesOf x.f2,bytesOf x.f5])
def evB (a b:Int) (past:List Int) (es:List S48):List Int:=pack ([pack (numsB [a,b]),putB past]++es.map effB)
def OkEv (a b:Int) (past:List Int) (es:List S48):Prop:=1<=a/\a<=5/\1<=b/\b<=1048576/\okC past=true/\(trim (ofL past)).length=past.length/\getS past a=b - 1/\1<=es.length/\es.length<=16/\∀ x ∈ es,OkEff x
instance (a b:Int) (past:List Int) (es:List S48):Decidable (OkEv a b past es):=by unfold OkEv;infer_instance
def effP (p:List (List Int)):Option S48:=if p.length=6 then(wholes (p.take 4)).map λns=>⟨ns.getD 0 0,ns.getD 1 0,strOfNums (p.getD 4 []),ns.getD 2 0,ns.getD 3 0,strOfNums (p.getD 5 [])⟩ else none
def effD (t:List Int):Option S48:=match unpack t 6 with
 | none=>none
 | some (p,n)=>if n=t.length then effP p else none
def effsD:List (List Int)->Option (List S48)
 | []=>some []
 | t :: ts=>match effD t with|none=>none|some x=>match effsD ts with|none=>none|some l=>some (x :: l)
def dotD (t:List Int):Option (List Int):=match unpack t 2 with
 | none=>none
 | some (d,n)=>if n=t.length/\d.length=2 then wholes d else none
def pastD (t:List Int):Option (List Int):=match readB t with
 | none=>none
 | some (c,n)=>if n=t.length then some c else none
def evD (b:List Int):Option (Int×Int×List Int×List S48):=match unpack b 18 with
 | none=>none
 | some (l,n)=>if n=b.length/\3<=l.length then(match dotD (l.getD 0 []) with
  | none=>none
  | some ns=>match pastD (l.getD 1 []) with
   | none=>none
   | some past=>(effsD (l.drop 2)).map λes=>(ns.getD 0 0,ns.getD 1 0,past,es)) else none
theorem wholes_len:∀ {ts:List (List Int)} {l:List Int},wholes ts=some l->l.length=ts.length
 | [],l,h=>by obtain rfl:=Option.some.inj h;rfl
 | t :: ts,l,h=>by
  unfold wholes at h
  cases h1:whole1 t with
  | none=>rw [h1] at h;cases h
  | some n =>
   rw [h1] at h
   simp only at h
   cases h2:wholes ts with
   | none=>rw [h2] at h;cases h
   | some m =>
    rw [h2] at h
    obtain rfl:=Option.some.inj h
    simp [wholes_len h2]
theorem list4 {α:Type} {l:List α} (h:l.length=4):∃ a b c d,l=[a,b,c,d]:=by
 match l,h with
 | [a,b,c,d],_=>exact ⟨a,b,c,d,rfl⟩
theorem list2 {α:Type} {l:List α} (h:l.length=2):∃ a b,l=[a,b]:=by
 match l,h with
 | [a,b],_=>exact ⟨a,b,rfl⟩
theorem list6 {α:Type} {l:List α} (h:l.length=6):∃ a b c d e f,l=[a,b,c,d,e,f]:=by
 match l,h with
 | [a,b,c,d,e,f],_=>exact ⟨a,b,c,d,e,f,rfl⟩
theorem effP_some {p:List (List Int)} (hp:∀ t ∈ p,Wr.Bytes t) {x:S48} (h:effP p=some x):p=numsB [x.f0,x.f1,x.f3,x.f4]++[bytesOf x.f2,bytesOf x.f5]:=by
 unfold effP at h
 split at h
 ·rename_i h6
  obtain ⟨a,b,c,d,e,f,rfl⟩:=list6 h6
  simp only [List.take_succ_cons,List.take_zero] at h
  cases hw:wholes [a,b,c,d] with
  | none=>rw [hw] at h;cases h
  | some ns =>
   rw [hw] at h
   obtain rfl:=Option.some.inj h
   have h4:=wholes_some (λt ht=>hp t (by simp at ht ⊢;rcases ht with h|h|h|h<;>simp [h])) hw
   obtain ⟨n0,n1,n2,n3,rfl⟩:=list4 (wholes_len hw)
   have h1:=h4.1
   simp [numsB] at h1
   simp [numsB,h1,bytes_str (hp e (by simp)),bytes_str (hp f (by simp))]
 ·cases h
theorem effD_some {t:List Int} (ht:Wr.Bytes t) {x:S48} (h:effD t=some x):t=effB x:=by
 unfold effD at h
 cases hu:unpack t 6 with
 | none=>rw [hu] at h;cases h
 | some q =>
  obtain ⟨p,n⟩:=q
  rw [hu] at h
  simp only at h
  split at h
  ·rename_i hn
   have hs:=unpack_some ht hu
   have:=hs.1
   rw [hn,List.take_length] at this
   rw [this]
   unfold effB
   rw [effP_some (λs hs'=>(hs.2.2.2.2.2 s hs').2) h]
  ·cases h
theorem effsD_some:∀ {ts:List (List Int)},(∀ t ∈ ts,Wr.Bytes t)->∀ {l:List S48},effsD ts=some l->ts=l.map effB
 | [],_,l,h=>by obtain rfl:=Option.some.inj h;rfl
 | t :: ts,ht,l,h=>by
  unfold effsD at h
  cases h1:effD t with
  | none=>rw [h1] at h;cases h
  | some n =>
   rw [h1] at h
   simp only at h
   cases h2:effsD ts with
   | none=>rw [h2] at h;cases h
   | some m =>
    rw [h2] at h
    obtain rfl:=Option.some.inj h
    rw [List.map_cons,<-effD_some (ht t List.mem_cons_self) h1,<-effsD_some (λs hs=>ht s (List.mem_cons_of_mem _ hs)) h2]
theorem dotD_some {t:List Int} (ht:Wr.Bytes t) {ns:List Int} (h:dotD t=some ns):t=pack (numsB ns)/\ns.length=2:=by
 unfold dotD at h
 cases hu:unpack t 2 with
 | none=>rw [hu] at h;cases h
 | some q =>
  obtain ⟨d,n⟩:=q
  rw [hu] at h
  simp only at h
  split at h
  ·rename_i hn
   have hs:=unpack_some ht hu
   have:=hs.1
   rw [hn.1,List.take_length] at this
   rw [this,(wholes_some (λs hs'=>(hs.2.2.2.2.2 s hs').2) h).1]
   exact ⟨rfl,by rw [wholes_len h,hn.2]⟩
  ·cases h
theorem pastD_some {t:List Int} (ht:Wr.Bytes t) {c:List Int} (h:pastD t=some c):t=putB c:=by
 unfold pastD at h
 cases hu:readB t with
 | none=>rw [hu] at h;cases h
 | some q =>
  obtain ⟨d,n⟩:=q
  rw [hu] at h
  simp only at h
  split at h
  ·rename_i hn
   obtain rfl:=Option.some.inj h
   have:=(read_some ht hu).1
   rwa [hn,List.take_length] at this
  ·cases h
theorem evD_some {b:List Int} (hb:Wr.Bytes b) {x y:Int} {past:List Int} {es:List S48} (h:evD b=some (x,y,past,es)):b=evB x y past es:=by
 unfold evD at h
 cases hu:unpack b 18 with
 | none=>rw [hu] at h;cases h
 | some q =>
  obtain ⟨l,n⟩:=q
  rw [hu] at h
  simp only at h
  split at h
  ·rename_i hn
   have hs:=unpack_some hb hu
   have h0:=hs.1
   rw [hn.1,List.take_length] at h0
   obtain ⟨t0,t1,r,rfl⟩:∃ t0 t1 r,l=t0 :: t1 :: r:=by
    match l,hn.2 with
    | t0 :: t1 :: r,_=>exact ⟨t0,t1,r,rfl⟩
   simp only [List.getD_cons_zero,List.getD_cons_succ,List.drop_succ_cons,List.drop_zero] at h
   cases h1:dotD t0 with
   | none=>rw [h1] at h;cases h
   | some ns =>
    rw [h1] at h
    simp only at h
    cases h2:pastD t1 with
    | none=>rw [h2] at h;cases h
    | some c =>
     rw [h2] at h
     simp only at h
     cases h3:effsD r with
     | none=>rw [h3] at h;cases h
     | some m =>
      rw [h3] at h
      have hh:=Option.some.inj h
      injection hh with e1 hh
      injection hh with e2 hh
      injection hh with e3 e4
      subst e1 e2 e3 e4
      have hB:∀ t ∈ t0 :: t1 :: r,Wr.Bytes t:=λs hs'=>(hs.2.2.2.2.2 s hs').2
      have g1:=dotD_some (hB t0 (by simp)) h1
      have g2:=pastD_some (hB t1 (by simp)) h2
      have g3:=effsD_some (λs hs'=>hB s (by simp [hs'])) h3
      obtain ⟨n0,n1,rfl⟩:=list2 g1.2
      unfold evB
      rw [h0,g1.1,g2,g3]
      rfl
  ·cases h
end Go.Proofs.Ytgocnchjpecafaa.PEv
namespace Go.Proofs.Ytgocnchjpecafaa.PEv
open Go.RowKit Go.Proofs.YtgocnchjpecafaaW.PrintWords Go.Proofs.YtgocnchjpecafaaW.PrintLast Go.Proofs.Ytgocnchjpecafaa.ClockBase Go.Proofs.Ytgocnchjpecafaa.Wr
set_option linter.unusedVariables false
set_option linter.unusedSimpArgs false
theorem eff_nums {x:S48} (h:OkEff x):∀ n ∈ [x.f0,x.f1,x.f3,x.f4],0<=n/\n<=1048576:=by
 obtain ⟨_,_,h1,h2,h3⟩:=h
 intro n hn
 simp only [List.mem_cons,List.not_mem_nil,or_false] at hn
 rcases hn with rfl|rfl|rfl|rfl<;>omega
theorem eff_word {x:S48} (h:OkEff x):x.f2.size<=32/\x.f5.size<=64:=by
 obtain ⟨_,h0,h1,h2,h3⟩:=h
 have hz:∀ s:ByteArray,s.toList=[]->s.size=0:=λs hs=>by
  have:=congrArg List.length hs
  rw [ByteArray.toList_eq,data_length] at this
  exact this
 refine ⟨by omega,?_⟩
 rcases h3 with h|h|h|h
 ·rw [hz _ h.2.2.2];decide
 ·rw [hz _ h.2.2.2.2];decide
 ·rw [hz _ h.2.2.2.2.2];decide
 ·exact yep_0
theorem eff_texts {x:S48} (h:OkEff x):∀ t ∈ numsB [x.f0,x.f1,x.f3,x.f4]++[bytesOf x.f2,bytesOf x.f5],t.length<=64/\Wr.Bytes t:=by
 intro t ht
 rcases List.mem_append.mp ht with ht|ht
 ·have:=numsB_small (eff_nums h) t ht
  obtain ⟨n,hn,rfl⟩:=List.mem_map.mp ht
  have:=eff_nums h n hn
  exact ⟨by omega,num_bytes yep_0⟩
 ·simp only [List.mem_cons,List.not_mem_nil,or_false] at ht
  have:=eff_word h
  rcases ht with rfl|rfl
  ·rw [bytesOf_length];exact ⟨by omega,bytes_bytes _⟩
  ·rw [bytesOf_length];exact ⟨by omega,bytes_bytes _⟩
theorem numl_le {n m:Nat} (h:n<1000000):(num n).length<=9:=by
 rw [num_length]
 have:=be_len8 (u:=n) yep_0
 omega
theorem texts_le (m:Nat) (hm:m<1000000):∀ (l:List (List Int)),(∀ t ∈ l,t.length<=m)->(texts l).length<=l.length*(m+9)
 | [],_=>by simp [texts]
 | t :: l,h=>by
  have h1:=h t List.mem_cons_self
  have h2:=texts_le m hm l (λs hs=>h s (List.mem_cons_of_mem _ hs))
  rw [texts_cons,List.length_append,List.length_cons,Nat.add_mul]
  have:(text t).length<=m+9:=by
   unfold text
   rw [List.length_append]
   have:=numl_le (n:=t.length) (m:=0) yep_0
   omega
  omega
theorem pack_le (m:Nat) (hm:m<1000000) (l:List (List Int)) (hl:l.length<1000000) (h:∀ t ∈ l,t.length<=m):(pack l).length<=9+l.length*(m+9):=by
 unfold pack
 rw [List.length_append]
 have:=numl_le (n:=l.length) (m:=0) hl
 have:=texts_le m hm l h
 omega
theorem effB_le {x:S48} (h:OkEff x):(effB x).length<=447:=by
 have:=pack_le 64 (by decide) (numsB [x.f0,x.f1,x.f3,x.f4]++[bytesOf x.f2,bytesOf x.f5]) (by simp [numsB]) (λt ht=>(eff_texts h t ht).1)
 rw [show(numsB [x.f0,x.f1,x.f3,x.f4]++[bytesOf x.f2,bytesOf x.f5]).length=6 from rfl] at this
 unfold effB
 omega
theorem effB_bytes {x:S48} (h:OkEff x):Wr.Bytes (effB x):=pack_bytes _ (by simp [numsB]) (λt ht=>by have:=eff_texts h t ht;exact ⟨this.2,by omega⟩)
theorem effP_put {x:S48} (h:OkEff x):effP (numsB [x.f0,x.f1,x.f3,x.f4]++[bytesOf x.f2,bytesOf x.f5])=some x:=by
 unfold effP
 rw [if_pos (by simp [numsB]),List.take_left' (by simp [numsB]),wholes_nums (eff_nums h)]
 simp [numsB,str_bytes]
theorem effD_put {x:S48} (h:OkEff x):effD (effB x)=some x:=by
 unfold effD effB
 have:=unpack_pack (numsB [x.f0,x.f1,x.f3,x.f4]++[bytesOf x.f2,bytesOf x.f5]) (λt ht=>by have:=eff_texts h t ht;omega) (by simp [numsB]) 6 (by simp [numsB]) []
 rw [List.append_nil] at this
 rw [this]
 simp only
 rw [if_pos trivial,effP_put h]
theorem effsD_put:∀ {l:List S48},(∀ x ∈ l,OkEff x)->effsD (l.map effB)=some l
 | [],_=>rfl
 | x :: l,h=>by
  show effsD (effB x :: l.map effB)=_
  unfold effsD
  rw [effD_put (h x List.mem_cons_self),effsD_put (λy hy=>h y (List.mem_cons_of_mem _ hy))]
theorem dot_nums {a b:Int} (h1:1<=a) (h2:a<=5) (h3:1<=b) (h4:b<=1048576):∀ n ∈ [a,b],0<=n/\n<=1048576:=by
 intro n hn
 simp only [List.mem_cons,List.not_mem_nil,or_false] at hn
 rcases hn with rfl|rfl<;>omega
theorem dot_texts {a b:Int} (h1:1<=a) (h2:a<=5) (h3:1<=b) (h4:b<=1048576):∀ t ∈ numsB [a,b],t.length<=9/\Wr.Bytes t:=by
 intro t ht
 have:=numsB_small (dot_nums h1 h2 h3 h4) t ht
 obtain ⟨n,hn,rfl⟩:=List.mem_map.mp ht
 have:=dot_nums h1 h2 h3 h4 n hn
 exact ⟨by omega,num_bytes yep_0⟩
theorem dotB_le {a b:Int} (h1:1<=a) (h2:a<=5) (h3:1<=b) (h4:b<=1048576):(pack (numsB [a,b])).length<=45:=by
 have:=pack_le 9 (by decide) (numsB [a,b]) (by simp [numsB]) (λt ht=>(dot_texts h1 h2 h3 h4 t ht).1)
 simpa [numsB] using this
theorem dotD_put {a b:Int} (h1:1<=a) (h2:a<=5) (h3:1<=b) (h4:b<=1048576):dotD (pack (numsB [a,b]))=some [a,b]:=by
 have:=unpack_pack (numsB [a,b]) (λt ht=>by have:=dot_texts h1 h2 h3 h4 t ht;omega) (by simp [numsB]) 2 (by simp [numsB]) []
 rw [List.append_nil] at this
 unfold dotD
 rw [this]
 simp only
 rw [if_pos ⟨trivial,by simp [numsB]⟩,wholes_nums (dot_nums h1 h2 h3 h4)]
theorem pastD_put {c:List Int} (hk:okC c=true) (h:(trim (ofL c)).length=c.length):pastD (putB c)=some c:=by
 have:=read_put c []
 rw [List.append_nil] at this
 unfold pastD
 rw [this]
 simp only
 rw [if_pos trivial,plain_self hk h]
theorem ev_texts {a b:Int} {past:List Int} {es:List S48} (h:OkEv a b past es):∀ t ∈ [pack (numsB [a,b]),putB past]++es.map effB,t.length<=447/\Wr.Bytes t:=by
 obtain ⟨h1,h2,h3,h4,h5,h6,h7,h8,h9,h0⟩:=h
 intro t ht
 rcases List.mem_append.mp ht with ht|ht
 ·simp only [List.mem_cons,List.not_mem_nil,or_false] at ht
  rcases ht with rfl|rfl
  ·have:=dotB_le h1 h2 h3 h4
   exact ⟨by omega,pack_bytes _ (by simp [numsB]) (λt ht=>by have:=dot_texts h1 h2 h3 h4 t ht;exact ⟨this.2,by omega⟩)⟩
  ·have:=putB_len past
   exact ⟨by omega,putB_bytes past⟩
 ·obtain ⟨x,hx,rfl⟩:=List.mem_map.mp ht
  exact ⟨effB_le (h0 x hx),effB_bytes (h0 x hx)⟩
theorem evB_le {a b:Int} {past:List Int} {es:List S48} (h:OkEv a b past es):(evB a b past es).length<=8300:=by
 have:=pack_le 447 (by decide) ([pack (numsB [a,b]),putB past]++es.map effB) (by have:=h.2.2.2.2.2.2.2.2.1;simp;omega) (λt ht=>(ev_texts h t ht).1)
 have h9:=h.2.2.2.2.2.2.2.2.1
 rw [List.length_append,List.length_map] at this
 unfold evB
 simp only [List.length_cons,List.length_nil] at this
 omega
theorem evD_put {a b:Int} {past:List Int} {es:List S48} (h:OkEv a b past es):evD (evB a b past es)=some (a,b,past,es):=by
 have ht:=ev_texts h
 obtain ⟨h1,h2,h3,h4,h5,h6,h7,h8,h9,h0⟩:=h
 have hl:([pack (numsB [a,b]),putB past]++es.map effB).length=es.length+2:=by rw [List.length_append,List.length_map];simp only [List.length_cons,List.length_nil];omega
 have:=unpack_pack ([pack (numsB [a,b]),putB past]++es.map effB) (λt h=>by have:=ht t h;omega) (by rw [hl];omega) 18 (by rw [hl];omega) []
 rw [List.append_nil] at this
 unfold evD evB
 rw [this]
 simp only
 rw [if_pos ⟨trivial,by rw [hl];omega⟩]
 show(match dotD (pack (numsB [a,b])) with
  | none=>none
  | some ns=>match pastD (putB past) with
   | none=>none
   | some past=>(effsD (es.map effB)).map λes=>(ns.getD 0 0,ns.getD 1 0,past,es))=_
 rw [dotD_put h1 h2 h3 h4,pastD_put h5 h6,effsD_put h0]
 rfl
def evG (b:List Int):Option (Int×Int×List Int×List S48):=match evD b with
 | none=>none
 | some e=>if OkEv e.1 e.2.1 e.2.2.1 e.2.2.2 then some e else none
theorem evG_iff {b:List Int} (hb:Wr.Bytes b) (x y:Int) (past:List Int) (es:List S48):evG b=some (x,y,past,es)↔OkEv x y past es/\b=evB x y past es:=by
 unfold evG
 constructor
 ·intro h
  cases hd:evD b with
  | none=>rw [hd] at h;cases h
  | some e =>
   rw [hd] at h
   simp only at h
   split at h
   ·rename_i hk
    obtain rfl:=Option.some.inj h
    exact ⟨hk,evD_some hb hd⟩
   ·cases h
 ·rintro ⟨hk,rfl⟩
  rw [evD_put hk]
  simp only
  rw [if_pos hk]
end Go.Proofs.Ytgocnchjpecafaa.PEv
namespace Go.Proofs.Ytgocnchjpecafaa.PEv
open Go.RowKit Go.Proofs.YtgocnchjpecafaaW.PrintWords Go.Proofs.YtgocnchjpecafaaW.PrintLast Go.Proofs.Ytgocnchjpecafaa.ClockBase Go.Proofs.Ytgocnchjpecafaa.Wr
set_option linter.unusedVariables false
set_option linter.unusedSimpArgs false
theorem ev_is {α:Type} {o:Option α} {r:α} (h:o=some r):Ev (λ_=>o) r:=h ▸ Ev.now r
theorem rdB_at {l:List (List Int)} {i:Nat} (h:i<l.length):Hand.rdB l (i:Int)=l[i]:=by
 unfold Hand.rdB
 rw [List.getD_eq_getElem?_getD,Int.toNat_natCast,List.getElem?_eq_getElem h,Option.getD_some]
theorem any_ev:∀ (l:List S48),Ev (λk=>event_Check.any k l) (!l.all λx=>decide (OkEff x))
 | []=>Ev.now _
 | x :: l=>by
  refine Ev.congr (f:=λk=>(event_CheckEffect.f k x.f0 x.f1 x.f2 x.f3 x.f4 x.f5).bind λt=>if t=0 then event_Check.any k l else some true) (λk=>rfl) ?_
  refine Ev.bind (checkEff_ev x) ?_
  by_cases h:OkEff x
  ·refine ck_if (if_pos h) ?_
   have e:(!(x :: l).all λx=>decide (OkEff x)) = !l.all λx=>decide (OkEff x):=by rw [List.all_cons,decide_eq_true h,Bool.true_and]
   rw [e]
   exact any_ev l
  ·refine ck_else (by rw [if_neg h];decide) ?_
   have e:(!(x :: l).all λx=>decide (OkEff x))=true:=by rw [List.all_cons,decide_eq_false h,Bool.false_and];rfl
   rw [e]
   exact Ev.now _
theorem dotMay_eq (a b:Int):dots_May.f a b=some (decide (1<=a/\a<=5/\1<=b/\b<=1048576)):=by
 unfold dots_May.f
 by_cases h1:a>=1
 ·rw [if_pos h1]
  by_cases h2:a<=5
  ·rw [if_pos h2]
   by_cases h3:b>=1
   ·rw [if_pos h3];congr 1;rw [decide_eq_decide];omega
   ·rw [if_neg h3,decide_eq_false yep_0]
  ·rw [if_neg h2,decide_eq_false yep_0]
 ·rw [if_neg h1,decide_eq_false yep_0]
theorem evCheck_ev (a b:Int) (past:List Int) (es:List S48):Ev (λk=>event_Check.f k a b past es) (if OkEv a b past es then 0 else 1):=by
 unfold event_Check.f
 refine Ev.bind (ev_is (dotMay_eq a b)) ?_
 by_cases h1:1<=a/\a<=5/\1<=b/\b<=1048576
 rotate_left
 ·rw [if_neg (λh:OkEv a b past es=>h1 ⟨h.1,h.2.1,h.2.2.1,h.2.2.2.1⟩)]
  exact ck_else (by rw [decide_eq_false h1];decide) (Ev.now _)
 refine ck_if (decide_eq_true h1) ?_
 by_cases h2:okC past=true
 rotate_left
 ·rw [if_neg (λh:OkEv a b past es=>h2 h.2.2.2.2.1)]
  exact ck_else h2 (Ev.now _)
 refine ck_if h2 ?_
 by_cases h3:(trim (ofL past)).length=past.length
 rotate_left
 ·rw [if_neg (λh:OkEv a b past es=>h3 h.2.2.2.2.2.1)]
  exact ck_else h3 (Ev.now _)
 refine ck_if h3 ?_
 rw [wl_w64 (show -9223372036854775808<=b - 1 by omega) yep_0]
 by_cases h4:getS past a=b - 1
 rotate_left
 ·rw [if_neg (λh:OkEv a b past es=>h4 h.2.2.2.2.2.2.1)]
  exact ck_else h4 (Ev.now _)
 refine ck_if h4 ?_
 by_cases h5:es.length<1
 ·rw [if_neg (λh:OkEv a b past es=>by have:=h.2.2.2.2.2.2.2.1;omega)]
  exact ck_if h5 (Ev.now _)
 refine ck_else h5 ?_
 by_cases h6:es.length > 16
 ·rw [if_neg (λh:OkEv a b past es=>by have:=h.2.2.2.2.2.2.2.2.1;omega)]
  exact ck_if h6 (Ev.now _)
 refine ck_else h6 ?_
 refine Ev.bind (any_ev es) ?_
 by_cases h7:∀ x ∈ es,OkEff x
 ·rw [if_pos (show OkEv a b past es from ⟨h1.1,h1.2.1,h1.2.2.1,h1.2.2.2,h2,h3,h4,by omega,by omega,h7⟩)]
  refine ck_else ?_ (Ev.now _)
  have:(es.all λx=>decide (OkEff x))=true:=List.all_eq_true.mpr λx hx=>decide_eq_true (h7 x hx)
  rw [this];decide
 ·rw [if_neg (λh:OkEv a b past es=>h7 h.2.2.2.2.2.2.2.2.2)]
  refine ck_if ?_ (Ev.now _)
  have:¬ (es.all λx=>decide (OkEff x))=true:=λh=>h7 λx hx=>of_decide_eq_true (List.all_eq_true.mp h x hx)
  rw [Bool.eq_false_iff.mpr this];rfl
def wholeR (b:List Int) (most:Nat):List (List Int)×Bool:=match unpack b most with
 | none=>([],false)
 | some (l,n)=>(l,decide (n=b.length))
theorem whole_ev (b:List Int) (hb:Wr.Bytes b) (hn:b.length<=140737488351232) (most:Nat) (hm:most<=1000):Ev (λk=>event_whole.f k b (most:Int)) (wholeR b most):=by
 unfold event_whole.f
 refine Ev.bind (unpack_ev b hb hn most hm) ?_
 unfold packR wholeR
 cases unpack b most with
 | none=>exact ck_else (by simp) (Ev.now _)
 | some p =>
  obtain ⟨l,n⟩:=p
  refine ck_if rfl ?_
  refine ev_is ?_
  congr 2
  show((n:Int) == (b.length:Int))=decide (n=b.length)
  rw [Bool.eq_iff_iff,beq_iff_eq,decide_eq_true_iff]
  omega
def intsR (o:Option (List Int)):List Int×Bool:=match o with
 | none=>([],false)
 | some l=>(l,true)
theorem ints_loop (ts:List (List Int)) (hts:ts.length<=1000) (hb:∀ t ∈ ts,t.length<=65536/\Wr.Bytes t) (d:Nat):∀ (i:Nat) (out:List Int),i+d=ts.length->out.length=i->Ev (λk=>event_ints.l0 k out ts (ts.length:Int) (i:Int)) (intsR ((wholes (ts.drop i)).map (out++·))):=by
 induction d with
 | zero =>
  intro i out hi ho
  rw [List.drop_eq_nil_of_le yep_0]
  have e:(wholes []).map (out++·)=some out:=by simp [wholes]
  rw [e]
  refine Ev.step (f:=λ_=>some (intsR (some out))) (λk=>?_) (Ev.now _)
  simp only [event_ints.l0,intsR]
  rw [if_neg yep_0]
 | succ d ih =>
  intro i out hi ho
  have hlt:i<ts.length:=by omega
  have ht:=hb _ (List.getElem_mem hlt)
  rw [List.drop_eq_getElem_cons hlt]
  refine Ev.step (f:=λk=>(wire_GetNum.f k ts[i]).bind λbt=>(if bt.2.2=0 then(if bt.2.1=((ts[i]).length:Int) then(if bt.1 > 1048576 then(some (([]:List Int),false)) else(event_ints.l0 k (out++[wrap64 (bt.1)]) ts (ts.length:Int) ((i+1:Nat):Int))) else(some (([]:List Int),false))) else(some (([]:List Int),false)))) (λk=>?_) ?_
  ·simp only [event_ints.l0];rw [if_pos yep_0,if_pos yep_0,if_pos yep_0,wl_rdL hlt,ck_w yep_0];simp only [if_pos (show out.length<17592186044416 by omega)]
  ·refine Ev.bind (getNum_ev _ ht.2 yep_0) ?_
   unfold numR wholes whole1
   cases hg:getNum ts[i] with
   | none =>
    refine ck_else (by simp) ?_
    simpa [intsR] using Ev.now _
   | some p =>
    obtain ⟨u,m⟩:=p
    refine ck_if (by rfl) ?_
    by_cases hm:m=(ts[i]).length
    ·refine ck_if yep_3 ?_
     by_cases hu:u<=1048576
     ·refine ck_else yep_3 ?_
      simp only [if_pos (And.intro hm hu)]
      rw [wl_w64 yep_0 yep_0]
      have h1:=ih (i+1) (out++[(u:Int)]) yep_0 yep_1
      cases hw:wholes (ts.drop (i+1)) with
      | none =>
       rw [hw] at h1
       exact h1
      | some l =>
       rw [hw] at h1
       simpa using h1
     ·refine ck_if yep_3 ?_
      simp only [if_neg (λh:m=(ts[i]).length/\u<=1048576=>hu h.2)]
      simpa [intsR] using Ev.now _
    ·refine ck_else yep_3 ?_
     simp only [if_neg (λh:m=(ts[i]).length/\u<=1048576=>hm h.1)]
     simpa [intsR] using Ev.now _
theorem ints_ev (ts:List (List Int)) (hts:ts.length<=1000) (hb:∀ t ∈ ts,t.length<=65536/\Wr.Bytes t):Ev (λk=>event_ints.f k ts) (intsR (wholes ts)):=by
 have h:=ints_loop ts hts hb ts.length 0 [] yep_0 rfl
 rw [List.drop_zero] at h
 have e:(wholes ts).map (([]:List Int)++·)=wholes ts:=by cases wholes ts<;>rfl
 rw [e] at h
 exact h
def effR (o:Option S48):Int×Int×ByteArray×Int×Int×ByteArray×Bool:=match o with
 | none=>(0,0,(⟨#[]⟩:ByteArray),0,0,(⟨#[]⟩:ByteArray),false)
 | some x=>(x.f0,x.f1,x.f2,x.f3,x.f4,x.f5,true)
theorem effect_no (p:List (List Int)):Ev (λk=>event_effect.j0 k p true) (effR none):=Ev.step (f:=λ_=>some (effR none)) (λk=>rfl) (Ev.now _)
theorem effect_ev (t:List Int) (ht:Wr.Bytes t) (hn:t.length<=65536):Ev (λk=>event_effect.f k t) (effR (effD t)):=by
 unfold event_effect.f
 refine Ev.bind (whole_ev t ht yep_0 6 (by decide)) ?_
 unfold wholeR effD
 cases hu:unpack t 6 with
 | none=>exact ck_else (by simp) (effect_no _)
 | some q =>
  obtain ⟨p,n⟩:=q
  have hs:=unpack_some ht hu
  by_cases hw:n=t.length
  rotate_left
  ·simp only [if_neg hw]
   exact ck_else (by simp [hw]) (effect_no _)
  simp only [if_pos hw]
  refine ck_if (by simp [hw]) ?_
  unfold effP
  by_cases h6:p.length=6
  rotate_left
  ·rw [if_neg h6]
   have e:((p.length:Int) != 6)=true:=by rw [bne_iff_ne];omega
   simp only [e]
   exact effect_no _
  rw [if_pos h6]
  have e:((p.length:Int) != 6)=false:=by rw [bne_eq_false_iff_eq];omega
  simp only [e]
  obtain ⟨a,b,c,d,f,g,rfl⟩:=list6 h6
  refine Ev.step (f:=λk=>(event_ints.f k [a,b,c,d]).bind λbt=>(if bt.2=true then(if 0<(bt.1.length:Int) then(if 1<(bt.1.length:Int) then(if 2<(bt.1.length:Int) then(if 3<(bt.1.length:Int) then some (rd bt.1 0,rd bt.1 1,strOfNums f,rd bt.1 2,rd bt.1 3,strOfNums g,true) else none) else none) else none) else none) else some (effR none))) (λk=>rfl) ?_
  refine Ev.bind (ints_ev [a,b,c,d] (by simp) (λs hs'=>hs.2.2.2.2.2 s (by simp at hs' ⊢;rcases hs' with h|h|h|h<;>simp [h]))) ?_
  simp only [List.take_succ_cons,List.take_zero]
  cases hw:wholes [a,b,c,d] with
  | none=>exact ck_else (by simp [intsR]) (Ev.now _)
  | some ns =>
   obtain ⟨n0,n1,n2,n3,rfl⟩:=list4 (wholes_len hw)
   exact Ev.now _
theorem got_loop (ts:List (List Int)) (hts:ts.length<=1000) (hb:∀ t ∈ ts,t.length<=65536/\Wr.Bytes t) (d:Nat):∀ (i:Nat) (acc:List S48),i+d=ts.length->acc.length=i->Ev (λk=>event_Get.l0 k ts acc (i:Int)) ((effsD (ts.drop i)).map (acc++·)):=by
 induction d with
 | zero =>
  intro i acc hi ho
  rw [List.drop_eq_nil_of_le yep_0]
  have e:(effsD []).map (acc++·)=some acc:=by simp [effsD]
  rw [e]
  refine Ev.step (f:=λ_=>some (some acc)) (λk=>?_) (Ev.now _)
  simp only [event_Get.l0]
  rw [if_neg yep_0]
 | succ d ih =>
  intro i acc hi ho
  have hlt:i<ts.length:=by omega
  have ht:=hb _ (List.getElem_mem hlt)
  rw [List.drop_eq_getElem_cons hlt]
  refine Ev.step (f:=λk=>(event_effect.f k ts[i]).bind λx=>if x.2.2.2.2.2.2=true then event_Get.l0 k ts (acc++[⟨x.1,x.2.1,x.2.2.1,x.2.2.2.1,x.2.2.2.2.1,x.2.2.2.2.2.1⟩]) ((i+1:Nat):Int) else some none) (λk=>?_) ?_
  ·simp only [event_Get.l0];rw [if_pos yep_0,if_pos yep_0,rdB_at hlt,ck_w yep_0];simp only [if_pos (show acc.length<2199023255552 by omega)]
  ·refine Ev.bind (effect_ev _ ht.2 ht.1) ?_
   unfold effsD
   cases hx:effD ts[i] with
   | none=>exact ck_else (by simp [effR]) (Ev.now _)
   | some x =>
    refine ck_if rfl ?_
    have h1:=ih (i+1) (acc++[x]) yep_0 yep_1
    cases hw:effsD (ts.drop (i+1)) with
    | none=>rw [hw] at h1;exact h1
    | some l =>
     rw [hw] at h1
     show Ev (λk=>event_Get.l0 k ts (acc++[x]) ((i+1:Nat):Int)) _
     simpa using h1
def getR (o:Option (Int×Int×List Int×List S48)):Int×Int×List Int×List S48×Int:=match o with
 | none=>event_Get.fail
 | some e=>(e.1,e.2.1,e.2.2.1,e.2.2.2,0)
theorem evGet_ev (b:List Int) (hb:Wr.Bytes b) (hn:b.length<=140737488351232):Ev (λk=>event_Get.f k b) (getR (evG b)):=by
 unfold event_Get.f evG evD
 refine Ev.bind (whole_ev b hb hn 18 (by decide)) ?_
 unfold wholeR
 cases hu:unpack b 18 with
 | none=>exact ck_else (by simp) (Ev.now _)
 | some q =>
  obtain ⟨l,n⟩:=q
  have hs:=unpack_some hb hu
  have hB:=hs.2.2.2.2.2
  by_cases hw:n=b.length
  rotate_left
  ·simp only [if_neg (λh:n=b.length/\3<=l.length=>hw h.1)]
   exact ck_else (by simp [hw]) (Ev.now _)
  refine ck_if (by simp [hw]) ?_
  by_cases h3:3<=l.length
  rotate_left
  ·simp only [if_neg (λh:n=b.length/\3<=l.length=>h3 h.2)]
   exact ck_if yep_2 (Ev.now _)
  refine ck_else yep_2 ?_
  simp only [if_pos (And.intro hw h3)]
  obtain ⟨t0,t1,r,rfl⟩:∃ t0 t1 r,l=t0 :: t1 :: r:=by
   match l,h3 with
   | t0 :: t1 :: r,_=>exact ⟨t0,t1,r,rfl⟩
  have b0:=hB t0 (by simp)
  have b1:=hB t1 (by simp)
  simp only [List.getD_cons_zero,List.getD_cons_succ,List.drop_succ_cons,List.drop_zero]
  have e0:Hand.rdB (t0 :: t1 :: r) 0=t0:=rfl
  have e1:Hand.rdB (t0 :: t1 :: r) 1=t1:=rfl
  simp only [e0,e1]
  refine Ev.bind (whole_ev t0 b0.2 yep_0 2 (by decide)) ?_
  unfold wholeR dotD
  cases hd:unpack t0 2 with
  | none=>exact ck_else (by simp) (Ev.now _)
  | some q =>
   obtain ⟨ds,m⟩:=q
   have hs2:=unpack_some b0.2 hd
   by_cases hm:m=t0.length
   rotate_left
   ·simp only [if_neg (λh:m=t0.length/\ds.length=2=>hm h.1)]
    exact ck_else (by simp [hm]) (Ev.now _)
   refine ck_if (by simp [hm]) ?_
   by_cases h2:ds.length=2
   rotate_left
   ·simp only [if_neg (λh:m=t0.length/\ds.length=2=>h2 h.2)]
    exact ck_else yep_2 (Ev.now _)
   refine ck_if yep_2 ?_
   simp only [if_pos (And.intro hm h2)]
   refine Ev.bind (ints_ev ds yep_0 hs2.2.2.2.2.2) ?_
   refine Ev.bind (read_ev t1 b1.2 yep_0) ?_
   unfold intsR readP pastD
   cases hwd:wholes ds with
   | none=>exact ck_else (by simp) (Ev.now _)
   | some ns =>
    refine ck_if rfl ?_
    cases hrd:readB t1 with
    | none=>exact ck_else (by simp) (Ev.now _)
    | some q =>
     obtain ⟨c,j⟩:=q
     refine ck_if rfl ?_
     by_cases hj:j=t1.length
     rotate_left
     ·simp only [if_neg hj]
      exact ck_else yep_2 (Ev.now _)
     refine ck_if yep_2 ?_
     simp only [if_pos hj]
     obtain ⟨n0,n1,rfl⟩:=list2 ((wholes_len hwd).trans h2)
     refine ck_if (by simp) ?_
     have hl:=got_loop r (by have:=hs.2.1;simp at this;omega) (λt ht=>hB t (by simp [ht])) r.length 0 [] yep_0 rfl
     rw [List.drop_zero] at hl
     have e:(effsD r).map (([]:List S48)++·)=effsD r:=by cases effsD r<;>rfl
     rw [e] at hl
     refine Ev.bind hl ?_
     cases hx:effsD r with
     | none=>exact Ev.now _
     | some es =>
      refine Ev.bind (evCheck_ev n0 n1 c es) ?_
      show Ev _ (getR (if OkEv n0 n1 c es then some (n0,n1,c,es) else none))
      by_cases hk:OkEv n0 n1 c es
      ·simp only [if_pos hk]
       exact ck_if trivial (Ev.now _)
      ·simp only [if_neg hk]
       exact ck_else (by decide) (Ev.now _)
end Go.Proofs.Ytgocnchjpecafaa.PEv
namespace Go.Proofs.Ytgocnchjpecafaa.PEv
open Go.RowKit Go.Proofs.YtgocnchjpecafaaW.PrintWords Go.Proofs.YtgocnchjpecafaaW.PrintLast Go.Proofs.Ytgocnchjpecafaa.ClockBase
set_option linter.unusedVariables false
set_option linter.unusedSimpArgs false
theorem mayEff_eq' (x:S48) (k:Nat) (P:Prop) [Decidable P] (hP:P↔x.f2.toList≠[]/\(x.f2.size:Int)<=32/\0<=x.f1/\x.f1<=15 /\
 ((x.f0=1\/x.f0=2)/\x.f3=0/\x.f4=0/\x.f5.toList=[]\/(x.f0=3\/x.f0=4)/\1<=x.f3/\x.f3<=1000/\x.f4=0/\x.f5.toList=[] \/
 x.f0=5/\1<=x.f3/\x.f3<=1000/\1<=x.f4/\x.f4<=5/\x.f5.toList=[]\/x.f0=6/\x.f3=0/\x.f4=0/\(x.f5.size:Int)<=64)) :
  r05_MayEffect.f (k+4) x.f0 x.f1 x.f2 x.f3 x.f4 x.f5=some (decide P):=by
 simp only [r05_MayEffect.f,r05_MayEffect.j0,r05_MayEffect.j1,r05_MayEffect.j2]
 by_cases h1:x.f2.toList=[]
 ·have hn:¬ P:=λh=>(hP.1 h).1 h1
  simp [h1,hn]
 by_cases h2:(x.f2.size:Int) > 32
 ·rw [if_neg h1,if_pos h2,if_pos trivial,decide_eq_false (λh=>by have:=(hP.1 h).2.1;omega)]
 by_cases h3:x.f1<0
 ·rw [if_neg h1,if_neg h2,if_pos h3,if_pos trivial,decide_eq_false (λh=>by have:=(hP.1 h).2.2.1;omega)]
 by_cases h4:x.f1 > 15
 ·rw [if_neg h1,if_neg h2,if_neg h3,if_pos h4,if_pos trivial,decide_eq_false (λh=>by have:=(hP.1 h).2.2.2.1;omega)]
 rw [if_neg h1,if_neg h2,if_neg h3,if_neg h4]
 have a2:(x.f2.size:Int)<=32:=by omega
 have a3:0<=x.f1:=by omega
 have a4:x.f1<=15:=by omega
 simp only [ne_eq,h1,not_false_eq_true,a2,a3,a4,true_and] at hP
 clear h1 h2 h3 h4 a2 a3 a4
 have hs:x.f5.toList=[]->(x.f5.size:Int)<=64:=λh=>by
  have:=congrArg List.length h
  rw [ByteArray.toList_eq,data_length,List.length_nil] at this
  omega
 generalize x.f0=a at *
 generalize x.f3=n at *
 generalize x.f4=t at *
 generalize x.f5=s at *
 by_cases e1:a=1
 ·subst e1;by_cases b1:n=0<;>by_cases b2:t=0<;>by_cases b3:s.toList=[]<;>simp [hP,b1,b2,b3]
 by_cases e2:a=2
 ·subst e2;by_cases b1:n=0<;>by_cases b2:t=0<;>by_cases b3:s.toList=[]<;>simp [hP,b1,b2,b3]
 by_cases e3:a=3
 ·subst e3;by_cases b1:n<1<;>by_cases b0:n > 1000<;>by_cases b2:t=0<;>by_cases b3:s.toList=[]<;>simp [hP,b0,b1,b2,b3]<;>omega
 by_cases e4:a=4
 ·subst e4;by_cases b1:n<1<;>by_cases b0:n > 1000<;>by_cases b2:t=0<;>by_cases b3:s.toList=[]<;>simp [hP,b0,b1,b2,b3]<;>omega
 by_cases e5:a=5
 ·subst e5;by_cases b1:n<1<;>by_cases b0:n > 1000<;>by_cases b2:t<1<;>by_cases b4:t > 5<;>by_cases b3:s.toList=[]<;>simp [hP,b0,b1,b2,b3,b4]<;>omega
 by_cases e6:a=6
 ·subst e6
  by_cases b1:n=0<;>by_cases b2:t=0<;>by_cases b3:s.toList=[]
  ·have:=hs b3
   simp [hP,b1,b2,b3,this]
  all_goals simp [hP,b1,b2,b3]
 ·by_cases b0:a<1
  ·simp [hP,b0,e1,e2,e3,e4,e5,e6]
  ·have b9:a > 6:=by omega
   simp [hP,b0,b9,e1,e2,e3,e4,e5,e6]
theorem mayEff_ev (x:S48):Ev (λk=>r05_MayEffect.f k x.f0 x.f1 x.f2 x.f3 x.f4 x.f5) (decide (OkEff x)):=⟨4,λk hk=>by
 obtain ⟨m,rfl⟩:∃ m,k=m+4:=⟨k - 4,by omega⟩
 exact mayEff_eq' x m (OkEff x) Iff.rfl⟩
end Go.Proofs.Ytgocnchjpecafaa.PEv
namespace Go.Proofs.Ytgocnchjpecafaa.PEv
open Go.RowKit Go.Proofs.YtgocnchjpecafaaW.PrintWords Go.Proofs.YtgocnchjpecafaaW.PrintLast Go.Proofs.Ytgocnchjpecafaa.ClockBase Go.Proofs.Ytgocnchjpecafaa.Wr
set_option linter.unusedVariables false
set_option linter.unusedSimpArgs false
def numberR (o:Option Int):Int×Bool:=match o with
 | none=>(0,false)
 | some n=>(n,true)
theorem number_ev (t:List Int) (ht:Wr.Bytes t) (hn:t.length<=140737488351232):Ev (λk=>r05_number.f k t) (numberR (whole1 t)):=by
 unfold r05_number.f
 refine Ev.bind (refGetNum_ev t ht hn) ?_
 unfold numR2 whole1
 cases hg:getNum t with
 | none=>exact ck_if rfl (Ev.now _)
 | some p =>
  obtain ⟨u,m⟩:=p
  have hm0:=num_pos ht hg
  refine ck_else yep_2 ?_
  by_cases hm:m=t.length
  rotate_left
  ·simp only [if_neg (λh:m=t.length/\u<=1048576=>hm h.1)]
   exact ck_else yep_2 (Ev.now _)
  refine ck_if yep_2 ?_
  by_cases hu:u<=1048576
  rotate_left
  ·simp only [if_neg (λh:m=t.length/\u<=1048576=>hu h.2)]
   exact ck_if yep_2 (Ev.now _)
  simp only [if_pos (And.intro hm hu)]
  refine ck_else yep_2 ?_
  rw [wl_w64 yep_0 yep_0]
  exact Ev.now _
theorem dotMay04_eq (a b:Int):r04_May.f a b=some (decide (1<=a/\a<=5/\1<=b/\b<=1048576)):=by
 unfold r04_May.f
 by_cases h1:a>=1
 ·rw [if_pos h1]
  by_cases h2:a<=5
  ·rw [if_pos h2]
   by_cases h3:b>=1
   ·rw [if_pos h3];congr 1;rw [decide_eq_decide];omega
   ·rw [if_neg h3,decide_eq_false yep_0]
  ·rw [if_neg h2,decide_eq_false yep_0]
 ·rw [if_neg h1,decide_eq_false yep_0]
theorem rdT_at {l:List S48} {i:Nat} (h:i<l.length):rd_T48 l (i:Int)=l[i]:=by
 unfold rd_T48
 rw [List.getD_eq_getElem?_getD,Int.toNat_natCast,List.getElem?_eq_getElem h,Option.getD_some]
theorem refMay_loop (a b:Int) (past:List Int) (es:List S48) (hn:es.length<=140737488355328) (d:Nat):∀ (i:Nat),i+d=es.length->Ev (λk=>r05_May.l0 k (i:Int) a b past es) (((es.drop i).all λx=>decide (OkEff x)) && decide (1<=es.length/\es.length<=16)):=by
 induction d with
 | zero =>
  intro i hi
  rw [List.drop_eq_nil_of_le yep_0]
  refine Ev.step (f:=λ_=>some (decide (1<=es.length/\es.length<=16))) (λk=>?_) (ev_is ?_)
  ·simp only [r05_May.l0]
   rw [if_neg yep_0]
   by_cases h:(es.length:Int)>=1
   ·rw [if_pos h];congr 1;rw [decide_eq_decide];omega
   ·rw [if_neg h,decide_eq_false yep_0]
  ·simp
 | succ d ih =>
  intro i hi
  have hlt:i<es.length:=by omega
  rw [List.drop_eq_getElem_cons hlt]
  refine Ev.step (f:=λk=>(r05_MayEffect.f k (es[i]).f0 (es[i]).f1 (es[i]).f2 (es[i]).f3 (es[i]).f4 (es[i]).f5).bind λt=>(if t=true then(r05_May.l0 k ((i+1:Nat):Int) a b past es) else(some false))) (λk=>?_) ?_
  ·simp only [r05_May.l0];rw [if_pos yep_0,if_pos yep_0,rdT_at hlt,ck_w yep_0]
  ·refine Ev.bind (mayEff_ev _) ?_
   rw [List.all_cons]
   by_cases h:OkEff es[i]
   ·refine ck_if (decide_eq_true h) ?_
    rw [decide_eq_true h,Bool.true_and]
    exact ih (i+1) yep_0
   ·refine ck_else (by rw [decide_eq_false h];decide) ?_
    rw [decide_eq_false h,Bool.false_and,Bool.false_and]
    exact Ev.now _
theorem getS_in (l:List Int) {a:Int} (h1:1<=a) (h2:a<=5):0<=getS l a/\getS l a<=1048576:=by
 obtain ⟨i,hi,rfl⟩:∃ i:Nat,i<5/\a=((i+1:Nat):Int):=⟨(a - 1).toNat,by omega,by omega⟩
 rw [getS_nat l i hi]
 exact good_at (good_of l) i
theorem refMay_no (a b:Int) (past:List Int) (es:List S48):Ev (λk=>r05_May.j0 k true a b past es) false:=Ev.step (f:=λ_=>some false) (λk=>rfl) (Ev.now _)
theorem refMay_ev (a b:Int) (past:List Int) (es:List S48) (hp:past.length<=140737488355328) (hn:es.length<=140737488355328):Ev (λk=>r05_May.f k a b past es) (decide (OkEv a b past es)):=by
 unfold r05_May.f
 refine Ev.bind (ev_is (dotMay04_eq a b)) ?_
 by_cases h1:1<=a/\a<=5/\1<=b/\b<=1048576
 rotate_left
 ·rw [decide_eq_false (λh:OkEv a b past es=>h1 ⟨h.1,h.2.1,h.2.2.1,h.2.2.2.1⟩)]
  exact ck_else (by rw [decide_eq_false h1];decide) (refMay_no _ _ _ _)
 refine ck_if (decide_eq_true h1) ?_
 refine Ev.bind (may_ev past hp) ?_
 by_cases h2:okC past=true
 rotate_left
 ·rw [decide_eq_false (λh:OkEv a b past es=>h2 h.2.2.2.2.1)]
  exact ck_else h2 (refMay_no _ _ _ _)
 refine ck_if h2 ?_
 refine Ev.bind (plain_ev past hp) ?_
 refine Ev.bind (same_ev _ past (by have:=plain_len past;omega)) ?_
 by_cases h3:(trim (ofL past)).length=past.length
 rotate_left
 ·rw [decide_eq_false (λh:OkEv a b past es=>h3 h.2.2.2.2.2.1)]
  exact ck_else (by rw [decide_eq_false (λh=>h3 (by rw [h]))];decide) (refMay_no _ _ _ _)
 refine ck_if (decide_eq_true (plain_self h2 h3)) ?_
 refine Ev.bind (get_ev past a hp) ?_
 have hg:=getS_in past h1.1 h1.2.1
 rw [wl_w64 yep_0 yep_0]
 by_cases h4:getS past a=b - 1
 rotate_left
 ·rw [decide_eq_false (λh:OkEv a b past es=>h4 h.2.2.2.2.2.2.1)]
  have e:(getS past a+1 != b)=true:=by rw [bne_iff_ne];omega
  rw [e]
  exact refMay_no _ _ _ _
 have e:(getS past a+1 != b)=false:=by rw [bne_eq_false_iff_eq];omega
 rw [e]
 refine Ev.step (f:=λk=>r05_May.l0 k 0 a b past es) (λk=>rfl) ?_
 have h:=refMay_loop a b past es hn es.length 0 yep_0
 rw [List.drop_zero] at h
 have e:decide (OkEv a b past es)=((es.all λx=>decide (OkEff x)) && decide (1<=es.length/\es.length<=16)):=by
  rw [Bool.eq_iff_iff,decide_eq_true_iff,Bool.and_eq_true,decide_eq_true_iff,List.all_eq_true]
  exact ⟨λh=>⟨λx hx=>decide_eq_true (h.2.2.2.2.2.2.2.2.2 x hx),h.2.2.2.2.2.2.2.1,h.2.2.2.2.2.2.2.2.1⟩,λh=>⟨h1.1,h1.2.1,h1.2.2.1,h1.2.2.2,h2,h3,h4,h.2.1,h.2.2,λx hx=>of_decide_eq_true (h.1 x hx)⟩⟩
 rw [e]
 exact h
theorem refNums_loop (l:List Int) (hl:l.length<=1000) (hs:∀ n ∈ l,0<=n/\n<=1048576) (d:Nat):∀ (i:Nat),i+d=l.length->Ev (λk=>r05_nums.l0 k l ((numsB l).take i) (i:Int)) (numsB l):=by
 have hn:(numsB l).length=l.length:=by unfold numsB;rw [List.length_map]
 induction d with
 | zero =>
  intro i hi
  obtain rfl:i=l.length:=by omega
  have e:(numsB l).take l.length=numsB l:=by rw [<-hn,List.take_length]
  rw [e]
  refine Ev.step (f:=λk=>some (numsB l)) (λk=>?_) (Ev.now _)
  simp only [r05_nums.l0]
  rw [if_neg yep_0]
 | succ d ih =>
  intro i hi
  have hlt:i<l.length:=by omega
  have hg:=hs _ (List.getElem_mem hlt)
  have hlen:((numsB l).take i).length<5864062014805:=by rw [List.length_take];omega
  have ht:(numsB l).take (i+1)=(numsB l).take i++[num (l[i]).toNat]:=by
   rw [List.take_add_one,List.getElem?_eq_getElem yep_0]
   simp [numsB]
  refine Ev.step (f:=λk=>(r02_Num.f k (((l[i]).toNat:Nat):Int)).bind λt=>r05_nums.l0 k l ((numsB l).take i++[t]) ((i+1:Nat):Int)) (λk=>?_) ?_
  ·simp only [r05_nums.l0];rw [if_pos yep_0,if_pos yep_0,ck_rd hlt,small_u64 hg.1 hg.2,ck_w yep_0];simp only [if_pos hlen]
  ·refine Ev.bind (refNum_ev _ yep_0) ?_
   rw [<-ht]
   exact ih (i+1) yep_0
theorem refNums_ev (l:List Int) (hl:l.length<=1000) (hs:∀ n ∈ l,0<=n/\n<=1048576):Ev (λk=>r05_nums.f k l) (numsB l):=by
 have:=refNums_loop l hl hs l.length 0 yep_0
 rw [List.take_zero] at this
 exact this
theorem refEvPut_loop (es:List S48) (hes:es.length<=16) (hk:∀ x ∈ es,OkEff x) (p q:List Int) (hp:p.length<=447) (hq:q.length<=447) (d:Nat):∀ (i:Nat),i+d=es.length->Ev (λk=>r05_Put.l0 k es ([p,q]++(es.map effB).take i) (i:Int)) (pack ([p,q]++es.map effB)):=by
 have hn:(es.map effB).length=es.length:=by rw [List.length_map]
 induction d with
 | zero =>
  intro i hi
  obtain rfl:i=es.length:=by omega
  have e:(es.map effB).take es.length=es.map effB:=by rw [<-hn,List.take_length]
  rw [e]
  refine Ev.step (f:=λk=>r02_Pack.f k ([p,q]++es.map effB)) (λk=>?_) ?_
  ·simp only [r05_Put.l0];rw [if_neg yep_0]
  ·refine refPack_ev _ (by rw [List.length_append,hn];simp only [List.length_cons,List.length_nil];omega) (λt ht=>?_)
   rcases List.mem_append.mp ht with ht|ht
   ·simp only [List.mem_cons,List.not_mem_nil,or_false] at ht;rcases ht with rfl|rfl<;>omega
   ·obtain ⟨x,hx,rfl⟩:=List.mem_map.mp ht
    have:=effB_le (hk x hx)
    omega
 | succ d ih =>
  intro i hi
  have hlt:i<es.length:=by omega
  have hx:=hk _ (List.getElem_mem hlt)
  have hw:=eff_word hx
  have hlen:([p,q]++(es.map effB).take i).length<5864062014805:=by rw [List.length_append,List.length_take];simp only [List.length_cons,List.length_nil];omega
  have ht:[p,q]++(es.map effB).take (i+1)=([p,q]++(es.map effB).take i)++[effB es[i]]:=by
   rw [List.take_add_one,List.getElem?_eq_getElem yep_0]
   simp
  refine Ev.step (f:=λk=>(r05_nums.f k [(es[i]).f0,(es[i]).f1,(es[i]).f3,(es[i]).f4]).bind λt=>if t.length+2<5864062014805/\(es[i]).f2.size<=9223372036854775807/\(es[i]).f5.size<=9223372036854775807 then((r02_Pack.f k (t++[bytesOf (es[i]).f2,bytesOf (es[i]).f5])).bind λr=>r05_Put.l0 k es (([p,q]++(es.map effB).take i)++[r]) ((i+1:Nat):Int)) else none) (λk=>?_) ?_
  ·simp only [r05_Put.l0];rw [if_pos yep_0,if_pos yep_0,rdT_at hlt,ck_w yep_0];simp only [if_pos hlen]
  ·refine Ev.bind (refNums_ev _ (by simp) (eff_nums hx)) ?_
   refine ck_if ⟨by simp [numsB],by omega,by omega⟩ ?_
   refine Ev.bind (refPack_ev _ (by simp [numsB]) (λt ht=>by have:=eff_texts hx t ht;omega)) ?_
   have:=ih (i+1) yep_0
   rw [ht] at this
   exact this
theorem refEvPut_ev {a b:Int} {past:List Int} {es:List S48} (h:OkEv a b past es):Ev (λk=>r05_Put.f k a b past es) (evB a b past es):=by
 obtain ⟨h1,h2,h3,h4,h5,h6,h7,h8,h9,h0⟩:=h
 unfold r05_Put.f
 refine Ev.bind (refNums_ev [a,b] (by simp) (dot_nums h1 h2 h3 h4)) ?_
 refine Ev.bind (refPack_ev _ (by simp [numsB]) (λt ht=>by have:=dot_texts h1 h2 h3 h4 t ht;omega)) ?_
 refine Ev.bind (refPut_ev past (by have:=(okC_iff.mp h5).1;omega)) ?_
 have:=refEvPut_loop es h9 h0 (pack (numsB [a,b])) (putB past) (by have:=dotB_le h1 h2 h3 h4;omega) (by have:=putB_len past;omega) es.length 0 yep_0
 rw [List.take_zero,List.append_nil] at this
 exact this
end Go.Proofs.Ytgocnchjpecafaa.PEv
namespace Go.Proofs.Ytgocnchjpecafaa.PEv
open Go.RowKit Go.Proofs.YtgocnchjpecafaaW.PrintWords Go.Proofs.YtgocnchjpecafaaW.PrintLast Go.Proofs.Ytgocnchjpecafaa.ClockBase Go.Proofs.Ytgocnchjpecafaa.Wr
end Go.Proofs.Ytgocnchjpecafaa.PEv
