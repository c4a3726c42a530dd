/- a part -/
import Derived.WalkKit
namespace Go.Proofs.Ytfhamdobagjakaa.Wr
set_option linter.unusedVariables false
set_option linter.unusedSimpArgs false
def Bytes (l:List Int):Prop:=∀ x ∈ l,0<=x/\x<256
theorem rev_ind {P:List Int->Prop} (nil:P []) (snoc:∀ l c,P l->P (l++[c])) (l:List Int):P l:=by
 rw [<-List.reverse_reverse l]
 induction l.reverse with
 | nil=>exact nil
 | cons c l ih =>
  rw [List.reverse_cons]
  exact snoc _ _ ih
def be (u:Nat):List Int:=if h:u=0 then [] else be (u / 256)++[((u % 256:Nat):Int)]
termination_by u
decreasing_by omega
theorem be_zero:be 0=[]:=by rw [be];simp
theorem be_pos {u:Nat} (h:0<u):be u=be (u / 256)++[((u % 256:Nat):Int)]:=by rw [be];simp [Nat.ne_of_gt h]
def num (u:Nat):List Int:=((be u).length:Int) :: be u
def val (l:List Int):Nat:=l.foldl (λa c=>a*256+c.toNat) 0
theorem val_nil:val []=0:=rfl
theorem val_snoc (l:List Int) (c:Int):val (l++[c])=val l*256+c.toNat:=by simp [val]
theorem be_bytes (u:Nat):Bytes (be u):=by
 induction u using Nat.strongRecOn with
 | _ u ih =>
  rcases Nat.eq_zero_or_pos u with h|h
  ·subst h
   rw [be_zero]
   intro x hx
   cases hx
  ·rw [be_pos h]
   intro x hx
   rcases List.mem_append.1 hx with hx|hx
   ·exact ih _ (by omega) x hx
   ·rw [List.mem_singleton.1 hx]
    omega
theorem val_be (u:Nat):val (be u)=u:=by
 induction u using Nat.strongRecOn with
 | _ u ih =>
  rcases Nat.eq_zero_or_pos u with h|h
  ·subst h
   rw [be_zero]
   rfl
  ·rw [be_pos h,val_snoc,ih _ (by omega)]
   omega
theorem be_head (u:Nat) (h:0<u):∃ c l,be u=c :: l/\0<c:=by
 induction u using Nat.strongRecOn with
 | _ u ih =>
  rw [be_pos h]
  rcases Nat.eq_zero_or_pos (u / 256) with h0|h0
  ·rw [h0,be_zero]
   exact ⟨_,[],rfl,by omega⟩
  ·obtain ⟨c,l,e,hc⟩:=ih (u / 256) (by omega) h0
   rw [e]
   exact ⟨c,l++[((u % 256:Nat):Int)],rfl,hc⟩
theorem be_len_le (n:Nat):∀ u,u<256 ^ n->(be u).length<=n:=by
 induction n with
 | zero =>
  intro u h
  have:u=0:=by simpa using h
  subst this
  rw [be_zero]
  simp
 | succ n ih =>
  intro u h
  rcases Nat.eq_zero_or_pos u with h0|h0
  ·subst h0
   rw [be_zero]
   simp
  ·rw [be_pos h0,List.length_append]
   have h1:u / 256<256 ^ n:=by
    rw [Nat.div_lt_iff_lt_mul (by omega)]
    rwa [Nat.pow_succ] at h
   have:=ih _ h1
   simp
   omega
theorem be_len_ge (n:Nat):∀ u,256 ^ n<=u->n<(be u).length:=by
 induction n with
 | zero =>
  intro u h
  have h0:0<u:=by simp at h;omega
  rw [be_pos h0]
  simp
 | succ n ih =>
  intro u h
  have h0:0<u:=Nat.lt_of_lt_of_le (Nat.pow_pos (by omega)) h
  rw [be_pos h0,List.length_append]
  have h1:256 ^ n<=u / 256:=by
   rw [Nat.le_div_iff_mul_le (by omega)]
   rwa [Nat.pow_succ] at h
  have:=ih _ h1
  simp
  omega
theorem be_len8 {u:Nat} (h:u<18446744073709551616):(be u).length<=8:=be_len_le 8 u h
theorem val_lt (l:List Int) (hl:Bytes l):val l<256 ^ l.length:=by
 induction l using rev_ind with
 | nil=>simp [val]
 | snoc l c ih =>
  have h1:=ih (λx hx=>hl x (List.mem_append_left _ hx))
  have h2:=hl c (List.mem_append_right _ (List.mem_singleton.2 rfl))
  rw [val_snoc,List.length_append,List.length_singleton,Nat.pow_succ]
  have:c.toNat<256:=by omega
  have h3:(val l+1)*256<=256 ^ l.length*256:=Nat.mul_le_mul_right _ h1
  omega
theorem be_val (l:List Int) (hl:Bytes l) (h:∀ c r,l=c :: r->0<c):be (val l)=l:=by
 induction l using rev_ind with
 | nil=>rw [val_nil,be_zero]
 | snoc l c ih =>
  have h2:=hl c (List.mem_append_right _ (List.mem_singleton.2 rfl))
  have hb:Bytes l:=λx hx=>hl x (List.mem_append_left _ hx)
  rw [val_snoc]
  cases l with
  | nil =>
   have hc:=h c [] rfl
   rw [val_nil,be_pos (by omega)]
   have e1:(0*256+c.toNat) / 256=0:=by omega
   have e2:(((0*256+c.toNat) % 256:Nat):Int)=c:=by omega
   rw [e1,e2,be_zero]
  | cons d l =>
   have hd:=h d (l++[c]) rfl
   have ih':=ih hb (λc' r' e=>by
    injection e with e1 e2
    rw [<-e1]
    exact hd)
   have hp:0<val (d :: l):=by
    rcases Nat.eq_zero_or_pos (val (d :: l)) with h0|h0
    ·rw [h0,be_zero] at ih'
     cases ih'
    ·exact h0
   rw [be_pos (by omega)]
   have e1:(val (d :: l)*256+c.toNat) / 256=val (d :: l):=by omega
   have e2:(((val (d :: l)*256+c.toNat) % 256:Nat):Int)=c:=by omega
   rw [e1,e2,ih']
def getNum (l:List Int):Option (Nat×Nat) :=
 match l with
 | []=>none
 | c :: r=>if c.toNat<=8/\c.toNat<=r.length/\(0<c.toNat->r.getD 0 0≠0) then some (val (r.take c.toNat),c.toNat+1) else none
theorem num_length (u:Nat):(num u).length=(be u).length+1:=by simp [num]
theorem num_bytes {u:Nat} (h:u<18446744073709551616):Bytes (num u):=by
 intro x hx
 rcases List.mem_cons.1 hx with rfl|hx
 ·have:=be_len8 h
  omega
 ·exact be_bytes u x hx
theorem getNum_num (u:Nat) (hu:u<18446744073709551616) (r:List Int):getNum (num u++r)=some (u,(num u).length):=by
 have h8:=be_len8 hu
 show getNum (((be u).length:Int) :: (be u++r))=_
 unfold getNum
 simp only [Int.toNat_natCast]
 rw [if_pos]
 ·rw [List.take_left,val_be,num_length]
 ·refine ⟨h8,by simp,λh0=>?_⟩
  have hp:0<u:=by
   rcases Nat.eq_zero_or_pos u with h|h
   ·subst h
    rw [be_zero] at h0
    simp at h0
   ·exact h
  obtain ⟨c,l,e,hc⟩:=be_head u hp
  rw [e]
  simp
  omega
theorem getNum_some {l:List Int} (hl:Bytes l) {u n:Nat} (h:getNum l=some (u,n)):l.take n=num u/\u<18446744073709551616/\n=(num u).length/\n<=l.length:=by
 cases l with
 | nil=>cases h
 | cons c r =>
  unfold getNum at h
  simp only at h
  split at h
  ·rename_i hc
   obtain ⟨h8,hr,h0⟩:=hc
   simp only [Option.some.injEq,Prod.mk.injEq] at h
   obtain ⟨rfl,rfl⟩:=h
   have hb:Bytes (r.take c.toNat):=λx hx=>hl x (List.mem_cons_of_mem _ (List.mem_of_mem_take hx))
   have hlen:(r.take c.toNat).length=c.toNat:=by rw [List.length_take];omega
   have hv:be (val (r.take c.toNat))=r.take c.toNat:=be_val _ hb (λd q e=>by
    have hpos:0<c.toNat:=by
     rcases Nat.eq_zero_or_pos c.toNat with hz|hz
     ·rw [hz] at e
      cases e
     ·exact hz
    have h1:=h0 hpos
    have h2:r.getD 0 0=d:=by
     cases r with
     | nil=>simp at e
     | cons r0 r' =>
      obtain ⟨m,hm⟩:∃ m,c.toNat=m+1:=⟨c.toNat - 1,by omega⟩
      rw [hm,List.take_succ_cons] at e
      injection e with e1
    rw [h2] at h1
    have h3:=hb d (by rw [e];exact List.mem_cons_self)
    omega)
   have hc0:=hl c List.mem_cons_self
   have e:num (val (r.take c.toNat))=c :: r.take c.toNat:=by
    unfold num
    rw [hv,hlen]
    congr 1
    omega
   refine ⟨?_,?_,?_,?_⟩
   ·rw [e,List.take_succ_cons]
   ·have h1:=val_lt _ hb
    rw [hlen] at h1
    have h2:256 ^ c.toNat<=256 ^ 8:=Nat.pow_le_pow_right (by omega) h8
    exact Nat.lt_of_lt_of_le h1 h2
   ·rw [e,List.length_cons,hlen]
   ·simp
    omega
  ·cases h
def text (t:List Int):List Int:=num t.length++t
def texts (l:List (List Int)):List Int:=(l.map text).flatten
def pack (l:List (List Int)):List Int:=num l.length++texts l
end Go.Proofs.Ytfhamdobagjakaa.Wr
