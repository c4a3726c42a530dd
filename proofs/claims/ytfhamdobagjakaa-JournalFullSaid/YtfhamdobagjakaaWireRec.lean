import Derived.Laws.BitsAllLaws
import Derived.Test.YtfhamdobagjakaaWirePlain
import Derived.Test.YtfhamdobagjakaaPJox3
import Derived.Test.YtfhamdobagjakaaCrcLink
/- a part -/
namespace Go.Proofs.Ytfhamdobagjakaa.PJo
open Go.RowKit Go.Proofs.YtfhamdobagjakaaW.PrintWords Go.Proofs.YtfhamdobagjakaaW.PrintLast Go.Proofs.Ytfhamdobagjakaa.Wr
set_option linter.unusedVariables false
set_option linter.unusedSimpArgs false
theorem wl_if {α:Type} {c:Prop} [Decidable c] {f g:Nat->Option α} {r:α} (hc:c) (h:Ev f r):Ev (λk=>if c then f k else g k) r:=Ev.congr (λk=>if_pos hc) h
theorem wl_else {α:Type} {c:Prop} [Decidable c] {f g:Nat->Option α} {r:α} (hc:¬ c) (h:Ev g r):Ev (λk=>if c then f k else g k) r:=Ev.congr (λk=>if_neg hc) h
theorem wl_rd {l:List Int} {i:Nat} (h:i<l.length):rd l (i:Int)=l[i]:=by
 unfold rd
 rw [List.getD_eq_getElem?_getD,Int.toNat_natCast,List.getElem?_eq_getElem h,Option.getD_some]
theorem wl_u64 {x:Int} (h0:0<=x) (h1:x<18446744073709551616):IntKind.u64.wrap x=x:=by rw [IntKind.wrap_u64];omega
theorem wl_w64 {x:Int} (h0:-9223372036854775808<=x) (h1:x<9223372036854775808):wrap64 x=x:=by unfold wrap64;omega
theorem bl_spec:∀ (f x:Nat),x<2 ^ f->x<2 ^ Lib.bitLenAux f x/\(x≠0->2 ^ (Lib.bitLenAux f x - 1)<=x)
 | 0,x,h=>by
  have:x=0:=by
   have h':x<1:=h
   omega
  subst this
  exact ⟨h,λh=>absurd rfl h⟩
 | f+1,x,h=>by
  unfold Lib.bitLenAux
  by_cases h0:x=0
  ·rw [if_pos h0]
   exact ⟨by omega,λh=>absurd h0 h⟩
  ·rw [if_neg h0]
   obtain ⟨h1,h2⟩:=bl_spec f (x / 2) (by rw [Nat.div_lt_iff_lt_mul (by omega)];rwa [Nat.pow_succ] at h)
   refine ⟨by rw [Nat.add_comm,Nat.pow_succ];omega,λ_=>?_⟩
   rw [Nat.add_sub_cancel_left]
   by_cases h3:x / 2=0
   ·have h4:Lib.bitLenAux f (x / 2)=0:=by
     rw [h3]
     cases f with
     | zero=>rfl
     | succ f=>unfold Lib.bitLenAux;rw [if_pos rfl]
    rw [h4]
    omega
   ·have h5:=h2 h3
    have h6:0<Lib.bitLenAux f (x / 2):=by
     rcases Nat.eq_zero_or_pos (Lib.bitLenAux f (x / 2)) with hz|hz
     ·rw [hz] at h1
      have h1':x / 2<1:=h1
      omega
     ·exact hz
    obtain ⟨m,hm⟩:∃ m,Lib.bitLenAux f (x / 2)=m+1:=⟨Lib.bitLenAux f (x / 2) - 1,by omega⟩
    rw [hm] at h5 ⊢
    rw [Nat.add_sub_cancel] at h5
    rw [Nat.pow_succ]
    omega
theorem be_length (u:Nat) (hu:u<18446744073709551616):(be u).length=(Lib.bitLen u+7) / 8:=by
 rcases Nat.eq_zero_or_pos u with h|h
 ·subst h
  rw [be_zero]
  rfl
 ·have hs:u<2 ^ Lib.bitLen u/\(u≠0->2 ^ (Lib.bitLen u - 1)<=u):=bl_spec 64 u hu
  have h1:=hs.2 (by omega)
  obtain ⟨n,hn⟩:∃ n,(be u).length=n+1:=by
   rw [be_pos h,List.length_append]
   exact ⟨_,rfl⟩
  have hb:0<Lib.bitLen u:=by
   rcases Nat.eq_zero_or_pos (Lib.bitLen u) with h0|h0
   ·have:=hs.1
    rw [h0] at this
    simp at this
    omega
   ·exact h0
  have e256:∀ m:Nat,(256:Nat) ^ m=2 ^ (8*m):=λm=>by rw [Nat.pow_mul]
  have a1:u<256 ^ (n+1):=by
   rcases Nat.lt_or_ge u (256 ^ (n+1)) with h'|h'
   ·exact h'
   ·have:=be_len_ge _ _ h'
    omega
  have a2:256 ^ n<=u:=by
   rcases Nat.lt_or_ge u (256 ^ n) with h'|h'
   ·have:=be_len_le _ _ h'
    omega
   ·exact h'
  rw [e256] at a1 a2
  have b1:2 ^ (Lib.bitLen u - 1)<2 ^ (8*(n+1)):=Nat.lt_of_le_of_lt h1 a1
  have b2:2 ^ (8*n)<2 ^ Lib.bitLen u:=Nat.lt_of_le_of_lt a2 hs.1
  have c1:=(Nat.pow_lt_pow_iff_right (by omega:1<2)).1 b1
  have c2:=(Nat.pow_lt_pow_iff_right (by omega:1<2)).1 b2
  omega
theorem num_loop (d:Nat):∀ (u:Nat) (out tail:List Int),u<18446744073709551616->(be u).length<=d->d<=8->out.length=d+1->Ev (λk=>wire_Num.l0 k (u:Int) (out++tail) (d:Int)) (out.take 1++(List.replicate (d - (be u).length) 0++be u)++tail):=by
 induction d with
 | zero =>
  intro u out tail hu hl hd ho
  have hb:be u=[]:=List.length_eq_zero_iff.1 (by omega)
  refine Ev.step (f:=λ_=>some (out++tail)) (λk=>?_) ?_
  ·simp only [wire_Num.l0]
   rw [if_neg (by omega)]
  ·rw [hb]
   have:out.take 1=out:=List.take_of_length_le (by omega)
   simpa [this] using Ev.now (out++tail)
 | succ d ih =>
  intro u out tail hu hl hd ho
  have w1:wrap64 (((d+1:Nat):Int) - 1)=((d:Nat):Int):=by unfold wrap64;omega
  have e1:(u:Int) / 256=((u / 256:Nat):Int):=by omega
  have e2:(u:Int) % 256=((u % 256:Nat):Int):=by omega
  have es:(out++tail).set (d+1) ((u % 256:Nat):Int)=out.take (d+1)++(((u % 256:Nat):Int) :: tail):=by
   have h1:out=out.take (d+1)++[out[d+1]'(by omega)]:=by
    have:=List.take_succ_eq_append_getElem (l:=out) (i:=d+1) (by omega)
    rw [List.take_of_length_le (by omega:out.length<=d+1+1)] at this
    exact this
   have h2:(out.take (d+1)).length=d+1:=by rw [List.length_take];omega
   calc (out++tail).set (d+1) ((u % 256:Nat):Int)=((out.take (d+1)++[out[d+1]'(by omega)])++tail).set (d+1) ((u % 256:Nat):Int):=by rw [<-h1]
    _=_:=by
     rw [List.append_assoc,List.set_append_right _ _ (by omega),h2]
     simp
  refine Ev.step (f:=λk=>wire_Num.l0 k ((u / 256:Nat):Int) (out.take (d+1)++(((u % 256:Nat):Int) :: tail)) ((d:Nat):Int)) (λk=>?_) ?_
  ·simp only [wire_Num.l0]
   have n1:((d+1:Nat):Int) > 0:=by omega
   have n2:(0:Int)<=((d+1:Nat):Int):=by omega
   have n3:((d+1:Nat):Int)<((out++tail).length:Int):=by rw [List.length_append];omega
   rw [if_pos n1,if_pos n2,if_pos n3,w1,e1,e2,Int.toNat_natCast,es]
  ·have hlen:(be (u / 256)).length<=d:=by
    rcases Nat.eq_zero_or_pos u with h|h
    ·subst h
     simp [be_zero]
    ·rw [be_pos h,List.length_append] at hl
     simpa using hl
   have:=ih (u / 256) (out.take (d+1)) (((u % 256:Nat):Int) :: tail) (by omega) hlen (by omega) (by rw [List.length_take];omega)
   have e3:(out.take (d+1)).take 1++(List.replicate (d - (be (u / 256)).length) 0++be (u / 256))++(((u % 256:Nat):Int) :: tail)=out.take 1++(List.replicate (d+1 - (be u).length) 0++be u)++tail:=by
    rw [List.take_take,Nat.min_eq_left (by omega)]
    rcases Nat.eq_zero_or_pos u with h|h
    ·subst h
     simp only [Nat.zero_div,Nat.zero_mod,be_zero,List.append_nil,List.length_nil,Nat.sub_zero]
     rw [List.replicate_succ']
     simp
    ·rw [be_pos h,List.length_append,List.length_singleton,show d+1 - ((be (u / 256)).length+1)=d - (be (u / 256)).length by omega]
     simp
   rw [e3] at this
   exact this
theorem num_ev (u:Nat) (hu:u<18446744073709551616):Ev (λk=>wire_Num.f k (u:Int)) (num u):=by
 unfold wire_Num.f
 have hb:Ev (λ_=>bits_Len64.f (u:Int)) ((Lib.bitLen u:Nat):Int):=by
  refine Ev.congr (λk=>?_) (Ev.now _)
  unfold bits_Len64.f
  rw [if_pos (by omega),if_pos (by omega),Int.toNat_natCast]
 refine Ev.bind hb ?_
 have hl:=be_length u hu
 have h8:=be_len8 hu
 have w1:wrap64 (((Lib.bitLen u:Nat):Int)+7)=((Lib.bitLen u+7:Nat):Int):=wl_w64 (by omega) (by omega)
 have w2:wrap64 (Int.tdiv ((Lib.bitLen u+7:Nat):Int) 8)=(((be u).length:Nat):Int):=by
  rw [show Int.tdiv ((Lib.bitLen u+7:Nat):Int) 8=(((Lib.bitLen u+7) / 8:Nat):Int) from rfl,<-hl]
  exact wl_w64 (by omega) (by omega)
 have w3:wrap64 ((((be u).length:Nat):Int)+1)=(((be u).length+1:Nat):Int):=wl_w64 (by omega) (by omega)
 rw [w1,w2,w3]
 simp only [Int.toNat_natCast]
 have n1:(0:Int)<=(((be u).length+1:Nat):Int):=by omega
 have n2:(be u).length+1<=281474976710656:=by omega
 refine wl_if n1 ?_
 refine wl_if n2 ?_
 refine Ev.congr (λk=>Option.bind_some _ _) ?_
 have n3:(0:Int)<((List.replicate ((be u).length+1) (0:Int)).length:Int):=by rw [List.length_replicate];omega
 refine wl_if n3 ?_
 have e1:(((be u).length:Nat):Int) % 256=(((be u).length:Nat):Int):=by omega
 rw [e1,List.replicate_succ]
 have:=num_loop (be u).length u ((((be u).length:Nat):Int) :: List.replicate (be u).length 0) [] hu (Nat.le_refl _) h8 (by simp)
 rw [List.append_nil,Nat.sub_self] at this
 simpa [num] using this
theorem text_ev (t:List Int) (ht:t.length<140737488350000):Ev (λk=>wire_Text.f k t) (text t):=by
 unfold wire_Text.f
 rw [wl_u64 (by omega) (by omega)]
 refine Ev.bind (num_ev t.length (by omega)) ?_
 have h:=num_length t.length
 have h8:=be_len8 (u:=t.length) (by omega)
 refine wl_if (by omega) ?_
 exact Ev.now _
def numR (l:List Int):Int×Int×Int:=match getNum l with|none=>(0,0,2)|some (u,n)=>((u:Int),(n:Int),0)
theorem or_digit (a c:Nat) (ha:a<72057594037927936) (hc:c<256):Go.bits .or .u64 ((a*256:Nat):Int) (c:Int)=((a*256+c:Nat):Int):=by
 have:=bits_join .u64 64 (Nat.le_refl _) (λn h0 h1=>wl_u64 h0 (by simpa using h1)) 8 ((a*256:Nat):Int) (c:Int) (by omega) (by omega) (by omega) (by omega) (by omega) (by omega)
 rw [this]
 omega
theorem val_cons_le (l:List Int) (hl:Bytes l) (n:Nat) (h:l.length<=n):val l<256 ^ n:=Nat.lt_of_lt_of_le (val_lt l hl) (Nat.pow_le_pow_right (by omega) h)
theorem getNum_loop (l:List Int) (n:Int) (hl:Bytes l) (h8:l.length<=8) (d:Nat):∀ (i:Nat),i+d=l.length->Ev (λk=>wire_GetNum.l0 k n ((val (l.take i):Nat):Int) l (l.length:Int) (i:Int)) (((val l:Nat):Int),n,0):=by
 induction d with
 | zero =>
  intro i hi
  have e:l.take i=l:=List.take_of_length_le (by omega)
  rw [e]
  refine Ev.step (f:=λ_=>some (((val l:Nat):Int),n,0)) (λk=>?_) (Ev.now _)
  simp only [wire_GetNum.l0]
  rw [if_neg (by omega)]
 | succ d ih =>
  intro i hi
  have hlt:i<l.length:=by omega
  have hw:wrap64 ((i:Int)+1)=((i+1:Nat):Int):=by unfold wrap64;omega
  have hc:=hl _ (List.getElem_mem hlt)
  have hv:val (l.take i)<256 ^ 7:=val_cons_le _ (λx hx=>hl x (List.mem_of_mem_take hx)) 7 (by rw [List.length_take];omega)
  have hv':val (l.take i)<72057594037927936:=hv
  have e1:val (l.take (i+1))=val (l.take i)*256+l[i].toNat:=by
   rw [<-val_snoc]
   congr 1
   exact List.take_succ_eq_append_getElem hlt
  refine Ev.step (f:=λk=>wire_GetNum.l0 k n ((val (l.take (i+1)):Nat):Int) l (l.length:Int) ((i+1:Nat):Int)) (λk=>?_) (ih (i+1) (by omega))
  simp only [wire_GetNum.l0]
  rw [if_pos (by omega),if_pos (by omega),if_pos (by omega),hw,wl_rd hlt,wl_u64 (x:=l[i]) (by omega) (by omega)]
  rw [show((val (l.take i):Nat):Int)*256=((val (l.take i)*256:Nat):Int) from by omega,wl_u64 (by omega) (by omega)]
  have:=or_digit (val (l.take i)) l[i].toNat hv' (by omega)
  rw [show((l[i].toNat:Nat):Int)=l[i] by omega] at this
  rw [this,e1]
theorem getNum_ev (l:List Int) (hl:Bytes l) (hn:l.length<=140737488351232):Ev (λk=>wire_GetNum.f k l) (numR l):=by
 have bad:Ev (λk=>wire_GetNum.j0 k l true) (0,0,2):=by
  refine Ev.step (f:=λ_=>some (0,0,2)) (λk=>?_) (Ev.now _)
  simp only [wire_GetNum.j0]
  rw [if_pos trivial]
 unfold wire_GetNum.f
 cases l with
 | nil=>exact wl_if rfl bad
 | cons c r =>
  have hc:=hl c List.mem_cons_self
  have hr0:rd (c :: r) 0=c:=rfl
  have hlen:(((c :: r).length:Nat):Int)=(r.length:Int)+1:=by simp
  have wc:wrap64 c=c:=wl_w64 (by omega) (by omega)
  have n1:¬ ((((c :: r).length:Nat):Int)=0):=by omega
  have n2:(0:Int)<(((c :: r).length:Nat):Int):=by omega
  refine wl_else n1 ?_
  refine wl_if n2 ?_
  rw [hr0,wc]
  by_cases h8:c > 8
  ·have e:numR (c :: r)=(0,0,2):=by
    unfold numR getNum
    simp only
    rw [if_neg (λh=>by omega)]
   rw [e]
   exact wl_if h8 bad
  ·refine wl_else h8 ?_
   by_cases hle:(((c :: r).length:Nat):Int)<=c
   ·have e:numR (c :: r)=(0,0,2):=by
     unfold numR getNum
     simp only
     rw [if_neg (λh=>by omega)]
    rw [e]
    exact wl_if hle bad
   ·refine wl_else hle ?_
    have w2:wrap64 (c+1)=c+1:=wl_w64 (by omega) (by omega)
    have good:(0<c.toNat->r.getD 0 0≠0)->Ev (λk=>wire_GetNum.j0 k (c :: r) false) (numR (c :: r)):=by
     intro h0
     have e:numR (c :: r)=(((val (r.take c.toNat):Nat):Int),c+1,0):=by
      unfold numR getNum
      simp only
      rw [if_pos ⟨by omega,by omega,h0⟩]
      simp only
      congr 2
      omega
     rw [e]
     have et:((c :: r).take (c+1).toNat).drop 1=r.take c.toNat:=by
      rw [show(c+1).toNat=c.toNat+1 by omega,List.take_succ_cons]
      rfl
     refine Ev.step (f:=λk=>wire_GetNum.l0 k (c+1) 0 (r.take c.toNat) (((r.take c.toNat).length:Nat):Int) 0) (λk=>?_) ?_
     ·simp only [wire_GetNum.j0]
      have n3:(1:Int)<=c+1:=by omega
      have n4:c+1<=(((c :: r).length:Nat):Int):=by omega
      rw [if_neg (by simp),if_pos n2,hr0,wc,w2,if_pos n3,if_pos n4,et]
     ·have hb:Bytes (r.take c.toNat):=λx hx=>hl x (List.mem_cons_of_mem _ (List.mem_of_mem_take hx))
      have:=getNum_loop (r.take c.toNat) (c+1) hb (by rw [List.length_take];omega) (r.take c.toNat).length 0 (by omega)
      exact this
    by_cases hp:c > 0
    ·refine wl_if hp ?_
     have n3:(1:Int)<(((c :: r).length:Nat):Int):=by omega
     refine wl_if n3 ?_
     have hr1:rd (c :: r) 1=r.getD 0 0:=by
      unfold rd
      rfl
     rw [hr1]
     by_cases h0:r.getD 0 0=0
     ·rw [h0]
      have e:numR (c :: r)=(0,0,2):=by
       unfold numR getNum
       simp only
       rw [if_neg (λh=>h.2.2 (by omega) h0)]
      rw [e]
      exact bad
     ·have:(r.getD 0 0 == 0)=false:=beq_eq_false_iff_ne.2 h0
      rw [this]
      exact good (λ_=>h0)
    ·exact wl_else hp (good (λh=>absurd h (by omega)))
theorem clone_ev (l:List Int) (hn:l.length<140737488355328):Ev (λ(_:Nat)=>bytes_Clone.f l) l:=by
 refine Ev.congr (λk=>?_) (Ev.now l)
 unfold bytes_Clone.f
 simp only [Option.bind_some]
 rw [if_pos (by simpa using hn)]
 rfl
end Go.Proofs.Ytfhamdobagjakaa.PJo
/- a part -/
namespace Go.Proofs.Ytfhamdobagjakaa.PJo
open Go.RowKit Go.Proofs.YtfhamdobagjakaaW.PrintWords Go.Proofs.YtfhamdobagjakaaW.PrintLast Go.Proofs.Ytfhamdobagjakaa.Wr Go.Proofs.Ytfhamdobagjakaa.Crc
set_option linter.unusedVariables false
set_option linter.unusedSimpArgs false
def sum4 (s:Int):List Int:=[(s / 16777216) % 256,(s / 65536) % 256,(s / 256) % 256,s % 256]
def recB (kind:Int) (body:List Int):List Int:=kind :: text body
def record (kind:Int) (body:List Int):List Int:=recB kind body++sum4 (rg (crcOn 0#32 (recB kind body)))
theorem sum4_bytes (s:Int):Wr.Bytes (sum4 s):=by
 intro x hx
 simp only [sum4,List.mem_cons,List.mem_nil_iff,or_false] at hx
 rcases hx with rfl|rfl|rfl|rfl<;>omega
theorem text_bytes (t:List Int) (h:Wr.Bytes t) (hl:t.length<18446744073709551616):Wr.Bytes (text t):=by
 intro x hx
 rcases List.mem_append.1 hx with hx|hx
 ·exact num_bytes hl x hx
 ·exact h x hx
theorem recB_bytes (kind:Int) (body:List Int) (hk:1<=kind/\kind<=200) (hb:Wr.Bytes body) (hl:body.length<=65536):Wr.Bytes (recB kind body):=by
 intro x hx
 rcases List.mem_cons.1 hx with rfl|hx
 ·omega
 ·exact text_bytes body hb (by omega) x hx
theorem text_length (t:List Int) (h:t.length<18446744073709551616):(text t).length<=t.length+9:=by
 have h1:=num_length t.length
 have h2:=be_len8 h
 unfold text
 rw [List.length_append]
 omega
theorem record_ev (kind:Int) (body:List Int) (hk:1<=kind/\kind<=200) (hb:Wr.Bytes body) (hl:body.length<=65536):Ev (λk=>wire_Record.f k kind body) (record kind body,0):=by
 unfold wire_Record.f
 have n1:¬ (kind<1):=by omega
 have n2:¬ (kind > 200):=by omega
 have n3:¬ ((body.length:Int) > 65536):=by omega
 have hm:kind % 256=kind:=by omega
 have hlen:=text_length body (by omega)
 refine wl_else n1 ?_
 refine wl_else n2 ?_
 refine wl_else n3 ?_
 refine Ev.bind (text_ev body (by omega)) ?_
 have n4:1+(text body).length<140737488355328:=by omega
 have n5:(1+(text body).length)+4<140737488355328:=by omega
 refine wl_if n4 ?_
 rw [hm]
 have h1:=of_one (recB kind body) (recB_bytes kind body hk hb hl) (by unfold recB;rw [List.length_cons];omega)
 refine Ev.bind h1 ?_
 exact wl_if n5 (Ev.now _)
end Go.Proofs.Ytfhamdobagjakaa.PJo
