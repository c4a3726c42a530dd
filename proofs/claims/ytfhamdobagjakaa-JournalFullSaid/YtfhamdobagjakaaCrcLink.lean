/- a part -/
import Derived.Laws.BitsAllLaws
import Derived.Test.YtfhamdobagjakaaCrcBits
import Derived.Test.YtfhamdobagjakaaPJox1
namespace Go.Proofs.Ytfhamdobagjakaa.PJo
open Go.RowKit Go.Proofs.YtfhamdobagjakaaW.PrintWords Go.Proofs.YtfhamdobagjakaaW.PrintLast Go.Proofs.Ytfhamdobagjakaa.Crc
set_option linter.unusedVariables false
set_option linter.unusedSimpArgs false
def rg (v:BitVec 32):Int:=(v.toNat:Int)
theorem rg_lt (v:BitVec 32):0<=rg v/\rg v<4294967296:=⟨by unfold rg;omega,by have:=v.isLt;unfold rg;omega⟩
theorem rg_inj {u v:BitVec 32} (h:rg u=rg v):u=v:=by
 apply BitVec.eq_of_toNat_eq
 unfold rg at h
 omega
theorem rg_xor (u v:BitVec 32):Go.bits .xor .u32 (rg u) (rg v)=rg (u ^^^ v):=by
 unfold rg
 rw [u32_xor_nat _ _ u.isLt v.isLt,BitVec.toNat_xor]
theorem rg_shl (v:BitVec 32):(rg v*(2:Int)) % (4294967296:Int)=rg (v <<< 1):=by
 unfold rg
 rw [BitVec.toNat_shiftLeft,Nat.shiftLeft_eq]
 omega
theorem rg_msb (v:BitVec 32):v.msb=decide (2147483648<=rg v):=by
 rw [BitVec.msb_eq_decide]
 unfold rg
 congr 1
 simp
 omega
theorem rg_and (v:BitVec 32):Go.bits .and .u32 (rg v) 2147483648=0↔v.msb=false:=by
 have h1:Go.bits .and .u32 (rg v) 2147483648=rg (v &&& hi):=by
  have:=u32_and_nat v.toNat 2147483648 v.isLt (by omega)
  unfold rg
  rw [BitVec.toNat_and]
  exact this
 rw [h1]
 constructor
 ·intro h
  have h0:v &&& hi=0#32:=rg_inj (by rw [h];rfl)
  have h31:(v &&& hi).getLsbD 31=false:=by rw [h0];rfl
  rw [BitVec.getLsbD_and,show hi.getLsbD 31=true from by decide,Bool.and_true] at h31
  rw [BitVec.msb_eq_getLsbD_last]
  exact h31
 ·intro h
  have h0:v &&& hi=0#32:=by
   ext i hi'
   rw [BitVec.msb_eq_getLsbD_last] at h
   have hh:∀ j:Fin 31,hi.getLsbD j.val=false:=by decide
   by_cases h31:i=31
   ·subst h31
    simp [BitVec.getLsbD_eq_getElem] at h
    simp [h]
   ·have:=hh ⟨i,by omega⟩
    simp [BitVec.getLsbD_eq_getElem hi'] at this
    simp [this]
  rw [h0]
  rfl
theorem rg_P:(79764919:Int)=rg P:=by decide
theorem rg_ones:(4294967295:Int)=rg ones:=by decide
theorem step_loop (d:Nat):∀ (v:BitVec 32) (i:Int),0<=i->i=8 - (d:Int)->Ev (λk=>sum_step.l0 k (rg v) i) (rg (Fit d v)):=by
 induction d with
 | zero =>
  intro v i h0 hi
  exact Ev.step (f:=λ_=>some (rg v)) (λk=>by simp only [sum_step.l0];rw [if_neg (by omega)]) (Ev.now _)
 | succ d ih =>
  intro v i h0 hi
  have hw:wrap64 (i+1)=i+1:=by unfold wrap64;omega
  cases hm:v.msb with
  | false =>
   refine Ev.step (f:=λk=>sum_step.l0 k (rg (v <<< 1)) (i+1)) (λk=>?_) ?_
   ·simp only [sum_step.l0]
    rw [if_pos (by omega),if_pos ((rg_and v).2 hm),rg_shl,hw]
   ·have:=ih (v <<< 1) (i+1) (by omega) (by omega)
    simp only [Fit]
    unfold F
    rw [hm]
    simpa using this
  | true =>
   refine Ev.step (f:=λk=>sum_step.l0 k (rg ((v <<< 1) ^^^ P)) (i+1)) (λk=>?_) ?_
   ·simp only [sum_step.l0]
    rw [if_pos (by omega),if_neg (λh=>by rw [(rg_and v).1 h] at hm;cases hm),rg_shl,rg_P,rg_xor,hw]
   ·have:=ih ((v <<< 1) ^^^ P) (i+1) (by omega) (by omega)
    simp only [Fit]
    unfold F
    rw [hm]
    simpa using this
theorem step_ev (v:BitVec 32) (c:Int) (h0:0<=c) (h1:c<256):Ev (λk=>sum_step.f k (rg v) c) (rg (run v (bitsB c.toNat))):=by
 have e:((c % (4294967296:Int))*(16777216:Int)) % (4294967296:Int)=rg (BitVec.ofNat 32 c.toNat <<< 24):=by
  unfold rg
  rw [BitVec.toNat_shiftLeft,BitVec.toNat_ofNat,Nat.shiftLeft_eq]
  omega
 unfold sum_step.f
 rw [e,rg_xor,<-run_byte v c.toNat (by omega)]
 exact step_loop 8 _ 0 (by omega) (by omega)
def Bytes (l:List Int):Prop:=∀ x ∈ l,0<=x/\x<256
def bitsI (l:List Int):List Bool:=bitsL (l.map Int.toNat)
theorem bitsI_append (xs ys:List Int):bitsI (xs++ys)=bitsI xs++bitsI ys:=by simp [bitsI,bitsL]
theorem rd_mem {l:List Int} {i:Int} (h0:0<=i) (h1:i<(l.length:Int)):rd l i ∈ l:=by
 unfold rd
 rw [List.getD_eq_getElem?_getD,List.getElem?_eq_getElem (by omega),Option.getD_some]
 exact List.getElem_mem _
theorem drop_rd {l:List Int} {i:Nat} (h1:i<l.length):l.drop i=rd l (i:Int) :: l.drop (i+1):=by
 have e:rd l (i:Int)=l[i]:=by
  unfold rd
  rw [List.getD_eq_getElem?_getD,Int.toNat_natCast,List.getElem?_eq_getElem h1,Option.getD_some]
 rw [e]
 exact List.drop_eq_getElem_cons h1
theorem on_loop (l:List Int) (hl:Bytes l) (hn:l.length<=140737488351232) (d:Nat):∀ (v:BitVec 32) (i:Nat),i+d=l.length->Ev (λk=>sum_On.l0 k (rg v) l (l.length:Int) (i:Int)) (rg (ones ^^^ run v (bitsI (l.drop i)))):=by
 induction d with
 | zero =>
  intro v i hi
  have e:l.drop i=[]:=List.drop_eq_nil_of_le (by omega)
  rw [e]
  refine Ev.step (f:=λ_=>some (rg (ones ^^^ v))) (λk=>?_) (Ev.now _)
  simp only [sum_On.l0]
  rw [if_neg (by omega),rg_ones,rg_xor]
 | succ d ih =>
  intro v i hi
  have hm:=hl _ (rd_mem (l:=l) (i:=(i:Int)) (by omega) (by omega))
  have hw:wrap64 ((i:Int)+1)=((i+1:Nat):Int):=by unfold wrap64;omega
  refine Ev.step (f:=λk=>(sum_step.f k (rg v) (rd l i)).bind λt=>sum_On.l0 k t l (l.length:Int) ((i+1:Nat):Int)) (λk=>?_) ?_
  ·simp only [sum_On.l0]
   rw [if_pos (by omega),if_pos (by omega),if_pos (by omega),hw]
  ·refine Ev.bind (step_ev v _ hm.1 hm.2) ?_
   have:=ih (run v (bitsB (rd l (i:Int)).toNat)) (i+1) (by omega)
   rw [drop_rd (by omega),show bitsI (rd l (i:Int) :: l.drop (i+1))=bitsB (rd l (i:Int)).toNat++bitsI (l.drop (i+1)) from rfl,run_append]
   exact this
def crcOn (v:BitVec 32) (l:List Int):BitVec 32:=ones ^^^ run (ones ^^^ v) (bitsI l)
theorem on_ev (v:BitVec 32) (l:List Int) (hl:Bytes l) (hn:l.length<=140737488351232):Ev (λk=>sum_On.f k (rg v) l) (rg (crcOn v l)):=by
 unfold sum_On.f
 rw [rg_ones,rg_xor]
 exact on_loop l hl hn l.length _ 0 (by omega)
theorem on_append (v:BitVec 32) (xs ys:List Int):crcOn (crcOn v xs) ys=crcOn v (xs++ys):=by
 unfold crcOn
 rw [bitsI_append,run_append]
 congr 2
 rw [<-BitVec.xor_assoc,BitVec.xor_self,BitVec.zero_xor]
theorem on_nil (v:BitVec 32):crcOn v []=v:=by
 unfold crcOn
 show ones ^^^ (ones ^^^ v)=v
 rw [<-BitVec.xor_assoc,BitVec.xor_self,BitVec.zero_xor]
theorem of_loop (l:List (List Int)) (hl:∀ p ∈ l,Bytes p/\p.length<=140737488351232) (hn:l.length<=140737488351232) (d:Nat):∀ (v:BitVec 32) (i:Nat),i+d=l.length->Ev (λk=>sum_Of.l0 k (rg v) l (l.length:Int) (i:Int)) (rg (crcOn v (l.drop i).flatten)):=by
 induction d with
 | zero =>
  intro v i hi
  have e:l.drop i=[]:=List.drop_eq_nil_of_le (by omega)
  rw [e,List.flatten_nil,on_nil]
  exact Ev.step (f:=λ_=>some (rg v)) (λk=>by simp only [sum_Of.l0];rw [if_neg (by omega)]) (Ev.now _)
 | succ d ih =>
  intro v i hi
  have e1:rd_L3 l (i:Int)=l[i]'(by omega):=by
   unfold rd_L3
   rw [List.getD_eq_getElem?_getD,Int.toNat_natCast,List.getElem?_eq_getElem (by omega),Option.getD_some]
  have hm:=hl _ (List.getElem_mem (l:=l) (n:=i) (by omega))
  have hw:wrap64 ((i:Int)+1)=((i+1:Nat):Int):=by unfold wrap64;omega
  refine Ev.step (f:=λk=>(sum_On.f k (rg v) (rd_L3 l i)).bind λt=>sum_Of.l0 k t l (l.length:Int) ((i+1:Nat):Int)) (λk=>?_) ?_
  ·simp only [sum_Of.l0]
   rw [if_pos (by omega),if_pos (by omega),if_pos (by omega),hw]
  ·rw [e1]
   refine Ev.bind (on_ev v _ hm.1 hm.2) ?_
   have:=ih (crcOn v (l[i]'(by omega))) (i+1) (by omega)
   rw [on_append] at this
   rw [List.drop_eq_getElem_cons (by omega),List.flatten_cons]
   exact this
theorem of_ev (l:List (List Int)) (hl:∀ p ∈ l,Bytes p/\p.length<=140737488351232) (hn:l.length<=140737488351232):Ev (λk=>sum_Of.f k l) (rg (crcOn 0#32 l.flatten)):=by
 unfold sum_Of.f
 exact of_loop l hl hn l.length 0#32 0 (by omega)
theorem of_one (l:List Int) (hl:Bytes l) (hn:l.length<=140737488351232):Ev (λk=>sum_Of.f k [l]) (rg (crcOn 0#32 l)):=by
 have:=of_ev [l] (λp hp=>by rw [List.mem_singleton.1 hp];exact ⟨hl,hn⟩) (by simp)
 simpa using this
end Go.Proofs.Ytfhamdobagjakaa.PJo
