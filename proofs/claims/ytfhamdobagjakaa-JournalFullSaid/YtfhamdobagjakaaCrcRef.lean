/- a part -/
import Derived.Test.YtfhamdobagjakaaCrcLink
import Derived.Test.YtfhamdobagjakaaPJox6
namespace Go.Proofs.Ytfhamdobagjakaa.PJo
open Go.RowKit Go.Proofs.YtfhamdobagjakaaW.PrintWords Go.Proofs.YtfhamdobagjakaaW.PrintLast Go.Proofs.Ytfhamdobagjakaa.Crc
set_option linter.unusedVariables false
set_option linter.unusedSimpArgs false
def bitI (b:Bool):Int:=if b=true then 1 else 0
theorem bit_of (x:Nat) (hx:x<256) (j:Nat) (hj:j<8):Int.tmod (wrap64 (Int.tdiv (x:Int) ((2 ^ j:Nat):Int))) 2=bitI (x.testBit j):=by
 have h2:x / 2 ^ j<=x:=Nat.div_le_self _ _
 have e:wrap64 (Int.tdiv (x:Int) ((2 ^ j:Nat):Int))=((x / 2 ^ j:Nat):Int):=by
  rw [show Int.tdiv (x:Int) ((2 ^ j:Nat):Int)=((x / 2 ^ j:Nat):Int) from rfl]
  generalize x / 2 ^ j=y at h2
  unfold wrap64
  omega
 rw [e,show Int.tmod ((x / 2 ^ j:Nat):Int) 2=((x / 2 ^ j % 2:Nat):Int) from rfl]
 unfold bitI
 rw [Nat.testBit_eq_decide_div_mod_eq]
 have:x / 2 ^ j % 2<2:=Nat.mod_lt _ (by omega)
 by_cases h:x / 2 ^ j % 2=1
 ·simp [h]
 ·have h0:x / 2 ^ j % 2=0:=by omega
  simp [h0]
def tailB (c:Nat):Nat->List Int
 | 0=>[]
 | j+1=>bitI (c.testBit j) :: tailB c j
theorem tailB_all (c:Nat):tailB c 8=(bitsB c).map bitI:=rfl
theorem bits_in (l:List Int) (hn:l.length<=1000000000000) (c:Nat) (hc:c<256) (i:Int) (j:Nat):∀ (out:List Int),j<=8->out.length+j<=17592186044416->∀ (r:List Int),Ev (λk=>r01_Bits.l0 k l (out++tailB c j) (wrap64 (i+1))) r->Ev (λk=>r01_Bits.l1 k l out i (c:Int) (((2 ^ j / 2:Nat):Int))) r:=by
 induction j with
 | zero =>
  intro out hj ho r hr
  refine Ev.step (λk=>?_) (by simpa [tailB] using hr)
  simp only [r01_Bits.l1]
  rw [if_neg (by decide)]
 | succ j ih =>
  intro out hj ho r hr
  have hp:0<2 ^ j:=Nat.two_pow_pos j
  have e2:2 ^ (j+1) / 2=2 ^ j:=by rw [Nat.pow_succ];omega
  rw [e2]
  have hle:2 ^ j<=2 ^ 7:=Nat.pow_le_pow_right (by omega) (by omega)
  refine Ev.step (f:=λk=>r01_Bits.l1 k l (out++[bitI (c.testBit j)]) i (c:Int) (((2 ^ j / 2:Nat):Int))) (λk=>?_) ?_
  ·simp only [r01_Bits.l1]
   rw [if_pos (by omega),if_neg (by omega),if_pos (by omega),bit_of c hc j (by omega)]
   rw [show Int.tdiv ((2 ^ j:Nat):Int) 2=((2 ^ j / 2:Nat):Int) from rfl,show wrap64 ((2 ^ j / 2:Nat):Int)=((2 ^ j / 2:Nat):Int) from by unfold wrap64;omega]
  ·refine ih (out++[bitI (c.testBit j)]) (by omega) (by simp;omega) r ?_
   simpa [tailB] using hr
theorem bits_loop (l:List Int) (hl:Bytes l) (hn:l.length<=1000000000000) (d:Nat):∀ (out:List Int) (i:Nat),i+d=l.length->out.length+8*d<=17592186044416->Ev (λk=>r01_Bits.l0 k l out (i:Int)) (out++(bitsI (l.drop i)).map bitI):=by
 induction d with
 | zero =>
  intro out i hi ho
  have e:l.drop i=[]:=List.drop_eq_nil_of_le (by omega)
  rw [e]
  refine Ev.step (f:=λ_=>some out) (λk=>?_) (by simpa [bitsI,bitsL] using Ev.now out)
  simp only [r01_Bits.l0]
  rw [if_neg (by omega)]
 | succ d ih =>
  intro out i hi ho
  have hm:=hl _ (rd_mem (l:=l) (i:=(i:Int)) (by omega) (by omega))
  have hw:wrap64 ((i:Int)+1)=((i+1:Nat):Int):=by unfold wrap64;omega
  have hv:wrap64 (rd l (i:Int))=(((rd l (i:Int)).toNat:Nat):Int):=by unfold wrap64;omega
  refine Ev.step (f:=λk=>r01_Bits.l1 k l out (i:Int) (((rd l (i:Int)).toNat:Nat):Int) (((2 ^ 8 / 2:Nat):Int))) (λk=>?_) ?_
  ·simp only [r01_Bits.l0]
   rw [if_pos (by omega),if_pos (by omega),hv]
   rfl
  ·refine bits_in l hn _ (by omega) (i:Int) 8 out (by omega) (by omega) _ ?_
   rw [hw]
   have:=ih (out++tailB (rd l (i:Int)).toNat 8) (i+1) (by omega) (by simp [tailB];omega)
   rw [drop_rd (by omega),show bitsI (rd l (i:Int) :: l.drop (i+1))=bitsB (rd l (i:Int)).toNat++bitsI (l.drop (i+1)) from rfl,List.map_append,<-tailB_all,<-List.append_assoc]
   exact this
theorem bits_ev (l:List Int) (hl:Bytes l) (hn:l.length<=1000000000000):Ev (λk=>r01_Bits.f k l) ((bitsI l).map bitI):=by
 have:=bits_loop l hl hn l.length [] 0 (by omega) (by simp;omega)
 simpa [r01_Bits.f] using this
theorem A_high (v:BitVec 32) (b:Bool):A v b=if v.msb=b then v <<< 1 else(v <<< 1) ^^^ P:=by
 have h1:hi <<< 1=0#32:=by decide
 have h2:hi.msb=true:=by decide
 unfold A F
 cases b
 ·cases h:v.msb<;>simp [h]
 ·simp only [if_true]
  rw [BitVec.msb_xor,h2,BitVec.shiftLeft_xor_distrib,h1]
  cases h:v.msb<;>simp [h]
theorem run_loop (bs:List Bool) (hn:bs.length<=140737488351232) (d:Nat):∀ (v:BitVec 32) (i:Nat),i+d=bs.length->Ev (λk=>r01_run.l0 k (rg v) (bs.map bitI) (i:Int)) (rg (run v (bs.drop i))):=by
 induction d with
 | zero =>
  intro v i hi
  have e:bs.drop i=[]:=List.drop_eq_nil_of_le (by omega)
  rw [e]
  refine Ev.step (f:=λ_=>some (rg v)) (λk=>?_) (Ev.now _)
  simp only [r01_run.l0,List.length_map]
  rw [if_neg (by omega)]
 | succ d ih =>
  intro v i hi
  have hlt:i<bs.length:=by omega
  have hw:wrap64 ((i:Int)+1)=((i+1:Nat):Int):=by unfold wrap64;omega
  have hr:rd (bs.map bitI) (i:Int)=bitI bs[i]:=by
   unfold rd
   rw [List.getD_eq_getElem?_getD,Int.toNat_natCast,List.getElem?_eq_getElem (by simpa using hlt),Option.getD_some,List.getElem_map]
  have hb:=rg_lt v
  have hq:(Int.tdiv (rg v) 2147483648) % 4294967296=bitI v.msb:=by
   rw [rg_msb,Int.tdiv_eq_ediv_of_nonneg hb.1]
   unfold bitI
   by_cases h:2147483648<=rg v
   ·simp only [decide_eq_true_eq,if_pos h]
    omega
   ·simp only [decide_eq_true_eq,if_neg h]
    omega
  have hbb:∀ x y:Bool,bitI x=bitI y↔x=y:=by decide
  rw [List.drop_eq_getElem_cons hlt,run_cons,A_high]
  by_cases hm:v.msb=bs[i]
  ·refine Ev.step (f:=λk=>r01_run.l0 k (rg (v <<< 1)) (bs.map bitI) ((i+1:Nat):Int)) (λk=>?_) ?_
   ·simp only [r01_run.l0,List.length_map]
    rw [if_pos (by omega),if_pos (by omega),hr,hq,if_pos ((hbb _ _).2 hm),rg_shl,hw]
   ·rw [if_pos hm]
    exact ih _ _ (by omega)
  ·refine Ev.step (f:=λk=>r01_run.l0 k (rg ((v <<< 1) ^^^ P)) (bs.map bitI) ((i+1:Nat):Int)) (λk=>?_) ?_
   ·simp only [r01_run.l0,List.length_map]
    rw [if_pos (by omega),if_pos (by omega),hr,hq,if_neg (λh=>hm ((hbb _ _).1 h)),rg_shl,rg_P,rg_xor,hw]
   ·rw [if_neg hm]
    exact ih _ _ (by omega)
theorem run_ev (v:BitVec 32) (bs:List Bool) (hn:bs.length<=140737488351232):Ev (λk=>r01_run.f k (rg v) (bs.map bitI)) (rg (run v bs)):=by
 unfold r01_run.f
 exact run_loop bs hn bs.length v 0 (by omega)
theorem bitsI_length (l:List Int):(bitsI l).length=8*l.length:=by
 unfold bitsI bitsL
 induction l with
 | nil=>rfl
 | cons x l ih =>
  simp only [List.map_cons,List.flatMap_cons,List.length_append,List.length_cons,ih]
  simp [bitsB]
  omega
theorem refOf_ev (l:List Int) (hl:Bytes l) (hn:l.length<=1000000000000):Ev (λk=>r01_Of.f k l) (rg (crcOn 0#32 l)):=by
 unfold r01_Of.f
 refine Ev.bind (bits_ev l hl hn) ?_
 rw [rg_ones]
 refine Ev.bind (run_ev _ _ (by rw [bitsI_length];omega)) ?_
 rw [rg_xor]
 have e:crcOn 0#32 l=ones ^^^ run ones (bitsI l):=by
  unfold crcOn
  rw [BitVec.xor_zero]
 rw [e]
 exact Ev.now _
end Go.Proofs.Ytfhamdobagjakaa.PJo
