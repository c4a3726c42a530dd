/- a part -/
import Derived.WalkKit
namespace Go.Proofs.Ytfhamdobagjakaa.Crc
set_option linter.unusedVariables false
set_option linter.unusedSimpArgs false
def P:BitVec 32:=79764919#32
def hi:BitVec 32:=2147483648#32
def ones:BitVec 32:=4294967295#32
def F (v:BitVec 32):BitVec 32:=if v.msb=true then(v <<< 1) ^^^ P else v <<< 1
def Fit:Nat->BitVec 32->BitVec 32
 | 0,v=>v
 | n+1,v=>Fit n (F v)
def A (v:BitVec 32) (b:Bool):BitVec 32:=F (v ^^^ if b=true then hi else 0#32)
def run (v:BitVec 32) (bs:List Bool):BitVec 32:=bs.foldl A v
def pack:List Bool->BitVec 32
 | []=>0#32
 | b :: bs=>(if b=true then hi else 0#32) ^^^ (pack bs >>> 1)
def bitsB (c:Nat):List Bool:=[c.testBit 7,c.testBit 6,c.testBit 5,c.testBit 4,c.testBit 3,c.testBit 2,c.testBit 1,c.testBit 0]
def bitsL (l:List Nat):List Bool:=l.flatMap bitsB
theorem xor_twice (x y p:BitVec 32):(x ^^^ p) ^^^ (y ^^^ p)=x ^^^ y:=by
 have:(x ^^^ p) ^^^ (y ^^^ p)=(x ^^^ y) ^^^ (p ^^^ p):=by ac_rfl
 rw [this,BitVec.xor_self,BitVec.xor_zero]
theorem F_xor (a b:BitVec 32):F (a ^^^ b)=F a ^^^ F b:=by
 unfold F
 rw [BitVec.msb_xor,BitVec.shiftLeft_xor_distrib]
 cases a.msb<;>cases b.msb
 ·rfl
 ·simp only [bne_iff_ne,ne_eq,Bool.false_eq_true,not_false_eq_true,if_true,if_false,Bool.xor_true,Bool.not_false]
  ac_rfl
 ·simp only [Bool.xor_false,if_true,Bool.false_eq_true,if_false]
  ac_rfl
 ·simp only [Bool.xor_self,Bool.false_eq_true,if_false,if_true]
  exact(xor_twice _ _ _).symm
theorem run_nil (v:BitVec 32):run v []=v:=rfl
theorem run_cons (v:BitVec 32) (b:Bool) (bs:List Bool):run v (b :: bs)=run (A v b) bs:=rfl
theorem run_append (v:BitVec 32) (xs ys:List Bool):run v (xs++ys)=run (run v xs) ys:=List.foldl_append
theorem pack_low:∀ (bs:List Bool) (i:Nat),i+bs.length<32->(pack bs).getLsbD i=false
 | [],i,h=>by simp [pack]
 | b :: bs,i,h=>by
  simp only [List.length_cons] at h
  have h2:(pack bs).getLsbD (1+i)=false:=pack_low bs (1+i) (by omega)
  have hh:(if b=true then hi else 0#32).getLsbD i=false:=by
   have hi31:i<31:=by omega
   cases b
   ·simp
   ·have:∀ i:Fin 31,hi.getLsbD i.val=false:=by decide
    simpa using this ⟨i,hi31⟩
  rw [pack,BitVec.getLsbD_xor,BitVec.getLsbD_ushiftRight,h2,hh]
  rfl
theorem F_back (bs:List Bool) (h:bs.length<32):F (pack bs >>> 1)=pack bs:=by
 have hm:(pack bs >>> 1).msb=false:=by
  rw [BitVec.msb_eq_getLsbD_last,BitVec.getLsbD_ushiftRight]
  simp
 unfold F
 rw [hm]
 simp only [Bool.false_eq_true,if_false]
 ext i hi'
 rw [BitVec.getElem_shiftLeft]
 by_cases h0:i<1
 ·have:i=0:=by omega
  subst this
  have:=pack_low bs 0 (by omega)
  simp [BitVec.getLsbD_eq_getElem] at this
  simp [this]
 ·have e:1+(i - 1)=i:=by omega
  simp [h0,e,BitVec.getLsbD_eq_getElem hi']
theorem run_pack:∀ (bs:List Bool) (v:BitVec 32),bs.length<=32->run v bs=Fit bs.length (v ^^^ pack bs)
 | [],v,_=>by simp [run_nil,pack,Fit]
 | b :: bs,v,h=>by
  simp only [List.length_cons] at h
  rw [run_cons,run_pack bs _ (by omega)]
  simp only [List.length_cons,Fit]
  congr 1
  unfold A
  rw [<-F_back bs (by omega),<-F_xor]
  congr 1
  rw [pack,BitVec.xor_assoc]
theorem pack_byte:∀ c:Fin 256,pack (bitsB c.val)=BitVec.ofNat 32 c.val <<< 24:=by decide +kernel
theorem run_byte (v:BitVec 32) (c:Nat) (hc:c<256):Fit 8 (v ^^^ (BitVec.ofNat 32 c <<< 24))=run v (bitsB c):=by
 rw [run_pack (bitsB c) v (by simp [bitsB]),<-pack_byte ⟨c,hc⟩]
 rfl
end Go.Proofs.Ytfhamdobagjakaa.Crc
