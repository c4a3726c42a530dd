/- a part -/
import Derived.Test.YtpahdlgpiecdkaaProg
import Derived.Lib.SliceRun
import Derived.Laws.StructEq
import Derived.Test.YtpahdlgpiecdkaaWRepsOne
import Derived.Test.YtpahdlgpiecdkaaWInv
import Derived.Test.YtpahdlgpiecdkaaWMore
namespace Go.Proofs.Ytpahdlgpiecdkaa.PDk
open Go.RowKit Go.Proofs.YtpahdlgpiecdkaaW.PrintWords Go.Proofs.YtpahdlgpiecdkaaW.PrintLast Go.Proofs.YtpahdlgpiecdkaaW.PrintMore
attribute [local go_sem] max2_int min2_int max_two min_two max_three min_three max_four min_four
set_option linter.unusedVariables false
set_option linter.unusedSimpArgs false
abbrev Y:=true
abbrev J:=false
theorem L {P:Prop} (h:P):Aside0 P:=⟨h⟩
theorem oD_ {p:Prop} [Decidable p] (h:decide p=true):p:=of_decide_eq_true h
theorem oB_ {α β:Type _} {x:Option α} {f:α->Option β} {b:β} (h:x.bind f=some b):∃ a,x=some a/\f a=some b:=Option.bind_eq_some_iff.mp h
theorem dT_ {p:Prop} [Decidable p] (h:p):decide p=true:=decide_eq_true h
theorem dF_ {p:Prop} [Decidable p] (h:¬ p):decide p=false:=decide_eq_false h
theorem sI_ {α:Type _} {a b:α} (h:some a=some b):a=b:=Option.some.inj h
theorem cz7_ {w:World} {g t:Nat} {a0 a1 a2 a3 a4 a5 a6:Value} (h:w.heap[g]? = some (.cells #[a0,a1,a2,a3,a4,a5,a6] t (0,0))):w.cell? ⟨g,0,none⟩=some a0/\w.cell? ⟨g,1,none⟩=some a1/\w.cell? ⟨g,2,none⟩=some a2/\w.cell? ⟨g,3,none⟩=some a3/\w.cell? ⟨g,4,none⟩=some a4/\w.cell? ⟨g,5,none⟩=some a5/\w.cell? ⟨g,6,none⟩=some a6/\w.frozen? ⟨g,0,none⟩=false/\w.frozen? ⟨g,1,none⟩=false/\w.frozen? ⟨g,2,none⟩=false/\w.frozen? ⟨g,3,none⟩=false/\w.frozen? ⟨g,4,none⟩=false/\w.frozen? ⟨g,5,none⟩=false/\w.frozen? ⟨g,6,none⟩=false:=⟨(blk_cell h 0).trans rfl,(blk_cell h 1).trans rfl,(blk_cell h 2).trans rfl,(blk_cell h 3).trans rfl,(blk_cell h 4).trans rfl,(blk_cell h 5).trans rfl,(blk_cell h 6).trans rfl,blk_frozen h 0,blk_frozen h 1,blk_frozen h 2,blk_frozen h 3,blk_frozen h 4,blk_frozen h 5,blk_frozen h 6⟩
def errW:Option Int->Value
 | none=>.nilIface
 | some c=>.iface 0 (.int .i64 c)
theorem errW_none:errW none = .nilIface:=rfl
theorem errW_some (c:Int):errW (some c) = .iface 0 (.int .i64 c):=rfl
theorem info5:(Try.prog.info? 5).map (λi=>(i.zero,i.size,i.bytes))=some (some (.int .u8 0),1,1):=by kernel_rfl
structure S49 where
 f0:Int
 f1:Int
 f2:(List Int)
 f3:Int
 f4:(List Int)
def z49:S49:=⟨(0:Int),(0:Int),([]:List Int),(0:Int),([]:List Int)⟩
def k49:Kd S49:=Kd.iso (Kd.pair (Kd.int .i64) (Kd.pair (Kd.int .i64) (Kd.pair (Kd.slice 5 (Kd.int .u8)) (Kd.pair (Kd.int .i64) (Kd.slice 3 (Kd.int .i64)))))) (λx:S49=>(x.f0,x.f1,x.f2,x.f3,x.f4))
theorem k49_open {w:World} {x:S49} {cs:List Value} (h:k49.K w x cs):∃ A2 c2 A4 c4,cs=[.int .i64 x.f0,.int .i64 x.f1,.slice A2 x.f2.length c2,.int .i64 x.f3,.slice A4 x.f4.length c4]/\x.f2.length<=c2/\(Kd.int .u8).C w A2 x.f2.length x.f2/\x.f4.length<=c4/\(Kd.int .i64).C w A4 x.f4.length x.f4:=by
 obtain ⟨_,_,rfl,rfl,⟨_,_,rfl,rfl,⟨_,_,rfl,⟨A2,c2,rfl,l2,g2⟩,⟨_,_,rfl,rfl,⟨A4,c4,rfl,l4,g4⟩⟩⟩⟩⟩:=h
 exact ⟨A2,c2,A4,c4,rfl,l2,g2,l4,g4⟩
def rd_T49 (xs:List S49) (i:Int):S49:=xs.getD i.toNat z49
theorem at_T49 {w:World} {A:Option Addr} {n:Nat} {xs:List S49} (h:Kd.C k49 w A n xs) (i:Int) (h0:0<=i) (h1:i<n):∃ ad A2 c2 A4 c4,A=some ad/\w.cell? (ad.add (i.toNat*5))=some (.int .i64 (rd_T49 xs i).f0)/\w.cell? ⟨(ad.add (i.toNat*5)).block,(ad.add (i.toNat*5)).off+1,none⟩=some (.int .i64 (rd_T49 xs i).f1)/\w.cell? ⟨(ad.add (i.toNat*5)).block,(ad.add (i.toNat*5)).off+2,none⟩=some (.slice A2 (rd_T49 xs i).f2.length c2)/\w.cell? ⟨(ad.add (i.toNat*5)).block,(ad.add (i.toNat*5)).off+3,none⟩=some (.int .i64 (rd_T49 xs i).f3)/\w.cell? ⟨(ad.add (i.toNat*5)).block,(ad.add (i.toNat*5)).off+4,none⟩=some (.slice A4 (rd_T49 xs i).f4.length c4)/\(rd_T49 xs i).f2.length<=c2/\(Kd.int .u8).C w A2 (rd_T49 xs i).f2.length (rd_T49 xs i).f2/\(rd_T49 xs i).f4.length<=c4/\(Kd.int .i64).C w A4 (rd_T49 xs i).f4.length (rd_T49 xs i).f4:=by
 obtain ⟨ad,c,e,_,hK,hc0⟩:=Kd.C_get h z49 i h0 h1
 have hc:∀ j u,c[j]? = some u->w.cell? (ad.add (i.toNat*5+j))=some u:=hc0
 obtain ⟨A2,c2,A4,c4,rfl,l2,g2,l4,g4⟩:=k49_open hK
 exact ⟨ad,A2,c2,A4,c4,e,hc 0 _ rfl,(by rw [<-add_field _ _ 1 (by omega)];exact hc 1 _ rfl),(by rw [<-add_field _ _ 2 (by omega)];exact hc 2 _ rfl),(by rw [<-add_field _ _ 3 (by omega)];exact hc 3 _ rfl),(by rw [<-add_field _ _ 4 (by omega)];exact hc 4 _ rfl),l2,g2,l4,g4⟩
end Go.Proofs.Ytpahdlgpiecdkaa.PDk
