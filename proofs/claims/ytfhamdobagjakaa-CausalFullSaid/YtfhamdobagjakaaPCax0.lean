/- a part -/
import Derived.Test.YtfhamdobagjakaaProg
import Derived.Test.YtfhamdobagjakaaClockWords
import Derived.StillTailTactics
import Derived.Test.YtfhamdobagjakaaDotMap
import Derived.Test.YtfhamdobagjakaaSortNil
import Derived.Shelf.Strconv.Itoa0
import Derived.Lib.QuietBelow
namespace Go.Proofs.Ytfhamdobagjakaa.PCa
open Go.RowKit Go.Proofs.YtfhamdobagjakaaW.PrintWords Go.Proofs.YtfhamdobagjakaaW.PrintLast Go.Proofs.YtfhamdobagjakaaW.PrintMore
attribute [local go_sem] max2_int min2_int max_two min_two max_three min_three max_four min_four
set_option linter.unusedVariables false
set_option linter.unusedSimpArgs false
theorem cz2_ {w:World} {g t:Nat} {a0 a1:Value} (h:w.heap[g]? = some (.cells #[a0,a1] t (0,0))):w.cell? ⟨g,0,none⟩=some a0/\w.cell? ⟨g,1,none⟩=some a1/\w.frozen? ⟨g,0,none⟩=false/\w.frozen? ⟨g,1,none⟩=false:=⟨(blk_cell h 0).trans rfl,(blk_cell h 1).trans rfl,blk_frozen h 0,blk_frozen h 1⟩
theorem cz4_ {w:World} {g t:Nat} {a0 a1 a2 a3:Value} (h:w.heap[g]? = some (.cells #[a0,a1,a2,a3] t (0,0))):w.cell? ⟨g,0,none⟩=some a0/\w.cell? ⟨g,1,none⟩=some a1/\w.cell? ⟨g,2,none⟩=some a2/\w.cell? ⟨g,3,none⟩=some a3/\w.frozen? ⟨g,0,none⟩=false/\w.frozen? ⟨g,1,none⟩=false/\w.frozen? ⟨g,2,none⟩=false/\w.frozen? ⟨g,3,none⟩=false:=⟨(blk_cell h 0).trans rfl,(blk_cell h 1).trans rfl,(blk_cell h 2).trans rfl,(blk_cell h 3).trans rfl,blk_frozen h 0,blk_frozen h 1,blk_frozen h 2,blk_frozen h 3⟩
theorem cz6_ {w:World} {g t:Nat} {a0 a1 a2 a3 a4 a5:Value} (h:w.heap[g]? = some (.cells #[a0,a1,a2,a3,a4,a5] t (0,0))):w.cell? ⟨g,0,none⟩=some a0/\w.cell? ⟨g,1,none⟩=some a1/\w.cell? ⟨g,2,none⟩=some a2/\w.cell? ⟨g,3,none⟩=some a3/\w.cell? ⟨g,4,none⟩=some a4/\w.cell? ⟨g,5,none⟩=some a5/\w.frozen? ⟨g,0,none⟩=false/\w.frozen? ⟨g,1,none⟩=false/\w.frozen? ⟨g,2,none⟩=false/\w.frozen? ⟨g,3,none⟩=false/\w.frozen? ⟨g,4,none⟩=false/\w.frozen? ⟨g,5,none⟩=false:=⟨(blk_cell h 0).trans rfl,(blk_cell h 1).trans rfl,(blk_cell h 2).trans rfl,(blk_cell h 3).trans rfl,(blk_cell h 4).trans rfl,(blk_cell h 5).trans rfl,blk_frozen h 0,blk_frozen h 1,blk_frozen h 2,blk_frozen h 3,blk_frozen h 4,blk_frozen h 5⟩
def errW:Option Int->Value
 | none=>.nilIface
 | some c=>.iface 0 (.int .i64 c)
theorem errW_none:errW none = .nilIface:=rfl
theorem errW_some (c:Int):errW (some c) = .iface 0 (.int .i64 c):=rfl
theorem info3:(Try.prog.info? 3).map (λi=>(i.zero,i.size,i.bytes))=some (some (.int .i64 0),1,8):=by kernel_rfl
theorem info59:(Try.prog.info? 59).map (λi=>(i.zero,i.size,i.bytes))=some (some (.agg #[(.int .i64 0),(.int .i64 0),(.slice none 0 0),(.slice none 0 0)]),4,64):=by kernel_rfl
theorem info111:(Try.prog.info? 111).map (λi=>(i.zero,i.size,i.bytes))=some (some (.agg #[(.int .i64 0),(.int .i64 0),(.string ⟨#[]⟩),(.int .i64 0),(.int .i64 0),(.string ⟨#[]⟩)]),6,64):=by kernel_rfl
structure S111 where
 f0:Int
 f1:Int
 f2:ByteArray
 f3:Int
 f4:Int
 f5:ByteArray
def z111:S111:=⟨(0:Int),(0:Int),(⟨#[]⟩:ByteArray),(0:Int),(0:Int),(⟨#[]⟩:ByteArray)⟩
def k111:Kd S111:=Kd.iso (Kd.pair (Kd.int .i64) (Kd.pair (Kd.int .i64) (Kd.pair Kd.string (Kd.pair (Kd.int .i64) (Kd.pair (Kd.int .i64) Kd.string))))) (λx:S111=>(x.f0,x.f1,x.f2,x.f3,x.f4,x.f5))
theorem k111_open {w:World} {x:S111} {cs:List Value} (h:k111.K w x cs):cs=[.int .i64 x.f0,.int .i64 x.f1,.string x.f2,.int .i64 x.f3,.int .i64 x.f4,.string x.f5]:=by
 obtain ⟨_,_,rfl,rfl,⟨_,_,rfl,rfl,⟨_,_,rfl,rfl,⟨_,_,rfl,rfl,⟨_,_,rfl,rfl,rfl⟩⟩⟩⟩⟩:=h
 exact rfl
theorem k111_mkM (w:World) (base:Nat) (ok:Nat->Prop) (x:S111) :k111.M w base ok x [.int .i64 x.f0,.int .i64 x.f1,.string x.f2,.int .i64 x.f3,.int .i64 x.f4,.string x.f5]:=⟨[.int .i64 x.f0],[.int .i64 x.f1,.string x.f2,.int .i64 x.f3,.int .i64 x.f4,.string x.f5],rfl,rfl,⟨[.int .i64 x.f1],[.string x.f2,.int .i64 x.f3,.int .i64 x.f4,.string x.f5],rfl,rfl,⟨[.string x.f2],[.int .i64 x.f3,.int .i64 x.f4,.string x.f5],rfl,rfl,⟨[.int .i64 x.f3],[.int .i64 x.f4,.string x.f5],rfl,rfl,⟨[.int .i64 x.f4],[.string x.f5],rfl,rfl,rfl⟩⟩⟩⟩⟩
def rd_T111 (xs:List S111) (i:Int):S111:=xs.getD i.toNat z111
theorem at_T111 {w:World} {A:Option Addr} {n:Nat} {xs:List S111} (h:Kd.C k111 w A n xs) (i:Int) (h0:0<=i) (h1:i<n):∃ ad ,A=some ad/\w.cell? (ad.add (i.toNat*6))=some (.int .i64 (rd_T111 xs i).f0)/\w.cell? ⟨(ad.add (i.toNat*6)).block,(ad.add (i.toNat*6)).off+1,none⟩=some (.int .i64 (rd_T111 xs i).f1)/\w.cell? ⟨(ad.add (i.toNat*6)).block,(ad.add (i.toNat*6)).off+2,none⟩=some (.string (rd_T111 xs i).f2)/\w.cell? ⟨(ad.add (i.toNat*6)).block,(ad.add (i.toNat*6)).off+3,none⟩=some (.int .i64 (rd_T111 xs i).f3)/\w.cell? ⟨(ad.add (i.toNat*6)).block,(ad.add (i.toNat*6)).off+4,none⟩=some (.int .i64 (rd_T111 xs i).f4)/\w.cell? ⟨(ad.add (i.toNat*6)).block,(ad.add (i.toNat*6)).off+5,none⟩=some (.string (rd_T111 xs i).f5):=by
 obtain ⟨ad,c,e,_,hK,hc0⟩:=Kd.C_get h z111 i h0 h1
 have hc:∀ j u,c[j]? = some u->w.cell? (ad.add (i.toNat*6+j))=some u:=hc0
 obtain rfl:=k111_open hK
 exact ⟨ad,e,hc 0 _ rfl,(by rw [<-add_field _ _ 1 (by omega)];exact hc 1 _ rfl),(by rw [<-add_field _ _ 2 (by omega)];exact hc 2 _ rfl),(by rw [<-add_field _ _ 3 (by omega)];exact hc 3 _ rfl),(by rw [<-add_field _ _ 4 (by omega)];exact hc 4 _ rfl),(by rw [<-add_field _ _ 5 (by omega)];exact hc 5 _ rfl)⟩
structure S54 where
 f0:Int
 f1:Int
def z54:S54:=⟨(0:Int),(0:Int)⟩
def k54:Kd S54:=Kd.iso (Kd.pair (Kd.int .i64) (Kd.int .i64)) (λx:S54=>(x.f0,x.f1))
theorem k54_open {w:World} {x:S54} {cs:List Value} (h:k54.K w x cs):cs=[.int .i64 x.f0,.int .i64 x.f1]:=by
 obtain ⟨_,_,rfl,rfl,rfl⟩:=h
 exact rfl
theorem k54_mk (w:World) (x:S54) :k54.K w x [.int .i64 x.f0,.int .i64 x.f1]:=⟨[.int .i64 x.f0],[.int .i64 x.f1],rfl,rfl,rfl⟩
structure S59 where
 f0:S54
 f1:(List Int)
 f2:(List S111)
def z59:S59:=⟨z54,([]:List Int),([]:List S111)⟩
def k59:Kd S59:=Kd.iso (Kd.pair k54 (Kd.pair (Kd.slice 3 (Kd.int .i64)) (Kd.slice 111 k111))) (λx:S59=>(x.f0,x.f1,x.f2))
theorem k59_open {w:World} {x:S59} {cs:List Value} (h:k59.K w x cs):∃ A2 c2 A3 c3,cs=[.int .i64 x.f0.f0,.int .i64 x.f0.f1,.slice A2 x.f1.length c2,.slice A3 x.f2.length c3]/\x.f1.length<=c2/\(Kd.int .i64).C w A2 x.f1.length x.f1/\x.f2.length<=c3/\k111.C w A3 x.f2.length x.f2:=by
 obtain ⟨_,_,rfl,s0,⟨_,_,rfl,⟨A2,c2,rfl,l2,g2⟩,⟨A3,c3,rfl,l3,g3⟩⟩⟩:=h
 obtain rfl:=k54_open s0
 exact ⟨A2,c2,A3,c3,rfl,l2,g2,l3,g3⟩
theorem k59_mk (w:World) (x:S59) {A2:Option Addr} {c2:Nat} (l2:x.f1.length<=c2) (g2:(Kd.int .i64).C w A2 x.f1.length x.f1) {A3:Option Addr} {c3:Nat} (l3:x.f2.length<=c3) (g3:k111.C w A3 x.f2.length x.f2):k59.K w x [.int .i64 x.f0.f0,.int .i64 x.f0.f1,.slice A2 x.f1.length c2,.slice A3 x.f2.length c3]:=⟨[.int .i64 x.f0.f0,.int .i64 x.f0.f1],[.slice A2 x.f1.length c2,.slice A3 x.f2.length c3],rfl,(k54_mk w x.f0 ),⟨[.slice A2 x.f1.length c2],[.slice A3 x.f2.length c3],rfl,⟨A2,c2,rfl,l2,g2⟩,⟨A3,c3,rfl,l3,g3⟩⟩⟩
theorem k59_openF {W:World} {ok:Nat->Prop} {x:S59} {cs:List Value} (h:Kd.FK k59 W ok x cs):∃ A2 c2 A3 c3,cs=[.int .i64 x.f0.f0,.int .i64 x.f0.f1,.slice A2 x.f1.length c2,.slice A3 x.f2.length c3]/\x.f1.length<=c2/\Kd.F (Kd.int .i64) W ok A2 x.f1.length x.f1/\x.f2.length<=c3/\Kd.F k111 W ok A3 x.f2.length x.f2:=by
 obtain ⟨A2,c2,A3,c3,rfl,l2,_,l3,_⟩:=k59_open (Kd.FK_now h)
 exact ⟨A2,c2,A3,c3,rfl,l2,(λW' hW=>by obtain ⟨A2_,c2_,A3_,c3_,he,l2_,g2_,l3_,g3_⟩:=k59_open (h W' hW);injection (Option.some.inj (show some (Value.slice A2 x.f1.length c2)=some (Value.slice A2_ x.f1.length c2_) from congrArg (λl=>l[2]?) he)) with ha_ _ _;rw [ha_];exact g2_),l3,(λW' hW=>by obtain ⟨A2_,c2_,A3_,c3_,he,l2_,g2_,l3_,g3_⟩:=k59_open (h W' hW);injection (Option.some.inj (show some (Value.slice A3 x.f2.length c3)=some (Value.slice A3_ x.f2.length c3_) from congrArg (λl=>l[3]?) he)) with ha_ _ _;rw [ha_];exact g3_)⟩
theorem k59_mkF (W:World) (ok:Nat->Prop) (x:S59) {A2:Option Addr} {c2:Nat} (l2:x.f1.length<=c2) (g2:Kd.F (Kd.int .i64) W ok A2 x.f1.length x.f1) {A3:Option Addr} {c3:Nat} (l3:x.f2.length<=c3) (g3:Kd.F k111 W ok A3 x.f2.length x.f2):Kd.FK k59 W ok x [.int .i64 x.f0.f0,.int .i64 x.f0.f1,.slice A2 x.f1.length c2,.slice A3 x.f2.length c3]:=λW2 hW=>k59_mk W2 x l2 (g2 W2 hW) l3 (g3 W2 hW)
end Go.Proofs.Ytfhamdobagjakaa.PCa
