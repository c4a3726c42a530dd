/- a part -/
import Derived.Test.YtgocnchjpecafaaProg
import Derived.Test.YtgocnchjpecafaaClockJoin
import Derived.StillTailTactics
import Derived.Test.YtgocnchjpecafaaDotMap
import Derived.Test.YtgocnchjpecafaaSortNil
import Derived.Shelf.Strconv.Itoa0
namespace Go.Proofs.Ytgocnchjpecafaa.PEv
open Go.RowKit Go.Proofs.YtgocnchjpecafaaW.PrintWords Go.Proofs.YtgocnchjpecafaaW.PrintLast Go.Proofs.YtgocnchjpecafaaW.PrintMore
attribute [local go_sem] max2_int min2_int max_two min_two max_three min_three max_four min_four
set_option linter.unusedVariables false
set_option linter.unusedSimpArgs false
abbrev Y:=true
abbrev J:=false
theorem U {P:Prop} (h:P):Aside0 P:=⟨h⟩
theorem oD_ {p:Prop} [Decidable p] (h:decide p=true):p:=of_decide_eq_true h
theorem oB_ {α β:Type _} {x:Option α} {f:α->Option β} {b:β} (h:x.bind f=some b):∃ a,x=some a/\f a=some b:=Option.bind_eq_some_iff.mp h
theorem dT_ {p:Prop} [Decidable p] (h:p):decide p=true:=decide_eq_true h
theorem dF_ {p:Prop} [Decidable p] (h:¬ p):decide p=false:=decide_eq_false h
theorem sI_ {α:Type _} {a b:α} (h:some a=some b):a=b:=Option.some.inj h
theorem cz2_ {w:World} {g t:Nat} {a0 a1:Value} (h:w.heap[g]? = some (.cells #[a0,a1] t (0,0))):w.cell? ⟨g,0,none⟩=some a0/\w.cell? ⟨g,1,none⟩=some a1/\w.frozen? ⟨g,0,none⟩=false/\w.frozen? ⟨g,1,none⟩=false:=⟨(blk_cell h 0).trans rfl,(blk_cell h 1).trans rfl,blk_frozen h 0,blk_frozen h 1⟩
theorem cz3_ {w:World} {g t:Nat} {a0 a1 a2:Value} (h:w.heap[g]? = some (.cells #[a0,a1,a2] t (0,0))):w.cell? ⟨g,0,none⟩=some a0/\w.cell? ⟨g,1,none⟩=some a1/\w.cell? ⟨g,2,none⟩=some a2/\w.frozen? ⟨g,0,none⟩=false/\w.frozen? ⟨g,1,none⟩=false/\w.frozen? ⟨g,2,none⟩=false:=⟨(blk_cell h 0).trans rfl,(blk_cell h 1).trans rfl,(blk_cell h 2).trans rfl,blk_frozen h 0,blk_frozen h 1,blk_frozen h 2⟩
theorem cz4_ {w:World} {g t:Nat} {a0 a1 a2 a3:Value} (h:w.heap[g]? = some (.cells #[a0,a1,a2,a3] t (0,0))):w.cell? ⟨g,0,none⟩=some a0/\w.cell? ⟨g,1,none⟩=some a1/\w.cell? ⟨g,2,none⟩=some a2/\w.cell? ⟨g,3,none⟩=some a3/\w.frozen? ⟨g,0,none⟩=false/\w.frozen? ⟨g,1,none⟩=false/\w.frozen? ⟨g,2,none⟩=false/\w.frozen? ⟨g,3,none⟩=false:=⟨(blk_cell h 0).trans rfl,(blk_cell h 1).trans rfl,(blk_cell h 2).trans rfl,(blk_cell h 3).trans rfl,blk_frozen h 0,blk_frozen h 1,blk_frozen h 2,blk_frozen h 3⟩
theorem cz6_ {w:World} {g t:Nat} {a0 a1 a2 a3 a4 a5:Value} (h:w.heap[g]? = some (.cells #[a0,a1,a2,a3,a4,a5] t (0,0))):w.cell? ⟨g,0,none⟩=some a0/\w.cell? ⟨g,1,none⟩=some a1/\w.cell? ⟨g,2,none⟩=some a2/\w.cell? ⟨g,3,none⟩=some a3/\w.cell? ⟨g,4,none⟩=some a4/\w.cell? ⟨g,5,none⟩=some a5/\w.frozen? ⟨g,0,none⟩=false/\w.frozen? ⟨g,1,none⟩=false/\w.frozen? ⟨g,2,none⟩=false/\w.frozen? ⟨g,3,none⟩=false/\w.frozen? ⟨g,4,none⟩=false/\w.frozen? ⟨g,5,none⟩=false:=⟨(blk_cell h 0).trans rfl,(blk_cell h 1).trans rfl,(blk_cell h 2).trans rfl,(blk_cell h 3).trans rfl,(blk_cell h 4).trans rfl,(blk_cell h 5).trans rfl,blk_frozen h 0,blk_frozen h 1,blk_frozen h 2,blk_frozen h 3,blk_frozen h 4,blk_frozen h 5⟩
def errW:Option Int->Value
 | none=>.nilIface
 | some c=>.iface 0 (.int .i64 c)
theorem errW_none:errW none = .nilIface:=rfl
theorem errW_some (c:Int):errW (some c) = .iface 0 (.int .i64 c):=rfl
theorem info3:(Try.prog.info? 3).map (λi=>(i.zero,i.size,i.bytes))=some (some (.int .i64 0),1,8):=by kernel_rfl
theorem info5:(Try.prog.info? 5).map (λi=>(i.zero,i.size,i.bytes))=some (some (.int .u8 0),1,1):=by kernel_rfl
theorem info22:(Try.prog.info? 22).map (λi=>(i.zero,i.size,i.bytes))=some (some (.slice none 0 0),1,24):=by kernel_rfl
theorem info30:(Try.prog.info? 30).map (λi=>(i.zero,i.size,i.bytes))=some (some (.agg #[(.int .i64 0),(.int .i64 0),(.slice none 0 0),(.slice none 0 0)]),4,64):=by kernel_rfl
theorem info48:(Try.prog.info? 48).map (λi=>(i.zero,i.size,i.bytes))=some (some (.agg #[(.int .i64 0),(.int .i64 0),(.string ⟨#[]⟩),(.int .i64 0),(.int .i64 0),(.string ⟨#[]⟩)]),6,64):=by kernel_rfl
structure S48 where
 f0:Int
 f1:Int
 f2:ByteArray
 f3:Int
 f4:Int
 f5:ByteArray
def z48:S48:=⟨(0:Int),(0:Int),(⟨#[]⟩:ByteArray),(0:Int),(0:Int),(⟨#[]⟩:ByteArray)⟩
def k48:Kd S48:=Kd.iso (Kd.pair (Kd.int .i64) (Kd.pair (Kd.int .i64) (Kd.pair Kd.string (Kd.pair (Kd.int .i64) (Kd.pair (Kd.int .i64) Kd.string))))) (λx:S48=>(x.f0,x.f1,x.f2,x.f3,x.f4,x.f5))
theorem k48_heap:Kd.Heap k48:=Kd.heap_iso _ (Kd.heap_pair (Kd.heap_int .i64) (Kd.heap_pair (Kd.heap_int .i64) (Kd.heap_pair Kd.heap_string (Kd.heap_pair (Kd.heap_int .i64) (Kd.heap_pair (Kd.heap_int .i64) Kd.heap_string)))))
theorem k48_open {w:World} {x:S48} {cs:List Value} (h:k48.K w x cs):cs=[.int .i64 x.f0,.int .i64 x.f1,.string x.f2,.int .i64 x.f3,.int .i64 x.f4,.string x.f5]:=by
 obtain ⟨_,_,rfl,rfl,⟨_,_,rfl,rfl,⟨_,_,rfl,rfl,⟨_,_,rfl,rfl,⟨_,_,rfl,rfl,rfl⟩⟩⟩⟩⟩:=h
 exact rfl
theorem k48_mk (w:World) (x:S48) :k48.K w x [.int .i64 x.f0,.int .i64 x.f1,.string x.f2,.int .i64 x.f3,.int .i64 x.f4,.string x.f5]:=⟨[.int .i64 x.f0],[.int .i64 x.f1,.string x.f2,.int .i64 x.f3,.int .i64 x.f4,.string x.f5],rfl,rfl,⟨[.int .i64 x.f1],[.string x.f2,.int .i64 x.f3,.int .i64 x.f4,.string x.f5],rfl,rfl,⟨[.string x.f2],[.int .i64 x.f3,.int .i64 x.f4,.string x.f5],rfl,rfl,⟨[.int .i64 x.f3],[.int .i64 x.f4,.string x.f5],rfl,rfl,⟨[.int .i64 x.f4],[.string x.f5],rfl,rfl,rfl⟩⟩⟩⟩⟩
theorem k48_mkM (w:World) (base:Nat) (ok:Nat->Prop) (x:S48) :k48.M w base ok x [.int .i64 x.f0,.int .i64 x.f1,.string x.f2,.int .i64 x.f3,.int .i64 x.f4,.string x.f5]:=⟨[.int .i64 x.f0],[.int .i64 x.f1,.string x.f2,.int .i64 x.f3,.int .i64 x.f4,.string x.f5],rfl,rfl,⟨[.int .i64 x.f1],[.string x.f2,.int .i64 x.f3,.int .i64 x.f4,.string x.f5],rfl,rfl,⟨[.string x.f2],[.int .i64 x.f3,.int .i64 x.f4,.string x.f5],rfl,rfl,⟨[.int .i64 x.f3],[.int .i64 x.f4,.string x.f5],rfl,rfl,⟨[.int .i64 x.f4],[.string x.f5],rfl,rfl,rfl⟩⟩⟩⟩⟩
theorem k48_mkF (W:World) (ok:Nat->Prop) (x:S48):Kd.FK k48 W ok x [.int .i64 x.f0,.int .i64 x.f1,.string x.f2,.int .i64 x.f3,.int .i64 x.f4,.string x.f5]:=λW2 _=>k48_mk W2 x
def rd_T48 (xs:List S48) (i:Int):S48:=xs.getD i.toNat z48
theorem at_T48 {w:World} {A:Option Addr} {n:Nat} {xs:List S48} (h:Kd.C k48 w A n xs) (i:Int) (h0:0<=i) (h1:i<n):∃ ad ,A=some ad/\w.cell? (ad.add (i.toNat*6))=some (.int .i64 (rd_T48 xs i).f0)/\w.cell? ⟨(ad.add (i.toNat*6)).block,(ad.add (i.toNat*6)).off+1,none⟩=some (.int .i64 (rd_T48 xs i).f1)/\w.cell? ⟨(ad.add (i.toNat*6)).block,(ad.add (i.toNat*6)).off+2,none⟩=some (.string (rd_T48 xs i).f2)/\w.cell? ⟨(ad.add (i.toNat*6)).block,(ad.add (i.toNat*6)).off+3,none⟩=some (.int .i64 (rd_T48 xs i).f3)/\w.cell? ⟨(ad.add (i.toNat*6)).block,(ad.add (i.toNat*6)).off+4,none⟩=some (.int .i64 (rd_T48 xs i).f4)/\w.cell? ⟨(ad.add (i.toNat*6)).block,(ad.add (i.toNat*6)).off+5,none⟩=some (.string (rd_T48 xs i).f5):=by
 obtain ⟨ad,c,e,_,hK,hc0⟩:=Kd.C_get h z48 i h0 h1
 have hc:∀ j u,c[j]? = some u->w.cell? (ad.add (i.toNat*6+j))=some u:=hc0
 obtain rfl:=k48_open hK
 exact ⟨ad,e,hc 0 _ rfl,(by rw [<-add_field _ _ 1 (by omega)];exact hc 1 _ rfl),(by rw [<-add_field _ _ 2 (by omega)];exact hc 2 _ rfl),(by rw [<-add_field _ _ 3 (by omega)];exact hc 3 _ rfl),(by rw [<-add_field _ _ 4 (by omega)];exact hc 4 _ rfl),(by rw [<-add_field _ _ 5 (by omega)];exact hc 5 _ rfl)⟩
structure S25 where
 f0:Int
 f1:Int
def z25:S25:=⟨(0:Int),(0:Int)⟩
def k25:Kd S25:=Kd.iso (Kd.pair (Kd.int .i64) (Kd.int .i64)) (λx:S25=>(x.f0,x.f1))
theorem k25_heap:Kd.Heap k25:=Kd.heap_iso _ (Kd.heap_pair (Kd.heap_int .i64) (Kd.heap_int .i64))
theorem k25_open {w:World} {x:S25} {cs:List Value} (h:k25.K w x cs):cs=[.int .i64 x.f0,.int .i64 x.f1]:=by
 obtain ⟨_,_,rfl,rfl,rfl⟩:=h
 exact rfl
theorem k25_mk (w:World) (x:S25) :k25.K w x [.int .i64 x.f0,.int .i64 x.f1]:=⟨[.int .i64 x.f0],[.int .i64 x.f1],rfl,rfl,rfl⟩
structure S30 where
 f0:S25
 f1:(List Int)
 f2:(List S48)
def z30:S30:=⟨z25,([]:List Int),([]:List S48)⟩
def k30:Kd S30:=Kd.iso (Kd.pair k25 (Kd.pair (Kd.slice 3 (Kd.int .i64)) (Kd.slice 48 k48))) (λx:S30=>(x.f0,x.f1,x.f2))
theorem k30_heap:Kd.Heap k30:=Kd.heap_iso _ (Kd.heap_pair k25_heap (Kd.heap_pair (Kd.heap_slice 3 (Kd.heap_int .i64)) (Kd.heap_slice 48 k48_heap)))
theorem k30_open {w:World} {x:S30} {cs:List Value} (h:k30.K w x cs):∃ A2 c2 A3 c3,cs=[.int .i64 x.f0.f0,.int .i64 x.f0.f1,.slice A2 x.f1.length c2,.slice A3 x.f2.length c3]/\x.f1.length<=c2/\(Kd.int .i64).C w A2 x.f1.length x.f1/\x.f2.length<=c3/\k48.C w A3 x.f2.length x.f2:=by
 obtain ⟨_,_,rfl,s0,⟨_,_,rfl,⟨A2,c2,rfl,l2,g2⟩,⟨A3,c3,rfl,l3,g3⟩⟩⟩:=h
 obtain rfl:=k25_open s0
 exact ⟨A2,c2,A3,c3,rfl,l2,g2,l3,g3⟩
theorem k30_mk (w:World) (x:S30) {A2:Option Addr} {c2:Nat} (l2:x.f1.length<=c2) (g2:(Kd.int .i64).C w A2 x.f1.length x.f1) {A3:Option Addr} {c3:Nat} (l3:x.f2.length<=c3) (g3:k48.C w A3 x.f2.length x.f2):k30.K w x [.int .i64 x.f0.f0,.int .i64 x.f0.f1,.slice A2 x.f1.length c2,.slice A3 x.f2.length c3]:=⟨[.int .i64 x.f0.f0,.int .i64 x.f0.f1],[.slice A2 x.f1.length c2,.slice A3 x.f2.length c3],rfl,(k25_mk w x.f0 ),⟨[.slice A2 x.f1.length c2],[.slice A3 x.f2.length c3],rfl,⟨A2,c2,rfl,l2,g2⟩,⟨A3,c3,rfl,l3,g3⟩⟩⟩
theorem k30_openF {W:World} {ok:Nat->Prop} {x:S30} {cs:List Value} (h:Kd.FK k30 W ok x cs):∃ A2 c2 A3 c3,cs=[.int .i64 x.f0.f0,.int .i64 x.f0.f1,.slice A2 x.f1.length c2,.slice A3 x.f2.length c3]/\x.f1.length<=c2/\Kd.F (Kd.int .i64) W ok A2 x.f1.length x.f1/\x.f2.length<=c3/\Kd.F k48 W ok A3 x.f2.length x.f2:=by
 obtain ⟨A2,c2,A3,c3,rfl,l2,_,l3,_⟩:=k30_open (Kd.FK_now h)
 exact ⟨A2,c2,A3,c3,rfl,l2,(λW' hW=>by obtain ⟨A2_,c2_,A3_,c3_,he,l2_,g2_,l3_,g3_⟩:=k30_open (h W' hW);injection (sI_ (show some (Value.slice A2 x.f1.length c2)=some (Value.slice A2_ x.f1.length c2_) from congrArg (λl=>l[2]?) he)) with ha_ _ _;rw [ha_];exact g2_),l3,(λW' hW=>by obtain ⟨A2_,c2_,A3_,c3_,he,l2_,g2_,l3_,g3_⟩:=k30_open (h W' hW);injection (sI_ (show some (Value.slice A3 x.f2.length c3)=some (Value.slice A3_ x.f2.length c3_) from congrArg (λl=>l[3]?) he)) with ha_ _ _;rw [ha_];exact g3_)⟩
theorem k30_mkF (W:World) (ok:Nat->Prop) (x:S30) {A2:Option Addr} {c2:Nat} (l2:x.f1.length<=c2) (g2:Kd.F (Kd.int .i64) W ok A2 x.f1.length x.f1) {A3:Option Addr} {c3:Nat} (l3:x.f2.length<=c3) (g3:Kd.F k48 W ok A3 x.f2.length x.f2):Kd.FK k30 W ok x [.int .i64 x.f0.f0,.int .i64 x.f0.f1,.slice A2 x.f1.length c2,.slice A3 x.f2.length c3]:=λW2 hW=>k30_mk W2 x l2 (g2 W2 hW) l3 (g3 W2 hW)
def rd_T30 (xs:List S30) (i:Int):S30:=xs.getD i.toNat z30
theorem at_T30 {w:World} {A:Option Addr} {n:Nat} {xs:List S30} (h:Kd.C k30 w A n xs) (i:Int) (h0:0<=i) (h1:i<n):∃ ad A2 c2 A3 c3,A=some ad/\w.cell? (ad.add (i.toNat*4))=some (.int .i64 (rd_T30 xs i).f0.f0)/\w.cell? ⟨(ad.add (i.toNat*4)).block,(ad.add (i.toNat*4)).off+1,none⟩=some (.int .i64 (rd_T30 xs i).f0.f1)/\w.cell? ⟨(ad.add (i.toNat*4)).block,(ad.add (i.toNat*4)).off+2,none⟩=some (.slice A2 (rd_T30 xs i).f1.length c2)/\w.cell? ⟨(ad.add (i.toNat*4)).block,(ad.add (i.toNat*4)).off+3,none⟩=some (.slice A3 (rd_T30 xs i).f2.length c3)/\(rd_T30 xs i).f1.length<=c2/\(Kd.int .i64).C w A2 (rd_T30 xs i).f1.length (rd_T30 xs i).f1/\(rd_T30 xs i).f2.length<=c3/\k48.C w A3 (rd_T30 xs i).f2.length (rd_T30 xs i).f2:=by
 obtain ⟨ad,c,e,_,hK,hc0⟩:=Kd.C_get h z30 i h0 h1
 have hc:∀ j u,c[j]? = some u->w.cell? (ad.add (i.toNat*4+j))=some u:=hc0
 obtain ⟨A2,c2,A3,c3,rfl,l2,g2,l3,g3⟩:=k30_open hK
 exact ⟨ad,A2,c2,A3,c3,e,hc 0 _ rfl,(by rw [<-add_field _ _ 1 (by omega)];exact hc 1 _ rfl),(by rw [<-add_field _ _ 2 (by omega)];exact hc 2 _ rfl),(by rw [<-add_field _ _ 3 (by omega)];exact hc 3 _ rfl),l2,g2,l3,g3⟩
def rd_L10 (xs:List (List Int)) (i:Int):(List Int):=xs.getD i.toNat ([]:List Int)
theorem at_L10 {w:World} {A:Option Addr} {n:Nat} {xs:List (List Int)} (h:Kd.C (Kd.slice 5 (Kd.int .u8)) w A n xs) (i:Int) (h0:0<=i) (h1:i<n):∃ ad A0 c0,A=some ad/\w.cell? (ad.add i.toNat)=some (.slice A0 (rd_L10 xs i).length c0)/\(rd_L10 xs i).length<=c0/\(Kd.int .u8).C w A0 (rd_L10 xs i).length (rd_L10 xs i):=by
 obtain ⟨ad,c,e,_,hK,hc0⟩:=Kd.C_get h ([]:List Int) i h0 h1
 have hc:∀ j u,c[j]? = some u->w.cell? (ad.add (i.toNat*1+j))=some u:=hc0
 obtain ⟨A0,c0,rfl,l0,g0⟩:=hK
 exact ⟨ad,A0,c0,e,(by have hq:=hc 0 _ rfl;rwa [Nat.mul_one,Nat.add_zero] at hq),l0,g0⟩
structure S53 where
 f0:(List Int)
 f1:Bool
 f2:(List S30)
def z53:S53:=⟨([]:List Int),false,([]:List S30)⟩
end Go.Proofs.Ytgocnchjpecafaa.PEv
