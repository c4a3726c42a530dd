/- a part -/
import Derived.Shelf.SlSortCmp.KitK
import Derived.Deep.Quiet
import Derived.Deep.QuietTactic
import Derived.Below
import Derived.KernelRfl
namespace Go.Proofs.Ytgocnchjpecafaa.Srt
open Go.Shelf Go.RowKit Go.Lib Go.Sort
set_option linter.unusedVariables false
set_option linter.unusedSimpArgs false
set_option linter.unusedSectionVars false
section
variable {α : Type} [Inhabited α] {P : Program} {enc : α → List Value} {k : Nat} {w0 W W' : World} {blk off : Nat} {dk d0 : Array α}
structure SWB (enc:α→List Value) (k:Nat) (w0:World) (blk off:Nat) (dk:Array α) (W:World):Prop where
 b:Below w0.heap.size (putRowK enc k w0 blk off dk) W
theorem SWB.le (h:SWB enc k w0 blk off dk W):w0.heap.size≤W.heap.size:=by
 have:=h.b.size
 rw [size_putRowK] at this
 exact this
theorem SWB.start (h:HoldsK enc k w0 blk off dk):SWB enc k w0 blk off dk w0:=⟨by rw [putRowK_self enc k w0 blk off dk h];exact Below.refl _ _⟩
theorem SWB.below (h:SWB enc k w0 blk off dk W) (hb:Below W.heap.size W W'):SWB enc k w0 blk off dk W':=⟨h.b.trans (hb.mono h.le)⟩
theorem SWB.drew (h:SWB enc k w0 blk off dk W):SWB enc k w0 blk off dk W.drew:=⟨h.b.drew⟩
theorem SWB.holds (h:SWB enc k w0 blk off dk W) (R:RowK enc k w0 blk off d0) (hs:dk.size=d0.size):HoldsK enc k W blk off dk:=by
 have h0:=holdsK_putRowK enc k w0 blk off d0 dk R.hH hs
 intro j hj
 have h1:=h0 j hj
 exact ⟨(h.b.cell (p:=⟨blk,off+j,none⟩) R.hblk).trans h1.1,(h.b.frozen (p:=⟨blk,off+j,none⟩) R.hblk).trans h1.2⟩
theorem SWB.load (h:SWB enc k w0 blk off dk W) (R:RowK enc k w0 blk off d0) (hs:dk.size=d0.size) (P:Program) (i:Nat) (hi:i<dk.size) :
  Sem.run P (loadCellsFrom ⟨blk,off+i*k,none⟩ 0 k #[]) W = .ok (enc dk[i]!).toArray W :=
 run_loadCellsFrom_list P _ _ _ k (R.hk _) (HoldsK.cells (h.holds R hs) R.hk hi)
theorem SWB.ld1 (h:SWB enc k w0 blk off dk W) (R:RowK enc k w0 blk off d0) (hs:dk.size=d0.size) (P:Program) (i:Nat) (hi:i<dk.size) :
 Sem.run P (loadCellsFrom ⟨blk,off+i*k,none⟩ 0 k #[]) W.drew = .ok (enc dk[i]!).toArray W.drew:=h.drew.load R hs P i hi
theorem SWB.st1 (h:SWB enc k w0 blk off dk W) (R:RowK enc k w0 blk off d0) (hs:dk.size=d0.size) (P:Program) (i:Nat) (hi:i<dk.size) (y:α) :
  Sem.run P (storeCells ⟨blk,off+i*k,none⟩ (enc y) 0) W.drew = .ok () (W.drew.setCells blk (off+i*k) (enc y)) :=
 stores_of_holds P (h.drew.holds R hs) (i*k) _ (by rw [R.hk,size_flatK];exact rowK_bnd dk k i hi) (R.h1 _)
theorem SWB.st2 (h:SWB enc k w0 blk off dk W) (R:RowK enc k w0 blk off d0) (hs:dk.size=d0.size) (P:Program) (i j:Nat) (hi:i<dk.size) (hj:j<dk.size) (y x:α) :
  Sem.run P (storeCells ⟨blk,off+j*k,none⟩ (enc x) 0) (W.drew.setCells blk (off+i*k) (enc y)) = .ok () ((W.drew.setCells blk (off+i*k) (enc y)).setCells blk (off+j*k) (enc x)) :=
 stores_of_holds P (holds_setCells_c (h.drew.holds R hs) (i*k) _ (by rw [R.hk,size_flatK];exact rowK_bnd dk k i hi)) (j*k) _ (by rw [R.hk,size_setMany,size_flatK];exact rowK_bnd dk k j hj) (R.h1 _)
theorem below_setCell2 {B:Nat} {a b:World} (h:Below B a b) (x:Addr) (v:Value):Below B (a.setCell x v) (b.setCell x v):=by
 refine ⟨h.os,h.tape,h.output,by simp only [World.setCell,Array.size_modify];exact h.size,fun j hj=>?_⟩
 simp only [World.setCell,Array.getElem?_modify,h.block j hj]
theorem below_setCells2 {B:Nat} (blk:Nat):∀ (vs:List Value) (o:Nat) {a b:World},Below B a b→Below B (a.setCells blk o vs) (b.setCells blk o vs)
 | [],_,_,_,h=>h
 | v :: r,o,_,_,h=>below_setCells2 blk r (o+1) (below_setCell2 h _ v)
theorem SWB.swapped (h:SWB enc k w0 blk off dk W) (R:RowK enc k w0 blk off d0) (i j:Nat) (hi:i<dk.size) (hj:j<dk.size) :
  SWB enc k w0 blk off (swp dk i j) ((W.drew.setCells blk (off+i*k) (enc dk[j]!)).setCells blk (off+j*k) (enc dk[i]!)):=by
 refine ⟨?_⟩
 rw [←putRowK_swp enc k R.hk w0 blk off dk i j hi hj]
 exact below_setCells2 blk _ _ (below_setCells2 blk _ _ h.drew.b)
structure SomeW (enc:α→List Value) (k:Nat) (w0:World) (blk off:Nat) (dk:Array α) where
 w:World
 h:SWB enc k w0 blk off dk w
theorem wp_region_some {id:Nat} {Q:Exit→Act→World→Prop} {a:Act} {l:List Oper} (hm:P.follows .mixedOrders=true) (hB:Region.lexB .any l.toArray=true) (S:SWB enc k w0 blk off dk W)
  (h:wpQuiet P l.toArray (fun w'=>∃ p:SomeW enc k w0 blk off dk,w'=p.w) (fun a'=>∀ w',(∃ p:SomeW enc k w0 blk off dk,w'=p.w)→Q .normal a' w') l a):(Code.region id l.toArray true).wp P Q a W :=
 wp_region_quiet (C:=fun w'=>∃ p:SomeW enc k w0 blk off dk,w'=p.w) hm hB ⟨⟨W.drew,S.drew⟩,rfl⟩ (by simpa using h)
def CmpB (P:Program) (g:Nat) (cb:Array Value) (enc:α→List Value) (k:Nat) (cf:α→α→Int) (blk off size:Nat) (w0:World):Prop :=
 ∀ (dk:Array α) (W:World),dk.size=size→SWB enc k w0 blk off dk W→∀ x y:α,
  Calls P g (#[.agg (enc x).toArray,.agg (enc y).toArray]++cb) W fun e w'=>e = .returned (.int .i64 (cf x y))∧Below W.heap.size W w'
theorem CmpB.at {g:Nat} {cb:Array Value} {cf:α→α→Int} {size:Nat} (hC:CmpB P g cb enc k cf blk off size w0) (hs:dk.size=size) (x y:α) (p:SomeW enc k w0 blk off dk) :
  Calls P g (#[.agg (enc x).toArray,.agg (enc y).toArray]++cb) p.w fun e w'=>e = .returned (.int .i64 (cf x y))∧∃ q:SomeW enc k w0 blk off dk,w'=q.w :=
 (hC dk p.w hs p.h x y).mono fun e w' ⟨h1,h2⟩=>⟨h1,⟨w',p.h.below h2⟩,rfl⟩
end
end Go.Proofs.Ytgocnchjpecafaa.Srt
