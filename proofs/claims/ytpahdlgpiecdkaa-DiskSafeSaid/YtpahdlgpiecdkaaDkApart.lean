/- a part -/
import Derived.Test.YtpahdlgpiecdkaaDkLaw
import Derived.Test.YtpahdlgpiecdkaaDkAwake
namespace Go.Proofs.Ytpahdlgpiecdkaa.Dsk
open Go.RowKit Go.Proofs.YtpahdlgpiecdkaaW.PrintWords Go.Proofs.YtpahdlgpiecdkaaW.PrintLast Go.Proofs.YtpahdlgpiecdkaaW.PrintMore Go.Proofs.Ytpahdlgpiecdkaa.Hand Go.Proofs.Ytpahdlgpiecdkaa.Cards Go.Proofs.Ytpahdlgpiecdkaa.PDk
set_option linter.unusedVariables false
set_option linter.unusedSimpArgs false
section
variable {w0 W W1 : World} {D E : Nat -> Prop} {d r : Dk} {A0 A1 : Option Addr} {c0 c1 g : Nat} {v0 v1 : Value}
theorem bytes_from (l:List Int) (hl:l.length<=9223372036854775806):∀ (d i:Nat),i+d=l.length->r02_Bytes.l0 (d+1) l l (i:Int)=some true
 | 0,i,h=>by
  unfold r02_Bytes.l0
  rw [if_neg (by omega)]
 | d+1,i,h=>by
  unfold r02_Bytes.l0
  rw [if_pos (by omega),if_pos (by omega),if_pos (by omega),if_pos rfl,show wrap64 ((i:Int)+1)=((i+1:Nat):Int) by unfold wrap64;omega]
  exact bytes_from l hl d (i+1) (by omega)
theorem bytes_same (l:List Int) (hl:l.length<=9223372036854775806):r02_Bytes.f (l.length+1) l l=some true:=by
 unfold r02_Bytes.f
 rw [if_pos rfl]
 exact bytes_from l hl l.length 0 (by omega)
theorem light_from (l:List S49) (hl:l.length<=9223372036854775806):∀ (d i:Nat),i+d=l.length->∃ r,w06_Light.l0 (2*d+2) l (i:Int)=some r
 | 0,i,h=>by
  unfold w06_Light.l0
  rw [if_neg (by omega)]
  unfold w06_Light.j1
  exact ⟨_,rfl⟩
 | d+1,i,h=>by
  rw [show 2*(d+1)+2=(2*d+2)+1+1 by omega]
  unfold w06_Light.l0
  rw [if_pos (by omega)]
  unfold w06_Light.j1
  split
  ·rw [if_pos (by omega),if_pos (by omega)]
   split
   ·exact ⟨_,rfl⟩
   ·split
    ·exact ⟨_,rfl⟩
    ·rw [show wrap64 ((i:Int)+1)=((i+1:Nat):Int) by unfold wrap64;omega]
     exact light_from l hl d (i+1) (by omega)
  ·exact ⟨_,rfl⟩
theorem light_some (l:List S49) (hl:l.length<=9223372036854775806):∃ r,w06_Light.f (2*l.length+2) l=some r:=light_from l hl l.length 0 (by omega)
structure Inv (d:Dk) (j:Int):Prop where
 good:d.Good
 stop:d.stop = -1
 dead:d.dead=false
 row:d.row j=[5,6]
theorem Inv.doing {d:Dk} {i j:Int} (h:Inv d j) (hij:¬ (i=0↔j=0)) {o:Int} (ho:o<3) (b:List Int) (n:Int) (keep:List Int):Inv (d.doing o i b n keep) j:=by
 have hr:=Dk.row_doing (d:=d) (o:=o) (i:=i) (c:=b) (n:=n) (keep:=keep) ho hij
 have hs:=h.stop
 rcases hr with hr|hr
 ·exact ⟨h.good.doing o i b n keep,Dk.stop_doing ho h.stop,hr.2.trans h.dead,hr.1.trans h.row⟩
 ·omega
structure Loop (w1 wr:World) (g b8:Nat) (d r:Dk):Prop where
 ex:∃ D P0 P1 p0 p1,At w1 wr g D d/\wr.heap[b8]? = some (.cells #[.slice P0 r.b0.length p0,.int .i64 r.s0,.slice P1 r.b1.length p1,.int .i64 r.s1,.int .i64 r.room,.int .i64 r.stop,.bool r.dead] 43 (0,0))/\¬ D b8/\w1.heap.size<=b8/\RawV wr (λk=>D k\/k=b8) P0 P1 p0 p1 r
theorem Loop.on {w1 wr w2:World} {b8:Nat} (h:Loop w1 wr g b8 d r) (hb:Below wr.heap.size wr w2):Loop w1 w2 g b8 d r:=by
 obtain ⟨D,P0,P1,p0,p1,h1,h2,h3,h4,h5⟩:=h.ex
 exact ⟨D,P0,P1,p0,p1,h1.on hb,blk_below h2 hb,h3,h4,h5.step (Step.of_below hb)⟩
theorem Loop.below {w1 wr:World} {b8:Nat} (h:Loop w1 wr g b8 d r):Below w1.heap.size w1 wr:=by
 obtain ⟨D,P0,P1,p0,p1,h1,h2,h3,h4,h5⟩:=h.ex
 exact h1.below
end
end Go.Proofs.Ytpahdlgpiecdkaa.Dsk
