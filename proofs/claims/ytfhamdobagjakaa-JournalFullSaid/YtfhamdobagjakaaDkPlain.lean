/- a part -/
import Derived.RowKit
namespace Go.Proofs.Ytfhamdobagjakaa.Dsk
set_option linter.unusedVariables false
set_option linter.unusedSimpArgs false
structure Dk where
 b0:List Int
 s0:Int
 b1:List Int
 s1:Int
 room:Int
 stop:Int
 dead:Bool
def hi (x y:Int):Int:=if x<y then y else x
def lo (x y:Int):Int:=if y<x then y else x
namespace Dk
def new (room:Int):Dk:=⟨[],0,[],0,room,-1,false⟩
def left (d:Dk):Int:=d.room - (d.b0.length:Int) - (d.b1.length:Int)
def why (d:Dk) (i:Int):Int:=if d.dead=true then 9 else if i<0\/2<=i then 1 else 0
def die (d:Dk):Dk:={ d with dead:=true }
def tick (d:Dk):Dk:={ d with stop:=if 0<d.stop then Go.RowKit.wrap64 (d.stop - 1) else d.stop }
def row (d:Dk) (i:Int):List Int:=if i=0 then d.b0 else d.b1
def safe (d:Dk) (i:Int):Int:=if i=0 then d.s0 else d.s1
def put (d:Dk) (i:Int) (b:List Int) (s:Int):Dk:=if i=0 then { d with b0:=b,s0:=s } else { d with b1:=b,s1:=s }
def did (d:Dk) (i:Int) (b:List Int) (s:Int):Dk×Int:=if d.stop=0 then(d.die,9) else(d.tick.put i b s,0)
def app (d:Dk) (i:Int) (b:List Int):Dk×Int:=if d.why i≠0 then(d,d.why i) else if d.left<(b.length:Int) then(d,6) else d.did i (d.row i++b) (d.safe i)
def clr (d:Dk) (i:Int):Dk×Int:=if d.why i≠0 then(d,d.why i) else d.did i [] 0
def syn (d:Dk) (i:Int):Dk×Int:=if d.why i≠0 then(d,d.why i) else d.did i (d.row i) ((d.row i).length:Int)
def some_ (b:List Int) (s:Int) (keep:List Int) (i:Nat):Int:=if i<keep.length then lo (hi (keep.getD i 0) 0) ((b.length:Int) - s) else 0
structure Good (d:Dk):Prop where
 a0:0<=d.s0
 a1:d.s0<=(d.b0.length:Int)
 c0:0<=d.s1
 c1:d.s1<=(d.b1.length:Int)
 l0:0<=d.left
 r1:d.room<=1048576
theorem Good.len0 {d:Dk} (h:d.Good):(d.b0.length:Int)<=1048576:=by have:=h.l0;have:=h.r1;unfold left at *;omega
theorem Good.len1 {d:Dk} (h:d.Good):(d.b1.length:Int)<=1048576:=by have:=h.l0;have:=h.r1;unfold left at *;omega
theorem good_new {room:Int} (h0:0<=room) (h1:room<=1048576):(new room).Good:=⟨Int.le_refl 0,Int.le_refl 0,Int.le_refl 0,Int.le_refl 0,by unfold left new;simp;omega,h1⟩
theorem Good.did {d:Dk} (h:d.Good) {i:Int} {b:List Int} {s:Int} (hi:i=0\/i=1) (s0:0<=s) (s1:s<=(b.length:Int)) (hb:(b.length:Int)<=d.left+((d.row i).length:Int)):(d.did i b s).1.Good:=by
 obtain ⟨p1,p2,p3,p4,p5,p6⟩:=h
 unfold Dk.did
 split
 ·exact ⟨p1,p2,p3,p4,p5,p6⟩
 ·rcases hi with rfl|rfl
  ·unfold Dk.put Dk.tick Dk.row at *
   simp only [if_true] at hb ⊢
   unfold left at *
   exact ⟨s0,s1,p3,p4,by simp only [left] at *;omega,p6⟩
  ·unfold Dk.put Dk.tick Dk.row at *
   rw [if_neg (by decide)] at hb ⊢
   unfold left at *
   exact ⟨p1,p2,s0,s1,by simp only [left] at *;omega,p6⟩
theorem why_dead {d:Dk} {i:Int} (h:d.dead=true):d.why i=9:=by unfold why;rw [if_pos h]
theorem why_out {d:Dk} {i:Int} (h:d.dead=false) (hi:i<0\/2<=i):d.why i=1:=by unfold why;rw [if_neg (by rw [h];decide),if_pos hi]
theorem why_ok {d:Dk} {i:Int} (h:d.dead=false) (hi:0<=i/\i<2):d.why i=0:=by unfold why;rw [if_neg (by rw [h];decide),if_neg (by omega)]
theorem tick_pos {d:Dk} (h:0<d.stop):d.tick={ d with stop:=Go.RowKit.wrap64 (d.stop - 1) }:=by unfold tick;rw [if_pos h]
theorem tick_neg {d:Dk} (h:¬ 0<d.stop):d.tick=d:=by unfold tick;rw [if_neg h]
theorem why_in {d:Dk} {i:Int} (h:¬ d.why i≠0):i=0\/i=1:=by
 unfold why at h
 split at h
 ·exact absurd (by decide) h
 ·split at h
  ·exact absurd (by decide) h
  ·omega
theorem Good.safe {d:Dk} (h:d.Good) (i:Int):0<=d.safe i/\d.safe i<=((d.row i).length:Int):=by
 unfold Dk.safe Dk.row
 split
 ·exact ⟨h.a0,h.a1⟩
 ·exact ⟨h.c0,h.c1⟩
theorem Good.app {d:Dk} (h:d.Good) (i:Int) (b:List Int):(d.app i b).1.Good:=by
 unfold Dk.app
 split
 ·exact h
 ·rename_i hw
  split
  ·exact h
  ·have:=h.safe i
   exact h.did (why_in hw) this.1 (by rw [List.length_append];omega) (by rw [List.length_append];omega)
theorem Good.clr {d:Dk} (h:d.Good) (i:Int):(d.clr i).1.Good:=by
 unfold Dk.clr
 split
 ·exact h
 ·rename_i hw
  have:=h.l0
  exact h.did (why_in hw) (Int.le_refl 0) (by simp) (by simp;omega)
theorem Good.syn {d:Dk} (h:d.Good) (i:Int):(d.syn i).1.Good:=by
 unfold Dk.syn
 split
 ·exact h
 ·rename_i hw
  have:=h.l0
  exact h.did (why_in hw) (by omega) (Int.le_refl _) (by omega)
def Has (d:Dk) (i:Int) (b:List Int):Prop:=b <+: d.row i/\(b.length:Int)<=d.safe i
theorem row_did {d:Dk} {i j:Int} {b:List Int} {s:Int}:(d.did i b s).1.row j=if d.stop=0 then d.row j else if (i=0↔j=0) then b else d.row j:=by
 unfold Dk.did
 by_cases h:d.stop=0
 ·rw [if_pos h,if_pos h];rfl
 ·rw [if_neg h,if_neg h]
  unfold Dk.put Dk.row
  by_cases hi:i=0
  ·by_cases hj:j=0
   ·simp [hi,hj]
   ·simp [hi,hj,Dk.tick]
  ·by_cases hj:j=0
   ·simp [hi,hj,Dk.tick]
   ·simp [hi,hj,Dk.tick]
theorem safe_did {d:Dk} {i j:Int} {b:List Int} {s:Int}:(d.did i b s).1.safe j=if d.stop=0 then d.safe j else if (i=0↔j=0) then s else d.safe j:=by
 unfold Dk.did
 by_cases h:d.stop=0
 ·rw [if_pos h,if_pos h];rfl
 ·rw [if_neg h,if_neg h]
  unfold Dk.put Dk.safe
  by_cases hi:i=0
  ·by_cases hj:j=0
   ·simp [hi,hj]
   ·simp [hi,hj,Dk.tick]
  ·by_cases hj:j=0
   ·simp [hi,hj,Dk.tick]
   ·simp [hi,hj,Dk.tick]
theorem Has.did {d:Dk} {i j:Int} {b c:List Int} {s:Int} (h:d.Has j b) (hs:(i=0↔j=0)->b <+: c/\(b.length:Int)<=s):(d.did i c s).1.Has j b:=by
 unfold Has at *
 rw [row_did,safe_did]
 by_cases h0:d.stop=0
 ·rw [if_pos h0,if_pos h0];exact h
 ·rw [if_neg h0,if_neg h0]
  by_cases hi:(i=0↔j=0)
  ·rw [if_pos hi,if_pos hi];exact hs hi
  ·rw [if_neg hi,if_neg hi];exact h
theorem row_iff {d:Dk} {i j:Int} (h:i=0↔j=0):d.row i=d.row j/\d.safe i=d.safe j:=by
 unfold Dk.row Dk.safe
 by_cases hi:i=0
 ·rw [if_pos hi,if_pos (h.1 hi),if_pos hi,if_pos (h.1 hi)];exact ⟨rfl,rfl⟩
 ·rw [if_neg hi,if_neg (λe=>hi (h.2 e)),if_neg hi,if_neg (λe=>hi (h.2 e))];exact ⟨rfl,rfl⟩
end Dk
end Go.Proofs.Ytfhamdobagjakaa.Dsk
