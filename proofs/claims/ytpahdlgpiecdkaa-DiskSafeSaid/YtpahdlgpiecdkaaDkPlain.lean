/- a part -/
import Derived.RowKit
namespace Go.Proofs.Ytpahdlgpiecdkaa.Dsk
set_option linter.unusedVariables false
set_option linter.unusedSimpArgs false
structure Dk where
 b0:List Int
 s0:Int
 b1:List Int
 s1:Int
 room:Int
 stop:Int
 dead:Bool
def hi (x y:Int):Int:=if x<y then y else x
def lo (x y:Int):Int:=if y<x then y else x
namespace Dk
def new (room:Int):Dk:=⟨[],0,[],0,room,-1,false⟩
def left (d:Dk):Int:=d.room - (d.b0.length:Int) - (d.b1.length:Int)
def why (d:Dk) (i:Int):Int:=if d.dead=true then 9 else if i<0\/2<=i then 1 else 0
def die (d:Dk):Dk:={ d with dead:=true }
def tick (d:Dk):Dk:={ d with stop:=if 0<d.stop then Go.RowKit.wrap64 (d.stop - 1) else d.stop }
def row (d:Dk) (i:Int):List Int:=if i=0 then d.b0 else d.b1
def safe (d:Dk) (i:Int):Int:=if i=0 then d.s0 else d.s1
def put (d:Dk) (i:Int) (b:List Int) (s:Int):Dk:=if i=0 then { d with b0:=b,s0:=s } else { d with b1:=b,s1:=s }
def did (d:Dk) (i:Int) (b:List Int) (s:Int):Dk×Int:=if d.stop=0 then(d.die,9) else(d.tick.put i b s,0)
def app (d:Dk) (i:Int) (b:List Int):Dk×Int:=if d.why i≠0 then(d,d.why i) else if d.left<(b.length:Int) then(d,6) else d.did i (d.row i++b) (d.safe i)
def clr (d:Dk) (i:Int):Dk×Int:=if d.why i≠0 then(d,d.why i) else d.did i [] 0
def syn (d:Dk) (i:Int):Dk×Int:=if d.why i≠0 then(d,d.why i) else d.did i (d.row i) ((d.row i).length:Int)
def sto (d:Dk) (n:Int):Dk:={ d with stop:=hi n (-1) }
def some_ (b:List Int) (s:Int) (keep:List Int) (i:Nat):Int:=if i<keep.length then lo (hi (keep.getD i 0) 0) ((b.length:Int) - s) else 0
def cutN (b:List Int) (s:Int) (keep:List Int) (i:Nat):Int:=s+some_ b s keep i
def crash (d:Dk) (keep:List Int):Dk :=
 { d with b0:=d.b0.take (cutN d.b0 d.s0 keep 0).toNat,s0:=cutN d.b0 d.s0 keep 0,b1:=d.b1.take (cutN d.b1 d.s1 keep 1).toNat,s1:=cutN d.b1 d.s1 keep 1,stop:=-1,dead:=false }
def act (d:Dk) (o i:Int) (b:List Int):Dk×Int:=if o=0 then d.app i b else if o=1 then d.clr i else d.syn i
def doing (d:Dk) (o i:Int) (b:List Int) (n:Int) (keep:List Int):Dk :=
 if o=0\/o=1\/o=2 then(d.act o i b).1 else if o=3 then d.sto n else if o=4 then d.crash keep else d
structure Good (d:Dk):Prop where
 a0:0<=d.s0
 a1:d.s0<=(d.b0.length:Int)
 c0:0<=d.s1
 c1:d.s1<=(d.b1.length:Int)
 l0:0<=d.left
 r1:d.room<=1048576
theorem Good.len0 {d:Dk} (h:d.Good):(d.b0.length:Int)<=1048576:=by have:=h.l0;have:=h.r1;unfold left at *;omega
theorem Good.len1 {d:Dk} (h:d.Good):(d.b1.length:Int)<=1048576:=by have:=h.l0;have:=h.r1;unfold left at *;omega
theorem good_new {room:Int} (h0:0<=room) (h1:room<=1048576):(new room).Good:=⟨Int.le_refl 0,Int.le_refl 0,Int.le_refl 0,Int.le_refl 0,by unfold left new;simp;omega,h1⟩
theorem Good.did {d:Dk} (h:d.Good) {i:Int} {b:List Int} {s:Int} (hi:i=0\/i=1) (s0:0<=s) (s1:s<=(b.length:Int)) (hb:(b.length:Int)<=d.left+((d.row i).length:Int)):(d.did i b s).1.Good:=by
 obtain ⟨p1,p2,p3,p4,p5,p6⟩:=h
 unfold Dk.did
 split
 ·exact ⟨p1,p2,p3,p4,p5,p6⟩
 ·rcases hi with rfl|rfl
  ·unfold Dk.put Dk.tick Dk.row at *
   simp only [if_true] at hb ⊢
   unfold left at *
   exact ⟨s0,s1,p3,p4,by simp only [left] at *;omega,p6⟩
  ·unfold Dk.put Dk.tick Dk.row at *
   rw [if_neg (by decide)] at hb ⊢
   unfold left at *
   exact ⟨p1,p2,s0,s1,by simp only [left] at *;omega,p6⟩
theorem why_dead {d:Dk} {i:Int} (h:d.dead=true):d.why i=9:=by unfold why;rw [if_pos h]
theorem why_out {d:Dk} {i:Int} (h:d.dead=false) (hi:i<0\/2<=i):d.why i=1:=by unfold why;rw [if_neg (by rw [h];decide),if_pos hi]
theorem why_ok {d:Dk} {i:Int} (h:d.dead=false) (hi:0<=i/\i<2):d.why i=0:=by unfold why;rw [if_neg (by rw [h];decide),if_neg (by omega)]
theorem tick_pos {d:Dk} (h:0<d.stop):d.tick={ d with stop:=Go.RowKit.wrap64 (d.stop - 1) }:=by unfold tick;rw [if_pos h]
theorem tick_neg {d:Dk} (h:¬ 0<d.stop):d.tick=d:=by unfold tick;rw [if_neg h]
theorem why_in {d:Dk} {i:Int} (h:¬ d.why i≠0):i=0\/i=1:=by
 unfold why at h
 split at h
 ·exact absurd (by decide) h
 ·split at h
  ·exact absurd (by decide) h
  ·omega
theorem Good.safe {d:Dk} (h:d.Good) (i:Int):0<=d.safe i/\d.safe i<=((d.row i).length:Int):=by
 unfold Dk.safe Dk.row
 split
 ·exact ⟨h.a0,h.a1⟩
 ·exact ⟨h.c0,h.c1⟩
theorem Good.app {d:Dk} (h:d.Good) (i:Int) (b:List Int):(d.app i b).1.Good:=by
 unfold Dk.app
 split
 ·exact h
 ·rename_i hw
  split
  ·exact h
  ·have:=h.safe i
   exact h.did (why_in hw) this.1 (by rw [List.length_append];omega) (by rw [List.length_append];omega)
theorem Good.clr {d:Dk} (h:d.Good) (i:Int):(d.clr i).1.Good:=by
 unfold Dk.clr
 split
 ·exact h
 ·rename_i hw
  have:=h.l0
  exact h.did (why_in hw) (Int.le_refl 0) (by simp) (by simp;omega)
theorem Good.syn {d:Dk} (h:d.Good) (i:Int):(d.syn i).1.Good:=by
 unfold Dk.syn
 split
 ·exact h
 ·rename_i hw
  have:=h.l0
  exact h.did (why_in hw) (by omega) (Int.le_refl _) (by omega)
theorem Good.sto {d:Dk} (h:d.Good) (n:Int):(d.sto n).Good:=⟨h.a0,h.a1,h.c0,h.c1,h.l0,h.r1⟩
theorem cut_in {b:List Int} {s:Int} {keep:List Int} {i:Nat} (h0:0<=s) (h1:s<=(b.length:Int)):s<=cutN b s keep i/\cutN b s keep i<=(b.length:Int):=by
 unfold cutN some_ lo hi
 split
 ·split
  ·omega
  ·split at *
   ·omega
   ·omega
 ·omega
theorem cut_len {b:List Int} {s:Int} {keep:List Int} {i:Nat} (h0:0<=s) (h1:s<=(b.length:Int)):((b.take (cutN b s keep i).toNat).length:Int)=cutN b s keep i:=by
 have:=cut_in (keep:=keep) (i:=i) h0 h1
 rw [List.length_take]
 omega
theorem Good.crash {d:Dk} (h:d.Good) (keep:List Int):(d.crash keep).Good:=by
 have e0:=cut_len (keep:=keep) (i:=0) h.a0 h.a1
 have e1:=cut_len (keep:=keep) (i:=1) h.c0 h.c1
 have i0:=cut_in (keep:=keep) (i:=0) h.a0 h.a1
 have i1:=cut_in (keep:=keep) (i:=1) h.c0 h.c1
 have a0:=h.a0
 have c0:=h.c0
 have l0:=h.l0
 refine ⟨?_,?_,?_,?_,?_,h.r1⟩
 ·show 0<=cutN _ _ _ _;omega
 ·show cutN _ _ _ _<=_;exact Int.le_of_eq e0.symm
 ·show 0<=cutN _ _ _ _;omega
 ·show cutN _ _ _ _<=_;exact Int.le_of_eq e1.symm
 ·show 0<=d.room - _ - _
  show 0<=d.room - ((d.b0.take (cutN d.b0 d.s0 keep 0).toNat).length:Int) - ((d.b1.take (cutN d.b1 d.s1 keep 1).toNat).length:Int)
  rw [e0,e1]
  unfold left at l0
  omega
def cut0 (d:Dk) (keep:List Int):Dk:={ d with b0:=d.b0.take (cutN d.b0 d.s0 keep 0).toNat,s0:=cutN d.b0 d.s0 keep 0 }
def cut1 (d:Dk) (keep:List Int):Dk:={ d with b1:=d.b1.take (cutN d.b1 d.s1 keep 1).toNat,s1:=cutN d.b1 d.s1 keep 1 }
theorem crash_cut (d:Dk) (keep:List Int):d.crash keep={ { (d.cut0 keep).cut1 keep with dead:=false } with stop:=-1 }:=rfl
theorem Good.cut0 {d:Dk} (h:d.Good) (keep:List Int):(d.cut0 keep).Good:=by
 have e0:=cut_len (keep:=keep) (i:=0) h.a0 h.a1
 have i0:=cut_in (keep:=keep) (i:=0) h.a0 h.a1
 have a0:=h.a0
 have l0:=h.l0
 refine ⟨?_,?_,h.c0,h.c1,?_,h.r1⟩
 ·show 0<=cutN _ _ _ _;omega
 ·show cutN _ _ _ _<=_;exact Int.le_of_eq e0.symm
 ·show 0<=d.room - ((d.b0.take (cutN d.b0 d.s0 keep 0).toNat).length:Int) - (d.b1.length:Int)
  rw [e0]
  unfold left at l0
  omega
theorem cut0_of {d:Dk} {keep bb:List Int} {N:Nat} (hN:cutN d.b0 d.s0 keep 0=(N:Int)) (hl:N<=d.b0.length) (hb:bb=d.b0.take N):{ { d with b0:=bb } with s0:=(bb.length:Int) }=d.cut0 keep:=by
 subst hb
 unfold cut0
 rw [hN,List.length_take,Nat.min_eq_left hl]
 rfl
theorem cut1_of {d:Dk} {keep bb:List Int} {N:Nat} (hN:cutN d.b1 d.s1 keep 1=(N:Int)) (hl:N<=d.b1.length) (hb:bb=d.b1.take N):{ { d with b1:=bb } with s1:=(bb.length:Int) }=d.cut1 keep:=by
 subst hb
 unfold cut1
 rw [hN,List.length_take,Nat.min_eq_left hl]
 rfl
theorem Good.act {d:Dk} (h:d.Good) (o i:Int) (b:List Int):(d.act o i b).1.Good:=by
 unfold Dk.act
 split
 ·exact h.app i b
 ·split
  ·exact h.clr i
  ·exact h.syn i
theorem Good.doing {d:Dk} (h:d.Good) (o i:Int) (b:List Int) (n:Int) (keep:List Int):(d.doing o i b n keep).Good:=by
 unfold Dk.doing
 split
 ·exact h.act o i b
 ·split
  ·exact h.sto n
  ·split
   ·exact h.crash keep
   ·exact h
def Has (d:Dk) (i:Int) (b:List Int):Prop:=b <+: d.row i/\(b.length:Int)<=d.safe i
theorem row_did {d:Dk} {i j:Int} {b:List Int} {s:Int}:(d.did i b s).1.row j=if d.stop=0 then d.row j else if (i=0↔j=0) then b else d.row j:=by
 unfold Dk.did
 by_cases h:d.stop=0
 ·rw [if_pos h,if_pos h];rfl
 ·rw [if_neg h,if_neg h]
  unfold Dk.put Dk.row
  by_cases hi:i=0
  ·by_cases hj:j=0
   ·simp [hi,hj]
   ·simp [hi,hj,Dk.tick]
  ·by_cases hj:j=0
   ·simp [hi,hj,Dk.tick]
   ·simp [hi,hj,Dk.tick]
theorem safe_did {d:Dk} {i j:Int} {b:List Int} {s:Int}:(d.did i b s).1.safe j=if d.stop=0 then d.safe j else if (i=0↔j=0) then s else d.safe j:=by
 unfold Dk.did
 by_cases h:d.stop=0
 ·rw [if_pos h,if_pos h];rfl
 ·rw [if_neg h,if_neg h]
  unfold Dk.put Dk.safe
  by_cases hi:i=0
  ·by_cases hj:j=0
   ·simp [hi,hj]
   ·simp [hi,hj,Dk.tick]
  ·by_cases hj:j=0
   ·simp [hi,hj,Dk.tick]
   ·simp [hi,hj,Dk.tick]
theorem Has.did {d:Dk} {i j:Int} {b c:List Int} {s:Int} (h:d.Has j b) (hs:(i=0↔j=0)->b <+: c/\(b.length:Int)<=s):(d.did i c s).1.Has j b:=by
 unfold Has at *
 rw [row_did,safe_did]
 by_cases h0:d.stop=0
 ·rw [if_pos h0,if_pos h0];exact h
 ·rw [if_neg h0,if_neg h0]
  by_cases hi:(i=0↔j=0)
  ·rw [if_pos hi,if_pos hi];exact hs hi
  ·rw [if_neg hi,if_neg hi];exact h
theorem row_iff {d:Dk} {i j:Int} (h:i=0↔j=0):d.row i=d.row j/\d.safe i=d.safe j:=by
 unfold Dk.row Dk.safe
 by_cases hi:i=0
 ·rw [if_pos hi,if_pos (h.1 hi),if_pos hi,if_pos (h.1 hi)];exact ⟨rfl,rfl⟩
 ·rw [if_neg hi,if_neg (λe=>hi (h.2 e)),if_neg hi,if_neg (λe=>hi (h.2 e))];exact ⟨rfl,rfl⟩
theorem Has.doing {d:Dk} (g:d.Good) {j:Int} (hj:j=0\/j=1) {b:List Int} (h:d.Has j b) (o i:Int) (c:List Int) (n:Int) (keep:List Int) (hc:¬ (o=1/\i=j)):(d.doing o i c n keep).Has j b:=by
 unfold Dk.doing
 split
 ·rename_i ho
  unfold Dk.act
  split
  ·unfold Dk.app
   split
   ·exact h
   ·split
    ·exact h
    ·refine h.did λe=>?_
     obtain ⟨e1,e2⟩:=row_iff (d:=d) e
     rw [e1,e2]
     exact ⟨h.1.trans (List.prefix_append _ _),h.2⟩
  ·split
   ·rename_i o1
    unfold Dk.clr
    split
    ·exact h
    ·rename_i hw
     have hi:=why_in hw
     exact h.did λe=>absurd ⟨o1,by omega⟩ hc
   ·unfold Dk.syn
    split
    ·exact h
    ·refine h.did λe=>?_
     obtain ⟨e1,e2⟩:=row_iff (d:=d) e
     rw [e1]
     exact ⟨h.1,by have:=h.1.length_le;omega⟩
 ·split
  ·exact h
  ·split
   ·unfold Has at *
    rcases hj with rfl|rfl
    ·have:=cut_in (keep:=keep) (i:=0) g.a0 g.a1
     have h1:b <+: d.b0:=h.1
     have h2:(b.length:Int)<=d.s0:=h.2
     refine ⟨?_,?_⟩
     ·show b <+: d.b0.take _
      rw [List.prefix_iff_eq_take] at h1 ⊢
      rw [List.take_take,Nat.min_eq_left (by omega)]
      exact h1
     ·show(b.length:Int)<=cutN _ _ _ _
      omega
    ·have:=cut_in (keep:=keep) (i:=1) g.c0 g.c1
     have h1:b <+: d.b1:=h.1
     have h2:(b.length:Int)<=d.s1:=h.2
     refine ⟨?_,?_⟩
     ·show b <+: d.b1.take _
      rw [List.prefix_iff_eq_take] at h1 ⊢
      rw [List.take_take,Nat.min_eq_left (by omega)]
      exact h1
     ·show(b.length:Int)<=cutN _ _ _ _
      omega
   ·exact h
theorem row_doing {d:Dk} {o i:Int} {c:List Int} {n:Int} {keep:List Int} (ho:o<3) {j:Int} (hj:¬ (i=0↔j=0)):(d.doing o i c n keep).row j=d.row j/\(d.doing o i c n keep).dead=d.dead\/d.stop=0:=by
 by_cases hs:d.stop=0
 ·exact .inr hs
 ·refine .inl ?_
  have hd:∀ b s,(d.did i b s).1.row j=d.row j/\(d.did i b s).1.dead=d.dead:=λb s=>by
   refine ⟨by rw [row_did,if_neg hs,if_neg hj],?_⟩
   unfold Dk.did Dk.put Dk.tick
   rw [if_neg hs]
   split<;>rfl
  unfold Dk.doing
  split
  ·unfold Dk.act
   split
   ·unfold Dk.app
    split
    ·exact ⟨rfl,rfl⟩
    ·split
     ·exact ⟨rfl,rfl⟩
     ·exact hd _ _
   ·split
    ·unfold Dk.clr
     split
     ·exact ⟨rfl,rfl⟩
     ·exact hd _ _
    ·unfold Dk.syn
     split
     ·exact ⟨rfl,rfl⟩
     ·exact hd _ _
  ·split
   ·omega
   ·split
    ·omega
    ·exact ⟨rfl,rfl⟩
theorem stop_doing {d:Dk} {o i:Int} {c:List Int} {n:Int} {keep:List Int} (ho:o<3) (hs:d.stop = -1):(d.doing o i c n keep).stop = -1:=by
 have hd:∀ b s,(d.did i b s).1.stop = -1:=λb s=>by
  unfold Dk.did Dk.put Dk.tick
  rw [if_neg (by omega)]
  split<;>(show(if 0<d.stop then Go.RowKit.wrap64 (d.stop - 1) else d.stop) = -1;rw [if_neg (by omega)];exact hs)
 unfold Dk.doing
 split
 ·unfold Dk.act
  split
  ·unfold Dk.app
   split
   ·exact hs
   ·split
    ·exact hs
    ·exact hd _ _
  ·split
   ·unfold Dk.clr
    split
    ·exact hs
    ·exact hd _ _
   ·unfold Dk.syn
    split
    ·exact hs
    ·exact hd _ _
 ·split
  ·omega
  ·split
   ·omega
   ·exact hs
end Dk
end Go.Proofs.Ytpahdlgpiecdkaa.Dsk
