/- a part -/
import Derived.Test.YtpahdlgpiecdkaaDkHere
import Derived.Test.YtpahdlgpiecdkaaDkPath
import Derived.Handy
import Derived.RegionTactic
import Derived.StillTailTactics
import Derived.Test.YtpahdlgpiecdkaaPDkx1
namespace Go.Proofs.Ytpahdlgpiecdkaa.Dsk
open Go.RowKit Go.Proofs.YtpahdlgpiecdkaaW.PrintWords Go.Proofs.YtpahdlgpiecdkaaW.PrintLast Go.Proofs.YtpahdlgpiecdkaaW.PrintMore Go.Proofs.Ytpahdlgpiecdkaa.Hand Go.Proofs.Ytpahdlgpiecdkaa.Cards Go.Proofs.Ytpahdlgpiecdkaa.PDk
set_option linter.unusedVariables false
set_option linter.unusedSimpArgs false
section
variable {w0 W : World} {D : Nat -> Prop} {d : Dk} {A0 A1 : Option Addr} {c0 c1 : Nat}
set_option maxHeartbeats 4000000 in
set_option maxRecDepth 100000 in
theorem refGet_zero (W:World) (A0 A1:Option Addr) (c0 c1:Nat) (d:Dk):Calls Try.prog 25 #[dkV A0 A1 c0 c1 d,.int .i64 0] W λe w'=>e = .returned (.agg #[.slice A0 d.b0.length c0,.int .i64 d.s0])/\Below W.heap.size W w':=by
 go_enter Try.func25,Try.ntmps25
 go_wp2
 go_returns
 exact ⟨rfl,by repeat' (first|(with_reducible exact Below.refl _ _)|(with_reducible assumption)|(with_reducible refine Below.setCell ?_ ?_ _)|(with_reducible refine below_alloc ?_ _))⟩
set_option maxHeartbeats 4000000 in
set_option maxRecDepth 100000 in
theorem refGet_one (W:World) (A0 A1:Option Addr) (c0 c1:Nat) (d:Dk):Calls Try.prog 25 #[dkV A0 A1 c0 c1 d,.int .i64 1] W λe w'=>e = .returned (.agg #[.slice A1 d.b1.length c1,.int .i64 d.s1])/\Below W.heap.size W w':=by
 go_enter Try.func25,Try.ntmps25
 go_wp2
 go_returns
 exact ⟨rfl,by repeat' (first|(with_reducible exact Below.refl _ _)|(with_reducible assumption)|(with_reducible refine Below.setCell ?_ ?_ _)|(with_reducible refine below_alloc ?_ _))⟩
set_option maxHeartbeats 4000000 in
set_option maxRecDepth 100000 in
theorem refSet_zero (W:World) (A0 A1:Option Addr) (c0 c1:Nat) (d:Dk) (A:Option Addr) (c:Nat) (b:List Int) (s:Int):Calls Try.prog 37 #[dkV A0 A1 c0 c1 d,.int .i64 0,.agg #[.slice A b.length c,.int .i64 s]] W λe w'=>e = .returned (dkV A A1 c c1 (d.put 0 b s))/\Below W.heap.size W w':=by
 have e:dkV A A1 c c1 (d.put 0 b s) = .agg #[.slice A b.length c,.int .i64 s,.slice A1 d.b1.length c1,.int .i64 d.s1,.int .i64 d.room,.int .i64 d.stop,.bool d.dead]:=rfl
 rw [e]
 clear e
 go_enter Try.func37,Try.ntmps37
 go_wp2
 go_returns
 exact ⟨rfl,by repeat' (first|(with_reducible exact Below.refl _ _)|(with_reducible assumption)|(with_reducible refine Below.setCell ?_ ?_ _)|(with_reducible refine below_alloc ?_ _))⟩
set_option maxHeartbeats 4000000 in
set_option maxRecDepth 100000 in
theorem refSet_one (W:World) (A0 A1:Option Addr) (c0 c1:Nat) (d:Dk) (A:Option Addr) (c:Nat) (b:List Int) (s:Int):Calls Try.prog 37 #[dkV A0 A1 c0 c1 d,.int .i64 1,.agg #[.slice A b.length c,.int .i64 s]] W λe w'=>e = .returned (dkV A0 A c0 c (d.put 1 b s))/\Below W.heap.size W w':=by
 have e:dkV A0 A c0 c (d.put 1 b s) = .agg #[.slice A0 d.b0.length c0,.int .i64 d.s0,.slice A b.length c,.int .i64 s,.int .i64 d.room,.int .i64 d.stop,.bool d.dead]:=rfl
 rw [e]
 clear e
 go_enter Try.func37,Try.ntmps37
 go_wp2
 go_returns
 exact ⟨rfl,by repeat' (first|(with_reducible exact Below.refl _ _)|(with_reducible assumption)|(with_reducible refine Below.setCell ?_ ?_ _)|(with_reducible refine below_alloc ?_ _))⟩
theorem refLeft (h:RawV W D A0 A1 c0 c1 d) (hg:d.Good):Calls Try.prog 36 #[dkV A0 A1 c0 c1 d] W λe w'=>e = .returned (.int .i64 d.left)/\Below W.heap.size W w':=by
 refine r06_Left.calls A0 c0 d.b0 d.s0 A1 c1 d.b1 d.s1 d.room d.stop d.dead d.left W (Kd.F_now h.f0) h.l0 (Kd.F_now h.f1) h.l1 ?_
 show some _=some _
 congr 1
 have:=hg.l0;have:=hg.r1
 unfold Dk.left wrap64 at *
 omega
set_option maxHeartbeats 8000000 in
set_option maxRecDepth 100000 in
theorem refDo0_dead (h:RawV W D A0 A1 c0 c1 d) (hD:∀ k,D k->k<W.heap.size) (hg:d.Good) (i:Int) (A:Option Addr) (m c:Nat) (b:List Int) (hm:m=b.length) (hc:m<=c) (hA:Kd.F U8 W (λk=>¬ D k) A m b) (hd:d.dead=true) :
  Calls Try.prog 24 #[dkV A0 A1 c0 c1 d,.int .i64 0,.int .i64 i,.slice A m c] W λe w'=>∃ v,e = .returned (.tuple #[v,.int .i64 (d.act 0 i b).2])/\Is w' D v (d.act 0 i b).1/\Below W.heap.size W w':=by
 have ea:d.act 0 i b=(d,9):=by unfold Dk.act;rw [if_pos rfl];unfold Dk.app;rw [Dk.why_dead hd,if_pos (by decide)]
 rw [ea]
 clear ea
 obtain ⟨b0,s0,b1,s1,room,stop,dead⟩:=d
 obtain rfl:dead=true:=hd
 have H:=Aside0.mk h
 have HD:=Aside0.mk hD
 have HA:=Aside0.mk hA
 have HG:=Aside0.mk hg
 have HM:=Aside0.mk hm
 clear h hD hA hg hm
 go_enter Try.func24,Try.ntmps24
 go_wp2
 go_returns
 exact ⟨_,rfl,⟨_,_,_,_,rfl,H.out.step (Step.of_below (by repeat' (first|(with_reducible exact Below.refl _ _)|(with_reducible assumption)|(with_reducible refine Below.setCell ?_ ?_ _)|(with_reducible refine below_alloc ?_ _))))⟩,by repeat' (first|(with_reducible exact Below.refl _ _)|(with_reducible assumption)|(with_reducible refine Below.setCell ?_ ?_ _)|(with_reducible refine below_alloc ?_ _))⟩
set_option maxHeartbeats 8000000 in
set_option maxRecDepth 100000 in
theorem refDo1_dead (h:RawV W D A0 A1 c0 c1 d) (hD:∀ k,D k->k<W.heap.size) (hg:d.Good) (i:Int) (A:Option Addr) (m c:Nat) (b:List Int) (hm:m=b.length) (hc:m<=c) (hA:Kd.F U8 W (λk=>¬ D k) A m b) (hd:d.dead=true) :
  Calls Try.prog 24 #[dkV A0 A1 c0 c1 d,.int .i64 1,.int .i64 i,.slice A m c] W λe w'=>∃ v,e = .returned (.tuple #[v,.int .i64 (d.act 1 i b).2])/\Is w' D v (d.act 1 i b).1/\Below W.heap.size W w':=by
 have ea:d.act 1 i b=(d,9):=by unfold Dk.act;rw [if_neg (by decide),if_pos rfl];unfold Dk.clr;rw [Dk.why_dead hd,if_pos (by decide)]
 rw [ea]
 clear ea
 obtain ⟨b0,s0,b1,s1,room,stop,dead⟩:=d
 obtain rfl:dead=true:=hd
 have H:=Aside0.mk h
 have HD:=Aside0.mk hD
 have HA:=Aside0.mk hA
 have HG:=Aside0.mk hg
 have HM:=Aside0.mk hm
 clear h hD hA hg hm
 go_enter Try.func24,Try.ntmps24
 go_wp2
 go_returns
 exact ⟨_,rfl,⟨_,_,_,_,rfl,H.out.step (Step.of_below (by repeat' (first|(with_reducible exact Below.refl _ _)|(with_reducible assumption)|(with_reducible refine Below.setCell ?_ ?_ _)|(with_reducible refine below_alloc ?_ _))))⟩,by repeat' (first|(with_reducible exact Below.refl _ _)|(with_reducible assumption)|(with_reducible refine Below.setCell ?_ ?_ _)|(with_reducible refine below_alloc ?_ _))⟩
set_option maxHeartbeats 8000000 in
set_option maxRecDepth 100000 in
theorem refDo2_dead (h:RawV W D A0 A1 c0 c1 d) (hD:∀ k,D k->k<W.heap.size) (hg:d.Good) (i:Int) (A:Option Addr) (m c:Nat) (b:List Int) (hm:m=b.length) (hc:m<=c) (hA:Kd.F U8 W (λk=>¬ D k) A m b) (hd:d.dead=true) :
  Calls Try.prog 24 #[dkV A0 A1 c0 c1 d,.int .i64 2,.int .i64 i,.slice A m c] W λe w'=>∃ v,e = .returned (.tuple #[v,.int .i64 (d.act 2 i b).2])/\Is w' D v (d.act 2 i b).1/\Below W.heap.size W w':=by
 have ea:d.act 2 i b=(d,9):=by unfold Dk.act;rw [if_neg (by decide),if_neg (by decide)];unfold Dk.syn;rw [Dk.why_dead hd,if_pos (by decide)]
 rw [ea]
 clear ea
 obtain ⟨b0,s0,b1,s1,room,stop,dead⟩:=d
 obtain rfl:dead=true:=hd
 have H:=Aside0.mk h
 have HD:=Aside0.mk hD
 have HA:=Aside0.mk hA
 have HG:=Aside0.mk hg
 have HM:=Aside0.mk hm
 clear h hD hA hg hm
 go_enter Try.func24,Try.ntmps24
 go_wp2
 go_returns
 exact ⟨_,rfl,⟨_,_,_,_,rfl,H.out.step (Step.of_below (by repeat' (first|(with_reducible exact Below.refl _ _)|(with_reducible assumption)|(with_reducible refine Below.setCell ?_ ?_ _)|(with_reducible refine below_alloc ?_ _))))⟩,by repeat' (first|(with_reducible exact Below.refl _ _)|(with_reducible assumption)|(with_reducible refine Below.setCell ?_ ?_ _)|(with_reducible refine below_alloc ?_ _))⟩
set_option maxHeartbeats 8000000 in
set_option maxRecDepth 100000 in
theorem refDo1_out (h:RawV W D A0 A1 c0 c1 d) (hD:∀ k,D k->k<W.heap.size) (hg:d.Good) (i:Int) (A:Option Addr) (m c:Nat) (b:List Int) (hm:m=b.length) (hc:m<=c) (hA:Kd.F U8 W (λk=>¬ D k) A m b) (hd:d.dead=false) (hi:i<0\/2<=i) :
  Calls Try.prog 24 #[dkV A0 A1 c0 c1 d,.int .i64 1,.int .i64 i,.slice A m c] W λe w'=>∃ v,e = .returned (.tuple #[v,.int .i64 (d.act 1 i b).2])/\Is w' D v (d.act 1 i b).1/\Below W.heap.size W w':=by
 have ea:d.act 1 i b=(d,1):=by unfold Dk.act;rw [if_neg (by decide),if_pos rfl];unfold Dk.clr;rw [Dk.why_out hd hi,if_pos (by decide)]
 rw [ea]
 clear ea
 obtain ⟨b0,s0,b1,s1,room,stop,dead⟩:=d
 obtain rfl:dead=false:=hd
 have z0:(i != 0)=true:=by simp;omega
 have z1:(i != 1)=true:=by simp;omega
 clear hi
 have H:=Aside0.mk h
 have HD:=Aside0.mk hD
 have HA:=Aside0.mk hA
 have HG:=Aside0.mk hg
 have HM:=Aside0.mk hm
 clear h hD hA hg hm
 go_enter Try.func24,Try.ntmps24
 go_wp2
 go_returns
 exact ⟨_,rfl,⟨_,_,_,_,rfl,H.out.step (Step.of_below (by repeat' (first|(with_reducible exact Below.refl _ _)|(with_reducible assumption)|(with_reducible refine Below.setCell ?_ ?_ _)|(with_reducible refine below_alloc ?_ _))))⟩,by repeat' (first|(with_reducible exact Below.refl _ _)|(with_reducible assumption)|(with_reducible refine Below.setCell ?_ ?_ _)|(with_reducible refine below_alloc ?_ _))⟩
set_option maxHeartbeats 8000000 in
set_option maxRecDepth 100000 in
theorem refDo1_0_die (h:RawV W D A0 A1 c0 c1 d) (hD:∀ k,D k->k<W.heap.size) (hg:d.Good) (i:Int) (A:Option Addr) (m c:Nat) (b:List Int) (hm:m=b.length) (hc:m<=c) (hA:Kd.F U8 W (λk=>¬ D k) A m b) (hd:d.dead=false) (hi:i=0) (hs:d.stop=0) :
  Calls Try.prog 24 #[dkV A0 A1 c0 c1 d,.int .i64 1,.int .i64 i,.slice A m c] W λe w'=>∃ v,e = .returned (.tuple #[v,.int .i64 (d.act 1 i b).2])/\Is w' D v (d.act 1 i b).1/\Below W.heap.size W w':=by
 have ea:d.act 1 i b=(d.die,9):=by unfold Dk.act;rw [if_neg (by decide),if_pos rfl];unfold Dk.clr;rw [Dk.why_ok hd (by omega),if_neg (by decide)];unfold Dk.did;rw [if_pos hs]
 rw [ea]
 clear ea
 obtain ⟨b0,s0,b1,s1,room,stop,dead⟩:=d
 obtain rfl:dead=false:=hd
 obtain rfl:stop=0:=hs
 subst hi
 have H:=Aside0.mk h
 have HD:=Aside0.mk hD
 have HA:=Aside0.mk hA
 have HG:=Aside0.mk hg
 have HM:=Aside0.mk hm
 clear h hD hA hg hm
 go_enter Try.func24,Try.ntmps24
 go_wp2
 go_returns
 exact ⟨_,rfl,⟨_,_,_,_,rfl,(show RawV W D A0 A1 c0 c1 ⟨b0,s0,b1,s1,room,0,true⟩ from ⟨H.out.l0,H.out.f0,H.out.l1,H.out.f1⟩).step (Step.of_below (by repeat' (first|(with_reducible exact Below.refl _ _)|(with_reducible assumption)|(with_reducible refine Below.setCell ?_ ?_ _)|(with_reducible refine below_alloc ?_ _))))⟩,by repeat' (first|(with_reducible exact Below.refl _ _)|(with_reducible assumption)|(with_reducible refine Below.setCell ?_ ?_ _)|(with_reducible refine below_alloc ?_ _))⟩
set_option maxHeartbeats 8000000 in
set_option maxRecDepth 100000 in
theorem refDo1_0_0 (h:RawV W D A0 A1 c0 c1 d) (hD:∀ k,D k->k<W.heap.size) (hg:d.Good) (i:Int) (A:Option Addr) (m c:Nat) (b:List Int) (hm:m=b.length) (hc:m<=c) (hA:Kd.F U8 W (λk=>¬ D k) A m b) (hd:d.dead=false) (hi:i=0) (hs:d.stop≠0) (hp:¬ 0<d.stop) :
  Calls Try.prog 24 #[dkV A0 A1 c0 c1 d,.int .i64 1,.int .i64 i,.slice A m c] W λe w'=>∃ v,e = .returned (.tuple #[v,.int .i64 (d.act 1 i b).2])/\Is w' D v (d.act 1 i b).1/\Below W.heap.size W w':=by
 have ea:d.act 1 i b=(d.tick.put 0 [] 0,0):=by unfold Dk.act;rw [if_neg (by decide),if_pos rfl];unfold Dk.clr;rw [Dk.why_ok hd (by omega),if_neg (by decide)];unfold Dk.did;rw [if_neg hs,hi]
 rw [ea]
 clear ea
 obtain ⟨b0,s0,b1,s1,room,stop,dead⟩:=d
 obtain rfl:dead=false:=hd
 have z0:(stop == 0)=false:=beq_eq_false_iff_ne.2 hs
 have p1:decide (stop > 0)=false:=decide_eq_false hp
 have p2:decide (0<stop)=false:=decide_eq_false hp
 rw [Dk.tick_neg hp]
 subst hi
 clear hs hp
 have H:=Aside0.mk h
 have HD:=Aside0.mk hD
 have HA:=Aside0.mk hA
 have HG:=Aside0.mk hg
 have HM:=Aside0.mk hm
 clear h hD hA hg hm
 go_enter Try.func24,Try.ntmps24
 go_upto_region 12 with (fail)
 have hb:Below W.heap.size W ((W.alloc (.cells #[.slice A0 b0.length c0,.int .i64 s0,.slice A1 b1.length c1,.int .i64 s1,.int .i64 room,.int .i64 (stop),.bool false] 43)).alloc (.cells #[.slice none 0 0,.int .i64 0,.slice none 0 0,.int .i64 0,.int .i64 0,.int .i64 0,.bool false] 43)):=below_alloc (below_alloc (Below.refl _ _) _) _
 have x4:((W.alloc (.cells #[.slice A0 b0.length c0,.int .i64 s0,.slice A1 b1.length c1,.int .i64 s1,.int .i64 room,.int .i64 (stop),.bool false] 43)).alloc (.cells #[.slice none 0 0,.int .i64 0,.slice none 0 0,.int .i64 0,.int .i64 0,.int .i64 0,.bool false] 43)).heap[W.heap.size]? = some (.cells #[.slice A0 b0.length c0,.int .i64 s0,.slice A1 b1.length c1,.int .i64 s1,.int .i64 room,.int .i64 (stop),.bool false] 43 (0,0)):=blk_below (heap_alloc_new W _) (below_alloc (Below.refl _ _) _)
 have x8:((W.alloc (.cells #[.slice A0 b0.length c0,.int .i64 s0,.slice A1 b1.length c1,.int .i64 s1,.int .i64 room,.int .i64 (stop),.bool false] 43)).alloc (.cells #[.slice none 0 0,.int .i64 0,.slice none 0 0,.int .i64 0,.int .i64 0,.int .i64 0,.bool false] 43)).heap[W.heap.size+1]? = some (.cells #[.slice none 0 0,.int .i64 0,.slice none 0 0,.int .i64 0,.int .i64 0,.int .i64 0,.bool false] 43 (0,0)):=by have h_:=heap_alloc_new (W.alloc (.cells #[.slice A0 b0.length c0,.int .i64 s0,.slice A1 b1.length c1,.int .i64 s1,.int .i64 room,.int .i64 (stop),.bool false] 43)) (.cells #[.slice none 0 0,.int .i64 0,.slice none 0 0,.int .i64 0,.int .i64 0,.int .i64 0,.bool false] 43);rwa [show(W.alloc (.cells #[.slice A0 b0.length c0,.int .i64 s0,.slice A1 b1.length c1,.int .i64 s1,.int .i64 room,.int .i64 (stop),.bool false] 43)).heap.size=W.heap.size+1 by simp] at h_
 have HB:=Aside0.mk hb
 have X4:=Aside0.mk x4
 have X8:=Aside0.mk x8
 clear hb x4 x8
 generalize (W.alloc (.cells #[.slice A0 b0.length c0,.int .i64 s0,.slice A1 b1.length c1,.int .i64 s1,.int .i64 room,.int .i64 (stop),.bool false] 43)).alloc (.cells #[.slice none 0 0,.int .i64 0,.slice none 0 0,.int .i64 0,.int .i64 0,.int .i64 0,.bool false] 43)=w3 at HB X4 X8 ⊢
 have k0:=(blk_cell X4.out 0).trans (rfl:_=some (Value.slice A0 b0.length c0))
 have k1:=(blk_cell X4.out 1).trans (rfl:_=some (Value.int .i64 s0))
 have k2:=(blk_cell X4.out 2).trans (rfl:_=some (Value.slice A1 b1.length c1))
 have k3:=(blk_cell X4.out 3).trans (rfl:_=some (Value.int .i64 s1))
 have k4:=(blk_cell X4.out 4).trans (rfl:_=some (Value.int .i64 room))
 have k5:=(blk_cell X4.out 5).trans (rfl:_=some (Value.int .i64 (stop)))
 have k6:=(blk_cell X4.out 6).trans (rfl:_=some (Value.bool false))
 go_upto_region 20 with (first|(go_at_call 25;(with_reducible refine Calls.mono (refGet_zero w3 A0 A1 c0 c1 (⟨b0,s0,b1,s1,room,stop,false⟩:Dk)) ?_);rintro e w4 ⟨rfl,hb⟩;clear k0 k1 k2 k3 k4 k5 k6;have x4:=blk_below X4.out hb;have x8:=blk_below X8.out hb;have hb2:=below_step HB.out hb;clear X4 X8 HB;have X4:=Aside0.mk x4;have X8:=Aside0.mk x8;have HB:=Aside0.mk hb2;clear x4 x8 hb2 hb))
 have hb:=below_alloc (Below.refl w4.heap.size w4) (.cells #[.slice none 0 0,.int .i64 0] 41)
 have X10:=Aside0.mk (heap_alloc_new w4 (.cells #[.slice none 0 0,.int .i64 0] 41))
 have x4:=blk_below X4.out hb
 have x8:=blk_below X8.out hb
 have hb2:=below_step HB.out hb
 clear X4 X8 HB
 have X4:=Aside0.mk x4
 have X8:=Aside0.mk x8
 have HB:=Aside0.mk hb2
 clear x4 x8 hb2 hb
 generalize w4.alloc (.cells #[.slice none 0 0,.int .i64 0] 41)=w5 at HB X4 X8 X10 ⊢
 have k0:=(blk_cell X4.out 0).trans (rfl:_=some (Value.slice A0 b0.length c0))
 have k1:=(blk_cell X4.out 1).trans (rfl:_=some (Value.int .i64 s0))
 have k2:=(blk_cell X4.out 2).trans (rfl:_=some (Value.slice A1 b1.length c1))
 have k3:=(blk_cell X4.out 3).trans (rfl:_=some (Value.int .i64 s1))
 have k4:=(blk_cell X4.out 4).trans (rfl:_=some (Value.int .i64 room))
 have k5:=(blk_cell X4.out 5).trans (rfl:_=some (Value.int .i64 (stop)))
 have k6:=(blk_cell X4.out 6).trans (rfl:_=some (Value.bool false))
 have j0:=(blk_cell X10.out 0).trans (rfl:_=some (Value.slice none 0 0))
 have j1:=(blk_cell X10.out 1).trans (rfl:_=some (Value.int .i64 0))
 have hS:Calls Try.prog 37 #[.agg #[.slice A0 b0.length c0,.int .i64 s0,.slice A1 b1.length c1,.int .i64 s1,.int .i64 room,.int .i64 (stop),.bool false],.int .i64 0,.agg #[.slice none 0 0,.int .i64 0]] w5 λe w'=>e = .returned (.agg #[Value.slice none 0 0,Value.int .i64 0,Value.slice A1 b1.length c1,Value.int .i64 s1,Value.int .i64 room,Value.int .i64 (stop),Value.bool false])/\Below w5.heap.size w5 w':=refSet_zero w5 A0 A1 c0 c1 (⟨b0,s0,b1,s1,room,stop,false⟩:Dk) none 0 ([]:List Int) (0)
 go_wp2_with (first|(go_at_call 37;(with_reducible refine Calls.mono hS ?_);rintro e w6 ⟨rfl,hb⟩;clear k0 k1 k2 k3 k4 k5 k6 j0 j1 X10;have x4:=blk_below X4.out hb;have x8:=blk_below X8.out hb;have hb2:=below_step HB.out hb;clear X4 X8 HB;have X4:=Aside0.mk x4;have X8:=Aside0.mk x8;have HB:=Aside0.mk hb2;clear x4 x8 hb2 hb;have z0:=(blk_cell X8.out 0).trans (rfl:_=some (Value.slice none 0 0));have z1:=(blk_cell X8.out 1).trans (rfl:_=some (Value.int .i64 0));have z2:=(blk_cell X8.out 2).trans (rfl:_=some (Value.slice none 0 0));have z3:=(blk_cell X8.out 3).trans (rfl:_=some (Value.int .i64 0));have z4:=(blk_cell X8.out 4).trans (rfl:_=some (Value.int .i64 0));have z5:=(blk_cell X8.out 5).trans (rfl:_=some (Value.int .i64 0));have z6:=(blk_cell X8.out 6).trans (rfl:_=some (Value.bool false));have f0:=blk_frozen X8.out 0;have f1:=blk_frozen X8.out 1;have f2:=blk_frozen X8.out 2;have f3:=blk_frozen X8.out 3;have f4:=blk_frozen X8.out 4;have f5:=blk_frozen X8.out 5;have f6:=blk_frozen X8.out 6)|((with_reducible refine store_event (t:=43) (p:=8) rfl rfl rfl (w1:=(((((((w6.setCell ⟨W.heap.size+1,0,none⟩ (Value.slice none 0 0)).setCell ⟨W.heap.size+1,1,none⟩ (Value.int .i64 0)).setCell ⟨W.heap.size+1,2,none⟩ (Value.slice A1 b1.length c1)).setCell ⟨W.heap.size+1,3,none⟩ (Value.int .i64 s1)).setCell ⟨W.heap.size+1,4,none⟩ (Value.int .i64 room)).setCell ⟨W.heap.size+1,5,none⟩ (Value.int .i64 (stop))).setCell ⟨W.heap.size+1,6,none⟩ (Value.bool false))) ?hrun ?_);(case hrun=>first|(go_simp;done)|(go_simp;rfl));intro w7 hw7;have Y8:=Aside0.mk (show w7.heap[W.heap.size+1]? = some (.cells #[Value.slice none 0 0,Value.int .i64 0,Value.slice A1 b1.length c1,Value.int .i64 s1,Value.int .i64 room,Value.int .i64 (stop),Value.bool false] 43 (0,0)) by rw [hw7];exact(blk_put ((blk_put ((blk_put ((blk_put ((blk_put ((blk_put ((blk_put (X8.out) 0 (Value.slice none 0 0) rfl)) 1 (Value.int .i64 0) rfl)) 2 (Value.slice A1 b1.length c1) rfl)) 3 (Value.int .i64 s1) rfl)) 4 (Value.int .i64 room) rfl)) 5 (Value.int .i64 (stop)) rfl)) 6 (Value.bool false) rfl));have HB7:=Aside0.mk (show Below W.heap.size W w7 by rw [hw7];exact(below_set ((below_set ((below_set ((below_set ((below_set ((below_set ((below_set (HB.out) (Nat.le_succ _))) (Nat.le_succ _))) (Nat.le_succ _))) (Nat.le_succ _))) (Nat.le_succ _))) (Nat.le_succ _))) (Nat.le_succ _)));clear hw7 z0 z1 z2 z3 z4 z5 z6 f0 f1 f2 f3 f4 f5 f6;have r0:=(blk_cell Y8.out 0).trans (rfl:_=some (Value.slice none 0 0));have r1:=(blk_cell Y8.out 1).trans (rfl:_=some (Value.int .i64 0));have r2:=(blk_cell Y8.out 2).trans (rfl:_=some (Value.slice A1 b1.length c1));have r3:=(blk_cell Y8.out 3).trans (rfl:_=some (Value.int .i64 s1));have r4:=(blk_cell Y8.out 4).trans (rfl:_=some (Value.int .i64 room));have r5:=(blk_cell Y8.out 5).trans (rfl:_=some (Value.int .i64 (stop)));have r6:=(blk_cell Y8.out 6).trans (rfl:_=some (Value.bool false))))
 refine bodyPost_ret (v:=.tuple #[.agg #[Value.slice none 0 0,Value.int .i64 0,Value.slice A1 b1.length c1,Value.int .i64 s1,Value.int .i64 room,Value.int .i64 (stop),Value.bool false],.int .i64 0]) ?hres rfl ?_
 case hres =>
  simp only [results,r0,r1,r2,r3,r4,r5,r6]
  first|rfl|(simp [r0,r1,r2,r3,r4,r5,r6];done)|(go_simp;done)|(go_simp;rfl)
 have hbF:=HB7.out
 have q:=H.out.step (Step.of_below (D:=D) hbF)
 exact ⟨_,rfl,⟨_,_,_,_,rfl,⟨Nat.le_refl _,Kd.F_nil _ _ _,q.l1,q.f1⟩⟩,hbF⟩
set_option maxHeartbeats 8000000 in
set_option maxRecDepth 100000 in
theorem refDo1_0_1 (h:RawV W D A0 A1 c0 c1 d) (hD:∀ k,D k->k<W.heap.size) (hg:d.Good) (i:Int) (A:Option Addr) (m c:Nat) (b:List Int) (hm:m=b.length) (hc:m<=c) (hA:Kd.F U8 W (λk=>¬ D k) A m b) (hd:d.dead=false) (hi:i=0) (hs:d.stop≠0) (hp:0<d.stop) :
  Calls Try.prog 24 #[dkV A0 A1 c0 c1 d,.int .i64 1,.int .i64 i,.slice A m c] W λe w'=>∃ v,e = .returned (.tuple #[v,.int .i64 (d.act 1 i b).2])/\Is w' D v (d.act 1 i b).1/\Below W.heap.size W w':=by
 have ea:d.act 1 i b=(d.tick.put 0 [] 0,0):=by unfold Dk.act;rw [if_neg (by decide),if_pos rfl];unfold Dk.clr;rw [Dk.why_ok hd (by omega),if_neg (by decide)];unfold Dk.did;rw [if_neg hs,hi]
 rw [ea]
 clear ea
 obtain ⟨b0,s0,b1,s1,room,stop,dead⟩:=d
 obtain rfl:dead=false:=hd
 have z0:(stop == 0)=false:=beq_eq_false_iff_ne.2 hs
 have p1:decide (stop > 0)=true:=decide_eq_true hp
 have p2:decide (0<stop)=true:=decide_eq_true hp
 rw [Dk.tick_pos hp]
 subst hi
 clear hs hp
 have H:=Aside0.mk h
 have HD:=Aside0.mk hD
 have HA:=Aside0.mk hA
 have HG:=Aside0.mk hg
 have HM:=Aside0.mk hm
 clear h hD hA hg hm
 go_enter Try.func24,Try.ntmps24
 go_upto_region 12 with (fail)
 have hb:Below W.heap.size W ((W.alloc (.cells #[.slice A0 b0.length c0,.int .i64 s0,.slice A1 b1.length c1,.int .i64 s1,.int .i64 room,.int .i64 (wrap64 (stop - 1)),.bool false] 43)).alloc (.cells #[.slice none 0 0,.int .i64 0,.slice none 0 0,.int .i64 0,.int .i64 0,.int .i64 0,.bool false] 43)):=below_alloc (below_alloc (Below.refl _ _) _) _
 have x4:((W.alloc (.cells #[.slice A0 b0.length c0,.int .i64 s0,.slice A1 b1.length c1,.int .i64 s1,.int .i64 room,.int .i64 (wrap64 (stop - 1)),.bool false] 43)).alloc (.cells #[.slice none 0 0,.int .i64 0,.slice none 0 0,.int .i64 0,.int .i64 0,.int .i64 0,.bool false] 43)).heap[W.heap.size]? = some (.cells #[.slice A0 b0.length c0,.int .i64 s0,.slice A1 b1.length c1,.int .i64 s1,.int .i64 room,.int .i64 (wrap64 (stop - 1)),.bool false] 43 (0,0)):=blk_below (heap_alloc_new W _) (below_alloc (Below.refl _ _) _)
 have x8:((W.alloc (.cells #[.slice A0 b0.length c0,.int .i64 s0,.slice A1 b1.length c1,.int .i64 s1,.int .i64 room,.int .i64 (wrap64 (stop - 1)),.bool false] 43)).alloc (.cells #[.slice none 0 0,.int .i64 0,.slice none 0 0,.int .i64 0,.int .i64 0,.int .i64 0,.bool false] 43)).heap[W.heap.size+1]? = some (.cells #[.slice none 0 0,.int .i64 0,.slice none 0 0,.int .i64 0,.int .i64 0,.int .i64 0,.bool false] 43 (0,0)):=by have h_:=heap_alloc_new (W.alloc (.cells #[.slice A0 b0.length c0,.int .i64 s0,.slice A1 b1.length c1,.int .i64 s1,.int .i64 room,.int .i64 (wrap64 (stop - 1)),.bool false] 43)) (.cells #[.slice none 0 0,.int .i64 0,.slice none 0 0,.int .i64 0,.int .i64 0,.int .i64 0,.bool false] 43);rwa [show(W.alloc (.cells #[.slice A0 b0.length c0,.int .i64 s0,.slice A1 b1.length c1,.int .i64 s1,.int .i64 room,.int .i64 (wrap64 (stop - 1)),.bool false] 43)).heap.size=W.heap.size+1 by simp] at h_
 have HB:=Aside0.mk hb
 have X4:=Aside0.mk x4
 have X8:=Aside0.mk x8
 clear hb x4 x8
 generalize (W.alloc (.cells #[.slice A0 b0.length c0,.int .i64 s0,.slice A1 b1.length c1,.int .i64 s1,.int .i64 room,.int .i64 (wrap64 (stop - 1)),.bool false] 43)).alloc (.cells #[.slice none 0 0,.int .i64 0,.slice none 0 0,.int .i64 0,.int .i64 0,.int .i64 0,.bool false] 43)=w3 at HB X4 X8 ⊢
 have k0:=(blk_cell X4.out 0).trans (rfl:_=some (Value.slice A0 b0.length c0))
 have k1:=(blk_cell X4.out 1).trans (rfl:_=some (Value.int .i64 s0))
 have k2:=(blk_cell X4.out 2).trans (rfl:_=some (Value.slice A1 b1.length c1))
 have k3:=(blk_cell X4.out 3).trans (rfl:_=some (Value.int .i64 s1))
 have k4:=(blk_cell X4.out 4).trans (rfl:_=some (Value.int .i64 room))
 have k5:=(blk_cell X4.out 5).trans (rfl:_=some (Value.int .i64 (wrap64 (stop - 1))))
 have k6:=(blk_cell X4.out 6).trans (rfl:_=some (Value.bool false))
 go_upto_region 20 with (first|(go_at_call 25;(with_reducible refine Calls.mono (refGet_zero w3 A0 A1 c0 c1 (⟨b0,s0,b1,s1,room,wrap64 (stop - 1),false⟩:Dk)) ?_);rintro e w4 ⟨rfl,hb⟩;clear k0 k1 k2 k3 k4 k5 k6;have x4:=blk_below X4.out hb;have x8:=blk_below X8.out hb;have hb2:=below_step HB.out hb;clear X4 X8 HB;have X4:=Aside0.mk x4;have X8:=Aside0.mk x8;have HB:=Aside0.mk hb2;clear x4 x8 hb2 hb))
 have hb:=below_alloc (Below.refl w4.heap.size w4) (.cells #[.slice none 0 0,.int .i64 0] 41)
 have X10:=Aside0.mk (heap_alloc_new w4 (.cells #[.slice none 0 0,.int .i64 0] 41))
 have x4:=blk_below X4.out hb
 have x8:=blk_below X8.out hb
 have hb2:=below_step HB.out hb
 clear X4 X8 HB
 have X4:=Aside0.mk x4
 have X8:=Aside0.mk x8
 have HB:=Aside0.mk hb2
 clear x4 x8 hb2 hb
 generalize w4.alloc (.cells #[.slice none 0 0,.int .i64 0] 41)=w5 at HB X4 X8 X10 ⊢
 have k0:=(blk_cell X4.out 0).trans (rfl:_=some (Value.slice A0 b0.length c0))
 have k1:=(blk_cell X4.out 1).trans (rfl:_=some (Value.int .i64 s0))
 have k2:=(blk_cell X4.out 2).trans (rfl:_=some (Value.slice A1 b1.length c1))
 have k3:=(blk_cell X4.out 3).trans (rfl:_=some (Value.int .i64 s1))
 have k4:=(blk_cell X4.out 4).trans (rfl:_=some (Value.int .i64 room))
 have k5:=(blk_cell X4.out 5).trans (rfl:_=some (Value.int .i64 (wrap64 (stop - 1))))
 have k6:=(blk_cell X4.out 6).trans (rfl:_=some (Value.bool false))
 have j0:=(blk_cell X10.out 0).trans (rfl:_=some (Value.slice none 0 0))
 have j1:=(blk_cell X10.out 1).trans (rfl:_=some (Value.int .i64 0))
 have hS:Calls Try.prog 37 #[.agg #[.slice A0 b0.length c0,.int .i64 s0,.slice A1 b1.length c1,.int .i64 s1,.int .i64 room,.int .i64 (wrap64 (stop - 1)),.bool false],.int .i64 0,.agg #[.slice none 0 0,.int .i64 0]] w5 λe w'=>e = .returned (.agg #[Value.slice none 0 0,Value.int .i64 0,Value.slice A1 b1.length c1,Value.int .i64 s1,Value.int .i64 room,Value.int .i64 (wrap64 (stop - 1)),Value.bool false])/\Below w5.heap.size w5 w':=refSet_zero w5 A0 A1 c0 c1 (⟨b0,s0,b1,s1,room,wrap64 (stop - 1),false⟩:Dk) none 0 ([]:List Int) (0)
 go_wp2_with (first|(go_at_call 37;(with_reducible refine Calls.mono hS ?_);rintro e w6 ⟨rfl,hb⟩;clear k0 k1 k2 k3 k4 k5 k6 j0 j1 X10;have x4:=blk_below X4.out hb;have x8:=blk_below X8.out hb;have hb2:=below_step HB.out hb;clear X4 X8 HB;have X4:=Aside0.mk x4;have X8:=Aside0.mk x8;have HB:=Aside0.mk hb2;clear x4 x8 hb2 hb;have z0:=(blk_cell X8.out 0).trans (rfl:_=some (Value.slice none 0 0));have z1:=(blk_cell X8.out 1).trans (rfl:_=some (Value.int .i64 0));have z2:=(blk_cell X8.out 2).trans (rfl:_=some (Value.slice none 0 0));have z3:=(blk_cell X8.out 3).trans (rfl:_=some (Value.int .i64 0));have z4:=(blk_cell X8.out 4).trans (rfl:_=some (Value.int .i64 0));have z5:=(blk_cell X8.out 5).trans (rfl:_=some (Value.int .i64 0));have z6:=(blk_cell X8.out 6).trans (rfl:_=some (Value.bool false));have f0:=blk_frozen X8.out 0;have f1:=blk_frozen X8.out 1;have f2:=blk_frozen X8.out 2;have f3:=blk_frozen X8.out 3;have f4:=blk_frozen X8.out 4;have f5:=blk_frozen X8.out 5;have f6:=blk_frozen X8.out 6)|((with_reducible refine store_event (t:=43) (p:=8) rfl rfl rfl (w1:=(((((((w6.setCell ⟨W.heap.size+1,0,none⟩ (Value.slice none 0 0)).setCell ⟨W.heap.size+1,1,none⟩ (Value.int .i64 0)).setCell ⟨W.heap.size+1,2,none⟩ (Value.slice A1 b1.length c1)).setCell ⟨W.heap.size+1,3,none⟩ (Value.int .i64 s1)).setCell ⟨W.heap.size+1,4,none⟩ (Value.int .i64 room)).setCell ⟨W.heap.size+1,5,none⟩ (Value.int .i64 (wrap64 (stop - 1)))).setCell ⟨W.heap.size+1,6,none⟩ (Value.bool false))) ?hrun ?_);(case hrun=>first|(go_simp;done)|(go_simp;rfl));intro w7 hw7;have Y8:=Aside0.mk (show w7.heap[W.heap.size+1]? = some (.cells #[Value.slice none 0 0,Value.int .i64 0,Value.slice A1 b1.length c1,Value.int .i64 s1,Value.int .i64 room,Value.int .i64 (wrap64 (stop - 1)),Value.bool false] 43 (0,0)) by rw [hw7];exact(blk_put ((blk_put ((blk_put ((blk_put ((blk_put ((blk_put ((blk_put (X8.out) 0 (Value.slice none 0 0) rfl)) 1 (Value.int .i64 0) rfl)) 2 (Value.slice A1 b1.length c1) rfl)) 3 (Value.int .i64 s1) rfl)) 4 (Value.int .i64 room) rfl)) 5 (Value.int .i64 (wrap64 (stop - 1))) rfl)) 6 (Value.bool false) rfl));have HB7:=Aside0.mk (show Below W.heap.size W w7 by rw [hw7];exact(below_set ((below_set ((below_set ((below_set ((below_set ((below_set ((below_set (HB.out) (Nat.le_succ _))) (Nat.le_succ _))) (Nat.le_succ _))) (Nat.le_succ _))) (Nat.le_succ _))) (Nat.le_succ _))) (Nat.le_succ _)));clear hw7 z0 z1 z2 z3 z4 z5 z6 f0 f1 f2 f3 f4 f5 f6;have r0:=(blk_cell Y8.out 0).trans (rfl:_=some (Value.slice none 0 0));have r1:=(blk_cell Y8.out 1).trans (rfl:_=some (Value.int .i64 0));have r2:=(blk_cell Y8.out 2).trans (rfl:_=some (Value.slice A1 b1.length c1));have r3:=(blk_cell Y8.out 3).trans (rfl:_=some (Value.int .i64 s1));have r4:=(blk_cell Y8.out 4).trans (rfl:_=some (Value.int .i64 room));have r5:=(blk_cell Y8.out 5).trans (rfl:_=some (Value.int .i64 (wrap64 (stop - 1))));have r6:=(blk_cell Y8.out 6).trans (rfl:_=some (Value.bool false))))
 refine bodyPost_ret (v:=.tuple #[.agg #[Value.slice none 0 0,Value.int .i64 0,Value.slice A1 b1.length c1,Value.int .i64 s1,Value.int .i64 room,Value.int .i64 (wrap64 (stop - 1)),Value.bool false],.int .i64 0]) ?hres rfl ?_
 case hres =>
  simp only [results,r0,r1,r2,r3,r4,r5,r6]
  first|rfl|(simp [r0,r1,r2,r3,r4,r5,r6];done)|(go_simp;done)|(go_simp;rfl)
 have hbF:=HB7.out
 have q:=H.out.step (Step.of_below (D:=D) hbF)
 exact ⟨_,rfl,⟨_,_,_,_,rfl,⟨Nat.le_refl _,Kd.F_nil _ _ _,q.l1,q.f1⟩⟩,hbF⟩
set_option maxHeartbeats 8000000 in
set_option maxRecDepth 100000 in
theorem refDo1_1_die (h:RawV W D A0 A1 c0 c1 d) (hD:∀ k,D k->k<W.heap.size) (hg:d.Good) (i:Int) (A:Option Addr) (m c:Nat) (b:List Int) (hm:m=b.length) (hc:m<=c) (hA:Kd.F U8 W (λk=>¬ D k) A m b) (hd:d.dead=false) (hi:i=1) (hs:d.stop=0) :
  Calls Try.prog 24 #[dkV A0 A1 c0 c1 d,.int .i64 1,.int .i64 i,.slice A m c] W λe w'=>∃ v,e = .returned (.tuple #[v,.int .i64 (d.act 1 i b).2])/\Is w' D v (d.act 1 i b).1/\Below W.heap.size W w':=by
 have ea:d.act 1 i b=(d.die,9):=by unfold Dk.act;rw [if_neg (by decide),if_pos rfl];unfold Dk.clr;rw [Dk.why_ok hd (by omega),if_neg (by decide)];unfold Dk.did;rw [if_pos hs]
 rw [ea]
 clear ea
 obtain ⟨b0,s0,b1,s1,room,stop,dead⟩:=d
 obtain rfl:dead=false:=hd
 obtain rfl:stop=0:=hs
 subst hi
 have H:=Aside0.mk h
 have HD:=Aside0.mk hD
 have HA:=Aside0.mk hA
 have HG:=Aside0.mk hg
 have HM:=Aside0.mk hm
 clear h hD hA hg hm
 go_enter Try.func24,Try.ntmps24
 go_wp2
 go_returns
 exact ⟨_,rfl,⟨_,_,_,_,rfl,(show RawV W D A0 A1 c0 c1 ⟨b0,s0,b1,s1,room,0,true⟩ from ⟨H.out.l0,H.out.f0,H.out.l1,H.out.f1⟩).step (Step.of_below (by repeat' (first|(with_reducible exact Below.refl _ _)|(with_reducible assumption)|(with_reducible refine Below.setCell ?_ ?_ _)|(with_reducible refine below_alloc ?_ _))))⟩,by repeat' (first|(with_reducible exact Below.refl _ _)|(with_reducible assumption)|(with_reducible refine Below.setCell ?_ ?_ _)|(with_reducible refine below_alloc ?_ _))⟩
set_option maxHeartbeats 8000000 in
set_option maxRecDepth 100000 in
theorem refDo1_1_0 (h:RawV W D A0 A1 c0 c1 d) (hD:∀ k,D k->k<W.heap.size) (hg:d.Good) (i:Int) (A:Option Addr) (m c:Nat) (b:List Int) (hm:m=b.length) (hc:m<=c) (hA:Kd.F U8 W (λk=>¬ D k) A m b) (hd:d.dead=false) (hi:i=1) (hs:d.stop≠0) (hp:¬ 0<d.stop) :
  Calls Try.prog 24 #[dkV A0 A1 c0 c1 d,.int .i64 1,.int .i64 i,.slice A m c] W λe w'=>∃ v,e = .returned (.tuple #[v,.int .i64 (d.act 1 i b).2])/\Is w' D v (d.act 1 i b).1/\Below W.heap.size W w':=by
 have ea:d.act 1 i b=(d.tick.put 1 [] 0,0):=by unfold Dk.act;rw [if_neg (by decide),if_pos rfl];unfold Dk.clr;rw [Dk.why_ok hd (by omega),if_neg (by decide)];unfold Dk.did;rw [if_neg hs,hi]
 rw [ea]
 clear ea
 obtain ⟨b0,s0,b1,s1,room,stop,dead⟩:=d
 obtain rfl:dead=false:=hd
 have z0:(stop == 0)=false:=beq_eq_false_iff_ne.2 hs
 have p1:decide (stop > 0)=false:=decide_eq_false hp
 have p2:decide (0<stop)=false:=decide_eq_false hp
 rw [Dk.tick_neg hp]
 subst hi
 clear hs hp
 have H:=Aside0.mk h
 have HD:=Aside0.mk hD
 have HA:=Aside0.mk hA
 have HG:=Aside0.mk hg
 have HM:=Aside0.mk hm
 clear h hD hA hg hm
 go_enter Try.func24,Try.ntmps24
 go_upto_region 12 with (fail)
 have hb:Below W.heap.size W ((W.alloc (.cells #[.slice A0 b0.length c0,.int .i64 s0,.slice A1 b1.length c1,.int .i64 s1,.int .i64 room,.int .i64 (stop),.bool false] 43)).alloc (.cells #[.slice none 0 0,.int .i64 0,.slice none 0 0,.int .i64 0,.int .i64 0,.int .i64 0,.bool false] 43)):=below_alloc (below_alloc (Below.refl _ _) _) _
 have x4:((W.alloc (.cells #[.slice A0 b0.length c0,.int .i64 s0,.slice A1 b1.length c1,.int .i64 s1,.int .i64 room,.int .i64 (stop),.bool false] 43)).alloc (.cells #[.slice none 0 0,.int .i64 0,.slice none 0 0,.int .i64 0,.int .i64 0,.int .i64 0,.bool false] 43)).heap[W.heap.size]? = some (.cells #[.slice A0 b0.length c0,.int .i64 s0,.slice A1 b1.length c1,.int .i64 s1,.int .i64 room,.int .i64 (stop),.bool false] 43 (0,0)):=blk_below (heap_alloc_new W _) (below_alloc (Below.refl _ _) _)
 have x8:((W.alloc (.cells #[.slice A0 b0.length c0,.int .i64 s0,.slice A1 b1.length c1,.int .i64 s1,.int .i64 room,.int .i64 (stop),.bool false] 43)).alloc (.cells #[.slice none 0 0,.int .i64 0,.slice none 0 0,.int .i64 0,.int .i64 0,.int .i64 0,.bool false] 43)).heap[W.heap.size+1]? = some (.cells #[.slice none 0 0,.int .i64 0,.slice none 0 0,.int .i64 0,.int .i64 0,.int .i64 0,.bool false] 43 (0,0)):=by have h_:=heap_alloc_new (W.alloc (.cells #[.slice A0 b0.length c0,.int .i64 s0,.slice A1 b1.length c1,.int .i64 s1,.int .i64 room,.int .i64 (stop),.bool false] 43)) (.cells #[.slice none 0 0,.int .i64 0,.slice none 0 0,.int .i64 0,.int .i64 0,.int .i64 0,.bool false] 43);rwa [show(W.alloc (.cells #[.slice A0 b0.length c0,.int .i64 s0,.slice A1 b1.length c1,.int .i64 s1,.int .i64 room,.int .i64 (stop),.bool false] 43)).heap.size=W.heap.size+1 by simp] at h_
 have HB:=Aside0.mk hb
 have X4:=Aside0.mk x4
 have X8:=Aside0.mk x8
 clear hb x4 x8
 generalize (W.alloc (.cells #[.slice A0 b0.length c0,.int .i64 s0,.slice A1 b1.length c1,.int .i64 s1,.int .i64 room,.int .i64 (stop),.bool false] 43)).alloc (.cells #[.slice none 0 0,.int .i64 0,.slice none 0 0,.int .i64 0,.int .i64 0,.int .i64 0,.bool false] 43)=w3 at HB X4 X8 ⊢
 have k0:=(blk_cell X4.out 0).trans (rfl:_=some (Value.slice A0 b0.length c0))
 have k1:=(blk_cell X4.out 1).trans (rfl:_=some (Value.int .i64 s0))
 have k2:=(blk_cell X4.out 2).trans (rfl:_=some (Value.slice A1 b1.length c1))
 have k3:=(blk_cell X4.out 3).trans (rfl:_=some (Value.int .i64 s1))
 have k4:=(blk_cell X4.out 4).trans (rfl:_=some (Value.int .i64 room))
 have k5:=(blk_cell X4.out 5).trans (rfl:_=some (Value.int .i64 (stop)))
 have k6:=(blk_cell X4.out 6).trans (rfl:_=some (Value.bool false))
 go_upto_region 20 with (first|(go_at_call 25;(with_reducible refine Calls.mono (refGet_one w3 A0 A1 c0 c1 (⟨b0,s0,b1,s1,room,stop,false⟩:Dk)) ?_);rintro e w4 ⟨rfl,hb⟩;clear k0 k1 k2 k3 k4 k5 k6;have x4:=blk_below X4.out hb;have x8:=blk_below X8.out hb;have hb2:=below_step HB.out hb;clear X4 X8 HB;have X4:=Aside0.mk x4;have X8:=Aside0.mk x8;have HB:=Aside0.mk hb2;clear x4 x8 hb2 hb))
 have hb:=below_alloc (Below.refl w4.heap.size w4) (.cells #[.slice none 0 0,.int .i64 0] 41)
 have X10:=Aside0.mk (heap_alloc_new w4 (.cells #[.slice none 0 0,.int .i64 0] 41))
 have x4:=blk_below X4.out hb
 have x8:=blk_below X8.out hb
 have hb2:=below_step HB.out hb
 clear X4 X8 HB
 have X4:=Aside0.mk x4
 have X8:=Aside0.mk x8
 have HB:=Aside0.mk hb2
 clear x4 x8 hb2 hb
 generalize w4.alloc (.cells #[.slice none 0 0,.int .i64 0] 41)=w5 at HB X4 X8 X10 ⊢
 have k0:=(blk_cell X4.out 0).trans (rfl:_=some (Value.slice A0 b0.length c0))
 have k1:=(blk_cell X4.out 1).trans (rfl:_=some (Value.int .i64 s0))
 have k2:=(blk_cell X4.out 2).trans (rfl:_=some (Value.slice A1 b1.length c1))
 have k3:=(blk_cell X4.out 3).trans (rfl:_=some (Value.int .i64 s1))
 have k4:=(blk_cell X4.out 4).trans (rfl:_=some (Value.int .i64 room))
 have k5:=(blk_cell X4.out 5).trans (rfl:_=some (Value.int .i64 (stop)))
 have k6:=(blk_cell X4.out 6).trans (rfl:_=some (Value.bool false))
 have j0:=(blk_cell X10.out 0).trans (rfl:_=some (Value.slice none 0 0))
 have j1:=(blk_cell X10.out 1).trans (rfl:_=some (Value.int .i64 0))
 have hS:Calls Try.prog 37 #[.agg #[.slice A0 b0.length c0,.int .i64 s0,.slice A1 b1.length c1,.int .i64 s1,.int .i64 room,.int .i64 (stop),.bool false],.int .i64 1,.agg #[.slice none 0 0,.int .i64 0]] w5 λe w'=>e = .returned (.agg #[Value.slice A0 b0.length c0,Value.int .i64 s0,Value.slice none 0 0,Value.int .i64 0,Value.int .i64 room,Value.int .i64 (stop),Value.bool false])/\Below w5.heap.size w5 w':=refSet_one w5 A0 A1 c0 c1 (⟨b0,s0,b1,s1,room,stop,false⟩:Dk) none 0 ([]:List Int) (0)
 go_wp2_with (first|(go_at_call 37;(with_reducible refine Calls.mono hS ?_);rintro e w6 ⟨rfl,hb⟩;clear k0 k1 k2 k3 k4 k5 k6 j0 j1 X10;have x4:=blk_below X4.out hb;have x8:=blk_below X8.out hb;have hb2:=below_step HB.out hb;clear X4 X8 HB;have X4:=Aside0.mk x4;have X8:=Aside0.mk x8;have HB:=Aside0.mk hb2;clear x4 x8 hb2 hb;have z0:=(blk_cell X8.out 0).trans (rfl:_=some (Value.slice none 0 0));have z1:=(blk_cell X8.out 1).trans (rfl:_=some (Value.int .i64 0));have z2:=(blk_cell X8.out 2).trans (rfl:_=some (Value.slice none 0 0));have z3:=(blk_cell X8.out 3).trans (rfl:_=some (Value.int .i64 0));have z4:=(blk_cell X8.out 4).trans (rfl:_=some (Value.int .i64 0));have z5:=(blk_cell X8.out 5).trans (rfl:_=some (Value.int .i64 0));have z6:=(blk_cell X8.out 6).trans (rfl:_=some (Value.bool false));have f0:=blk_frozen X8.out 0;have f1:=blk_frozen X8.out 1;have f2:=blk_frozen X8.out 2;have f3:=blk_frozen X8.out 3;have f4:=blk_frozen X8.out 4;have f5:=blk_frozen X8.out 5;have f6:=blk_frozen X8.out 6)|((with_reducible refine store_event (t:=43) (p:=8) rfl rfl rfl (w1:=(((((((w6.setCell ⟨W.heap.size+1,0,none⟩ (Value.slice A0 b0.length c0)).setCell ⟨W.heap.size+1,1,none⟩ (Value.int .i64 s0)).setCell ⟨W.heap.size+1,2,none⟩ (Value.slice none 0 0)).setCell ⟨W.heap.size+1,3,none⟩ (Value.int .i64 0)).setCell ⟨W.heap.size+1,4,none⟩ (Value.int .i64 room)).setCell ⟨W.heap.size+1,5,none⟩ (Value.int .i64 (stop))).setCell ⟨W.heap.size+1,6,none⟩ (Value.bool false))) ?hrun ?_);(case hrun=>first|(go_simp;done)|(go_simp;rfl));intro w7 hw7;have Y8:=Aside0.mk (show w7.heap[W.heap.size+1]? = some (.cells #[Value.slice A0 b0.length c0,Value.int .i64 s0,Value.slice none 0 0,Value.int .i64 0,Value.int .i64 room,Value.int .i64 (stop),Value.bool false] 43 (0,0)) by rw [hw7];exact(blk_put ((blk_put ((blk_put ((blk_put ((blk_put ((blk_put ((blk_put (X8.out) 0 (Value.slice A0 b0.length c0) rfl)) 1 (Value.int .i64 s0) rfl)) 2 (Value.slice none 0 0) rfl)) 3 (Value.int .i64 0) rfl)) 4 (Value.int .i64 room) rfl)) 5 (Value.int .i64 (stop)) rfl)) 6 (Value.bool false) rfl));have HB7:=Aside0.mk (show Below W.heap.size W w7 by rw [hw7];exact(below_set ((below_set ((below_set ((below_set ((below_set ((below_set ((below_set (HB.out) (Nat.le_succ _))) (Nat.le_succ _))) (Nat.le_succ _))) (Nat.le_succ _))) (Nat.le_succ _))) (Nat.le_succ _))) (Nat.le_succ _)));clear hw7 z0 z1 z2 z3 z4 z5 z6 f0 f1 f2 f3 f4 f5 f6;have r0:=(blk_cell Y8.out 0).trans (rfl:_=some (Value.slice A0 b0.length c0));have r1:=(blk_cell Y8.out 1).trans (rfl:_=some (Value.int .i64 s0));have r2:=(blk_cell Y8.out 2).trans (rfl:_=some (Value.slice none 0 0));have r3:=(blk_cell Y8.out 3).trans (rfl:_=some (Value.int .i64 0));have r4:=(blk_cell Y8.out 4).trans (rfl:_=some (Value.int .i64 room));have r5:=(blk_cell Y8.out 5).trans (rfl:_=some (Value.int .i64 (stop)));have r6:=(blk_cell Y8.out 6).trans (rfl:_=some (Value.bool false))))
 refine bodyPost_ret (v:=.tuple #[.agg #[Value.slice A0 b0.length c0,Value.int .i64 s0,Value.slice none 0 0,Value.int .i64 0,Value.int .i64 room,Value.int .i64 (stop),Value.bool false],.int .i64 0]) ?hres rfl ?_
 case hres =>
  simp only [results,r0,r1,r2,r3,r4,r5,r6]
  first|rfl|(simp [r0,r1,r2,r3,r4,r5,r6];done)|(go_simp;done)|(go_simp;rfl)
 have hbF:=HB7.out
 have q:=H.out.step (Step.of_below (D:=D) hbF)
 exact ⟨_,rfl,⟨_,_,_,_,rfl,⟨q.l0,q.f0,Nat.le_refl _,Kd.F_nil _ _ _⟩⟩,hbF⟩
set_option maxHeartbeats 8000000 in
set_option maxRecDepth 100000 in
theorem refDo1_1_1 (h:RawV W D A0 A1 c0 c1 d) (hD:∀ k,D k->k<W.heap.size) (hg:d.Good) (i:Int) (A:Option Addr) (m c:Nat) (b:List Int) (hm:m=b.length) (hc:m<=c) (hA:Kd.F U8 W (λk=>¬ D k) A m b) (hd:d.dead=false) (hi:i=1) (hs:d.stop≠0) (hp:0<d.stop) :
  Calls Try.prog 24 #[dkV A0 A1 c0 c1 d,.int .i64 1,.int .i64 i,.slice A m c] W λe w'=>∃ v,e = .returned (.tuple #[v,.int .i64 (d.act 1 i b).2])/\Is w' D v (d.act 1 i b).1/\Below W.heap.size W w':=by
 have ea:d.act 1 i b=(d.tick.put 1 [] 0,0):=by unfold Dk.act;rw [if_neg (by decide),if_pos rfl];unfold Dk.clr;rw [Dk.why_ok hd (by omega),if_neg (by decide)];unfold Dk.did;rw [if_neg hs,hi]
 rw [ea]
 clear ea
 obtain ⟨b0,s0,b1,s1,room,stop,dead⟩:=d
 obtain rfl:dead=false:=hd
 have z0:(stop == 0)=false:=beq_eq_false_iff_ne.2 hs
 have p1:decide (stop > 0)=true:=decide_eq_true hp
 have p2:decide (0<stop)=true:=decide_eq_true hp
 rw [Dk.tick_pos hp]
 subst hi
 clear hs hp
 have H:=Aside0.mk h
 have HD:=Aside0.mk hD
 have HA:=Aside0.mk hA
 have HG:=Aside0.mk hg
 have HM:=Aside0.mk hm
 clear h hD hA hg hm
 go_enter Try.func24,Try.ntmps24
 go_upto_region 12 with (fail)
 have hb:Below W.heap.size W ((W.alloc (.cells #[.slice A0 b0.length c0,.int .i64 s0,.slice A1 b1.length c1,.int .i64 s1,.int .i64 room,.int .i64 (wrap64 (stop - 1)),.bool false] 43)).alloc (.cells #[.slice none 0 0,.int .i64 0,.slice none 0 0,.int .i64 0,.int .i64 0,.int .i64 0,.bool false] 43)):=below_alloc (below_alloc (Below.refl _ _) _) _
 have x4:((W.alloc (.cells #[.slice A0 b0.length c0,.int .i64 s0,.slice A1 b1.length c1,.int .i64 s1,.int .i64 room,.int .i64 (wrap64 (stop - 1)),.bool false] 43)).alloc (.cells #[.slice none 0 0,.int .i64 0,.slice none 0 0,.int .i64 0,.int .i64 0,.int .i64 0,.bool false] 43)).heap[W.heap.size]? = some (.cells #[.slice A0 b0.length c0,.int .i64 s0,.slice A1 b1.length c1,.int .i64 s1,.int .i64 room,.int .i64 (wrap64 (stop - 1)),.bool false] 43 (0,0)):=blk_below (heap_alloc_new W _) (below_alloc (Below.refl _ _) _)
 have x8:((W.alloc (.cells #[.slice A0 b0.length c0,.int .i64 s0,.slice A1 b1.length c1,.int .i64 s1,.int .i64 room,.int .i64 (wrap64 (stop - 1)),.bool false] 43)).alloc (.cells #[.slice none 0 0,.int .i64 0,.slice none 0 0,.int .i64 0,.int .i64 0,.int .i64 0,.bool false] 43)).heap[W.heap.size+1]? = some (.cells #[.slice none 0 0,.int .i64 0,.slice none 0 0,.int .i64 0,.int .i64 0,.int .i64 0,.bool false] 43 (0,0)):=by have h_:=heap_alloc_new (W.alloc (.cells #[.slice A0 b0.length c0,.int .i64 s0,.slice A1 b1.length c1,.int .i64 s1,.int .i64 room,.int .i64 (wrap64 (stop - 1)),.bool false] 43)) (.cells #[.slice none 0 0,.int .i64 0,.slice none 0 0,.int .i64 0,.int .i64 0,.int .i64 0,.bool false] 43);rwa [show(W.alloc (.cells #[.slice A0 b0.length c0,.int .i64 s0,.slice A1 b1.length c1,.int .i64 s1,.int .i64 room,.int .i64 (wrap64 (stop - 1)),.bool false] 43)).heap.size=W.heap.size+1 by simp] at h_
 have HB:=Aside0.mk hb
 have X4:=Aside0.mk x4
 have X8:=Aside0.mk x8
 clear hb x4 x8
 generalize (W.alloc (.cells #[.slice A0 b0.length c0,.int .i64 s0,.slice A1 b1.length c1,.int .i64 s1,.int .i64 room,.int .i64 (wrap64 (stop - 1)),.bool false] 43)).alloc (.cells #[.slice none 0 0,.int .i64 0,.slice none 0 0,.int .i64 0,.int .i64 0,.int .i64 0,.bool false] 43)=w3 at HB X4 X8 ⊢
 have k0:=(blk_cell X4.out 0).trans (rfl:_=some (Value.slice A0 b0.length c0))
 have k1:=(blk_cell X4.out 1).trans (rfl:_=some (Value.int .i64 s0))
 have k2:=(blk_cell X4.out 2).trans (rfl:_=some (Value.slice A1 b1.length c1))
 have k3:=(blk_cell X4.out 3).trans (rfl:_=some (Value.int .i64 s1))
 have k4:=(blk_cell X4.out 4).trans (rfl:_=some (Value.int .i64 room))
 have k5:=(blk_cell X4.out 5).trans (rfl:_=some (Value.int .i64 (wrap64 (stop - 1))))
 have k6:=(blk_cell X4.out 6).trans (rfl:_=some (Value.bool false))
 go_upto_region 20 with (first|(go_at_call 25;(with_reducible refine Calls.mono (refGet_one w3 A0 A1 c0 c1 (⟨b0,s0,b1,s1,room,wrap64 (stop - 1),false⟩:Dk)) ?_);rintro e w4 ⟨rfl,hb⟩;clear k0 k1 k2 k3 k4 k5 k6;have x4:=blk_below X4.out hb;have x8:=blk_below X8.out hb;have hb2:=below_step HB.out hb;clear X4 X8 HB;have X4:=Aside0.mk x4;have X8:=Aside0.mk x8;have HB:=Aside0.mk hb2;clear x4 x8 hb2 hb))
 have hb:=below_alloc (Below.refl w4.heap.size w4) (.cells #[.slice none 0 0,.int .i64 0] 41)
 have X10:=Aside0.mk (heap_alloc_new w4 (.cells #[.slice none 0 0,.int .i64 0] 41))
 have x4:=blk_below X4.out hb
 have x8:=blk_below X8.out hb
 have hb2:=below_step HB.out hb
 clear X4 X8 HB
 have X4:=Aside0.mk x4
 have X8:=Aside0.mk x8
 have HB:=Aside0.mk hb2
 clear x4 x8 hb2 hb
 generalize w4.alloc (.cells #[.slice none 0 0,.int .i64 0] 41)=w5 at HB X4 X8 X10 ⊢
 have k0:=(blk_cell X4.out 0).trans (rfl:_=some (Value.slice A0 b0.length c0))
 have k1:=(blk_cell X4.out 1).trans (rfl:_=some (Value.int .i64 s0))
 have k2:=(blk_cell X4.out 2).trans (rfl:_=some (Value.slice A1 b1.length c1))
 have k3:=(blk_cell X4.out 3).trans (rfl:_=some (Value.int .i64 s1))
 have k4:=(blk_cell X4.out 4).trans (rfl:_=some (Value.int .i64 room))
 have k5:=(blk_cell X4.out 5).trans (rfl:_=some (Value.int .i64 (wrap64 (stop - 1))))
 have k6:=(blk_cell X4.out 6).trans (rfl:_=some (Value.bool false))
 have j0:=(blk_cell X10.out 0).trans (rfl:_=some (Value.slice none 0 0))
 have j1:=(blk_cell X10.out 1).trans (rfl:_=some (Value.int .i64 0))
 have hS:Calls Try.prog 37 #[.agg #[.slice A0 b0.length c0,.int .i64 s0,.slice A1 b1.length c1,.int .i64 s1,.int .i64 room,.int .i64 (wrap64 (stop - 1)),.bool false],.int .i64 1,.agg #[.slice none 0 0,.int .i64 0]] w5 λe w'=>e = .returned (.agg #[Value.slice A0 b0.length c0,Value.int .i64 s0,Value.slice none 0 0,Value.int .i64 0,Value.int .i64 room,Value.int .i64 (wrap64 (stop - 1)),Value.bool false])/\Below w5.heap.size w5 w':=refSet_one w5 A0 A1 c0 c1 (⟨b0,s0,b1,s1,room,wrap64 (stop - 1),false⟩:Dk) none 0 ([]:List Int) (0)
 go_wp2_with (first|(go_at_call 37;(with_reducible refine Calls.mono hS ?_);rintro e w6 ⟨rfl,hb⟩;clear k0 k1 k2 k3 k4 k5 k6 j0 j1 X10;have x4:=blk_below X4.out hb;have x8:=blk_below X8.out hb;have hb2:=below_step HB.out hb;clear X4 X8 HB;have X4:=Aside0.mk x4;have X8:=Aside0.mk x8;have HB:=Aside0.mk hb2;clear x4 x8 hb2 hb;have z0:=(blk_cell X8.out 0).trans (rfl:_=some (Value.slice none 0 0));have z1:=(blk_cell X8.out 1).trans (rfl:_=some (Value.int .i64 0));have z2:=(blk_cell X8.out 2).trans (rfl:_=some (Value.slice none 0 0));have z3:=(blk_cell X8.out 3).trans (rfl:_=some (Value.int .i64 0));have z4:=(blk_cell X8.out 4).trans (rfl:_=some (Value.int .i64 0));have z5:=(blk_cell X8.out 5).trans (rfl:_=some (Value.int .i64 0));have z6:=(blk_cell X8.out 6).trans (rfl:_=some (Value.bool false));have f0:=blk_frozen X8.out 0;have f1:=blk_frozen X8.out 1;have f2:=blk_frozen X8.out 2;have f3:=blk_frozen X8.out 3;have f4:=blk_frozen X8.out 4;have f5:=blk_frozen X8.out 5;have f6:=blk_frozen X8.out 6)|((with_reducible refine store_event (t:=43) (p:=8) rfl rfl rfl (w1:=(((((((w6.setCell ⟨W.heap.size+1,0,none⟩ (Value.slice A0 b0.length c0)).setCell ⟨W.heap.size+1,1,none⟩ (Value.int .i64 s0)).setCell ⟨W.heap.size+1,2,none⟩ (Value.slice none 0 0)).setCell ⟨W.heap.size+1,3,none⟩ (Value.int .i64 0)).setCell ⟨W.heap.size+1,4,none⟩ (Value.int .i64 room)).setCell ⟨W.heap.size+1,5,none⟩ (Value.int .i64 (wrap64 (stop - 1)))).setCell ⟨W.heap.size+1,6,none⟩ (Value.bool false))) ?hrun ?_);(case hrun=>first|(go_simp;done)|(go_simp;rfl));intro w7 hw7;have Y8:=Aside0.mk (show w7.heap[W.heap.size+1]? = some (.cells #[Value.slice A0 b0.length c0,Value.int .i64 s0,Value.slice none 0 0,Value.int .i64 0,Value.int .i64 room,Value.int .i64 (wrap64 (stop - 1)),Value.bool false] 43 (0,0)) by rw [hw7];exact(blk_put ((blk_put ((blk_put ((blk_put ((blk_put ((blk_put ((blk_put (X8.out) 0 (Value.slice A0 b0.length c0) rfl)) 1 (Value.int .i64 s0) rfl)) 2 (Value.slice none 0 0) rfl)) 3 (Value.int .i64 0) rfl)) 4 (Value.int .i64 room) rfl)) 5 (Value.int .i64 (wrap64 (stop - 1))) rfl)) 6 (Value.bool false) rfl));have HB7:=Aside0.mk (show Below W.heap.size W w7 by rw [hw7];exact(below_set ((below_set ((below_set ((below_set ((below_set ((below_set ((below_set (HB.out) (Nat.le_succ _))) (Nat.le_succ _))) (Nat.le_succ _))) (Nat.le_succ _))) (Nat.le_succ _))) (Nat.le_succ _))) (Nat.le_succ _)));clear hw7 z0 z1 z2 z3 z4 z5 z6 f0 f1 f2 f3 f4 f5 f6;have r0:=(blk_cell Y8.out 0).trans (rfl:_=some (Value.slice A0 b0.length c0));have r1:=(blk_cell Y8.out 1).trans (rfl:_=some (Value.int .i64 s0));have r2:=(blk_cell Y8.out 2).trans (rfl:_=some (Value.slice none 0 0));have r3:=(blk_cell Y8.out 3).trans (rfl:_=some (Value.int .i64 0));have r4:=(blk_cell Y8.out 4).trans (rfl:_=some (Value.int .i64 room));have r5:=(blk_cell Y8.out 5).trans (rfl:_=some (Value.int .i64 (wrap64 (stop - 1))));have r6:=(blk_cell Y8.out 6).trans (rfl:_=some (Value.bool false))))
 refine bodyPost_ret (v:=.tuple #[.agg #[Value.slice A0 b0.length c0,Value.int .i64 s0,Value.slice none 0 0,Value.int .i64 0,Value.int .i64 room,Value.int .i64 (wrap64 (stop - 1)),Value.bool false],.int .i64 0]) ?hres rfl ?_
 case hres =>
  simp only [results,r0,r1,r2,r3,r4,r5,r6]
  first|rfl|(simp [r0,r1,r2,r3,r4,r5,r6];done)|(go_simp;done)|(go_simp;rfl)
 have hbF:=HB7.out
 have q:=H.out.step (Step.of_below (D:=D) hbF)
 exact ⟨_,rfl,⟨_,_,_,_,rfl,⟨q.l0,q.f0,Nat.le_refl _,Kd.F_nil _ _ _⟩⟩,hbF⟩
set_option maxHeartbeats 8000000 in
set_option maxRecDepth 100000 in
theorem refDo2_out (h:RawV W D A0 A1 c0 c1 d) (hD:∀ k,D k->k<W.heap.size) (hg:d.Good) (i:Int) (A:Option Addr) (m c:Nat) (b:List Int) (hm:m=b.length) (hc:m<=c) (hA:Kd.F U8 W (λk=>¬ D k) A m b) (hd:d.dead=false) (hi:i<0\/2<=i) :
  Calls Try.prog 24 #[dkV A0 A1 c0 c1 d,.int .i64 2,.int .i64 i,.slice A m c] W λe w'=>∃ v,e = .returned (.tuple #[v,.int .i64 (d.act 2 i b).2])/\Is w' D v (d.act 2 i b).1/\Below W.heap.size W w':=by
 have ea:d.act 2 i b=(d,1):=by unfold Dk.act;rw [if_neg (by decide),if_neg (by decide)];unfold Dk.syn;rw [Dk.why_out hd hi,if_pos (by decide)]
 rw [ea]
 clear ea
 obtain ⟨b0,s0,b1,s1,room,stop,dead⟩:=d
 obtain rfl:dead=false:=hd
 have z0:(i != 0)=true:=by simp;omega
 have z1:(i != 1)=true:=by simp;omega
 clear hi
 have H:=Aside0.mk h
 have HD:=Aside0.mk hD
 have HA:=Aside0.mk hA
 have HG:=Aside0.mk hg
 have HM:=Aside0.mk hm
 clear h hD hA hg hm
 go_enter Try.func24,Try.ntmps24
 go_wp2
 go_returns
 exact ⟨_,rfl,⟨_,_,_,_,rfl,H.out.step (Step.of_below (by repeat' (first|(with_reducible exact Below.refl _ _)|(with_reducible assumption)|(with_reducible refine Below.setCell ?_ ?_ _)|(with_reducible refine below_alloc ?_ _))))⟩,by repeat' (first|(with_reducible exact Below.refl _ _)|(with_reducible assumption)|(with_reducible refine Below.setCell ?_ ?_ _)|(with_reducible refine below_alloc ?_ _))⟩
set_option maxHeartbeats 8000000 in
set_option maxRecDepth 100000 in
theorem refDo2_0_die (h:RawV W D A0 A1 c0 c1 d) (hD:∀ k,D k->k<W.heap.size) (hg:d.Good) (i:Int) (A:Option Addr) (m c:Nat) (b:List Int) (hm:m=b.length) (hc:m<=c) (hA:Kd.F U8 W (λk=>¬ D k) A m b) (hd:d.dead=false) (hi:i=0) (hs:d.stop=0) :
  Calls Try.prog 24 #[dkV A0 A1 c0 c1 d,.int .i64 2,.int .i64 i,.slice A m c] W λe w'=>∃ v,e = .returned (.tuple #[v,.int .i64 (d.act 2 i b).2])/\Is w' D v (d.act 2 i b).1/\Below W.heap.size W w':=by
 have ea:d.act 2 i b=(d.die,9):=by unfold Dk.act;rw [if_neg (by decide),if_neg (by decide)];unfold Dk.syn;rw [Dk.why_ok hd (by omega),if_neg (by decide)];unfold Dk.did;rw [if_pos hs]
 rw [ea]
 clear ea
 obtain ⟨b0,s0,b1,s1,room,stop,dead⟩:=d
 obtain rfl:dead=false:=hd
 obtain rfl:stop=0:=hs
 subst hi
 have H:=Aside0.mk h
 have HD:=Aside0.mk hD
 have HA:=Aside0.mk hA
 have HG:=Aside0.mk hg
 have HM:=Aside0.mk hm
 clear h hD hA hg hm
 go_enter Try.func24,Try.ntmps24
 go_wp2
 go_returns
 exact ⟨_,rfl,⟨_,_,_,_,rfl,(show RawV W D A0 A1 c0 c1 ⟨b0,s0,b1,s1,room,0,true⟩ from ⟨H.out.l0,H.out.f0,H.out.l1,H.out.f1⟩).step (Step.of_below (by repeat' (first|(with_reducible exact Below.refl _ _)|(with_reducible assumption)|(with_reducible refine Below.setCell ?_ ?_ _)|(with_reducible refine below_alloc ?_ _))))⟩,by repeat' (first|(with_reducible exact Below.refl _ _)|(with_reducible assumption)|(with_reducible refine Below.setCell ?_ ?_ _)|(with_reducible refine below_alloc ?_ _))⟩
set_option maxHeartbeats 8000000 in
set_option maxRecDepth 100000 in
theorem refDo2_0_0 (h:RawV W D A0 A1 c0 c1 d) (hD:∀ k,D k->k<W.heap.size) (hg:d.Good) (i:Int) (A:Option Addr) (m c:Nat) (b:List Int) (hm:m=b.length) (hc:m<=c) (hA:Kd.F U8 W (λk=>¬ D k) A m b) (hd:d.dead=false) (hi:i=0) (hs:d.stop≠0) (hp:¬ 0<d.stop) :
  Calls Try.prog 24 #[dkV A0 A1 c0 c1 d,.int .i64 2,.int .i64 i,.slice A m c] W λe w'=>∃ v,e = .returned (.tuple #[v,.int .i64 (d.act 2 i b).2])/\Is w' D v (d.act 2 i b).1/\Below W.heap.size W w':=by
 have ea:d.act 2 i b=(d.tick.put 0 d.b0 (d.b0.length:Int),0):=by unfold Dk.act;rw [if_neg (by decide),if_neg (by decide)];unfold Dk.syn;rw [Dk.why_ok hd (by omega),if_neg (by decide)];unfold Dk.did;rw [if_neg hs,hi];rfl
 rw [ea]
 clear ea
 obtain ⟨b0,s0,b1,s1,room,stop,dead⟩:=d
 obtain rfl:dead=false:=hd
 have z0:(stop == 0)=false:=beq_eq_false_iff_ne.2 hs
 have p1:decide (stop > 0)=false:=decide_eq_false hp
 have p2:decide (0<stop)=false:=decide_eq_false hp
 rw [Dk.tick_neg hp]
 subst hi
 clear hs hp
 have H:=Aside0.mk h
 have HD:=Aside0.mk hD
 have HA:=Aside0.mk hA
 have HG:=Aside0.mk hg
 have HM:=Aside0.mk hm
 clear h hD hA hg hm
 go_enter Try.func24,Try.ntmps24
 go_upto_region 12 with (fail)
 have hb:Below W.heap.size W ((W.alloc (.cells #[.slice A0 b0.length c0,.int .i64 s0,.slice A1 b1.length c1,.int .i64 s1,.int .i64 room,.int .i64 (stop),.bool false] 43)).alloc (.cells #[.slice none 0 0,.int .i64 0,.slice none 0 0,.int .i64 0,.int .i64 0,.int .i64 0,.bool false] 43)):=below_alloc (below_alloc (Below.refl _ _) _) _
 have x4:((W.alloc (.cells #[.slice A0 b0.length c0,.int .i64 s0,.slice A1 b1.length c1,.int .i64 s1,.int .i64 room,.int .i64 (stop),.bool false] 43)).alloc (.cells #[.slice none 0 0,.int .i64 0,.slice none 0 0,.int .i64 0,.int .i64 0,.int .i64 0,.bool false] 43)).heap[W.heap.size]? = some (.cells #[.slice A0 b0.length c0,.int .i64 s0,.slice A1 b1.length c1,.int .i64 s1,.int .i64 room,.int .i64 (stop),.bool false] 43 (0,0)):=blk_below (heap_alloc_new W _) (below_alloc (Below.refl _ _) _)
 have x8:((W.alloc (.cells #[.slice A0 b0.length c0,.int .i64 s0,.slice A1 b1.length c1,.int .i64 s1,.int .i64 room,.int .i64 (stop),.bool false] 43)).alloc (.cells #[.slice none 0 0,.int .i64 0,.slice none 0 0,.int .i64 0,.int .i64 0,.int .i64 0,.bool false] 43)).heap[W.heap.size+1]? = some (.cells #[.slice none 0 0,.int .i64 0,.slice none 0 0,.int .i64 0,.int .i64 0,.int .i64 0,.bool false] 43 (0,0)):=by have h_:=heap_alloc_new (W.alloc (.cells #[.slice A0 b0.length c0,.int .i64 s0,.slice A1 b1.length c1,.int .i64 s1,.int .i64 room,.int .i64 (stop),.bool false] 43)) (.cells #[.slice none 0 0,.int .i64 0,.slice none 0 0,.int .i64 0,.int .i64 0,.int .i64 0,.bool false] 43);rwa [show(W.alloc (.cells #[.slice A0 b0.length c0,.int .i64 s0,.slice A1 b1.length c1,.int .i64 s1,.int .i64 room,.int .i64 (stop),.bool false] 43)).heap.size=W.heap.size+1 by simp] at h_
 have HB:=Aside0.mk hb
 have X4:=Aside0.mk x4
 have X8:=Aside0.mk x8
 clear hb x4 x8
 generalize (W.alloc (.cells #[.slice A0 b0.length c0,.int .i64 s0,.slice A1 b1.length c1,.int .i64 s1,.int .i64 room,.int .i64 (stop),.bool false] 43)).alloc (.cells #[.slice none 0 0,.int .i64 0,.slice none 0 0,.int .i64 0,.int .i64 0,.int .i64 0,.bool false] 43)=w3 at HB X4 X8 ⊢
 have k0:=(blk_cell X4.out 0).trans (rfl:_=some (Value.slice A0 b0.length c0))
 have k1:=(blk_cell X4.out 1).trans (rfl:_=some (Value.int .i64 s0))
 have k2:=(blk_cell X4.out 2).trans (rfl:_=some (Value.slice A1 b1.length c1))
 have k3:=(blk_cell X4.out 3).trans (rfl:_=some (Value.int .i64 s1))
 have k4:=(blk_cell X4.out 4).trans (rfl:_=some (Value.int .i64 room))
 have k5:=(blk_cell X4.out 5).trans (rfl:_=some (Value.int .i64 (stop)))
 have k6:=(blk_cell X4.out 6).trans (rfl:_=some (Value.bool false))
 go_upto_region 20 with (first|(go_at_call 25;(with_reducible refine Calls.mono (refGet_zero w3 A0 A1 c0 c1 (⟨b0,s0,b1,s1,room,stop,false⟩:Dk)) ?_);rintro e w4 ⟨rfl,hb⟩;clear k0 k1 k2 k3 k4 k5 k6;have x4:=blk_below X4.out hb;have x8:=blk_below X8.out hb;have hb2:=below_step HB.out hb;clear X4 X8 HB;have X4:=Aside0.mk x4;have X8:=Aside0.mk x8;have HB:=Aside0.mk hb2;clear x4 x8 hb2 hb))
 have hb:=below_alloc (Below.refl w4.heap.size w4) (.cells #[.slice A0 b0.length c0,.int .i64 (b0.length:Int)] 41)
 have X10:=Aside0.mk (heap_alloc_new w4 (.cells #[.slice A0 b0.length c0,.int .i64 (b0.length:Int)] 41))
 have x4:=blk_below X4.out hb
 have x8:=blk_below X8.out hb
 have hb2:=below_step HB.out hb
 clear X4 X8 HB
 have X4:=Aside0.mk x4
 have X8:=Aside0.mk x8
 have HB:=Aside0.mk hb2
 clear x4 x8 hb2 hb
 generalize w4.alloc (.cells #[.slice A0 b0.length c0,.int .i64 (b0.length:Int)] 41)=w5 at HB X4 X8 X10 ⊢
 have k0:=(blk_cell X4.out 0).trans (rfl:_=some (Value.slice A0 b0.length c0))
 have k1:=(blk_cell X4.out 1).trans (rfl:_=some (Value.int .i64 s0))
 have k2:=(blk_cell X4.out 2).trans (rfl:_=some (Value.slice A1 b1.length c1))
 have k3:=(blk_cell X4.out 3).trans (rfl:_=some (Value.int .i64 s1))
 have k4:=(blk_cell X4.out 4).trans (rfl:_=some (Value.int .i64 room))
 have k5:=(blk_cell X4.out 5).trans (rfl:_=some (Value.int .i64 (stop)))
 have k6:=(blk_cell X4.out 6).trans (rfl:_=some (Value.bool false))
 have j0:=(blk_cell X10.out 0).trans (rfl:_=some (Value.slice A0 b0.length c0))
 have j1:=(blk_cell X10.out 1).trans (rfl:_=some (Value.int .i64 (b0.length:Int)))
 have hS:Calls Try.prog 37 #[.agg #[.slice A0 b0.length c0,.int .i64 s0,.slice A1 b1.length c1,.int .i64 s1,.int .i64 room,.int .i64 (stop),.bool false],.int .i64 0,.agg #[.slice A0 b0.length c0,.int .i64 (b0.length:Int)]] w5 λe w'=>e = .returned (.agg #[Value.slice A0 b0.length c0,Value.int .i64 (b0.length:Int),Value.slice A1 b1.length c1,Value.int .i64 s1,Value.int .i64 room,Value.int .i64 (stop),Value.bool false])/\Below w5.heap.size w5 w':=refSet_zero w5 A0 A1 c0 c1 (⟨b0,s0,b1,s1,room,stop,false⟩:Dk) A0 c0 (b0:List Int) ((b0.length:Int))
 go_wp2_with (first|(go_at_call 37;(with_reducible refine Calls.mono hS ?_);rintro e w6 ⟨rfl,hb⟩;clear k0 k1 k2 k3 k4 k5 k6 j0 j1 X10;have x4:=blk_below X4.out hb;have x8:=blk_below X8.out hb;have hb2:=below_step HB.out hb;clear X4 X8 HB;have X4:=Aside0.mk x4;have X8:=Aside0.mk x8;have HB:=Aside0.mk hb2;clear x4 x8 hb2 hb;have z0:=(blk_cell X8.out 0).trans (rfl:_=some (Value.slice none 0 0));have z1:=(blk_cell X8.out 1).trans (rfl:_=some (Value.int .i64 0));have z2:=(blk_cell X8.out 2).trans (rfl:_=some (Value.slice none 0 0));have z3:=(blk_cell X8.out 3).trans (rfl:_=some (Value.int .i64 0));have z4:=(blk_cell X8.out 4).trans (rfl:_=some (Value.int .i64 0));have z5:=(blk_cell X8.out 5).trans (rfl:_=some (Value.int .i64 0));have z6:=(blk_cell X8.out 6).trans (rfl:_=some (Value.bool false));have f0:=blk_frozen X8.out 0;have f1:=blk_frozen X8.out 1;have f2:=blk_frozen X8.out 2;have f3:=blk_frozen X8.out 3;have f4:=blk_frozen X8.out 4;have f5:=blk_frozen X8.out 5;have f6:=blk_frozen X8.out 6)|((with_reducible refine store_event (t:=43) (p:=8) rfl rfl rfl (w1:=(((((((w6.setCell ⟨W.heap.size+1,0,none⟩ (Value.slice A0 b0.length c0)).setCell ⟨W.heap.size+1,1,none⟩ (Value.int .i64 (b0.length:Int))).setCell ⟨W.heap.size+1,2,none⟩ (Value.slice A1 b1.length c1)).setCell ⟨W.heap.size+1,3,none⟩ (Value.int .i64 s1)).setCell ⟨W.heap.size+1,4,none⟩ (Value.int .i64 room)).setCell ⟨W.heap.size+1,5,none⟩ (Value.int .i64 (stop))).setCell ⟨W.heap.size+1,6,none⟩ (Value.bool false))) ?hrun ?_);(case hrun=>first|(go_simp;done)|(go_simp;rfl));intro w7 hw7;have Y8:=Aside0.mk (show w7.heap[W.heap.size+1]? = some (.cells #[Value.slice A0 b0.length c0,Value.int .i64 (b0.length:Int),Value.slice A1 b1.length c1,Value.int .i64 s1,Value.int .i64 room,Value.int .i64 (stop),Value.bool false] 43 (0,0)) by rw [hw7];exact(blk_put ((blk_put ((blk_put ((blk_put ((blk_put ((blk_put ((blk_put (X8.out) 0 (Value.slice A0 b0.length c0) rfl)) 1 (Value.int .i64 (b0.length:Int)) rfl)) 2 (Value.slice A1 b1.length c1) rfl)) 3 (Value.int .i64 s1) rfl)) 4 (Value.int .i64 room) rfl)) 5 (Value.int .i64 (stop)) rfl)) 6 (Value.bool false) rfl));have HB7:=Aside0.mk (show Below W.heap.size W w7 by rw [hw7];exact(below_set ((below_set ((below_set ((below_set ((below_set ((below_set ((below_set (HB.out) (Nat.le_succ _))) (Nat.le_succ _))) (Nat.le_succ _))) (Nat.le_succ _))) (Nat.le_succ _))) (Nat.le_succ _))) (Nat.le_succ _)));clear hw7 z0 z1 z2 z3 z4 z5 z6 f0 f1 f2 f3 f4 f5 f6;have r0:=(blk_cell Y8.out 0).trans (rfl:_=some (Value.slice A0 b0.length c0));have r1:=(blk_cell Y8.out 1).trans (rfl:_=some (Value.int .i64 (b0.length:Int)));have r2:=(blk_cell Y8.out 2).trans (rfl:_=some (Value.slice A1 b1.length c1));have r3:=(blk_cell Y8.out 3).trans (rfl:_=some (Value.int .i64 s1));have r4:=(blk_cell Y8.out 4).trans (rfl:_=some (Value.int .i64 room));have r5:=(blk_cell Y8.out 5).trans (rfl:_=some (Value.int .i64 (stop)));have r6:=(blk_cell Y8.out 6).trans (rfl:_=some (Value.bool false))))
 refine bodyPost_ret (v:=.tuple #[.agg #[Value.slice A0 b0.length c0,Value.int .i64 (b0.length:Int),Value.slice A1 b1.length c1,Value.int .i64 s1,Value.int .i64 room,Value.int .i64 (stop),Value.bool false],.int .i64 0]) ?hres rfl ?_
 case hres =>
  simp only [results,r0,r1,r2,r3,r4,r5,r6]
  first|rfl|(simp [r0,r1,r2,r3,r4,r5,r6];done)|(go_simp;done)|(go_simp;rfl)
 have hbF:=HB7.out
 have q:=H.out.step (Step.of_below (D:=D) hbF)
 exact ⟨_,rfl,⟨_,_,_,_,rfl,⟨q.l0,q.f0,q.l1,q.f1⟩⟩,hbF⟩
set_option maxHeartbeats 8000000 in
set_option maxRecDepth 100000 in
theorem refDo2_0_1 (h:RawV W D A0 A1 c0 c1 d) (hD:∀ k,D k->k<W.heap.size) (hg:d.Good) (i:Int) (A:Option Addr) (m c:Nat) (b:List Int) (hm:m=b.length) (hc:m<=c) (hA:Kd.F U8 W (λk=>¬ D k) A m b) (hd:d.dead=false) (hi:i=0) (hs:d.stop≠0) (hp:0<d.stop) :
  Calls Try.prog 24 #[dkV A0 A1 c0 c1 d,.int .i64 2,.int .i64 i,.slice A m c] W λe w'=>∃ v,e = .returned (.tuple #[v,.int .i64 (d.act 2 i b).2])/\Is w' D v (d.act 2 i b).1/\Below W.heap.size W w':=by
 have ea:d.act 2 i b=(d.tick.put 0 d.b0 (d.b0.length:Int),0):=by unfold Dk.act;rw [if_neg (by decide),if_neg (by decide)];unfold Dk.syn;rw [Dk.why_ok hd (by omega),if_neg (by decide)];unfold Dk.did;rw [if_neg hs,hi];rfl
 rw [ea]
 clear ea
 obtain ⟨b0,s0,b1,s1,room,stop,dead⟩:=d
 obtain rfl:dead=false:=hd
 have z0:(stop == 0)=false:=beq_eq_false_iff_ne.2 hs
 have p1:decide (stop > 0)=true:=decide_eq_true hp
 have p2:decide (0<stop)=true:=decide_eq_true hp
 rw [Dk.tick_pos hp]
 subst hi
 clear hs hp
 have H:=Aside0.mk h
 have HD:=Aside0.mk hD
 have HA:=Aside0.mk hA
 have HG:=Aside0.mk hg
 have HM:=Aside0.mk hm
 clear h hD hA hg hm
 go_enter Try.func24,Try.ntmps24
 go_upto_region 12 with (fail)
 have hb:Below W.heap.size W ((W.alloc (.cells #[.slice A0 b0.length c0,.int .i64 s0,.slice A1 b1.length c1,.int .i64 s1,.int .i64 room,.int .i64 (wrap64 (stop - 1)),.bool false] 43)).alloc (.cells #[.slice none 0 0,.int .i64 0,.slice none 0 0,.int .i64 0,.int .i64 0,.int .i64 0,.bool false] 43)):=below_alloc (below_alloc (Below.refl _ _) _) _
 have x4:((W.alloc (.cells #[.slice A0 b0.length c0,.int .i64 s0,.slice A1 b1.length c1,.int .i64 s1,.int .i64 room,.int .i64 (wrap64 (stop - 1)),.bool false] 43)).alloc (.cells #[.slice none 0 0,.int .i64 0,.slice none 0 0,.int .i64 0,.int .i64 0,.int .i64 0,.bool false] 43)).heap[W.heap.size]? = some (.cells #[.slice A0 b0.length c0,.int .i64 s0,.slice A1 b1.length c1,.int .i64 s1,.int .i64 room,.int .i64 (wrap64 (stop - 1)),.bool false] 43 (0,0)):=blk_below (heap_alloc_new W _) (below_alloc (Below.refl _ _) _)
 have x8:((W.alloc (.cells #[.slice A0 b0.length c0,.int .i64 s0,.slice A1 b1.length c1,.int .i64 s1,.int .i64 room,.int .i64 (wrap64 (stop - 1)),.bool false] 43)).alloc (.cells #[.slice none 0 0,.int .i64 0,.slice none 0 0,.int .i64 0,.int .i64 0,.int .i64 0,.bool false] 43)).heap[W.heap.size+1]? = some (.cells #[.slice none 0 0,.int .i64 0,.slice none 0 0,.int .i64 0,.int .i64 0,.int .i64 0,.bool false] 43 (0,0)):=by have h_:=heap_alloc_new (W.alloc (.cells #[.slice A0 b0.length c0,.int .i64 s0,.slice A1 b1.length c1,.int .i64 s1,.int .i64 room,.int .i64 (wrap64 (stop - 1)),.bool false] 43)) (.cells #[.slice none 0 0,.int .i64 0,.slice none 0 0,.int .i64 0,.int .i64 0,.int .i64 0,.bool false] 43);rwa [show(W.alloc (.cells #[.slice A0 b0.length c0,.int .i64 s0,.slice A1 b1.length c1,.int .i64 s1,.int .i64 room,.int .i64 (wrap64 (stop - 1)),.bool false] 43)).heap.size=W.heap.size+1 by simp] at h_
 have HB:=Aside0.mk hb
 have X4:=Aside0.mk x4
 have X8:=Aside0.mk x8
 clear hb x4 x8
 generalize (W.alloc (.cells #[.slice A0 b0.length c0,.int .i64 s0,.slice A1 b1.length c1,.int .i64 s1,.int .i64 room,.int .i64 (wrap64 (stop - 1)),.bool false] 43)).alloc (.cells #[.slice none 0 0,.int .i64 0,.slice none 0 0,.int .i64 0,.int .i64 0,.int .i64 0,.bool false] 43)=w3 at HB X4 X8 ⊢
 have k0:=(blk_cell X4.out 0).trans (rfl:_=some (Value.slice A0 b0.length c0))
 have k1:=(blk_cell X4.out 1).trans (rfl:_=some (Value.int .i64 s0))
 have k2:=(blk_cell X4.out 2).trans (rfl:_=some (Value.slice A1 b1.length c1))
 have k3:=(blk_cell X4.out 3).trans (rfl:_=some (Value.int .i64 s1))
 have k4:=(blk_cell X4.out 4).trans (rfl:_=some (Value.int .i64 room))
 have k5:=(blk_cell X4.out 5).trans (rfl:_=some (Value.int .i64 (wrap64 (stop - 1))))
 have k6:=(blk_cell X4.out 6).trans (rfl:_=some (Value.bool false))
 go_upto_region 20 with (first|(go_at_call 25;(with_reducible refine Calls.mono (refGet_zero w3 A0 A1 c0 c1 (⟨b0,s0,b1,s1,room,wrap64 (stop - 1),false⟩:Dk)) ?_);rintro e w4 ⟨rfl,hb⟩;clear k0 k1 k2 k3 k4 k5 k6;have x4:=blk_below X4.out hb;have x8:=blk_below X8.out hb;have hb2:=below_step HB.out hb;clear X4 X8 HB;have X4:=Aside0.mk x4;have X8:=Aside0.mk x8;have HB:=Aside0.mk hb2;clear x4 x8 hb2 hb))
 have hb:=below_alloc (Below.refl w4.heap.size w4) (.cells #[.slice A0 b0.length c0,.int .i64 (b0.length:Int)] 41)
 have X10:=Aside0.mk (heap_alloc_new w4 (.cells #[.slice A0 b0.length c0,.int .i64 (b0.length:Int)] 41))
 have x4:=blk_below X4.out hb
 have x8:=blk_below X8.out hb
 have hb2:=below_step HB.out hb
 clear X4 X8 HB
 have X4:=Aside0.mk x4
 have X8:=Aside0.mk x8
 have HB:=Aside0.mk hb2
 clear x4 x8 hb2 hb
 generalize w4.alloc (.cells #[.slice A0 b0.length c0,.int .i64 (b0.length:Int)] 41)=w5 at HB X4 X8 X10 ⊢
 have k0:=(blk_cell X4.out 0).trans (rfl:_=some (Value.slice A0 b0.length c0))
 have k1:=(blk_cell X4.out 1).trans (rfl:_=some (Value.int .i64 s0))
 have k2:=(blk_cell X4.out 2).trans (rfl:_=some (Value.slice A1 b1.length c1))
 have k3:=(blk_cell X4.out 3).trans (rfl:_=some (Value.int .i64 s1))
 have k4:=(blk_cell X4.out 4).trans (rfl:_=some (Value.int .i64 room))
 have k5:=(blk_cell X4.out 5).trans (rfl:_=some (Value.int .i64 (wrap64 (stop - 1))))
 have k6:=(blk_cell X4.out 6).trans (rfl:_=some (Value.bool false))
 have j0:=(blk_cell X10.out 0).trans (rfl:_=some (Value.slice A0 b0.length c0))
 have j1:=(blk_cell X10.out 1).trans (rfl:_=some (Value.int .i64 (b0.length:Int)))
 have hS:Calls Try.prog 37 #[.agg #[.slice A0 b0.length c0,.int .i64 s0,.slice A1 b1.length c1,.int .i64 s1,.int .i64 room,.int .i64 (wrap64 (stop - 1)),.bool false],.int .i64 0,.agg #[.slice A0 b0.length c0,.int .i64 (b0.length:Int)]] w5 λe w'=>e = .returned (.agg #[Value.slice A0 b0.length c0,Value.int .i64 (b0.length:Int),Value.slice A1 b1.length c1,Value.int .i64 s1,Value.int .i64 room,Value.int .i64 (wrap64 (stop - 1)),Value.bool false])/\Below w5.heap.size w5 w':=refSet_zero w5 A0 A1 c0 c1 (⟨b0,s0,b1,s1,room,wrap64 (stop - 1),false⟩:Dk) A0 c0 (b0:List Int) ((b0.length:Int))
 go_wp2_with (first|(go_at_call 37;(with_reducible refine Calls.mono hS ?_);rintro e w6 ⟨rfl,hb⟩;clear k0 k1 k2 k3 k4 k5 k6 j0 j1 X10;have x4:=blk_below X4.out hb;have x8:=blk_below X8.out hb;have hb2:=below_step HB.out hb;clear X4 X8 HB;have X4:=Aside0.mk x4;have X8:=Aside0.mk x8;have HB:=Aside0.mk hb2;clear x4 x8 hb2 hb;have z0:=(blk_cell X8.out 0).trans (rfl:_=some (Value.slice none 0 0));have z1:=(blk_cell X8.out 1).trans (rfl:_=some (Value.int .i64 0));have z2:=(blk_cell X8.out 2).trans (rfl:_=some (Value.slice none 0 0));have z3:=(blk_cell X8.out 3).trans (rfl:_=some (Value.int .i64 0));have z4:=(blk_cell X8.out 4).trans (rfl:_=some (Value.int .i64 0));have z5:=(blk_cell X8.out 5).trans (rfl:_=some (Value.int .i64 0));have z6:=(blk_cell X8.out 6).trans (rfl:_=some (Value.bool false));have f0:=blk_frozen X8.out 0;have f1:=blk_frozen X8.out 1;have f2:=blk_frozen X8.out 2;have f3:=blk_frozen X8.out 3;have f4:=blk_frozen X8.out 4;have f5:=blk_frozen X8.out 5;have f6:=blk_frozen X8.out 6)|((with_reducible refine store_event (t:=43) (p:=8) rfl rfl rfl (w1:=(((((((w6.setCell ⟨W.heap.size+1,0,none⟩ (Value.slice A0 b0.length c0)).setCell ⟨W.heap.size+1,1,none⟩ (Value.int .i64 (b0.length:Int))).setCell ⟨W.heap.size+1,2,none⟩ (Value.slice A1 b1.length c1)).setCell ⟨W.heap.size+1,3,none⟩ (Value.int .i64 s1)).setCell ⟨W.heap.size+1,4,none⟩ (Value.int .i64 room)).setCell ⟨W.heap.size+1,5,none⟩ (Value.int .i64 (wrap64 (stop - 1)))).setCell ⟨W.heap.size+1,6,none⟩ (Value.bool false))) ?hrun ?_);(case hrun=>first|(go_simp;done)|(go_simp;rfl));intro w7 hw7;have Y8:=Aside0.mk (show w7.heap[W.heap.size+1]? = some (.cells #[Value.slice A0 b0.length c0,Value.int .i64 (b0.length:Int),Value.slice A1 b1.length c1,Value.int .i64 s1,Value.int .i64 room,Value.int .i64 (wrap64 (stop - 1)),Value.bool false] 43 (0,0)) by rw [hw7];exact(blk_put ((blk_put ((blk_put ((blk_put ((blk_put ((blk_put ((blk_put (X8.out) 0 (Value.slice A0 b0.length c0) rfl)) 1 (Value.int .i64 (b0.length:Int)) rfl)) 2 (Value.slice A1 b1.length c1) rfl)) 3 (Value.int .i64 s1) rfl)) 4 (Value.int .i64 room) rfl)) 5 (Value.int .i64 (wrap64 (stop - 1))) rfl)) 6 (Value.bool false) rfl));have HB7:=Aside0.mk (show Below W.heap.size W w7 by rw [hw7];exact(below_set ((below_set ((below_set ((below_set ((below_set ((below_set ((below_set (HB.out) (Nat.le_succ _))) (Nat.le_succ _))) (Nat.le_succ _))) (Nat.le_succ _))) (Nat.le_succ _))) (Nat.le_succ _))) (Nat.le_succ _)));clear hw7 z0 z1 z2 z3 z4 z5 z6 f0 f1 f2 f3 f4 f5 f6;have r0:=(blk_cell Y8.out 0).trans (rfl:_=some (Value.slice A0 b0.length c0));have r1:=(blk_cell Y8.out 1).trans (rfl:_=some (Value.int .i64 (b0.length:Int)));have r2:=(blk_cell Y8.out 2).trans (rfl:_=some (Value.slice A1 b1.length c1));have r3:=(blk_cell Y8.out 3).trans (rfl:_=some (Value.int .i64 s1));have r4:=(blk_cell Y8.out 4).trans (rfl:_=some (Value.int .i64 room));have r5:=(blk_cell Y8.out 5).trans (rfl:_=some (Value.int .i64 (wrap64 (stop - 1))));have r6:=(blk_cell Y8.out 6).trans (rfl:_=some (Value.bool false))))
 refine bodyPost_ret (v:=.tuple #[.agg #[Value.slice A0 b0.length c0,Value.int .i64 (b0.length:Int),Value.slice A1 b1.length c1,Value.int .i64 s1,Value.int .i64 room,Value.int .i64 (wrap64 (stop - 1)),Value.bool false],.int .i64 0]) ?hres rfl ?_
 case hres =>
  simp only [results,r0,r1,r2,r3,r4,r5,r6]
  first|rfl|(simp [r0,r1,r2,r3,r4,r5,r6];done)|(go_simp;done)|(go_simp;rfl)
 have hbF:=HB7.out
 have q:=H.out.step (Step.of_below (D:=D) hbF)
 exact ⟨_,rfl,⟨_,_,_,_,rfl,⟨q.l0,q.f0,q.l1,q.f1⟩⟩,hbF⟩
set_option maxHeartbeats 8000000 in
set_option maxRecDepth 100000 in
theorem refDo2_1_die (h:RawV W D A0 A1 c0 c1 d) (hD:∀ k,D k->k<W.heap.size) (hg:d.Good) (i:Int) (A:Option Addr) (m c:Nat) (b:List Int) (hm:m=b.length) (hc:m<=c) (hA:Kd.F U8 W (λk=>¬ D k) A m b) (hd:d.dead=false) (hi:i=1) (hs:d.stop=0) :
  Calls Try.prog 24 #[dkV A0 A1 c0 c1 d,.int .i64 2,.int .i64 i,.slice A m c] W λe w'=>∃ v,e = .returned (.tuple #[v,.int .i64 (d.act 2 i b).2])/\Is w' D v (d.act 2 i b).1/\Below W.heap.size W w':=by
 have ea:d.act 2 i b=(d.die,9):=by unfold Dk.act;rw [if_neg (by decide),if_neg (by decide)];unfold Dk.syn;rw [Dk.why_ok hd (by omega),if_neg (by decide)];unfold Dk.did;rw [if_pos hs]
 rw [ea]
 clear ea
 obtain ⟨b0,s0,b1,s1,room,stop,dead⟩:=d
 obtain rfl:dead=false:=hd
 obtain rfl:stop=0:=hs
 subst hi
 have H:=Aside0.mk h
 have HD:=Aside0.mk hD
 have HA:=Aside0.mk hA
 have HG:=Aside0.mk hg
 have HM:=Aside0.mk hm
 clear h hD hA hg hm
 go_enter Try.func24,Try.ntmps24
 go_wp2
 go_returns
 exact ⟨_,rfl,⟨_,_,_,_,rfl,(show RawV W D A0 A1 c0 c1 ⟨b0,s0,b1,s1,room,0,true⟩ from ⟨H.out.l0,H.out.f0,H.out.l1,H.out.f1⟩).step (Step.of_below (by repeat' (first|(with_reducible exact Below.refl _ _)|(with_reducible assumption)|(with_reducible refine Below.setCell ?_ ?_ _)|(with_reducible refine below_alloc ?_ _))))⟩,by repeat' (first|(with_reducible exact Below.refl _ _)|(with_reducible assumption)|(with_reducible refine Below.setCell ?_ ?_ _)|(with_reducible refine below_alloc ?_ _))⟩
set_option maxHeartbeats 8000000 in
set_option maxRecDepth 100000 in
theorem refDo2_1_0 (h:RawV W D A0 A1 c0 c1 d) (hD:∀ k,D k->k<W.heap.size) (hg:d.Good) (i:Int) (A:Option Addr) (m c:Nat) (b:List Int) (hm:m=b.length) (hc:m<=c) (hA:Kd.F U8 W (λk=>¬ D k) A m b) (hd:d.dead=false) (hi:i=1) (hs:d.stop≠0) (hp:¬ 0<d.stop) :
  Calls Try.prog 24 #[dkV A0 A1 c0 c1 d,.int .i64 2,.int .i64 i,.slice A m c] W λe w'=>∃ v,e = .returned (.tuple #[v,.int .i64 (d.act 2 i b).2])/\Is w' D v (d.act 2 i b).1/\Below W.heap.size W w':=by
 have ea:d.act 2 i b=(d.tick.put 1 d.b1 (d.b1.length:Int),0):=by unfold Dk.act;rw [if_neg (by decide),if_neg (by decide)];unfold Dk.syn;rw [Dk.why_ok hd (by omega),if_neg (by decide)];unfold Dk.did;rw [if_neg hs,hi];rfl
 rw [ea]
 clear ea
 obtain ⟨b0,s0,b1,s1,room,stop,dead⟩:=d
 obtain rfl:dead=false:=hd
 have z0:(stop == 0)=false:=beq_eq_false_iff_ne.2 hs
 have p1:decide (stop > 0)=false:=decide_eq_false hp
 have p2:decide (0<stop)=false:=decide_eq_false hp
 rw [Dk.tick_neg hp]
 subst hi
 clear hs hp
 have H:=Aside0.mk h
 have HD:=Aside0.mk hD
 have HA:=Aside0.mk hA
 have HG:=Aside0.mk hg
 have HM:=Aside0.mk hm
 clear h hD hA hg hm
 go_enter Try.func24,Try.ntmps24
 go_upto_region 12 with (fail)
 have hb:Below W.heap.size W ((W.alloc (.cells #[.slice A0 b0.length c0,.int .i64 s0,.slice A1 b1.length c1,.int .i64 s1,.int .i64 room,.int .i64 (stop),.bool false] 43)).alloc (.cells #[.slice none 0 0,.int .i64 0,.slice none 0 0,.int .i64 0,.int .i64 0,.int .i64 0,.bool false] 43)):=below_alloc (below_alloc (Below.refl _ _) _) _
 have x4:((W.alloc (.cells #[.slice A0 b0.length c0,.int .i64 s0,.slice A1 b1.length c1,.int .i64 s1,.int .i64 room,.int .i64 (stop),.bool false] 43)).alloc (.cells #[.slice none 0 0,.int .i64 0,.slice none 0 0,.int .i64 0,.int .i64 0,.int .i64 0,.bool false] 43)).heap[W.heap.size]? = some (.cells #[.slice A0 b0.length c0,.int .i64 s0,.slice A1 b1.length c1,.int .i64 s1,.int .i64 room,.int .i64 (stop),.bool false] 43 (0,0)):=blk_below (heap_alloc_new W _) (below_alloc (Below.refl _ _) _)
 have x8:((W.alloc (.cells #[.slice A0 b0.length c0,.int .i64 s0,.slice A1 b1.length c1,.int .i64 s1,.int .i64 room,.int .i64 (stop),.bool false] 43)).alloc (.cells #[.slice none 0 0,.int .i64 0,.slice none 0 0,.int .i64 0,.int .i64 0,.int .i64 0,.bool false] 43)).heap[W.heap.size+1]? = some (.cells #[.slice none 0 0,.int .i64 0,.slice none 0 0,.int .i64 0,.int .i64 0,.int .i64 0,.bool false] 43 (0,0)):=by have h_:=heap_alloc_new (W.alloc (.cells #[.slice A0 b0.length c0,.int .i64 s0,.slice A1 b1.length c1,.int .i64 s1,.int .i64 room,.int .i64 (stop),.bool false] 43)) (.cells #[.slice none 0 0,.int .i64 0,.slice none 0 0,.int .i64 0,.int .i64 0,.int .i64 0,.bool false] 43);rwa [show(W.alloc (.cells #[.slice A0 b0.length c0,.int .i64 s0,.slice A1 b1.length c1,.int .i64 s1,.int .i64 room,.int .i64 (stop),.bool false] 43)).heap.size=W.heap.size+1 by simp] at h_
 have HB:=Aside0.mk hb
 have X4:=Aside0.mk x4
 have X8:=Aside0.mk x8
 clear hb x4 x8
 generalize (W.alloc (.cells #[.slice A0 b0.length c0,.int .i64 s0,.slice A1 b1.length c1,.int .i64 s1,.int .i64 room,.int .i64 (stop),.bool false] 43)).alloc (.cells #[.slice none 0 0,.int .i64 0,.slice none 0 0,.int .i64 0,.int .i64 0,.int .i64 0,.bool false] 43)=w3 at HB X4 X8 ⊢
 have k0:=(blk_cell X4.out 0).trans (rfl:_=some (Value.slice A0 b0.length c0))
 have k1:=(blk_cell X4.out 1).trans (rfl:_=some (Value.int .i64 s0))
 have k2:=(blk_cell X4.out 2).trans (rfl:_=some (Value.slice A1 b1.length c1))
 have k3:=(blk_cell X4.out 3).trans (rfl:_=some (Value.int .i64 s1))
 have k4:=(blk_cell X4.out 4).trans (rfl:_=some (Value.int .i64 room))
 have k5:=(blk_cell X4.out 5).trans (rfl:_=some (Value.int .i64 (stop)))
 have k6:=(blk_cell X4.out 6).trans (rfl:_=some (Value.bool false))
 go_upto_region 20 with (first|(go_at_call 25;(with_reducible refine Calls.mono (refGet_one w3 A0 A1 c0 c1 (⟨b0,s0,b1,s1,room,stop,false⟩:Dk)) ?_);rintro e w4 ⟨rfl,hb⟩;clear k0 k1 k2 k3 k4 k5 k6;have x4:=blk_below X4.out hb;have x8:=blk_below X8.out hb;have hb2:=below_step HB.out hb;clear X4 X8 HB;have X4:=Aside0.mk x4;have X8:=Aside0.mk x8;have HB:=Aside0.mk hb2;clear x4 x8 hb2 hb))
 have hb:=below_alloc (Below.refl w4.heap.size w4) (.cells #[.slice A1 b1.length c1,.int .i64 (b1.length:Int)] 41)
 have X10:=Aside0.mk (heap_alloc_new w4 (.cells #[.slice A1 b1.length c1,.int .i64 (b1.length:Int)] 41))
 have x4:=blk_below X4.out hb
 have x8:=blk_below X8.out hb
 have hb2:=below_step HB.out hb
 clear X4 X8 HB
 have X4:=Aside0.mk x4
 have X8:=Aside0.mk x8
 have HB:=Aside0.mk hb2
 clear x4 x8 hb2 hb
 generalize w4.alloc (.cells #[.slice A1 b1.length c1,.int .i64 (b1.length:Int)] 41)=w5 at HB X4 X8 X10 ⊢
 have k0:=(blk_cell X4.out 0).trans (rfl:_=some (Value.slice A0 b0.length c0))
 have k1:=(blk_cell X4.out 1).trans (rfl:_=some (Value.int .i64 s0))
 have k2:=(blk_cell X4.out 2).trans (rfl:_=some (Value.slice A1 b1.length c1))
 have k3:=(blk_cell X4.out 3).trans (rfl:_=some (Value.int .i64 s1))
 have k4:=(blk_cell X4.out 4).trans (rfl:_=some (Value.int .i64 room))
 have k5:=(blk_cell X4.out 5).trans (rfl:_=some (Value.int .i64 (stop)))
 have k6:=(blk_cell X4.out 6).trans (rfl:_=some (Value.bool false))
 have j0:=(blk_cell X10.out 0).trans (rfl:_=some (Value.slice A1 b1.length c1))
 have j1:=(blk_cell X10.out 1).trans (rfl:_=some (Value.int .i64 (b1.length:Int)))
 have hS:Calls Try.prog 37 #[.agg #[.slice A0 b0.length c0,.int .i64 s0,.slice A1 b1.length c1,.int .i64 s1,.int .i64 room,.int .i64 (stop),.bool false],.int .i64 1,.agg #[.slice A1 b1.length c1,.int .i64 (b1.length:Int)]] w5 λe w'=>e = .returned (.agg #[Value.slice A0 b0.length c0,Value.int .i64 s0,Value.slice A1 b1.length c1,Value.int .i64 (b1.length:Int),Value.int .i64 room,Value.int .i64 (stop),Value.bool false])/\Below w5.heap.size w5 w':=refSet_one w5 A0 A1 c0 c1 (⟨b0,s0,b1,s1,room,stop,false⟩:Dk) A1 c1 (b1:List Int) ((b1.length:Int))
 go_wp2_with (first|(go_at_call 37;(with_reducible refine Calls.mono hS ?_);rintro e w6 ⟨rfl,hb⟩;clear k0 k1 k2 k3 k4 k5 k6 j0 j1 X10;have x4:=blk_below X4.out hb;have x8:=blk_below X8.out hb;have hb2:=below_step HB.out hb;clear X4 X8 HB;have X4:=Aside0.mk x4;have X8:=Aside0.mk x8;have HB:=Aside0.mk hb2;clear x4 x8 hb2 hb;have z0:=(blk_cell X8.out 0).trans (rfl:_=some (Value.slice none 0 0));have z1:=(blk_cell X8.out 1).trans (rfl:_=some (Value.int .i64 0));have z2:=(blk_cell X8.out 2).trans (rfl:_=some (Value.slice none 0 0));have z3:=(blk_cell X8.out 3).trans (rfl:_=some (Value.int .i64 0));have z4:=(blk_cell X8.out 4).trans (rfl:_=some (Value.int .i64 0));have z5:=(blk_cell X8.out 5).trans (rfl:_=some (Value.int .i64 0));have z6:=(blk_cell X8.out 6).trans (rfl:_=some (Value.bool false));have f0:=blk_frozen X8.out 0;have f1:=blk_frozen X8.out 1;have f2:=blk_frozen X8.out 2;have f3:=blk_frozen X8.out 3;have f4:=blk_frozen X8.out 4;have f5:=blk_frozen X8.out 5;have f6:=blk_frozen X8.out 6)|((with_reducible refine store_event (t:=43) (p:=8) rfl rfl rfl (w1:=(((((((w6.setCell ⟨W.heap.size+1,0,none⟩ (Value.slice A0 b0.length c0)).setCell ⟨W.heap.size+1,1,none⟩ (Value.int .i64 s0)).setCell ⟨W.heap.size+1,2,none⟩ (Value.slice A1 b1.length c1)).setCell ⟨W.heap.size+1,3,none⟩ (Value.int .i64 (b1.length:Int))).setCell ⟨W.heap.size+1,4,none⟩ (Value.int .i64 room)).setCell ⟨W.heap.size+1,5,none⟩ (Value.int .i64 (stop))).setCell ⟨W.heap.size+1,6,none⟩ (Value.bool false))) ?hrun ?_);(case hrun=>first|(go_simp;done)|(go_simp;rfl));intro w7 hw7;have Y8:=Aside0.mk (show w7.heap[W.heap.size+1]? = some (.cells #[Value.slice A0 b0.length c0,Value.int .i64 s0,Value.slice A1 b1.length c1,Value.int .i64 (b1.length:Int),Value.int .i64 room,Value.int .i64 (stop),Value.bool false] 43 (0,0)) by rw [hw7];exact(blk_put ((blk_put ((blk_put ((blk_put ((blk_put ((blk_put ((blk_put (X8.out) 0 (Value.slice A0 b0.length c0) rfl)) 1 (Value.int .i64 s0) rfl)) 2 (Value.slice A1 b1.length c1) rfl)) 3 (Value.int .i64 (b1.length:Int)) rfl)) 4 (Value.int .i64 room) rfl)) 5 (Value.int .i64 (stop)) rfl)) 6 (Value.bool false) rfl));have HB7:=Aside0.mk (show Below W.heap.size W w7 by rw [hw7];exact(below_set ((below_set ((below_set ((below_set ((below_set ((below_set ((below_set (HB.out) (Nat.le_succ _))) (Nat.le_succ _))) (Nat.le_succ _))) (Nat.le_succ _))) (Nat.le_succ _))) (Nat.le_succ _))) (Nat.le_succ _)));clear hw7 z0 z1 z2 z3 z4 z5 z6 f0 f1 f2 f3 f4 f5 f6;have r0:=(blk_cell Y8.out 0).trans (rfl:_=some (Value.slice A0 b0.length c0));have r1:=(blk_cell Y8.out 1).trans (rfl:_=some (Value.int .i64 s0));have r2:=(blk_cell Y8.out 2).trans (rfl:_=some (Value.slice A1 b1.length c1));have r3:=(blk_cell Y8.out 3).trans (rfl:_=some (Value.int .i64 (b1.length:Int)));have r4:=(blk_cell Y8.out 4).trans (rfl:_=some (Value.int .i64 room));have r5:=(blk_cell Y8.out 5).trans (rfl:_=some (Value.int .i64 (stop)));have r6:=(blk_cell Y8.out 6).trans (rfl:_=some (Value.bool false))))
 refine bodyPost_ret (v:=.tuple #[.agg #[Value.slice A0 b0.length c0,Value.int .i64 s0,Value.slice A1 b1.length c1,Value.int .i64 (b1.length:Int),Value.int .i64 room,Value.int .i64 (stop),Value.bool false],.int .i64 0]) ?hres rfl ?_
 case hres =>
  simp only [results,r0,r1,r2,r3,r4,r5,r6]
  first|rfl|(simp [r0,r1,r2,r3,r4,r5,r6];done)|(go_simp;done)|(go_simp;rfl)
 have hbF:=HB7.out
 have q:=H.out.step (Step.of_below (D:=D) hbF)
 exact ⟨_,rfl,⟨_,_,_,_,rfl,⟨q.l0,q.f0,q.l1,q.f1⟩⟩,hbF⟩
set_option maxHeartbeats 8000000 in
set_option maxRecDepth 100000 in
theorem refDo2_1_1 (h:RawV W D A0 A1 c0 c1 d) (hD:∀ k,D k->k<W.heap.size) (hg:d.Good) (i:Int) (A:Option Addr) (m c:Nat) (b:List Int) (hm:m=b.length) (hc:m<=c) (hA:Kd.F U8 W (λk=>¬ D k) A m b) (hd:d.dead=false) (hi:i=1) (hs:d.stop≠0) (hp:0<d.stop) :
  Calls Try.prog 24 #[dkV A0 A1 c0 c1 d,.int .i64 2,.int .i64 i,.slice A m c] W λe w'=>∃ v,e = .returned (.tuple #[v,.int .i64 (d.act 2 i b).2])/\Is w' D v (d.act 2 i b).1/\Below W.heap.size W w':=by
 have ea:d.act 2 i b=(d.tick.put 1 d.b1 (d.b1.length:Int),0):=by unfold Dk.act;rw [if_neg (by decide),if_neg (by decide)];unfold Dk.syn;rw [Dk.why_ok hd (by omega),if_neg (by decide)];unfold Dk.did;rw [if_neg hs,hi];rfl
 rw [ea]
 clear ea
 obtain ⟨b0,s0,b1,s1,room,stop,dead⟩:=d
 obtain rfl:dead=false:=hd
 have z0:(stop == 0)=false:=beq_eq_false_iff_ne.2 hs
 have p1:decide (stop > 0)=true:=decide_eq_true hp
 have p2:decide (0<stop)=true:=decide_eq_true hp
 rw [Dk.tick_pos hp]
 subst hi
 clear hs hp
 have H:=Aside0.mk h
 have HD:=Aside0.mk hD
 have HA:=Aside0.mk hA
 have HG:=Aside0.mk hg
 have HM:=Aside0.mk hm
 clear h hD hA hg hm
 go_enter Try.func24,Try.ntmps24
 go_upto_region 12 with (fail)
 have hb:Below W.heap.size W ((W.alloc (.cells #[.slice A0 b0.length c0,.int .i64 s0,.slice A1 b1.length c1,.int .i64 s1,.int .i64 room,.int .i64 (wrap64 (stop - 1)),.bool false] 43)).alloc (.cells #[.slice none 0 0,.int .i64 0,.slice none 0 0,.int .i64 0,.int .i64 0,.int .i64 0,.bool false] 43)):=below_alloc (below_alloc (Below.refl _ _) _) _
 have x4:((W.alloc (.cells #[.slice A0 b0.length c0,.int .i64 s0,.slice A1 b1.length c1,.int .i64 s1,.int .i64 room,.int .i64 (wrap64 (stop - 1)),.bool false] 43)).alloc (.cells #[.slice none 0 0,.int .i64 0,.slice none 0 0,.int .i64 0,.int .i64 0,.int .i64 0,.bool false] 43)).heap[W.heap.size]? = some (.cells #[.slice A0 b0.length c0,.int .i64 s0,.slice A1 b1.length c1,.int .i64 s1,.int .i64 room,.int .i64 (wrap64 (stop - 1)),.bool false] 43 (0,0)):=blk_below (heap_alloc_new W _) (below_alloc (Below.refl _ _) _)
 have x8:((W.alloc (.cells #[.slice A0 b0.length c0,.int .i64 s0,.slice A1 b1.length c1,.int .i64 s1,.int .i64 room,.int .i64 (wrap64 (stop - 1)),.bool false] 43)).alloc (.cells #[.slice none 0 0,.int .i64 0,.slice none 0 0,.int .i64 0,.int .i64 0,.int .i64 0,.bool false] 43)).heap[W.heap.size+1]? = some (.cells #[.slice none 0 0,.int .i64 0,.slice none 0 0,.int .i64 0,.int .i64 0,.int .i64 0,.bool false] 43 (0,0)):=by have h_:=heap_alloc_new (W.alloc (.cells #[.slice A0 b0.length c0,.int .i64 s0,.slice A1 b1.length c1,.int .i64 s1,.int .i64 room,.int .i64 (wrap64 (stop - 1)),.bool false] 43)) (.cells #[.slice none 0 0,.int .i64 0,.slice none 0 0,.int .i64 0,.int .i64 0,.int .i64 0,.bool false] 43);rwa [show(W.alloc (.cells #[.slice A0 b0.length c0,.int .i64 s0,.slice A1 b1.length c1,.int .i64 s1,.int .i64 room,.int .i64 (wrap64 (stop - 1)),.bool false] 43)).heap.size=W.heap.size+1 by simp] at h_
 have HB:=Aside0.mk hb
 have X4:=Aside0.mk x4
 have X8:=Aside0.mk x8
 clear hb x4 x8
 generalize (W.alloc (.cells #[.slice A0 b0.length c0,.int .i64 s0,.slice A1 b1.length c1,.int .i64 s1,.int .i64 room,.int .i64 (wrap64 (stop - 1)),.bool false] 43)).alloc (.cells #[.slice none 0 0,.int .i64 0,.slice none 0 0,.int .i64 0,.int .i64 0,.int .i64 0,.bool false] 43)=w3 at HB X4 X8 ⊢
 have k0:=(blk_cell X4.out 0).trans (rfl:_=some (Value.slice A0 b0.length c0))
 have k1:=(blk_cell X4.out 1).trans (rfl:_=some (Value.int .i64 s0))
 have k2:=(blk_cell X4.out 2).trans (rfl:_=some (Value.slice A1 b1.length c1))
 have k3:=(blk_cell X4.out 3).trans (rfl:_=some (Value.int .i64 s1))
 have k4:=(blk_cell X4.out 4).trans (rfl:_=some (Value.int .i64 room))
 have k5:=(blk_cell X4.out 5).trans (rfl:_=some (Value.int .i64 (wrap64 (stop - 1))))
 have k6:=(blk_cell X4.out 6).trans (rfl:_=some (Value.bool false))
 go_upto_region 20 with (first|(go_at_call 25;(with_reducible refine Calls.mono (refGet_one w3 A0 A1 c0 c1 (⟨b0,s0,b1,s1,room,wrap64 (stop - 1),false⟩:Dk)) ?_);rintro e w4 ⟨rfl,hb⟩;clear k0 k1 k2 k3 k4 k5 k6;have x4:=blk_below X4.out hb;have x8:=blk_below X8.out hb;have hb2:=below_step HB.out hb;clear X4 X8 HB;have X4:=Aside0.mk x4;have X8:=Aside0.mk x8;have HB:=Aside0.mk hb2;clear x4 x8 hb2 hb))
 have hb:=below_alloc (Below.refl w4.heap.size w4) (.cells #[.slice A1 b1.length c1,.int .i64 (b1.length:Int)] 41)
 have X10:=Aside0.mk (heap_alloc_new w4 (.cells #[.slice A1 b1.length c1,.int .i64 (b1.length:Int)] 41))
 have x4:=blk_below X4.out hb
 have x8:=blk_below X8.out hb
 have hb2:=below_step HB.out hb
 clear X4 X8 HB
 have X4:=Aside0.mk x4
 have X8:=Aside0.mk x8
 have HB:=Aside0.mk hb2
 clear x4 x8 hb2 hb
 generalize w4.alloc (.cells #[.slice A1 b1.length c1,.int .i64 (b1.length:Int)] 41)=w5 at HB X4 X8 X10 ⊢
 have k0:=(blk_cell X4.out 0).trans (rfl:_=some (Value.slice A0 b0.length c0))
 have k1:=(blk_cell X4.out 1).trans (rfl:_=some (Value.int .i64 s0))
 have k2:=(blk_cell X4.out 2).trans (rfl:_=some (Value.slice A1 b1.length c1))
 have k3:=(blk_cell X4.out 3).trans (rfl:_=some (Value.int .i64 s1))
 have k4:=(blk_cell X4.out 4).trans (rfl:_=some (Value.int .i64 room))
 have k5:=(blk_cell X4.out 5).trans (rfl:_=some (Value.int .i64 (wrap64 (stop - 1))))
 have k6:=(blk_cell X4.out 6).trans (rfl:_=some (Value.bool false))
 have j0:=(blk_cell X10.out 0).trans (rfl:_=some (Value.slice A1 b1.length c1))
 have j1:=(blk_cell X10.out 1).trans (rfl:_=some (Value.int .i64 (b1.length:Int)))
 have hS:Calls Try.prog 37 #[.agg #[.slice A0 b0.length c0,.int .i64 s0,.slice A1 b1.length c1,.int .i64 s1,.int .i64 room,.int .i64 (wrap64 (stop - 1)),.bool false],.int .i64 1,.agg #[.slice A1 b1.length c1,.int .i64 (b1.length:Int)]] w5 λe w'=>e = .returned (.agg #[Value.slice A0 b0.length c0,Value.int .i64 s0,Value.slice A1 b1.length c1,Value.int .i64 (b1.length:Int),Value.int .i64 room,Value.int .i64 (wrap64 (stop - 1)),Value.bool false])/\Below w5.heap.size w5 w':=refSet_one w5 A0 A1 c0 c1 (⟨b0,s0,b1,s1,room,wrap64 (stop - 1),false⟩:Dk) A1 c1 (b1:List Int) ((b1.length:Int))
 go_wp2_with (first|(go_at_call 37;(with_reducible refine Calls.mono hS ?_);rintro e w6 ⟨rfl,hb⟩;clear k0 k1 k2 k3 k4 k5 k6 j0 j1 X10;have x4:=blk_below X4.out hb;have x8:=blk_below X8.out hb;have hb2:=below_step HB.out hb;clear X4 X8 HB;have X4:=Aside0.mk x4;have X8:=Aside0.mk x8;have HB:=Aside0.mk hb2;clear x4 x8 hb2 hb;have z0:=(blk_cell X8.out 0).trans (rfl:_=some (Value.slice none 0 0));have z1:=(blk_cell X8.out 1).trans (rfl:_=some (Value.int .i64 0));have z2:=(blk_cell X8.out 2).trans (rfl:_=some (Value.slice none 0 0));have z3:=(blk_cell X8.out 3).trans (rfl:_=some (Value.int .i64 0));have z4:=(blk_cell X8.out 4).trans (rfl:_=some (Value.int .i64 0));have z5:=(blk_cell X8.out 5).trans (rfl:_=some (Value.int .i64 0));have z6:=(blk_cell X8.out 6).trans (rfl:_=some (Value.bool false));have f0:=blk_frozen X8.out 0;have f1:=blk_frozen X8.out 1;have f2:=blk_frozen X8.out 2;have f3:=blk_frozen X8.out 3;have f4:=blk_frozen X8.out 4;have f5:=blk_frozen X8.out 5;have f6:=blk_frozen X8.out 6)|((with_reducible refine store_event (t:=43) (p:=8) rfl rfl rfl (w1:=(((((((w6.setCell ⟨W.heap.size+1,0,none⟩ (Value.slice A0 b0.length c0)).setCell ⟨W.heap.size+1,1,none⟩ (Value.int .i64 s0)).setCell ⟨W.heap.size+1,2,none⟩ (Value.slice A1 b1.length c1)).setCell ⟨W.heap.size+1,3,none⟩ (Value.int .i64 (b1.length:Int))).setCell ⟨W.heap.size+1,4,none⟩ (Value.int .i64 room)).setCell ⟨W.heap.size+1,5,none⟩ (Value.int .i64 (wrap64 (stop - 1)))).setCell ⟨W.heap.size+1,6,none⟩ (Value.bool false))) ?hrun ?_);(case hrun=>first|(go_simp;done)|(go_simp;rfl));intro w7 hw7;have Y8:=Aside0.mk (show w7.heap[W.heap.size+1]? = some (.cells #[Value.slice A0 b0.length c0,Value.int .i64 s0,Value.slice A1 b1.length c1,Value.int .i64 (b1.length:Int),Value.int .i64 room,Value.int .i64 (wrap64 (stop - 1)),Value.bool false] 43 (0,0)) by rw [hw7];exact(blk_put ((blk_put ((blk_put ((blk_put ((blk_put ((blk_put ((blk_put (X8.out) 0 (Value.slice A0 b0.length c0) rfl)) 1 (Value.int .i64 s0) rfl)) 2 (Value.slice A1 b1.length c1) rfl)) 3 (Value.int .i64 (b1.length:Int)) rfl)) 4 (Value.int .i64 room) rfl)) 5 (Value.int .i64 (wrap64 (stop - 1))) rfl)) 6 (Value.bool false) rfl));have HB7:=Aside0.mk (show Below W.heap.size W w7 by rw [hw7];exact(below_set ((below_set ((below_set ((below_set ((below_set ((below_set ((below_set (HB.out) (Nat.le_succ _))) (Nat.le_succ _))) (Nat.le_succ _))) (Nat.le_succ _))) (Nat.le_succ _))) (Nat.le_succ _))) (Nat.le_succ _)));clear hw7 z0 z1 z2 z3 z4 z5 z6 f0 f1 f2 f3 f4 f5 f6;have r0:=(blk_cell Y8.out 0).trans (rfl:_=some (Value.slice A0 b0.length c0));have r1:=(blk_cell Y8.out 1).trans (rfl:_=some (Value.int .i64 s0));have r2:=(blk_cell Y8.out 2).trans (rfl:_=some (Value.slice A1 b1.length c1));have r3:=(blk_cell Y8.out 3).trans (rfl:_=some (Value.int .i64 (b1.length:Int)));have r4:=(blk_cell Y8.out 4).trans (rfl:_=some (Value.int .i64 room));have r5:=(blk_cell Y8.out 5).trans (rfl:_=some (Value.int .i64 (wrap64 (stop - 1))));have r6:=(blk_cell Y8.out 6).trans (rfl:_=some (Value.bool false))))
 refine bodyPost_ret (v:=.tuple #[.agg #[Value.slice A0 b0.length c0,Value.int .i64 s0,Value.slice A1 b1.length c1,Value.int .i64 (b1.length:Int),Value.int .i64 room,Value.int .i64 (wrap64 (stop - 1)),Value.bool false],.int .i64 0]) ?hres rfl ?_
 case hres =>
  simp only [results,r0,r1,r2,r3,r4,r5,r6]
  first|rfl|(simp [r0,r1,r2,r3,r4,r5,r6];done)|(go_simp;done)|(go_simp;rfl)
 have hbF:=HB7.out
 have q:=H.out.step (Step.of_below (D:=D) hbF)
 exact ⟨_,rfl,⟨_,_,_,_,rfl,⟨q.l0,q.f0,q.l1,q.f1⟩⟩,hbF⟩
set_option maxHeartbeats 8000000 in
set_option maxRecDepth 100000 in
theorem refDo0_out (h:RawV W D A0 A1 c0 c1 d) (hD:∀ k,D k->k<W.heap.size) (hg:d.Good) (i:Int) (A:Option Addr) (m c:Nat) (b:List Int) (hm:m=b.length) (hc:m<=c) (hA:Kd.F U8 W (λk=>¬ D k) A m b) (hd:d.dead=false) (hi:i<0\/2<=i) :
  Calls Try.prog 24 #[dkV A0 A1 c0 c1 d,.int .i64 0,.int .i64 i,.slice A m c] W λe w'=>∃ v,e = .returned (.tuple #[v,.int .i64 (d.act 0 i b).2])/\Is w' D v (d.act 0 i b).1/\Below W.heap.size W w':=by
 have ea:d.act 0 i b=(d,1):=by unfold Dk.act;rw [if_pos rfl];unfold Dk.app;rw [Dk.why_out hd hi,if_pos (by decide)]
 rw [ea]
 clear ea
 obtain ⟨b0,s0,b1,s1,room,stop,dead⟩:=d
 obtain rfl:dead=false:=hd
 have z0:(i != 0)=true:=by simp;omega
 have z1:(i != 1)=true:=by simp;omega
 clear hi
 have H:=Aside0.mk h
 have HD:=Aside0.mk hD
 have HA:=Aside0.mk hA
 have HG:=Aside0.mk hg
 have HM:=Aside0.mk hm
 clear h hD hA hg hm
 go_enter Try.func24,Try.ntmps24
 go_wp2
 go_returns
 exact ⟨_,rfl,⟨_,_,_,_,rfl,H.out.step (Step.of_below (by repeat' (first|(with_reducible exact Below.refl _ _)|(with_reducible assumption)|(with_reducible refine Below.setCell ?_ ?_ _)|(with_reducible refine below_alloc ?_ _))))⟩,by repeat' (first|(with_reducible exact Below.refl _ _)|(with_reducible assumption)|(with_reducible refine Below.setCell ?_ ?_ _)|(with_reducible refine below_alloc ?_ _))⟩
set_option maxHeartbeats 8000000 in
set_option maxRecDepth 100000 in
theorem refDo0_0_full (h:RawV W D A0 A1 c0 c1 d) (hD:∀ k,D k->k<W.heap.size) (hg:d.Good) (i:Int) (A:Option Addr) (m c:Nat) (b:List Int) (hm:m=b.length) (hc:m<=c) (hA:Kd.F U8 W (λk=>¬ D k) A m b) (hd:d.dead=false) (hi:i=0) (hf:d.left<(b.length:Int)) :
  Calls Try.prog 24 #[dkV A0 A1 c0 c1 d,.int .i64 0,.int .i64 i,.slice A m c] W λe w'=>∃ v,e = .returned (.tuple #[v,.int .i64 (d.act 0 i b).2])/\Is w' D v (d.act 0 i b).1/\Below W.heap.size W w':=by
 have ea:d.act 0 i b=(d,6):=by unfold Dk.act;rw [if_pos rfl];unfold Dk.app;rw [Dk.why_ok hd (by omega),if_neg (by decide),if_pos hf]
 rw [ea]
 clear ea
 obtain ⟨b0,s0,b1,s1,room,stop,dead⟩:=d
 obtain rfl:dead=false:=hd
 subst hi
 have l1:decide ((m:Int) > Dk.left ⟨b0,s0,b1,s1,room,stop,false⟩)=true:=decide_eq_true (by rw [hm];exact hf)
 have l2:decide (Dk.left ⟨b0,s0,b1,s1,room,stop,false⟩<(m:Int))=true:=decide_eq_true (by rw [hm];exact hf)
 clear hf
 have H:=Aside0.mk h
 have HD:=Aside0.mk hD
 have HA:=Aside0.mk hA
 have HG:=Aside0.mk hg
 have HM:=Aside0.mk hm
 clear h hD hA hg hm
 go_enter Try.func24,Try.ntmps24
 go_upto_region 5 with (fail)
 have hb:Below W.heap.size W ((W.alloc (.cells #[.slice A0 b0.length c0,.int .i64 s0,.slice A1 b1.length c1,.int .i64 s1,.int .i64 room,.int .i64 (stop),.bool false] 43)).alloc (.cells #[.slice none 0 0,.int .i64 0,.slice none 0 0,.int .i64 0,.int .i64 0,.int .i64 0,.bool false] 43)):=below_alloc (below_alloc (Below.refl _ _) _) _
 have x4:((W.alloc (.cells #[.slice A0 b0.length c0,.int .i64 s0,.slice A1 b1.length c1,.int .i64 s1,.int .i64 room,.int .i64 (stop),.bool false] 43)).alloc (.cells #[.slice none 0 0,.int .i64 0,.slice none 0 0,.int .i64 0,.int .i64 0,.int .i64 0,.bool false] 43)).heap[W.heap.size]? = some (.cells #[.slice A0 b0.length c0,.int .i64 s0,.slice A1 b1.length c1,.int .i64 s1,.int .i64 room,.int .i64 (stop),.bool false] 43 (0,0)):=blk_below (heap_alloc_new W _) (below_alloc (Below.refl _ _) _)
 have x8:((W.alloc (.cells #[.slice A0 b0.length c0,.int .i64 s0,.slice A1 b1.length c1,.int .i64 s1,.int .i64 room,.int .i64 (stop),.bool false] 43)).alloc (.cells #[.slice none 0 0,.int .i64 0,.slice none 0 0,.int .i64 0,.int .i64 0,.int .i64 0,.bool false] 43)).heap[W.heap.size+1]? = some (.cells #[.slice none 0 0,.int .i64 0,.slice none 0 0,.int .i64 0,.int .i64 0,.int .i64 0,.bool false] 43 (0,0)):=by have h_:=heap_alloc_new (W.alloc (.cells #[.slice A0 b0.length c0,.int .i64 s0,.slice A1 b1.length c1,.int .i64 s1,.int .i64 room,.int .i64 (stop),.bool false] 43)) (.cells #[.slice none 0 0,.int .i64 0,.slice none 0 0,.int .i64 0,.int .i64 0,.int .i64 0,.bool false] 43);rwa [show(W.alloc (.cells #[.slice A0 b0.length c0,.int .i64 s0,.slice A1 b1.length c1,.int .i64 s1,.int .i64 room,.int .i64 (stop),.bool false] 43)).heap.size=W.heap.size+1 by simp] at h_
 have HB:=Aside0.mk hb
 have X4:=Aside0.mk x4
 have X8:=Aside0.mk x8
 clear hb x4 x8
 generalize (W.alloc (.cells #[.slice A0 b0.length c0,.int .i64 s0,.slice A1 b1.length c1,.int .i64 s1,.int .i64 room,.int .i64 (stop),.bool false] 43)).alloc (.cells #[.slice none 0 0,.int .i64 0,.slice none 0 0,.int .i64 0,.int .i64 0,.int .i64 0,.bool false] 43)=w1 at HB X4 X8 ⊢
 have hL:Calls Try.prog 36 #[.agg #[.slice A0 b0.length c0,.int .i64 s0,.slice A1 b1.length c1,.int .i64 s1,.int .i64 room,.int .i64 (stop),.bool false]] w1 λe w'=>e = .returned (.int .i64 (Dk.left ⟨b0,s0,b1,s1,room,stop,false⟩))/\Below w1.heap.size w1 w':=refLeft (H.out.step (Step.of_below (D:=D) HB.out)) HG.out
 have HL:=Aside0.mk hL
 clear hL
 have k0:=(blk_cell X4.out 0).trans (rfl:_=some (Value.slice A0 b0.length c0))
 have k1:=(blk_cell X4.out 1).trans (rfl:_=some (Value.int .i64 s0))
 have k2:=(blk_cell X4.out 2).trans (rfl:_=some (Value.slice A1 b1.length c1))
 have k3:=(blk_cell X4.out 3).trans (rfl:_=some (Value.int .i64 s1))
 have k4:=(blk_cell X4.out 4).trans (rfl:_=some (Value.int .i64 room))
 have k5:=(blk_cell X4.out 5).trans (rfl:_=some (Value.int .i64 (stop)))
 have k6:=(blk_cell X4.out 6).trans (rfl:_=some (Value.bool false))
 go_wp2_with (first|(go_at_call 36;(with_reducible refine Calls.mono HL.out ?_);rintro e w2 ⟨rfl,hb⟩;clear k0 k1 k2 k3 k4 k5 k6;have x4:=blk_below X4.out hb;have x8:=blk_below X8.out hb;have hb2:=below_step HB.out hb;clear X4 X8 HB;have X4:=Aside0.mk x4;have X8:=Aside0.mk x8;have HB:=Aside0.mk hb2;clear x4 x8 hb2 hb;have k0:=(blk_cell X4.out 0).trans (rfl:_=some (Value.slice A0 b0.length c0));have k1:=(blk_cell X4.out 1).trans (rfl:_=some (Value.int .i64 s0));have k2:=(blk_cell X4.out 2).trans (rfl:_=some (Value.slice A1 b1.length c1));have k3:=(blk_cell X4.out 3).trans (rfl:_=some (Value.int .i64 s1));have k4:=(blk_cell X4.out 4).trans (rfl:_=some (Value.int .i64 room));have k5:=(blk_cell X4.out 5).trans (rfl:_=some (Value.int .i64 (stop)));have k6:=(blk_cell X4.out 6).trans (rfl:_=some (Value.bool false));have z0:=(blk_cell X8.out 0).trans (rfl:_=some (Value.slice none 0 0));have z1:=(blk_cell X8.out 1).trans (rfl:_=some (Value.int .i64 0));have z2:=(blk_cell X8.out 2).trans (rfl:_=some (Value.slice none 0 0));have z3:=(blk_cell X8.out 3).trans (rfl:_=some (Value.int .i64 0));have z4:=(blk_cell X8.out 4).trans (rfl:_=some (Value.int .i64 0));have z5:=(blk_cell X8.out 5).trans (rfl:_=some (Value.int .i64 0));have z6:=(blk_cell X8.out 6).trans (rfl:_=some (Value.bool false));have f0:=blk_frozen X8.out 0;have f1:=blk_frozen X8.out 1;have f2:=blk_frozen X8.out 2;have f3:=blk_frozen X8.out 3;have f4:=blk_frozen X8.out 4;have f5:=blk_frozen X8.out 5;have f6:=blk_frozen X8.out 6)|((with_reducible refine store_event (t:=43) (p:=8) rfl rfl rfl (w1:=(((((((w2.setCell ⟨W.heap.size+1,0,none⟩ (Value.slice A0 b0.length c0)).setCell ⟨W.heap.size+1,1,none⟩ (Value.int .i64 s0)).setCell ⟨W.heap.size+1,2,none⟩ (Value.slice A1 b1.length c1)).setCell ⟨W.heap.size+1,3,none⟩ (Value.int .i64 s1)).setCell ⟨W.heap.size+1,4,none⟩ (Value.int .i64 room)).setCell ⟨W.heap.size+1,5,none⟩ (Value.int .i64 (stop))).setCell ⟨W.heap.size+1,6,none⟩ (Value.bool false))) ?hrun ?_);(case hrun=>first|(go_simp;done)|(go_simp;rfl));intro w7 hw7;have Y8:=Aside0.mk (show w7.heap[W.heap.size+1]? = some (.cells #[Value.slice A0 b0.length c0,Value.int .i64 s0,Value.slice A1 b1.length c1,Value.int .i64 s1,Value.int .i64 room,Value.int .i64 (stop),Value.bool false] 43 (0,0)) by rw [hw7];exact(blk_put ((blk_put ((blk_put ((blk_put ((blk_put ((blk_put ((blk_put (X8.out) 0 (Value.slice A0 b0.length c0) rfl)) 1 (Value.int .i64 s0) rfl)) 2 (Value.slice A1 b1.length c1) rfl)) 3 (Value.int .i64 s1) rfl)) 4 (Value.int .i64 room) rfl)) 5 (Value.int .i64 (stop)) rfl)) 6 (Value.bool false) rfl));have HB7:=Aside0.mk (show Below W.heap.size W w7 by rw [hw7];exact(below_set ((below_set ((below_set ((below_set ((below_set ((below_set ((below_set (HB.out) (Nat.le_succ _))) (Nat.le_succ _))) (Nat.le_succ _))) (Nat.le_succ _))) (Nat.le_succ _))) (Nat.le_succ _))) (Nat.le_succ _)));have CH7:=Aside0.mk (show ∀ k,k≠W.heap.size+1->w7.heap[k]? = w2.heap[k]? from λk hk=>by rw [hw7];exact((Below.heap_setCell ((((((w2.setCell ⟨W.heap.size+1,0,none⟩ (Value.slice A0 b0.length c0)).setCell ⟨W.heap.size+1,1,none⟩ (Value.int .i64 s0)).setCell ⟨W.heap.size+1,2,none⟩ (Value.slice A1 b1.length c1)).setCell ⟨W.heap.size+1,3,none⟩ (Value.int .i64 s1)).setCell ⟨W.heap.size+1,4,none⟩ (Value.int .i64 room)).setCell ⟨W.heap.size+1,5,none⟩ (Value.int .i64 (stop))) ⟨W.heap.size+1,6,none⟩ (Value.bool false) k hk).trans (((Below.heap_setCell (((((w2.setCell ⟨W.heap.size+1,0,none⟩ (Value.slice A0 b0.length c0)).setCell ⟨W.heap.size+1,1,none⟩ (Value.int .i64 s0)).setCell ⟨W.heap.size+1,2,none⟩ (Value.slice A1 b1.length c1)).setCell ⟨W.heap.size+1,3,none⟩ (Value.int .i64 s1)).setCell ⟨W.heap.size+1,4,none⟩ (Value.int .i64 room)) ⟨W.heap.size+1,5,none⟩ (Value.int .i64 (stop)) k hk).trans (((Below.heap_setCell ((((w2.setCell ⟨W.heap.size+1,0,none⟩ (Value.slice A0 b0.length c0)).setCell ⟨W.heap.size+1,1,none⟩ (Value.int .i64 s0)).setCell ⟨W.heap.size+1,2,none⟩ (Value.slice A1 b1.length c1)).setCell ⟨W.heap.size+1,3,none⟩ (Value.int .i64 s1)) ⟨W.heap.size+1,4,none⟩ (Value.int .i64 room) k hk).trans (((Below.heap_setCell (((w2.setCell ⟨W.heap.size+1,0,none⟩ (Value.slice A0 b0.length c0)).setCell ⟨W.heap.size+1,1,none⟩ (Value.int .i64 s0)).setCell ⟨W.heap.size+1,2,none⟩ (Value.slice A1 b1.length c1)) ⟨W.heap.size+1,3,none⟩ (Value.int .i64 s1) k hk).trans (((Below.heap_setCell ((w2.setCell ⟨W.heap.size+1,0,none⟩ (Value.slice A0 b0.length c0)).setCell ⟨W.heap.size+1,1,none⟩ (Value.int .i64 s0)) ⟨W.heap.size+1,2,none⟩ (Value.slice A1 b1.length c1) k hk).trans (((Below.heap_setCell (w2.setCell ⟨W.heap.size+1,0,none⟩ (Value.slice A0 b0.length c0)) ⟨W.heap.size+1,1,none⟩ (Value.int .i64 s0) k hk).trans (((Below.heap_setCell w2 ⟨W.heap.size+1,0,none⟩ (Value.slice A0 b0.length c0) k hk).trans (rfl)))))))))))))));clear hw7;have r0:=(blk_cell Y8.out 0).trans (rfl:_=some (Value.slice A0 b0.length c0));have r1:=(blk_cell Y8.out 1).trans (rfl:_=some (Value.int .i64 s0));have r2:=(blk_cell Y8.out 2).trans (rfl:_=some (Value.slice A1 b1.length c1));have r3:=(blk_cell Y8.out 3).trans (rfl:_=some (Value.int .i64 s1));have r4:=(blk_cell Y8.out 4).trans (rfl:_=some (Value.int .i64 room));have r5:=(blk_cell Y8.out 5).trans (rfl:_=some (Value.int .i64 (stop)));have r6:=(blk_cell Y8.out 6).trans (rfl:_=some (Value.bool false))))
 refine bodyPost_ret (v:=.tuple #[.agg #[Value.slice A0 b0.length c0,Value.int .i64 s0,Value.slice A1 b1.length c1,Value.int .i64 s1,Value.int .i64 room,Value.int .i64 (stop),Value.bool false],.int .i64 6]) ?hres rfl ?_
 case hres =>
  simp only [results,r0,r1,r2,r3,r4,r5,r6]
  first|rfl|(simp [r0,r1,r2,r3,r4,r5,r6];done)|(go_simp;done)|(go_simp;rfl)
 have hbF:=HB7.out
 have q:=H.out.step (Step.of_below (D:=D) hbF)
 exact ⟨_,rfl,⟨_,_,_,_,rfl,⟨q.l0,q.f0,q.l1,q.f1⟩⟩,hbF⟩
set_option maxHeartbeats 8000000 in
set_option maxRecDepth 100000 in
theorem refDo0_0_die (h:RawV W D A0 A1 c0 c1 d) (hD:∀ k,D k->k<W.heap.size) (hg:d.Good) (i:Int) (A:Option Addr) (m c:Nat) (b:List Int) (hm:m=b.length) (hc:m<=c) (hA:Kd.F U8 W (λk=>¬ D k) A m b) (hd:d.dead=false) (hi:i=0) (hf:¬ d.left<(b.length:Int)) (hs:d.stop=0) :
  Calls Try.prog 24 #[dkV A0 A1 c0 c1 d,.int .i64 0,.int .i64 i,.slice A m c] W λe w'=>∃ v,e = .returned (.tuple #[v,.int .i64 (d.act 0 i b).2])/\Is w' D v (d.act 0 i b).1/\Below W.heap.size W w':=by
 have ea:d.act 0 i b=(d.die,9):=by unfold Dk.act;rw [if_pos rfl];unfold Dk.app;rw [Dk.why_ok hd (by omega),if_neg (by decide),if_neg hf];unfold Dk.did;rw [if_pos hs]
 rw [ea]
 clear ea
 obtain ⟨b0,s0,b1,s1,room,stop,dead⟩:=d
 obtain rfl:dead=false:=hd
 subst hi
 have l1:decide ((m:Int) > Dk.left ⟨b0,s0,b1,s1,room,stop,false⟩)=false:=decide_eq_false (by rw [hm];exact hf)
 have l2:decide (Dk.left ⟨b0,s0,b1,s1,room,stop,false⟩<(m:Int))=false:=decide_eq_false (by rw [hm];exact hf)
 have z0:(stop == 0)=true:=beq_iff_eq.2 hs
 have ST:=Aside0.mk hs
 clear hf hs
 have H:=Aside0.mk h
 have HD:=Aside0.mk hD
 have HA:=Aside0.mk hA
 have HG:=Aside0.mk hg
 have HM:=Aside0.mk hm
 clear h hD hA hg hm
 go_enter Try.func24,Try.ntmps24
 go_upto_region 5 with (fail)
 have hb:Below W.heap.size W ((W.alloc (.cells #[.slice A0 b0.length c0,.int .i64 s0,.slice A1 b1.length c1,.int .i64 s1,.int .i64 room,.int .i64 (stop),.bool false] 43)).alloc (.cells #[.slice none 0 0,.int .i64 0,.slice none 0 0,.int .i64 0,.int .i64 0,.int .i64 0,.bool false] 43)):=below_alloc (below_alloc (Below.refl _ _) _) _
 have x4:((W.alloc (.cells #[.slice A0 b0.length c0,.int .i64 s0,.slice A1 b1.length c1,.int .i64 s1,.int .i64 room,.int .i64 (stop),.bool false] 43)).alloc (.cells #[.slice none 0 0,.int .i64 0,.slice none 0 0,.int .i64 0,.int .i64 0,.int .i64 0,.bool false] 43)).heap[W.heap.size]? = some (.cells #[.slice A0 b0.length c0,.int .i64 s0,.slice A1 b1.length c1,.int .i64 s1,.int .i64 room,.int .i64 (stop),.bool false] 43 (0,0)):=blk_below (heap_alloc_new W _) (below_alloc (Below.refl _ _) _)
 have x8:((W.alloc (.cells #[.slice A0 b0.length c0,.int .i64 s0,.slice A1 b1.length c1,.int .i64 s1,.int .i64 room,.int .i64 (stop),.bool false] 43)).alloc (.cells #[.slice none 0 0,.int .i64 0,.slice none 0 0,.int .i64 0,.int .i64 0,.int .i64 0,.bool false] 43)).heap[W.heap.size+1]? = some (.cells #[.slice none 0 0,.int .i64 0,.slice none 0 0,.int .i64 0,.int .i64 0,.int .i64 0,.bool false] 43 (0,0)):=by have h_:=heap_alloc_new (W.alloc (.cells #[.slice A0 b0.length c0,.int .i64 s0,.slice A1 b1.length c1,.int .i64 s1,.int .i64 room,.int .i64 (stop),.bool false] 43)) (.cells #[.slice none 0 0,.int .i64 0,.slice none 0 0,.int .i64 0,.int .i64 0,.int .i64 0,.bool false] 43);rwa [show(W.alloc (.cells #[.slice A0 b0.length c0,.int .i64 s0,.slice A1 b1.length c1,.int .i64 s1,.int .i64 room,.int .i64 (stop),.bool false] 43)).heap.size=W.heap.size+1 by simp] at h_
 have HB:=Aside0.mk hb
 have X4:=Aside0.mk x4
 have X8:=Aside0.mk x8
 clear hb x4 x8
 generalize (W.alloc (.cells #[.slice A0 b0.length c0,.int .i64 s0,.slice A1 b1.length c1,.int .i64 s1,.int .i64 room,.int .i64 (stop),.bool false] 43)).alloc (.cells #[.slice none 0 0,.int .i64 0,.slice none 0 0,.int .i64 0,.int .i64 0,.int .i64 0,.bool false] 43)=w1 at HB X4 X8 ⊢
 have hL:Calls Try.prog 36 #[.agg #[.slice A0 b0.length c0,.int .i64 s0,.slice A1 b1.length c1,.int .i64 s1,.int .i64 room,.int .i64 (stop),.bool false]] w1 λe w'=>e = .returned (.int .i64 (Dk.left ⟨b0,s0,b1,s1,room,stop,false⟩))/\Below w1.heap.size w1 w':=refLeft (H.out.step (Step.of_below (D:=D) HB.out)) HG.out
 have HL:=Aside0.mk hL
 clear hL
 have k0:=(blk_cell X4.out 0).trans (rfl:_=some (Value.slice A0 b0.length c0))
 have k1:=(blk_cell X4.out 1).trans (rfl:_=some (Value.int .i64 s0))
 have k2:=(blk_cell X4.out 2).trans (rfl:_=some (Value.slice A1 b1.length c1))
 have k3:=(blk_cell X4.out 3).trans (rfl:_=some (Value.int .i64 s1))
 have k4:=(blk_cell X4.out 4).trans (rfl:_=some (Value.int .i64 room))
 have k5:=(blk_cell X4.out 5).trans (rfl:_=some (Value.int .i64 (stop)))
 have k6:=(blk_cell X4.out 6).trans (rfl:_=some (Value.bool false))
 go_upto_region 9 with (first|(go_at_call 36;(with_reducible refine Calls.mono HL.out ?_);rintro e w2 ⟨rfl,hb⟩;clear k0 k1 k2 k3 k4 k5 k6;have x4:=blk_below X4.out hb;have x8:=blk_below X8.out hb;have hb2:=below_step HB.out hb;clear X4 X8 HB;have X4:=Aside0.mk x4;have X8:=Aside0.mk x8;have HB:=Aside0.mk hb2;clear x4 x8 hb2 hb;have k0:=(blk_cell X4.out 0).trans (rfl:_=some (Value.slice A0 b0.length c0));have k1:=(blk_cell X4.out 1).trans (rfl:_=some (Value.int .i64 s0));have k2:=(blk_cell X4.out 2).trans (rfl:_=some (Value.slice A1 b1.length c1));have k3:=(blk_cell X4.out 3).trans (rfl:_=some (Value.int .i64 s1));have k4:=(blk_cell X4.out 4).trans (rfl:_=some (Value.int .i64 room));have k5:=(blk_cell X4.out 5).trans (rfl:_=some (Value.int .i64 (stop)));have k6:=(blk_cell X4.out 6).trans (rfl:_=some (Value.bool false));have f6:=blk_frozen X4.out 6))
 have x4:=blk_put (cs':=#[Value.slice A0 b0.length c0,Value.int .i64 s0,Value.slice A1 b1.length c1,Value.int .i64 s1,Value.int .i64 room,Value.int .i64 (stop),Value.bool true]) X4.out 6 (.bool true) rfl
 have x8:=(Below.heap_setCell w2 ⟨W.heap.size,6,none⟩ (.bool true) (W.heap.size+1) (by simp)).trans X8.out
 have hb2:=below_set (j:=6) (v:=.bool true) HB.out (Nat.le_refl W.heap.size)
 clear X4 X8 HB k0 k1 k2 k3 k4 k5 k6 f6
 generalize w2.setCell ⟨W.heap.size,6,none⟩ (.bool true)=w3 at x4 x8 hb2 ⊢
 have X4:=Aside0.mk x4
 have X8:=Aside0.mk x8
 have HB:=Aside0.mk hb2
 clear x4 x8 hb2
 have k0:=(blk_cell X4.out 0).trans (rfl:_=some (Value.slice A0 b0.length c0))
 have k1:=(blk_cell X4.out 1).trans (rfl:_=some (Value.int .i64 s0))
 have k2:=(blk_cell X4.out 2).trans (rfl:_=some (Value.slice A1 b1.length c1))
 have k3:=(blk_cell X4.out 3).trans (rfl:_=some (Value.int .i64 s1))
 have k4:=(blk_cell X4.out 4).trans (rfl:_=some (Value.int .i64 room))
 have k5:=(blk_cell X4.out 5).trans (rfl:_=some (Value.int .i64 (stop)))
 have k6:=(blk_cell X4.out 6).trans (rfl:_=some (Value.bool true))
 have z0:=(blk_cell X8.out 0).trans (rfl:_=some (Value.slice none 0 0))
 have z1:=(blk_cell X8.out 1).trans (rfl:_=some (Value.int .i64 0))
 have z2:=(blk_cell X8.out 2).trans (rfl:_=some (Value.slice none 0 0))
 have z3:=(blk_cell X8.out 3).trans (rfl:_=some (Value.int .i64 0))
 have z4:=(blk_cell X8.out 4).trans (rfl:_=some (Value.int .i64 0))
 have z5:=(blk_cell X8.out 5).trans (rfl:_=some (Value.int .i64 0))
 have z6:=(blk_cell X8.out 6).trans (rfl:_=some (Value.bool false))
 have f0:=blk_frozen X8.out 0
 have f1:=blk_frozen X8.out 1
 have f2:=blk_frozen X8.out 2
 have f3:=blk_frozen X8.out 3
 have f4:=blk_frozen X8.out 4
 have f5:=blk_frozen X8.out 5
 have f6:=blk_frozen X8.out 6
 go_wp2_with (first|((with_reducible refine store_event (t:=43) (p:=8) rfl rfl rfl (w1:=(((((((w3.setCell ⟨W.heap.size+1,0,none⟩ (Value.slice A0 b0.length c0)).setCell ⟨W.heap.size+1,1,none⟩ (Value.int .i64 s0)).setCell ⟨W.heap.size+1,2,none⟩ (Value.slice A1 b1.length c1)).setCell ⟨W.heap.size+1,3,none⟩ (Value.int .i64 s1)).setCell ⟨W.heap.size+1,4,none⟩ (Value.int .i64 room)).setCell ⟨W.heap.size+1,5,none⟩ (Value.int .i64 (stop))).setCell ⟨W.heap.size+1,6,none⟩ (Value.bool true))) ?hrun ?_);(case hrun=>first|(go_simp;done)|(go_simp;rfl));intro w7 hw7;have Y8:=Aside0.mk (show w7.heap[W.heap.size+1]? = some (.cells #[Value.slice A0 b0.length c0,Value.int .i64 s0,Value.slice A1 b1.length c1,Value.int .i64 s1,Value.int .i64 room,Value.int .i64 (stop),Value.bool true] 43 (0,0)) by rw [hw7];exact(blk_put ((blk_put ((blk_put ((blk_put ((blk_put ((blk_put ((blk_put (X8.out) 0 (Value.slice A0 b0.length c0) rfl)) 1 (Value.int .i64 s0) rfl)) 2 (Value.slice A1 b1.length c1) rfl)) 3 (Value.int .i64 s1) rfl)) 4 (Value.int .i64 room) rfl)) 5 (Value.int .i64 (stop)) rfl)) 6 (Value.bool true) rfl));have HB7:=Aside0.mk (show Below W.heap.size W w7 by rw [hw7];exact(below_set ((below_set ((below_set ((below_set ((below_set ((below_set ((below_set (HB.out) (Nat.le_succ _))) (Nat.le_succ _))) (Nat.le_succ _))) (Nat.le_succ _))) (Nat.le_succ _))) (Nat.le_succ _))) (Nat.le_succ _)));have CH7:=Aside0.mk (show ∀ k,k≠W.heap.size+1->w7.heap[k]? = w3.heap[k]? from λk hk=>by rw [hw7];exact((Below.heap_setCell ((((((w3.setCell ⟨W.heap.size+1,0,none⟩ (Value.slice A0 b0.length c0)).setCell ⟨W.heap.size+1,1,none⟩ (Value.int .i64 s0)).setCell ⟨W.heap.size+1,2,none⟩ (Value.slice A1 b1.length c1)).setCell ⟨W.heap.size+1,3,none⟩ (Value.int .i64 s1)).setCell ⟨W.heap.size+1,4,none⟩ (Value.int .i64 room)).setCell ⟨W.heap.size+1,5,none⟩ (Value.int .i64 (stop))) ⟨W.heap.size+1,6,none⟩ (Value.bool true) k hk).trans (((Below.heap_setCell (((((w3.setCell ⟨W.heap.size+1,0,none⟩ (Value.slice A0 b0.length c0)).setCell ⟨W.heap.size+1,1,none⟩ (Value.int .i64 s0)).setCell ⟨W.heap.size+1,2,none⟩ (Value.slice A1 b1.length c1)).setCell ⟨W.heap.size+1,3,none⟩ (Value.int .i64 s1)).setCell ⟨W.heap.size+1,4,none⟩ (Value.int .i64 room)) ⟨W.heap.size+1,5,none⟩ (Value.int .i64 (stop)) k hk).trans (((Below.heap_setCell ((((w3.setCell ⟨W.heap.size+1,0,none⟩ (Value.slice A0 b0.length c0)).setCell ⟨W.heap.size+1,1,none⟩ (Value.int .i64 s0)).setCell ⟨W.heap.size+1,2,none⟩ (Value.slice A1 b1.length c1)).setCell ⟨W.heap.size+1,3,none⟩ (Value.int .i64 s1)) ⟨W.heap.size+1,4,none⟩ (Value.int .i64 room) k hk).trans (((Below.heap_setCell (((w3.setCell ⟨W.heap.size+1,0,none⟩ (Value.slice A0 b0.length c0)).setCell ⟨W.heap.size+1,1,none⟩ (Value.int .i64 s0)).setCell ⟨W.heap.size+1,2,none⟩ (Value.slice A1 b1.length c1)) ⟨W.heap.size+1,3,none⟩ (Value.int .i64 s1) k hk).trans (((Below.heap_setCell ((w3.setCell ⟨W.heap.size+1,0,none⟩ (Value.slice A0 b0.length c0)).setCell ⟨W.heap.size+1,1,none⟩ (Value.int .i64 s0)) ⟨W.heap.size+1,2,none⟩ (Value.slice A1 b1.length c1) k hk).trans (((Below.heap_setCell (w3.setCell ⟨W.heap.size+1,0,none⟩ (Value.slice A0 b0.length c0)) ⟨W.heap.size+1,1,none⟩ (Value.int .i64 s0) k hk).trans (((Below.heap_setCell w3 ⟨W.heap.size+1,0,none⟩ (Value.slice A0 b0.length c0) k hk).trans (rfl)))))))))))))));clear hw7;have r0:=(blk_cell Y8.out 0).trans (rfl:_=some (Value.slice A0 b0.length c0));have r1:=(blk_cell Y8.out 1).trans (rfl:_=some (Value.int .i64 s0));have r2:=(blk_cell Y8.out 2).trans (rfl:_=some (Value.slice A1 b1.length c1));have r3:=(blk_cell Y8.out 3).trans (rfl:_=some (Value.int .i64 s1));have r4:=(blk_cell Y8.out 4).trans (rfl:_=some (Value.int .i64 room));have r5:=(blk_cell Y8.out 5).trans (rfl:_=some (Value.int .i64 (stop)));have r6:=(blk_cell Y8.out 6).trans (rfl:_=some (Value.bool true))))
 refine bodyPost_ret (v:=.tuple #[.agg #[Value.slice A0 b0.length c0,Value.int .i64 s0,Value.slice A1 b1.length c1,Value.int .i64 s1,Value.int .i64 room,Value.int .i64 (stop),Value.bool true],.int .i64 9]) ?hres rfl ?_
 case hres =>
  simp only [results,r0,r1,r2,r3,r4,r5,r6]
  first|rfl|(simp [r0,r1,r2,r3,r4,r5,r6];done)|(go_simp;done)|(go_simp;rfl)
 have hbF:=HB7.out
 have q:=H.out.step (Step.of_below (D:=D) hbF)
 exact ⟨_,rfl,⟨_,_,_,_,rfl,⟨q.l0,q.f0,q.l1,q.f1⟩⟩,hbF⟩
set_option maxHeartbeats 8000000 in
set_option maxRecDepth 100000 in
theorem refDo0_1_full (h:RawV W D A0 A1 c0 c1 d) (hD:∀ k,D k->k<W.heap.size) (hg:d.Good) (i:Int) (A:Option Addr) (m c:Nat) (b:List Int) (hm:m=b.length) (hc:m<=c) (hA:Kd.F U8 W (λk=>¬ D k) A m b) (hd:d.dead=false) (hi:i=1) (hf:d.left<(b.length:Int)) :
  Calls Try.prog 24 #[dkV A0 A1 c0 c1 d,.int .i64 0,.int .i64 i,.slice A m c] W λe w'=>∃ v,e = .returned (.tuple #[v,.int .i64 (d.act 0 i b).2])/\Is w' D v (d.act 0 i b).1/\Below W.heap.size W w':=by
 have ea:d.act 0 i b=(d,6):=by unfold Dk.act;rw [if_pos rfl];unfold Dk.app;rw [Dk.why_ok hd (by omega),if_neg (by decide),if_pos hf]
 rw [ea]
 clear ea
 obtain ⟨b0,s0,b1,s1,room,stop,dead⟩:=d
 obtain rfl:dead=false:=hd
 subst hi
 have l1:decide ((m:Int) > Dk.left ⟨b0,s0,b1,s1,room,stop,false⟩)=true:=decide_eq_true (by rw [hm];exact hf)
 have l2:decide (Dk.left ⟨b0,s0,b1,s1,room,stop,false⟩<(m:Int))=true:=decide_eq_true (by rw [hm];exact hf)
 clear hf
 have H:=Aside0.mk h
 have HD:=Aside0.mk hD
 have HA:=Aside0.mk hA
 have HG:=Aside0.mk hg
 have HM:=Aside0.mk hm
 clear h hD hA hg hm
 go_enter Try.func24,Try.ntmps24
 go_upto_region 5 with (fail)
 have hb:Below W.heap.size W ((W.alloc (.cells #[.slice A0 b0.length c0,.int .i64 s0,.slice A1 b1.length c1,.int .i64 s1,.int .i64 room,.int .i64 (stop),.bool false] 43)).alloc (.cells #[.slice none 0 0,.int .i64 0,.slice none 0 0,.int .i64 0,.int .i64 0,.int .i64 0,.bool false] 43)):=below_alloc (below_alloc (Below.refl _ _) _) _
 have x4:((W.alloc (.cells #[.slice A0 b0.length c0,.int .i64 s0,.slice A1 b1.length c1,.int .i64 s1,.int .i64 room,.int .i64 (stop),.bool false] 43)).alloc (.cells #[.slice none 0 0,.int .i64 0,.slice none 0 0,.int .i64 0,.int .i64 0,.int .i64 0,.bool false] 43)).heap[W.heap.size]? = some (.cells #[.slice A0 b0.length c0,.int .i64 s0,.slice A1 b1.length c1,.int .i64 s1,.int .i64 room,.int .i64 (stop),.bool false] 43 (0,0)):=blk_below (heap_alloc_new W _) (below_alloc (Below.refl _ _) _)
 have x8:((W.alloc (.cells #[.slice A0 b0.length c0,.int .i64 s0,.slice A1 b1.length c1,.int .i64 s1,.int .i64 room,.int .i64 (stop),.bool false] 43)).alloc (.cells #[.slice none 0 0,.int .i64 0,.slice none 0 0,.int .i64 0,.int .i64 0,.int .i64 0,.bool false] 43)).heap[W.heap.size+1]? = some (.cells #[.slice none 0 0,.int .i64 0,.slice none 0 0,.int .i64 0,.int .i64 0,.int .i64 0,.bool false] 43 (0,0)):=by have h_:=heap_alloc_new (W.alloc (.cells #[.slice A0 b0.length c0,.int .i64 s0,.slice A1 b1.length c1,.int .i64 s1,.int .i64 room,.int .i64 (stop),.bool false] 43)) (.cells #[.slice none 0 0,.int .i64 0,.slice none 0 0,.int .i64 0,.int .i64 0,.int .i64 0,.bool false] 43);rwa [show(W.alloc (.cells #[.slice A0 b0.length c0,.int .i64 s0,.slice A1 b1.length c1,.int .i64 s1,.int .i64 room,.int .i64 (stop),.bool false] 43)).heap.size=W.heap.size+1 by simp] at h_
 have HB:=Aside0.mk hb
 have X4:=Aside0.mk x4
 have X8:=Aside0.mk x8
 clear hb x4 x8
 generalize (W.alloc (.cells #[.slice A0 b0.length c0,.int .i64 s0,.slice A1 b1.length c1,.int .i64 s1,.int .i64 room,.int .i64 (stop),.bool false] 43)).alloc (.cells #[.slice none 0 0,.int .i64 0,.slice none 0 0,.int .i64 0,.int .i64 0,.int .i64 0,.bool false] 43)=w1 at HB X4 X8 ⊢
 have hL:Calls Try.prog 36 #[.agg #[.slice A0 b0.length c0,.int .i64 s0,.slice A1 b1.length c1,.int .i64 s1,.int .i64 room,.int .i64 (stop),.bool false]] w1 λe w'=>e = .returned (.int .i64 (Dk.left ⟨b0,s0,b1,s1,room,stop,false⟩))/\Below w1.heap.size w1 w':=refLeft (H.out.step (Step.of_below (D:=D) HB.out)) HG.out
 have HL:=Aside0.mk hL
 clear hL
 have k0:=(blk_cell X4.out 0).trans (rfl:_=some (Value.slice A0 b0.length c0))
 have k1:=(blk_cell X4.out 1).trans (rfl:_=some (Value.int .i64 s0))
 have k2:=(blk_cell X4.out 2).trans (rfl:_=some (Value.slice A1 b1.length c1))
 have k3:=(blk_cell X4.out 3).trans (rfl:_=some (Value.int .i64 s1))
 have k4:=(blk_cell X4.out 4).trans (rfl:_=some (Value.int .i64 room))
 have k5:=(blk_cell X4.out 5).trans (rfl:_=some (Value.int .i64 (stop)))
 have k6:=(blk_cell X4.out 6).trans (rfl:_=some (Value.bool false))
 go_wp2_with (first|(go_at_call 36;(with_reducible refine Calls.mono HL.out ?_);rintro e w2 ⟨rfl,hb⟩;clear k0 k1 k2 k3 k4 k5 k6;have x4:=blk_below X4.out hb;have x8:=blk_below X8.out hb;have hb2:=below_step HB.out hb;clear X4 X8 HB;have X4:=Aside0.mk x4;have X8:=Aside0.mk x8;have HB:=Aside0.mk hb2;clear x4 x8 hb2 hb;have k0:=(blk_cell X4.out 0).trans (rfl:_=some (Value.slice A0 b0.length c0));have k1:=(blk_cell X4.out 1).trans (rfl:_=some (Value.int .i64 s0));have k2:=(blk_cell X4.out 2).trans (rfl:_=some (Value.slice A1 b1.length c1));have k3:=(blk_cell X4.out 3).trans (rfl:_=some (Value.int .i64 s1));have k4:=(blk_cell X4.out 4).trans (rfl:_=some (Value.int .i64 room));have k5:=(blk_cell X4.out 5).trans (rfl:_=some (Value.int .i64 (stop)));have k6:=(blk_cell X4.out 6).trans (rfl:_=some (Value.bool false));have z0:=(blk_cell X8.out 0).trans (rfl:_=some (Value.slice none 0 0));have z1:=(blk_cell X8.out 1).trans (rfl:_=some (Value.int .i64 0));have z2:=(blk_cell X8.out 2).trans (rfl:_=some (Value.slice none 0 0));have z3:=(blk_cell X8.out 3).trans (rfl:_=some (Value.int .i64 0));have z4:=(blk_cell X8.out 4).trans (rfl:_=some (Value.int .i64 0));have z5:=(blk_cell X8.out 5).trans (rfl:_=some (Value.int .i64 0));have z6:=(blk_cell X8.out 6).trans (rfl:_=some (Value.bool false));have f0:=blk_frozen X8.out 0;have f1:=blk_frozen X8.out 1;have f2:=blk_frozen X8.out 2;have f3:=blk_frozen X8.out 3;have f4:=blk_frozen X8.out 4;have f5:=blk_frozen X8.out 5;have f6:=blk_frozen X8.out 6)|((with_reducible refine store_event (t:=43) (p:=8) rfl rfl rfl (w1:=(((((((w2.setCell ⟨W.heap.size+1,0,none⟩ (Value.slice A0 b0.length c0)).setCell ⟨W.heap.size+1,1,none⟩ (Value.int .i64 s0)).setCell ⟨W.heap.size+1,2,none⟩ (Value.slice A1 b1.length c1)).setCell ⟨W.heap.size+1,3,none⟩ (Value.int .i64 s1)).setCell ⟨W.heap.size+1,4,none⟩ (Value.int .i64 room)).setCell ⟨W.heap.size+1,5,none⟩ (Value.int .i64 (stop))).setCell ⟨W.heap.size+1,6,none⟩ (Value.bool false))) ?hrun ?_);(case hrun=>first|(go_simp;done)|(go_simp;rfl));intro w7 hw7;have Y8:=Aside0.mk (show w7.heap[W.heap.size+1]? = some (.cells #[Value.slice A0 b0.length c0,Value.int .i64 s0,Value.slice A1 b1.length c1,Value.int .i64 s1,Value.int .i64 room,Value.int .i64 (stop),Value.bool false] 43 (0,0)) by rw [hw7];exact(blk_put ((blk_put ((blk_put ((blk_put ((blk_put ((blk_put ((blk_put (X8.out) 0 (Value.slice A0 b0.length c0) rfl)) 1 (Value.int .i64 s0) rfl)) 2 (Value.slice A1 b1.length c1) rfl)) 3 (Value.int .i64 s1) rfl)) 4 (Value.int .i64 room) rfl)) 5 (Value.int .i64 (stop)) rfl)) 6 (Value.bool false) rfl));have HB7:=Aside0.mk (show Below W.heap.size W w7 by rw [hw7];exact(below_set ((below_set ((below_set ((below_set ((below_set ((below_set ((below_set (HB.out) (Nat.le_succ _))) (Nat.le_succ _))) (Nat.le_succ _))) (Nat.le_succ _))) (Nat.le_succ _))) (Nat.le_succ _))) (Nat.le_succ _)));have CH7:=Aside0.mk (show ∀ k,k≠W.heap.size+1->w7.heap[k]? = w2.heap[k]? from λk hk=>by rw [hw7];exact((Below.heap_setCell ((((((w2.setCell ⟨W.heap.size+1,0,none⟩ (Value.slice A0 b0.length c0)).setCell ⟨W.heap.size+1,1,none⟩ (Value.int .i64 s0)).setCell ⟨W.heap.size+1,2,none⟩ (Value.slice A1 b1.length c1)).setCell ⟨W.heap.size+1,3,none⟩ (Value.int .i64 s1)).setCell ⟨W.heap.size+1,4,none⟩ (Value.int .i64 room)).setCell ⟨W.heap.size+1,5,none⟩ (Value.int .i64 (stop))) ⟨W.heap.size+1,6,none⟩ (Value.bool false) k hk).trans (((Below.heap_setCell (((((w2.setCell ⟨W.heap.size+1,0,none⟩ (Value.slice A0 b0.length c0)).setCell ⟨W.heap.size+1,1,none⟩ (Value.int .i64 s0)).setCell ⟨W.heap.size+1,2,none⟩ (Value.slice A1 b1.length c1)).setCell ⟨W.heap.size+1,3,none⟩ (Value.int .i64 s1)).setCell ⟨W.heap.size+1,4,none⟩ (Value.int .i64 room)) ⟨W.heap.size+1,5,none⟩ (Value.int .i64 (stop)) k hk).trans (((Below.heap_setCell ((((w2.setCell ⟨W.heap.size+1,0,none⟩ (Value.slice A0 b0.length c0)).setCell ⟨W.heap.size+1,1,none⟩ (Value.int .i64 s0)).setCell ⟨W.heap.size+1,2,none⟩ (Value.slice A1 b1.length c1)).setCell ⟨W.heap.size+1,3,none⟩ (Value.int .i64 s1)) ⟨W.heap.size+1,4,none⟩ (Value.int .i64 room) k hk).trans (((Below.heap_setCell (((w2.setCell ⟨W.heap.size+1,0,none⟩ (Value.slice A0 b0.length c0)).setCell ⟨W.heap.size+1,1,none⟩ (Value.int .i64 s0)).setCell ⟨W.heap.size+1,2,none⟩ (Value.slice A1 b1.length c1)) ⟨W.heap.size+1,3,none⟩ (Value.int .i64 s1) k hk).trans (((Below.heap_setCell ((w2.setCell ⟨W.heap.size+1,0,none⟩ (Value.slice A0 b0.length c0)).setCell ⟨W.heap.size+1,1,none⟩ (Value.int .i64 s0)) ⟨W.heap.size+1,2,none⟩ (Value.slice A1 b1.length c1) k hk).trans (((Below.heap_setCell (w2.setCell ⟨W.heap.size+1,0,none⟩ (Value.slice A0 b0.length c0)) ⟨W.heap.size+1,1,none⟩ (Value.int .i64 s0) k hk).trans (((Below.heap_setCell w2 ⟨W.heap.size+1,0,none⟩ (Value.slice A0 b0.length c0) k hk).trans (rfl)))))))))))))));clear hw7;have r0:=(blk_cell Y8.out 0).trans (rfl:_=some (Value.slice A0 b0.length c0));have r1:=(blk_cell Y8.out 1).trans (rfl:_=some (Value.int .i64 s0));have r2:=(blk_cell Y8.out 2).trans (rfl:_=some (Value.slice A1 b1.length c1));have r3:=(blk_cell Y8.out 3).trans (rfl:_=some (Value.int .i64 s1));have r4:=(blk_cell Y8.out 4).trans (rfl:_=some (Value.int .i64 room));have r5:=(blk_cell Y8.out 5).trans (rfl:_=some (Value.int .i64 (stop)));have r6:=(blk_cell Y8.out 6).trans (rfl:_=some (Value.bool false))))
 refine bodyPost_ret (v:=.tuple #[.agg #[Value.slice A0 b0.length c0,Value.int .i64 s0,Value.slice A1 b1.length c1,Value.int .i64 s1,Value.int .i64 room,Value.int .i64 (stop),Value.bool false],.int .i64 6]) ?hres rfl ?_
 case hres =>
  simp only [results,r0,r1,r2,r3,r4,r5,r6]
  first|rfl|(simp [r0,r1,r2,r3,r4,r5,r6];done)|(go_simp;done)|(go_simp;rfl)
 have hbF:=HB7.out
 have q:=H.out.step (Step.of_below (D:=D) hbF)
 exact ⟨_,rfl,⟨_,_,_,_,rfl,⟨q.l0,q.f0,q.l1,q.f1⟩⟩,hbF⟩
set_option maxHeartbeats 8000000 in
set_option maxRecDepth 100000 in
theorem refDo0_1_die (h:RawV W D A0 A1 c0 c1 d) (hD:∀ k,D k->k<W.heap.size) (hg:d.Good) (i:Int) (A:Option Addr) (m c:Nat) (b:List Int) (hm:m=b.length) (hc:m<=c) (hA:Kd.F U8 W (λk=>¬ D k) A m b) (hd:d.dead=false) (hi:i=1) (hf:¬ d.left<(b.length:Int)) (hs:d.stop=0) :
  Calls Try.prog 24 #[dkV A0 A1 c0 c1 d,.int .i64 0,.int .i64 i,.slice A m c] W λe w'=>∃ v,e = .returned (.tuple #[v,.int .i64 (d.act 0 i b).2])/\Is w' D v (d.act 0 i b).1/\Below W.heap.size W w':=by
 have ea:d.act 0 i b=(d.die,9):=by unfold Dk.act;rw [if_pos rfl];unfold Dk.app;rw [Dk.why_ok hd (by omega),if_neg (by decide),if_neg hf];unfold Dk.did;rw [if_pos hs]
 rw [ea]
 clear ea
 obtain ⟨b0,s0,b1,s1,room,stop,dead⟩:=d
 obtain rfl:dead=false:=hd
 subst hi
 have l1:decide ((m:Int) > Dk.left ⟨b0,s0,b1,s1,room,stop,false⟩)=false:=decide_eq_false (by rw [hm];exact hf)
 have l2:decide (Dk.left ⟨b0,s0,b1,s1,room,stop,false⟩<(m:Int))=false:=decide_eq_false (by rw [hm];exact hf)
 have z0:(stop == 0)=true:=beq_iff_eq.2 hs
 have ST:=Aside0.mk hs
 clear hf hs
 have H:=Aside0.mk h
 have HD:=Aside0.mk hD
 have HA:=Aside0.mk hA
 have HG:=Aside0.mk hg
 have HM:=Aside0.mk hm
 clear h hD hA hg hm
 go_enter Try.func24,Try.ntmps24
 go_upto_region 5 with (fail)
 have hb:Below W.heap.size W ((W.alloc (.cells #[.slice A0 b0.length c0,.int .i64 s0,.slice A1 b1.length c1,.int .i64 s1,.int .i64 room,.int .i64 (stop),.bool false] 43)).alloc (.cells #[.slice none 0 0,.int .i64 0,.slice none 0 0,.int .i64 0,.int .i64 0,.int .i64 0,.bool false] 43)):=below_alloc (below_alloc (Below.refl _ _) _) _
 have x4:((W.alloc (.cells #[.slice A0 b0.length c0,.int .i64 s0,.slice A1 b1.length c1,.int .i64 s1,.int .i64 room,.int .i64 (stop),.bool false] 43)).alloc (.cells #[.slice none 0 0,.int .i64 0,.slice none 0 0,.int .i64 0,.int .i64 0,.int .i64 0,.bool false] 43)).heap[W.heap.size]? = some (.cells #[.slice A0 b0.length c0,.int .i64 s0,.slice A1 b1.length c1,.int .i64 s1,.int .i64 room,.int .i64 (stop),.bool false] 43 (0,0)):=blk_below (heap_alloc_new W _) (below_alloc (Below.refl _ _) _)
 have x8:((W.alloc (.cells #[.slice A0 b0.length c0,.int .i64 s0,.slice A1 b1.length c1,.int .i64 s1,.int .i64 room,.int .i64 (stop),.bool false] 43)).alloc (.cells #[.slice none 0 0,.int .i64 0,.slice none 0 0,.int .i64 0,.int .i64 0,.int .i64 0,.bool false] 43)).heap[W.heap.size+1]? = some (.cells #[.slice none 0 0,.int .i64 0,.slice none 0 0,.int .i64 0,.int .i64 0,.int .i64 0,.bool false] 43 (0,0)):=by have h_:=heap_alloc_new (W.alloc (.cells #[.slice A0 b0.length c0,.int .i64 s0,.slice A1 b1.length c1,.int .i64 s1,.int .i64 room,.int .i64 (stop),.bool false] 43)) (.cells #[.slice none 0 0,.int .i64 0,.slice none 0 0,.int .i64 0,.int .i64 0,.int .i64 0,.bool false] 43);rwa [show(W.alloc (.cells #[.slice A0 b0.length c0,.int .i64 s0,.slice A1 b1.length c1,.int .i64 s1,.int .i64 room,.int .i64 (stop),.bool false] 43)).heap.size=W.heap.size+1 by simp] at h_
 have HB:=Aside0.mk hb
 have X4:=Aside0.mk x4
 have X8:=Aside0.mk x8
 clear hb x4 x8
 generalize (W.alloc (.cells #[.slice A0 b0.length c0,.int .i64 s0,.slice A1 b1.length c1,.int .i64 s1,.int .i64 room,.int .i64 (stop),.bool false] 43)).alloc (.cells #[.slice none 0 0,.int .i64 0,.slice none 0 0,.int .i64 0,.int .i64 0,.int .i64 0,.bool false] 43)=w1 at HB X4 X8 ⊢
 have hL:Calls Try.prog 36 #[.agg #[.slice A0 b0.length c0,.int .i64 s0,.slice A1 b1.length c1,.int .i64 s1,.int .i64 room,.int .i64 (stop),.bool false]] w1 λe w'=>e = .returned (.int .i64 (Dk.left ⟨b0,s0,b1,s1,room,stop,false⟩))/\Below w1.heap.size w1 w':=refLeft (H.out.step (Step.of_below (D:=D) HB.out)) HG.out
 have HL:=Aside0.mk hL
 clear hL
 have k0:=(blk_cell X4.out 0).trans (rfl:_=some (Value.slice A0 b0.length c0))
 have k1:=(blk_cell X4.out 1).trans (rfl:_=some (Value.int .i64 s0))
 have k2:=(blk_cell X4.out 2).trans (rfl:_=some (Value.slice A1 b1.length c1))
 have k3:=(blk_cell X4.out 3).trans (rfl:_=some (Value.int .i64 s1))
 have k4:=(blk_cell X4.out 4).trans (rfl:_=some (Value.int .i64 room))
 have k5:=(blk_cell X4.out 5).trans (rfl:_=some (Value.int .i64 (stop)))
 have k6:=(blk_cell X4.out 6).trans (rfl:_=some (Value.bool false))
 go_upto_region 9 with (first|(go_at_call 36;(with_reducible refine Calls.mono HL.out ?_);rintro e w2 ⟨rfl,hb⟩;clear k0 k1 k2 k3 k4 k5 k6;have x4:=blk_below X4.out hb;have x8:=blk_below X8.out hb;have hb2:=below_step HB.out hb;clear X4 X8 HB;have X4:=Aside0.mk x4;have X8:=Aside0.mk x8;have HB:=Aside0.mk hb2;clear x4 x8 hb2 hb;have k0:=(blk_cell X4.out 0).trans (rfl:_=some (Value.slice A0 b0.length c0));have k1:=(blk_cell X4.out 1).trans (rfl:_=some (Value.int .i64 s0));have k2:=(blk_cell X4.out 2).trans (rfl:_=some (Value.slice A1 b1.length c1));have k3:=(blk_cell X4.out 3).trans (rfl:_=some (Value.int .i64 s1));have k4:=(blk_cell X4.out 4).trans (rfl:_=some (Value.int .i64 room));have k5:=(blk_cell X4.out 5).trans (rfl:_=some (Value.int .i64 (stop)));have k6:=(blk_cell X4.out 6).trans (rfl:_=some (Value.bool false));have f6:=blk_frozen X4.out 6))
 have x4:=blk_put (cs':=#[Value.slice A0 b0.length c0,Value.int .i64 s0,Value.slice A1 b1.length c1,Value.int .i64 s1,Value.int .i64 room,Value.int .i64 (stop),Value.bool true]) X4.out 6 (.bool true) rfl
 have x8:=(Below.heap_setCell w2 ⟨W.heap.size,6,none⟩ (.bool true) (W.heap.size+1) (by simp)).trans X8.out
 have hb2:=below_set (j:=6) (v:=.bool true) HB.out (Nat.le_refl W.heap.size)
 clear X4 X8 HB k0 k1 k2 k3 k4 k5 k6 f6
 generalize w2.setCell ⟨W.heap.size,6,none⟩ (.bool true)=w3 at x4 x8 hb2 ⊢
 have X4:=Aside0.mk x4
 have X8:=Aside0.mk x8
 have HB:=Aside0.mk hb2
 clear x4 x8 hb2
 have k0:=(blk_cell X4.out 0).trans (rfl:_=some (Value.slice A0 b0.length c0))
 have k1:=(blk_cell X4.out 1).trans (rfl:_=some (Value.int .i64 s0))
 have k2:=(blk_cell X4.out 2).trans (rfl:_=some (Value.slice A1 b1.length c1))
 have k3:=(blk_cell X4.out 3).trans (rfl:_=some (Value.int .i64 s1))
 have k4:=(blk_cell X4.out 4).trans (rfl:_=some (Value.int .i64 room))
 have k5:=(blk_cell X4.out 5).trans (rfl:_=some (Value.int .i64 (stop)))
 have k6:=(blk_cell X4.out 6).trans (rfl:_=some (Value.bool true))
 have z0:=(blk_cell X8.out 0).trans (rfl:_=some (Value.slice none 0 0))
 have z1:=(blk_cell X8.out 1).trans (rfl:_=some (Value.int .i64 0))
 have z2:=(blk_cell X8.out 2).trans (rfl:_=some (Value.slice none 0 0))
 have z3:=(blk_cell X8.out 3).trans (rfl:_=some (Value.int .i64 0))
 have z4:=(blk_cell X8.out 4).trans (rfl:_=some (Value.int .i64 0))
 have z5:=(blk_cell X8.out 5).trans (rfl:_=some (Value.int .i64 0))
 have z6:=(blk_cell X8.out 6).trans (rfl:_=some (Value.bool false))
 have f0:=blk_frozen X8.out 0
 have f1:=blk_frozen X8.out 1
 have f2:=blk_frozen X8.out 2
 have f3:=blk_frozen X8.out 3
 have f4:=blk_frozen X8.out 4
 have f5:=blk_frozen X8.out 5
 have f6:=blk_frozen X8.out 6
 go_wp2_with (first|((with_reducible refine store_event (t:=43) (p:=8) rfl rfl rfl (w1:=(((((((w3.setCell ⟨W.heap.size+1,0,none⟩ (Value.slice A0 b0.length c0)).setCell ⟨W.heap.size+1,1,none⟩ (Value.int .i64 s0)).setCell ⟨W.heap.size+1,2,none⟩ (Value.slice A1 b1.length c1)).setCell ⟨W.heap.size+1,3,none⟩ (Value.int .i64 s1)).setCell ⟨W.heap.size+1,4,none⟩ (Value.int .i64 room)).setCell ⟨W.heap.size+1,5,none⟩ (Value.int .i64 (stop))).setCell ⟨W.heap.size+1,6,none⟩ (Value.bool true))) ?hrun ?_);(case hrun=>first|(go_simp;done)|(go_simp;rfl));intro w7 hw7;have Y8:=Aside0.mk (show w7.heap[W.heap.size+1]? = some (.cells #[Value.slice A0 b0.length c0,Value.int .i64 s0,Value.slice A1 b1.length c1,Value.int .i64 s1,Value.int .i64 room,Value.int .i64 (stop),Value.bool true] 43 (0,0)) by rw [hw7];exact(blk_put ((blk_put ((blk_put ((blk_put ((blk_put ((blk_put ((blk_put (X8.out) 0 (Value.slice A0 b0.length c0) rfl)) 1 (Value.int .i64 s0) rfl)) 2 (Value.slice A1 b1.length c1) rfl)) 3 (Value.int .i64 s1) rfl)) 4 (Value.int .i64 room) rfl)) 5 (Value.int .i64 (stop)) rfl)) 6 (Value.bool true) rfl));have HB7:=Aside0.mk (show Below W.heap.size W w7 by rw [hw7];exact(below_set ((below_set ((below_set ((below_set ((below_set ((below_set ((below_set (HB.out) (Nat.le_succ _))) (Nat.le_succ _))) (Nat.le_succ _))) (Nat.le_succ _))) (Nat.le_succ _))) (Nat.le_succ _))) (Nat.le_succ _)));have CH7:=Aside0.mk (show ∀ k,k≠W.heap.size+1->w7.heap[k]? = w3.heap[k]? from λk hk=>by rw [hw7];exact((Below.heap_setCell ((((((w3.setCell ⟨W.heap.size+1,0,none⟩ (Value.slice A0 b0.length c0)).setCell ⟨W.heap.size+1,1,none⟩ (Value.int .i64 s0)).setCell ⟨W.heap.size+1,2,none⟩ (Value.slice A1 b1.length c1)).setCell ⟨W.heap.size+1,3,none⟩ (Value.int .i64 s1)).setCell ⟨W.heap.size+1,4,none⟩ (Value.int .i64 room)).setCell ⟨W.heap.size+1,5,none⟩ (Value.int .i64 (stop))) ⟨W.heap.size+1,6,none⟩ (Value.bool true) k hk).trans (((Below.heap_setCell (((((w3.setCell ⟨W.heap.size+1,0,none⟩ (Value.slice A0 b0.length c0)).setCell ⟨W.heap.size+1,1,none⟩ (Value.int .i64 s0)).setCell ⟨W.heap.size+1,2,none⟩ (Value.slice A1 b1.length c1)).setCell ⟨W.heap.size+1,3,none⟩ (Value.int .i64 s1)).setCell ⟨W.heap.size+1,4,none⟩ (Value.int .i64 room)) ⟨W.heap.size+1,5,none⟩ (Value.int .i64 (stop)) k hk).trans (((Below.heap_setCell ((((w3.setCell ⟨W.heap.size+1,0,none⟩ (Value.slice A0 b0.length c0)).setCell ⟨W.heap.size+1,1,none⟩ (Value.int .i64 s0)).setCell ⟨W.heap.size+1,2,none⟩ (Value.slice A1 b1.length c1)).setCell ⟨W.heap.size+1,3,none⟩ (Value.int .i64 s1)) ⟨W.heap.size+1,4,none⟩ (Value.int .i64 room) k hk).trans (((Below.heap_setCell (((w3.setCell ⟨W.heap.size+1,0,none⟩ (Value.slice A0 b0.length c0)).setCell ⟨W.heap.size+1,1,none⟩ (Value.int .i64 s0)).setCell ⟨W.heap.size+1,2,none⟩ (Value.slice A1 b1.length c1)) ⟨W.heap.size+1,3,none⟩ (Value.int .i64 s1) k hk).trans (((Below.heap_setCell ((w3.setCell ⟨W.heap.size+1,0,none⟩ (Value.slice A0 b0.length c0)).setCell ⟨W.heap.size+1,1,none⟩ (Value.int .i64 s0)) ⟨W.heap.size+1,2,none⟩ (Value.slice A1 b1.length c1) k hk).trans (((Below.heap_setCell (w3.setCell ⟨W.heap.size+1,0,none⟩ (Value.slice A0 b0.length c0)) ⟨W.heap.size+1,1,none⟩ (Value.int .i64 s0) k hk).trans (((Below.heap_setCell w3 ⟨W.heap.size+1,0,none⟩ (Value.slice A0 b0.length c0) k hk).trans (rfl)))))))))))))));clear hw7;have r0:=(blk_cell Y8.out 0).trans (rfl:_=some (Value.slice A0 b0.length c0));have r1:=(blk_cell Y8.out 1).trans (rfl:_=some (Value.int .i64 s0));have r2:=(blk_cell Y8.out 2).trans (rfl:_=some (Value.slice A1 b1.length c1));have r3:=(blk_cell Y8.out 3).trans (rfl:_=some (Value.int .i64 s1));have r4:=(blk_cell Y8.out 4).trans (rfl:_=some (Value.int .i64 room));have r5:=(blk_cell Y8.out 5).trans (rfl:_=some (Value.int .i64 (stop)));have r6:=(blk_cell Y8.out 6).trans (rfl:_=some (Value.bool true))))
 refine bodyPost_ret (v:=.tuple #[.agg #[Value.slice A0 b0.length c0,Value.int .i64 s0,Value.slice A1 b1.length c1,Value.int .i64 s1,Value.int .i64 room,Value.int .i64 (stop),Value.bool true],.int .i64 9]) ?hres rfl ?_
 case hres =>
  simp only [results,r0,r1,r2,r3,r4,r5,r6]
  first|rfl|(simp [r0,r1,r2,r3,r4,r5,r6];done)|(go_simp;done)|(go_simp;rfl)
 have hbF:=HB7.out
 have q:=H.out.step (Step.of_below (D:=D) hbF)
 exact ⟨_,rfl,⟨_,_,_,_,rfl,⟨q.l0,q.f0,q.l1,q.f1⟩⟩,hbF⟩
end
end Go.Proofs.Ytpahdlgpiecdkaa.Dsk
