/- a part -/
import Derived.Test.YtpahdlgpiecdkaaDkWalk2
import Derived.Handy
namespace Go.Proofs.Ytpahdlgpiecdkaa.Dsk
open Go.RowKit Go.Proofs.YtpahdlgpiecdkaaW.PrintWords Go.Proofs.YtpahdlgpiecdkaaW.PrintLast Go.Proofs.YtpahdlgpiecdkaaW.PrintMore Go.Proofs.Ytpahdlgpiecdkaa.Hand Go.Proofs.Ytpahdlgpiecdkaa.Cards Go.Proofs.Ytpahdlgpiecdkaa.PDk
attribute [local go_sem] max2_name min2_name max_two min_two
set_option linter.unusedVariables false
set_option linter.unusedSimpArgs false
section
theorem lit_F {W:World} {D:Nat->Prop} (xs:List Int) (hm:xs.length<=9223372036854775807) (hD:∀ k,D k->k<W.heap.size):Kd.F U8 (W.alloc (.cells (nums .u8 xs).toArray 5)) (λk=>¬ D k) (some ⟨W.heap.size,0,none⟩) xs.length xs :=
 (F_fresh (D:=D) (W:=W) (v:=.bool true) (Kd.R_of_own (own_lit W W.heap.size 5 .u8 xs (Nat.le_refl _) hm) (λ_ _=>trivial)) hD).2.2
def aw1:Dk:=Dk.new 100
def aw2:Dk:=(aw1.app 0 [1,2]).1
def aw3:Dk:=(aw2.syn 0).1
def aw4:Dk:=(aw3.app 0 [3]).1
def aw5:Dk:=aw4.crash []
theorem aw_good:aw1.Good/\aw2.Good/\aw3.Good/\aw4.Good/\aw5.Good:=by
 have g1:aw1.Good:=Dk.good_new (by decide) (by decide)
 have g2:aw2.Good:=g1.app 0 [1,2]
 have g3:aw3.Good:=g2.syn 0
 have g4:aw4.Good:=g3.app 0 [3]
 exact ⟨g1,g2,g3,g4,g4.crash []⟩
set_option maxHeartbeats 8000000 in
set_option maxRecDepth 100000 in
theorem awake_calls (W:World):Calls Try.prog 15 #[] W λe w'=>e = .returned (.bool true)/\Below W.heap.size W w':=by
 go_enter Try.func15,Try.ntmps15
 go_upto_region 4 with (first|(go_at_call 16;(with_reducible refine Calls.mono (new_calls 100 (by decide) (by decide) W) ?_);rintro e w1 ⟨g,rfl,⟨D,hat⟩,hb⟩;have AT:=Aside0.mk hat;clear hat hb))
 have at1:=AT.out.on (below_alloc (Below.refl w1.heap.size w1) (.cells (nums .u8 [1,2]).toArray 5))
 obtain ⟨q0,q1,hraw⟩:=at1
 have hc:Calls Try.prog 20 #[.pointer (some ⟨g,0,none⟩),.int .i64 0,.slice (some ⟨w1.heap.size,0,none⟩) 2 2] (w1.alloc (.cells #[.int .u8 1,.int .u8 2] 5)) _:=append_calls hraw 0 (some ⟨w1.heap.size,0,none⟩) 2 2 [1,2] rfl (lit_F [1,2] (by decide) AT.out.lt) (by decide) aw_good.1
 have HC:=Aside0.mk hc
 clear hc hraw
 go_upto_region 5 with (first|(go_at_call 20;(with_reducible refine Calls.mono HC.out ?_);rintro e w2 ⟨rfl,D2,hat,hst⟩;clear AT HC hst;have AT:=Aside0.mk hat;clear hat))
 obtain ⟨q0,q1,hraw⟩:=AT.out
 have hc:=sync_calls hraw 0
 have HC:=Aside0.mk hc
 clear hc hraw
 go_upto_region 6 with (first|(go_at_call 22;(with_reducible refine Calls.mono HC.out ?_);rintro e w3 ⟨rfl,D3,hat,hst⟩;clear AT HC hst;have AT:=Aside0.mk hat;clear hat))
 have at1:=AT.out.on (below_alloc (Below.refl w3.heap.size w3) (.cells (nums .u8 [3]).toArray 5))
 obtain ⟨q0,q1,hraw⟩:=at1
 have hc:Calls Try.prog 20 #[.pointer (some ⟨g,0,none⟩),.int .i64 0,.slice (some ⟨w3.heap.size,0,none⟩) 1 1] (w3.alloc (.cells #[.int .u8 3] 5)) _:=append_calls hraw 0 (some ⟨w3.heap.size,0,none⟩) 1 1 [3] rfl (lit_F [3] (by decide) AT.out.lt) (by decide) aw_good.2.2.1
 have HC:=Aside0.mk hc
 clear hc hraw
 go_upto_region 7 with (first|(go_at_call 20;(with_reducible refine Calls.mono HC.out ?_);rintro e w4 ⟨rfl,D2,hat,hst⟩;clear AT HC hst;have AT:=Aside0.mk hat;clear hat))
 obtain ⟨q0,q1,hraw⟩:=AT.out
 have hc:=crash_calls hraw aw_good.2.2.2.1 none 0 0 [] rfl (Kd.F_nil _ _ _)
 have HC:=Aside0.mk hc
 clear hc hraw
 go_upto_region 8 with (first|(go_at_call 19;(with_reducible refine Calls.mono HC.out ?_);rintro e w5 ⟨rfl,D5,hat,hst⟩;clear AT HC hst;have AT:=Aside0.mk hat;clear hat))
 obtain ⟨q0,q1,hraw⟩:=AT.out
 have hc:=read_calls (d:=aw5) hraw aw_good.2.2.2.2 0
 rw [show aw5.why 0=0 from by decide +kernel,if_pos rfl,show aw5.row 0=[1,2] from by decide +kernel] at hc
 have HC:=Aside0.mk hc
 clear hc hraw
 go_upto_region 9 with (first|(go_at_call 21;(with_reducible refine Calls.mono HC.out ?_);rintro e w6 ⟨v,rfl,hv,hb⟩;obtain ⟨Ar,cr,er⟩:=Kd.R_slice hv;subst er;have at2:=AT.out.on hb;clear AT HC hb hv;have AT:=Aside0.mk at2;clear at2))
 obtain ⟨q0,q1,hraw⟩:=AT.out
 have hc:=left_calls (d:=aw5) hraw aw_good.2.2.2.2
 rw [show aw5.left=98 from by decide +kernel] at hc
 have HC:=Aside0.mk hc
 clear hc hraw
 go_wp2_with (first|(go_at_call 29;(with_reducible refine Calls.mono HC.out ?_);rintro e w7 ⟨rfl,hb⟩;have HB:=Aside0.mk (below_step AT.out.below hb);clear HC hb))
 go_ret
 exact ⟨rfl,HB.out⟩
end
end Go.Proofs.Ytpahdlgpiecdkaa.Dsk
