/- a part -/
import Derived.Test.YtfhamdobagjakaaJoPut
import Derived.Test.YtfhamdobagjakaaJoOpens
namespace Go.Proofs.Ytfhamdobagjakaa.Dsk
open Go.RowKit Go.Proofs.YtfhamdobagjakaaW.PrintWords Go.Proofs.YtfhamdobagjakaaW.PrintLast Go.Proofs.YtfhamdobagjakaaW.PrintMore Go.Proofs.Ytfhamdobagjakaa.Hand Go.Proofs.Ytfhamdobagjakaa.Cards Go.Proofs.Ytfhamdobagjakaa.PJo
set_option linter.unusedVariables false
set_option linter.unusedSimpArgs false
section
def awL:List S92:=[⟨10,[]⟩,⟨11,[7]⟩]
def awB:List Int:=((journal_put.f 60 awL).getD ([],9)).1
def awN:List Int:=(wire_Num.f 60 1).getD []
def awH:List Int:=((wire_Record.f 60 1 awN).getD ([],9)).1
def awF:List Int:=((wire_Record.f 60 2 []).getD ([],9)).1
def awA:List Int:=awH++awB++awF
theorem aw_put:journal_put.f 60 awL=some (awB,0):=by kernel_rfl
theorem aw_num:wire_Num.f 60 1=some awN:=by kernel_rfl
theorem aw_head:wire_Record.f 60 1 awN=some (awH,0):=by kernel_rfl
theorem aw_foot:wire_Record.f 60 2 []=some (awF,0):=by kernel_rfl
theorem aw_len:awA.length=29:=by kernel_rfl
theorem aw_scan:journal_scan.f 60 awA=some (1,awL,29,29):=by kernel_rfl
def awD:Dk:=⟨awA,29,[],0,1000,-1,false⟩
theorem aw_renew:(Dk.new 1000).renew 0 awA=(awD,0):=by
 have h:(Dk.new 1000).Live:=⟨rfl,rfl⟩
 rw [h.renew (.inl rfl),aw_len]
 rfl
theorem two_F {W:World} {b1 b2:Nat} {e e':Nat} (h1:W.heap[b1]? = some (.cells #[.int .u8 7] e (0,0))) (h2:W.heap[b2]? = some (.cells #[.int .i64 10,.slice none 0 0,.int .i64 11,.slice (some ⟨b1,0,none⟩) 1 1] e' (0,0))) :
  Kd.F k92 W (λk=>k=b1\/k=b2) (some ⟨b2,0,none⟩) awL.length awL:=by
 intro W' hW
 have g1:=(hW b1 (.inl rfl) (blk_lt h1)).trans h1
 have g2:=(hW b2 (.inr rfl) (blk_lt h2)).trans h2
 have c1:U8.C W' (some ⟨b1,0,none⟩) [(7:Int)].length [(7:Int)]:=by
  refine ⟨rfl,by simp,λ_=>⟨_,rfl,λj p hj=>?_⟩⟩
  rcases j with _|j
  ·simp only [List.getElem?_cons_zero,Option.some.injEq] at hj
   subst hj
   refine ⟨[.int .u8 7],rfl,rfl,λi z hz=>?_⟩
   rcases i with _|i
   ·simp only [List.getElem?_cons_zero,Option.some.injEq] at hz
    subst hz
    rw [add_plain]
    exact(blk_cell g1 _).trans rfl
   ·simp at hz
  ·simp at hj
 refine ⟨rfl,by simp [awL],λ_=>⟨_,rfl,λj p hj=>?_⟩⟩
 rcases j with _|_|j
 ·simp only [awL,List.getElem?_cons_zero,Option.some.injEq] at hj
  subst hj
  refine ⟨_,rfl,k92_mk W' ⟨10,[]⟩ (A1:=none) (c1:=0) (Nat.le_refl _) (Kd.C_nil _ _),λi z hz=>?_⟩
  rcases i with _|_|i
  ·simp only [List.getElem?_cons_zero,Option.some.injEq] at hz
   subst hz
   rw [add_plain]
   exact(blk_cell g2 _).trans rfl
  ·simp only [Nat.zero_add,List.getElem?_cons_succ,List.getElem?_cons_zero,Option.some.injEq] at hz
   subst hz
   rw [add_plain]
   exact(blk_cell g2 _).trans rfl
  ·simp at hz
 ·simp only [awL,Nat.zero_add,List.getElem?_cons_succ,List.getElem?_cons_zero,Option.some.injEq] at hj
  subst hj
  refine ⟨_,rfl,k92_mk W' ⟨11,[7]⟩ (c1:=1) (Nat.le_refl _) c1,λi z hz=>?_⟩
  rcases i with _|_|i
  ·simp only [List.getElem?_cons_zero,Option.some.injEq] at hz
   subst hz
   rw [add_plain]
   exact(blk_cell g2 _).trans rfl
  ·simp only [Nat.zero_add,List.getElem?_cons_succ,List.getElem?_cons_zero,Option.some.injEq] at hz
   subst hz
   rw [add_plain]
   exact(blk_cell g2 _).trans rfl
  ·simp at hz
 ·simp [awL] at hj
set_option maxHeartbeats 16000000 in
set_option maxRecDepth 100000 in
theorem jawake_calls (W:World):Calls Try.prog 11 #[] W λe w'=>e = .returned (.bool true)/\Below W.heap.size W w':=by
 go_enter Try.func11,Try.ntmps11
 go_upto_region 2 with (first|(go_at_call 44;(with_reducible refine Calls.mono (new_calls 1000 (by decide) (by decide) W) ?_);rintro e w1 ⟨g,rfl,⟨D,hat⟩,hb⟩;have AT:=Aside0.mk hat;clear hat hb))
 obtain ⟨v0,v1,hraw⟩:=AT.out
 have ho:=open_fresh hraw (Dk.good_new (by decide) (by decide)) rfl rfl rfl
 have HO:=Aside0.mk ho
 clear ho hraw
 go_upto_region 3 with (first|(go_at_call 18;(with_reducible refine Calls.mono HO.out ?_);rintro e w2 ⟨gj,rfl,hj,hge,hb⟩;have J:=Aside0.mk (show Jo W w2 g gj D (Dk.new 1000) 1 0 false from ⟨AT.out.on hb,λe=>by have:=AT.out.lt gj e;omega,Nat.le_trans AT.out.below.size hge,hj⟩);clear HO hj hge hb AT))
 have b3:Below w2.heap.size w2 ((w2.alloc (.cells #[.int .u8 7] 5)).alloc (.cells #[.int .i64 10,.slice none 0 0,.int .i64 11,.slice (some ⟨w2.heap.size,0,none⟩) 1 1] 92)):=below_alloc (below_alloc (Below.refl _ _) _) _
 have J3:=J.out.on b3
 have f3:Kd.F k92 ((w2.alloc (.cells #[.int .u8 7] 5)).alloc (.cells #[.int .i64 10,.slice none 0 0,.int .i64 11,.slice (some ⟨w2.heap.size,0,none⟩) 1 1] 92)) (λk=>¬ JD D gj k) (some ⟨w2.heap.size+1,0,none⟩) awL.length awL:=by
  refine Kd.F_mono (two_F (b1:=w2.heap.size) (b2:=w2.heap.size+1) (e:=5) (e':=92) ?_ ?_) (λk hk hd=>?_)
  ·exact blk_below (heap_alloc_new w2 _) (below_alloc (Below.refl _ _) _)
  ·have h_:=heap_alloc_new (w2.alloc (.cells #[.int .u8 7] 5)) (.cells #[.int .i64 10,.slice none 0 0,.int .i64 11,.slice (some ⟨w2.heap.size,0,none⟩) 1 1] 92)
   rwa [show(w2.alloc (.cells #[.int .u8 7] 5)).heap.size=w2.heap.size+1 by simp] at h_
  ·have:=J.out.lt k hd
   omega
 have hc:Calls Try.prog 26 #[.pointer (some ⟨gj,0,none⟩),.slice (some ⟨w2.heap.size+1,0,none⟩) 2 2] ((w2.alloc (.cells #[.int .u8 7] 5)).alloc (.cells #[.int .i64 10,.slice none 0 0,.int .i64 11,.slice (some ⟨w2.heap.size,0,none⟩) 1 1] 92)) _ :=
  put_renew (q:=(awD,0)) (s':=0) (t':=1) (l:=awL) (c:=2) J3 (by simp [awL]) f3 (Nat.le_refl _) aw_put (λW1 hW=>renew_calls (J3.on hW) (Dk.good_new (by decide) (by decide)) ⟨rfl,rfl⟩ (o:=0) (by decide +kernel) (.inl rfl) (by decide) (t':=1) (by decide +kernel) (Kd.F_mono (Kd.F_below f3 hW) (λ_ h=>h)) (Nat.le_refl _) aw_put aw_num aw_head aw_foot (by decide +kernel) aw_renew)
 have HC:=Aside0.mk hc
 clear hc f3 J3 b3
 go_upto_region 4 with (first|(go_at_call 26;(with_reducible refine Calls.mono HC.out ?_);rintro e w4 ⟨rfl,D4,hj,hs⟩;have J4:=Aside0.mk hj;clear HC hj hs J;have J:=Aside0.mk J4.out;clear J4))
 obtain ⟨v0,v1,hraw⟩:=J.out.dk
 have ho:=open_calls (d:=awD) hraw ⟨by decide,by decide +kernel,by decide,by decide,by decide +kernel,by decide⟩ rfl aw_scan scan_nil (x:=(0,1,awL,29,29)) (y:=(0,1,awL,29,29)) (.inl ⟨by decide,rfl⟩) (.inr ⟨by decide,rfl⟩) (by decide)
 have HO:=Aside0.mk ho
 clear ho hraw
 go_upto_region 6 with (first|(go_at_call 18;(with_reducible refine Calls.mono HO.out ?_);rintro e w5 ⟨gj2,A5,c5,rfl,hj,hge,hf,hc5,hb⟩;have q_:=J.out.on hb;have FT:=Aside0.mk hf;clear HO hj hge hb hf hc5 J;have J:=Aside0.mk q_;clear q_))
 obtain ⟨ad,A1,c1,hA,h0,_⟩:=at_T92 (Ft_now FT.out) 1 (by decide) (by decide)
 subst hA
 have TC:=Aside0.mk (turn_calls J.out (by decide) (by decide))
 have h0':w5.cell? ⟨ad.block,ad.off+2,none⟩=some (.int .i64 11):=h0
 clear h0
 go_wp2_with (first|(go_at_call 29;(with_reducible refine Calls.mono TC.out ?_);rintro e w6 ⟨rfl,hb⟩;have HB:=Aside0.mk (below_step J.out.dk.below hb);clear hb))
 go_ret
 exact ⟨rfl,HB.out⟩
end
end Go.Proofs.Ytfhamdobagjakaa.Dsk
