/- a part -/
import Derived.Test.YtfhamdobagjakaaJoInv
namespace Go.Proofs.Ytfhamdobagjakaa.Dsk
open Go.RowKit Go.Proofs.YtfhamdobagjakaaW.PrintWords Go.Proofs.YtfhamdobagjakaaW.PrintLast Go.Proofs.YtfhamdobagjakaaW.PrintMore Go.Proofs.Ytfhamdobagjakaa.Hand Go.Proofs.Ytfhamdobagjakaa.Cards Go.Proofs.Ytfhamdobagjakaa.PJo Go.Proofs.Ytfhamdobagjakaa.Wr
set_option linter.unusedVariables false
set_option linter.unusedSimpArgs false
section
variable {w0 W W1 : World} {g gj gw : Nat} {D : Nat -> Prop} {d : Dk} {s t o : Int} {Ab Am A : Option Addr} {cb cm c i : Nat} {base more R : List Rc}
theorem ev_some {α:Type} {g:Nat->Option α} {r:α} (h:Ev g r):∃ k,g k=some r:=by
 obtain ⟨K,h⟩:=h
 exact ⟨K,h K (Nat.le_refl _)⟩
theorem row_total {l:List Rc} (h:mayL l) (hn:l.length<=1000):(recs l).length<=65550000:=by have:=recs_len h;omega
theorem renew_at (h:Jo w0 W g gj D d s t false) (hI:PInv i d s t base more) (hi:i<200) {o':Int} (ho:o'=0\/o'=1) (hne:o'≠s) (hm:mayL R) (hb:byL R) (hn:R.length<=1000) {t':Nat} (ht:(t':Int)=t+1)
  (hA:Kd.F k92 W (λk=>¬ LD D gj gw k) A R.length R) (hc:R.length<=c) (W1:World) (hW:Below W.heap.size W W1) :
  Calls Try.prog 28 #[.pointer (some ⟨gj,0,none⟩),.slice A R.length c] W1 λe w'=>e = .returned (.int .i64 (d.renew o' (whole t' R)).2) /\
   ∃ D',Jo w0 w' g gj D' (d.renew o' (whole t' R)).1 (pk (d.renew o' (whole t' R)).2 o' s) (pk (d.renew o' (whole t' R)).2 (t+1) t) false/\Step W1 w' (JD D gj) (JD D' gj):=by
 have h0:=hI.t0
 have h1:=hI.ti
 have h2:=hI.hs
 obtain ⟨kp,e1⟩:=ev_some (put_ev R hm hb (by omega))
 obtain ⟨kn,e2⟩:=ev_some (num_ev t' (by omega))
 obtain ⟨k1,e3⟩:=record_ev 1 (num t') ⟨by omega,by omega⟩ (num_bytes (by omega)) (by have:=num_len_le (n:=t') (by omega);omega)
 obtain ⟨k2,e4⟩:=record_ev 2 [] ⟨by omega,by omega⟩ (λx hx=>by cases hx) (by simp)
 have l1:=record_len_le 1 (num t') (by have:=num_len_le (n:=t') (by omega);omega)
 have l2:=record_len_le 2 [] (by simp)
 have l3:=row_total hm hn
 refine renew_calls (kp:=kp) (kn:=kn) (kr:=max k1 k2) (nb:=num t') (hd:=record 1 (num t')) (b:=recs R) (ft:=record 2 []) (e1:=0) (e2:=0) (h.on hW) hI.good hI.live (o:=o') (by unfold wrap64;omega) ho (by omega) (t':=t+1) (by rw [IntKind.wrap_u64];omega)
  (Kd.F_mono (Kd.F_below hA hW) (λk hk e=>hk (.inl e))) hc e1 (by rw [<-ht];exact e2) (e3 _ (Nat.le_max_left _ _)) (e4 _ (Nat.le_max_right _ _)) (by omega) rfl
theorem F_LD {xs:List Rc} {D':Nat->Prop} (f:Kd.F k92 W (λk=>¬ LD D gj gw k) A xs.length xs) (hs:Step W W1 (LD D gj gw) (LD D' gj gw)):Kd.F k92 W1 (λk=>¬ LD D' gj gw k) A xs.length xs:=hs.foot f
def Done (w0 W:World) (g gj gw:Nat) (D:Nat->Prop) (i:Nat) (t:Int) (base more R:List Rc) (e:Ending) (w':World):Prop :=
 ∃ ok D' Ab' Am' cb' cm' d' s' t' base' more' n',e = .returned (.bool ok)/\Lw w0 w' g gj gw D' Ab' Am' cb' cm' d' s' t' base' more' n'/\Step W w' (LD D gj gw) (LD D' gj gw) /\
  (ok=true->n'=t'/\PInv (i+1) d' s' t' base' more')/\(ok=false->t'=t/\PInv (i+1) d' s' t base more/\mayL R/\d'.left<((whole 9 R).length:Int))
theorem do_all (h:Lw w0 W g gj gw D Ab Am cb cm d s t base more t) (hI:PInv i d s t base more) (hi:i<100) (h3:¬ o=3) (hR:Kd.F k92 W (λk=>¬ LD D gj gw k) A R.length R) (hc:R.length<=c) (hb:byL R) (hn:R.length<=1000) (hmo:more.length<=100000) :
  Calls Try.prog 13 #[.pointer (some ⟨gw,0,none⟩),.agg #[.int .i64 o,.slice A R.length c]] W λe w'=>Done w0 W g gj gw D i t base more R e w':=by
 obtain ⟨km,hkm⟩:=ev_some (may_ev R (by omega))
 have h0:=hI.t0
 have h1:=hI.ti
 have hw:wrap64 (t+1)=t+1:=by unfold wrap64;omega
 have hA:∀ W1,Below W.heap.size W W1->Kd.F k92 W1 (λk=>¬ JD D gj k) A R.length R:=λW1 hW=>Kd.F_mono (Kd.F_below hR hW) (λk hk e=>hk (.inl e))
 have ho':∃ o',(o'=0\/o'=1)/\o'≠s:=by
  rcases hI.hs with q|q
  ·exact ⟨1,.inr rfl,by omega⟩
  ·exact ⟨0,.inl rfl,by omega⟩
 obtain ⟨o',ho,hne⟩:=ho'
 obtain ⟨t',ht⟩:∃ t':Nat,(t':Int)=t+1:=⟨(t+1).toNat,by omega⟩
 have b9:((recs R).length:Int)<=((whole 9 R).length:Int):=by rw [whole_len (by omega) (by omega)];omega
 have same:∀ {e w'},(e = .returned (.bool true)/\∃ D',Lw w0 w' g gj gw D' Ab Am cb cm d s t base more t/\Step W w' (LD D gj gw) (LD D' gj gw))->Done w0 W g gj gw D i t base more R e w':=by
  rintro e w' ⟨rfl,D',hl,hs⟩
  exact ⟨_,_,_,_,_,_,_,_,_,_,_,_,rfl,hl,hs,λ_=>⟨rfl,hI.next⟩,λe=>by cases e⟩
 by_cases hm:mayL R
 case neg =>
  obtain ⟨kp,hkp⟩:=ev_some (put_bad R hm hb (by omega))
  rw [decide_eq_false hm] at hkm
  by_cases q0:o=0
  ·subst q0
   exact(do_put_no h hR hc hkm rfl (λW1 hW=>put_arg (h.jo.on hW) (by decide) (hA W1 hW) hc hkp)).mono λe w' k=>same k
  ·by_cases q2:o=2
   ·subst q2
    exact(do_renew_no h hR hc hkm rfl (λW1 hW=>renew_arg (h.jo.on hW) (by decide) (hA W1 hW) hc hkp)).mono λe w' k=>same k
   ·by_cases q1:o=1
    ·subst q1
     by_cases tz:t=0
     ·subst tz
      refine(do_sync h hR hc hkm (er:=0) (d':=d) (s':=s) (t':=0) (λW1 hW=>(jsync_none (h.jo.on hW)).mono λe w' k=>⟨k.1,D,(h.jo.on hW).on k.2,Step.of_below k.2⟩)).mono ?_
      rintro e w' ⟨rfl,D',hl,hs⟩
      exact ⟨_,_,_,_,_,_,_,_,_,_,_,_,rfl,hl,hs,λ_=>⟨rfl,hI.next⟩,λe=>by cases e⟩
     ·refine(do_sync h hR hc hkm (er:=0) (d':=(d.syn s).1) (s':=s) (t':=t) (λW1 hW=>jsync_live (h.jo.on hW) hI.live hI.hs tz)).mono ?_
      rintro e w' ⟨rfl,D',hl,hs⟩
      exact ⟨_,_,_,_,_,_,_,_,_,_,_,_,rfl,hl,hs,λ_=>⟨rfl,hI.sync⟩,λe=>by cases e⟩
    ·exact(do_other h hR hc hkm q0 q1 q2 h3).mono λe w' k=>same k
 obtain ⟨kp,hkp⟩:=ev_some (put_ev R hm hb (by omega))
 rw [decide_eq_true hm] at hkm
 have hren:=renew_at (W:=W) (c:=c) (A:=A) (gw:=gw) h.jo hI (by omega) ho hne hm hb hn ht hR hc
 have hpr:=hI.renew (by omega) ho hne hm hb ht
 by_cases q0:o=0
 ·subst q0
  by_cases rz:R=[]
  ·have put:=λW1 hW=>(put_none (h.jo.on hW) rz (hA W1 hW) hc hkp).mono λe w' k=>(⟨k.1,D,(h.jo.on hW).on k.2,Step.of_below k.2⟩:e = .returned (.int .i64 0)/\∃ D',Jo w0 w' g gj D' d s t false/\Step W1 w' (JD D gj) (JD D' gj))
   have fin:∀ {e w'},(e = .returned (.bool ((0:Int) == 0))/\∃ D' Am' cm',Lw w0 w' g gj gw D' Ab Am' cb cm' d s t base (more++R) t/\Step W w' (LD D gj gw) (LD D' gj gw))->Done w0 W g gj gw D i t base more R e w':=by
    rintro e w' ⟨rfl,D',Am',cm',hl,hs⟩
    rw [rz,List.append_nil] at hl
    exact ⟨_,_,_,_,_,_,_,_,_,_,_,_,rfl,hl,hs,λ_=>⟨rfl,hI.next⟩,λe=>by cases e⟩
   by_cases tz:t=0
   ·exact(do_put_more2 h hR hc hkm rfl tz rz (by omega) put).mono λe w' k=>fin k
   ·exact(do_put_more1 h hR hc hkm rfl tz (by omega) put).mono λe w' k=>fin k
  ·by_cases tz:t=0
   ·subst tz
    have put:=λW1 hW=>put_renew (h.jo.on hW) rz (hA W1 hW) hc hkp (q:=d.renew o' (whole t' R)) (s':=pk (d.renew o' (whole t' R)).2 o' s) (t':=pk (d.renew o' (whole t' R)).2 (0+1) 0) (λW2 hW2=>(hren W2 (below_step hW hW2)).mono λe w' k=>k)
    refine(do_put_base h hR hc hkm rfl rfl rz put).mono ?_
    rintro e w' ⟨rfl,D',hl,hs⟩
    by_cases z:(d.renew o' (whole t' R)).2=0
    ·rw [pk_ok z,pk_ok z] at hl
     refine ⟨_,_,_,_,_,_,_,_,_,_,_,_,rfl,hl,hs,λ_=>⟨rfl,?_⟩,λe=>?_⟩
     ·have:=hpr.1 z
      rw [(hI.zero rfl).2.2.2.2]
      exact this
     ·rw [z] at e;cases e
    ·rw [pk_no z,pk_no z] at hl
     refine ⟨_,_,_,_,_,_,_,_,_,_,_,_,rfl,hl,hs,λe=>?_,λe=>⟨rfl,(hpr.2 z).1,hm,(hpr.2 z).2⟩⟩
     exact absurd (eq_of_beq e) z
   ·have hpa:=hI.append (by omega) hm hb
    have put:=λW1 hW=>put_append (h.jo.on hW) hI.good tz rz (hA W1 hW) hc hkp (by have:=row_total hm hn;omega) (rfl:d.app s (recs R)=_)
    refine(do_put_more1 h hR hc hkm rfl tz (by omega) put).mono ?_
    rintro e w' ⟨rfl,D',Am',cm',hl,hs⟩
    by_cases z:(d.app s (recs R)).2=0
    ·refine ⟨_,_,_,_,_,_,_,_,_,_,_,_,rfl,hl,hs,λ_=>⟨rfl,hpa.1 z⟩,λe=>?_⟩
     rw [z] at e;cases e
    ·refine ⟨_,_,_,_,_,_,_,_,_,_,_,_,rfl,hl,hs,λe=>absurd (eq_of_beq e) z,λe=>⟨rfl,(hpa.2 z).1,hm,Int.lt_of_lt_of_le (hpa.2 z).2 b9⟩⟩
 ·by_cases q2:o=2
  ·subst q2
   refine(do_renew h hR hc hkm rfl (er:=(d.renew o' (whole t' R)).2) hren).mono ?_
   rintro e w' ⟨rfl,D',hl,hs⟩
   by_cases z:(d.renew o' (whole t' R)).2=0
   ·rw [pk_ok z,pk_ok z] at hl
    refine ⟨_,_,_,_,_,_,_,_,_,_,_,_,rfl,hl,hs,λ_=>⟨hw,hpr.1 z⟩,λe=>?_⟩
    rw [z] at e;cases e
   ·rw [pk_no z,pk_no z] at hl
    exact ⟨_,_,_,_,_,_,_,_,_,_,_,_,rfl,hl,hs,λe=>absurd (eq_of_beq e) z,λe=>⟨rfl,(hpr.2 z).1,hm,(hpr.2 z).2⟩⟩
  ·by_cases q1:o=1
   ·subst q1
    by_cases tz:t=0
    ·subst tz
     refine(do_sync h hR hc hkm (er:=0) (d':=d) (s':=s) (t':=0) (λW1 hW=>(jsync_none (h.jo.on hW)).mono λe w' k=>⟨k.1,D,(h.jo.on hW).on k.2,Step.of_below k.2⟩)).mono ?_
     rintro e w' ⟨rfl,D',hl,hs⟩
     exact ⟨_,_,_,_,_,_,_,_,_,_,_,_,rfl,hl,hs,λ_=>⟨rfl,hI.next⟩,λe=>by cases e⟩
    ·refine(do_sync h hR hc hkm (er:=0) (d':=(d.syn s).1) (s':=s) (t':=t) (λW1 hW=>jsync_live (h.jo.on hW) hI.live hI.hs tz)).mono ?_
     rintro e w' ⟨rfl,D',hl,hs⟩
     exact ⟨_,_,_,_,_,_,_,_,_,_,_,_,rfl,hl,hs,λ_=>⟨rfl,hI.sync⟩,λe=>by cases e⟩
   ·exact(do_other h hR hc hkm q0 q1 q2 h3).mono λe w' k=>same k
end
end Go.Proofs.Ytfhamdobagjakaa.Dsk
