/- a part -/
import Derived.Test.YtjpjdipdhakjnaaClockJoin
namespace Go.Proofs.Ytjpjdipdhakjnaa.ClockBase
open Go.RowKit Go.Lib Go.Proofs.YtjpjdipdhakjnaaW.PrintWords Go.Proofs.YtjpjdipdhakjnaaW.PrintLast Go.Proofs.YtjpjdipdhakjnaaW.PrintMore
set_option linter.unusedVariables false
set_option linter.unusedSimpArgs false
def badC (l:List Int):Bool:=!okC l
theorem badC_calls (A:Option Addr) (c:Nat) (l:List Int) (w:World) (hr:Kd.C (Kd.int .i64) w A l.length l) :
  Calls Try.prog 64 #[.slice A l.length c] w λe w'=>e = .returned (.bool (badC l))/\∃ q,w'=w.drewN q:=by
 have hcall:=check_calls A c l w hr
 clear hr
 unfold badC
 cases hk:okC l with
 | true =>
  rw [hk] at hcall
  go_enter Try.func64,Try.ntmps64
  go_wp2_with (go_at_call 26;(with_reducible refine hcall.mono ?_);rintro e w' ⟨rfl,q,rfl⟩)
  go_ret
  exact ⟨rfl,q,rfl⟩
 | false =>
  rw [hk] at hcall
  go_enter Try.func64,Try.ntmps64
  go_wp2_with (go_at_call 26;(with_reducible refine hcall.mono ?_);rintro e w' ⟨rfl,q,rfl⟩)
  go_ret
  exact ⟨rfl,q,rfl⟩
theorem anyC_hit {l:List (List Int)} {kk:Nat} (h:kk<l.length) (hb:badC (l.getD kk [])=true):decide ((kk:Int)>=0)=l.any badC:=by
 rw [decide_eq_true (by omega)]
 refine(List.any_eq_true.2 ⟨l[kk],List.getElem_mem h,?_⟩).symm
 rw [List.getD_eq_getElem?_getD,List.getElem?_eq_getElem h] at hb
 exact hb
theorem anyC_miss {l:List (List Int)} (hb:∀ j,j<l.length->badC (l.getD j [])=false):decide ((-1:Int)>=0)=l.any badC:=by
 rw [decide_eq_false (by omega)]
 refine(List.any_eq_false.2 λx hx=>?_).symm
 obtain ⟨j,hj,rfl⟩:=List.mem_iff_getElem.1 hx
 have:=hb j hj
 rw [List.getD_eq_getElem?_getD,List.getElem?_eq_getElem hj] at this
 simpa using this
set_option maxHeartbeats 4000000 in
theorem idxC_calls (A:Option Addr) (c q:Nat) (l:List (List Int)) (w:World) (hr:Kd.C (Kd.slice q (Kd.int .i64)) w A l.length l) :
  Calls Try.prog 70 #[.slice A l.length c,.func (.func 64) #[] #[]] w λe w'=>(∃ i:Int,e = .returned (.int .i64 i)/\decide (i>=0)=l.any badC)/\∃ q,w'=w.drewN q:=by
 have HR:=Aside0.mk hr
 have hn:l.length<=9223372036854775807:=hr.2.1
 clear hr
 go_enter Try.func70,Try.ntmps70
 go_wp2
 go_loopg [5,8] l.length (λgg _ s8 wr=>∃ kk q:Nat,kk<=l.length/\l.length - kk<=gg/\s8 = .int .i64 kk/\wr=w.drewN q/\Aside (∀ j,j<kk->badC (l.getD j [])=false))
 case atStart=>exact ⟨0,0,Nat.zero_le _,by omega,rfl,rfl,λj hj=>absurd hj (Nat.not_lt_zero _)⟩
 case round =>
  obtain ⟨kk,q,hkk,hg,rfl,rfl,AA⟩:=hrel
  by_cases hlt:kk<l.length
  ·have hltz:(kk:Int)<(l.length:Int):=by omega
   obtain ⟨ad,A0,c0,rfl,hcell,hC⟩:=row_at HR.out kk hlt
   have hcall:=λW (hb:Below w.heap.size w W)=>badC_calls A0 c0 (l.getD kk []) W (Kd.C_below hC hb)
   have hbw:∀ q,Below w.heap.size w (w.drewN q):=λq=>pw_below_drewN (Below.refl _ _) q
   have hcall:∀ q,_:=λq=>hcall (w.drewN q) (hbw q)
   clear hC hbw
   generalize hy:l.getD kk []=y at hcell hcall
   have B:Aside (l.getD kk []=y):=hy
   clear hy
   cases hq:badC y with
   | true =>
    rw [hq] at hcall
    go_wp2_with (go_at_call 64;(with_reducible refine(hcall _).mono ?_);rintro e w' ⟨rfl,q',rfl⟩)
    go_ret
    exact ⟨⟨kk,rfl,anyC_hit hlt (by rw [B.out];exact hq)⟩,_,rfl⟩
   | false =>
    rw [hq] at hcall
    go_wp2_with (go_at_call 64;(with_reducible refine(hcall _).mono ?_);rintro e w' ⟨rfl,q',rfl⟩)
    go_roundg (l.length - (kk+1))
    case measure=>omega
    case rel =>
     refine ⟨kk+1,_,by omega,by omega,by go_num,rfl,(show Aside _ from λj hj=>?_)⟩
     by_cases e:j=kk
     ·subst e
      rw [B.out];exact hq
     ·exact AA.out j (by omega)
  ·have hltz:¬ (kk:Int)<(l.length:Int):=by omega
   have:kk=l.length:=by omega
   subst this
   go_wp2
   go_ret
   exact ⟨⟨-1,rfl,anyC_miss AA.out⟩,q,rfl⟩
theorem containsC_calls (A:Option Addr) (c q:Nat) (l:List (List Int)) (w:World) (hr:Kd.C (Kd.slice q (Kd.int .i64)) w A l.length l) :
  Calls Try.prog 63 #[.slice A l.length c,.func (.func 64) #[] #[]] w λe w'=>e = .returned (.bool (l.any badC))/\∃ q,w'=w.drewN q:=by
 have hcall:=idxC_calls A c q l w hr
 clear hr
 generalize l.any badC=b at hcall ⊢
 go_enter Try.func63,Try.ntmps63
 go_wp2_with (go_at_call 70;refine hcall.mono ?_;rintro e w' ⟨⟨i,rfl,hi⟩,q,rfl⟩)
 go_ret
 exact ⟨by rw [<-hi];rfl,q,rfl⟩
def mayS (ls:List (List Int)) (own:List Int):Bool:=decide (1<=ls.length/\ls.length<=5) && (okC own && !ls.any badC)
theorem may_calls (A B:Option Addr) (c d q:Nat) (ls:List (List Int)) (own:List Int) (w:World) (hr:Kd.C (Kd.slice q (Kd.int .i64)) w A ls.length ls) (ho:Kd.C (Kd.int .i64) w B own.length own) :
  Calls Try.prog 52 #[.slice A ls.length c,.slice B own.length d] w λe w'=>e = .returned (.bool (mayS ls own))/\∃ q,w'=w.drewN q:=by
 have hcon:=λW (hb:Below w.heap.size w W)=>containsC_calls A c q ls W (Kd.C_below hr hb)
 have hchk:=λW (hb:Below w.heap.size w W)=>check_calls B d own W (Kd.C_below ho hb)
 have hbw:∀ q,Below w.heap.size w (w.drewN q):=λq=>pw_below_drewN (Below.refl _ _) q
 have hcon:∀ q,_:=λq=>hcon (w.drewN q) (hbw q)
 have hchk:=hchk w (Below.refl _ _)
 have hl:=hr.2.1
 clear hr ho hbw
 unfold mayS
 by_cases h1:1<=ls.length
 ·have h1':(1:Int)<=(ls.length:Int):=by omega
  by_cases h5:ls.length<=5
  ·have h5':(ls.length:Int)<=5:=by omega
   rw [decide_eq_true ⟨h1,h5⟩,Bool.true_and]
   cases hk:okC own with
   | true =>
    rw [hk] at hchk
    cases hb:ls.any badC
    all_goals
     rw [hb] at hcon
     go_enter Try.func52,Try.ntmps52
     go_wp2_with (first|(go_at_call 26;(with_reducible refine hchk.mono ?_);rintro e w' ⟨rfl,q,rfl⟩)|(go_at_call 63;(with_reducible refine(hcon _).mono ?_);rintro e w' ⟨rfl,q',rfl⟩))
     go_ret
     exact ⟨rfl,_,rfl⟩
   | false =>
    rw [hk] at hchk
    rw [Bool.false_and]
    go_enter Try.func52,Try.ntmps52
    go_wp2_with (go_at_call 26;(with_reducible refine hchk.mono ?_);rintro e w' ⟨rfl,q,rfl⟩)
    go_ret
    exact ⟨rfl,_,rfl⟩
  ·have h5':(5:Int)<(ls.length:Int):=by omega
   rw [decide_eq_false (by omega),Bool.false_and]
   go_enter Try.func52,Try.ntmps52
   go_wp2
   go_ret
   exact ⟨by first|rfl|simp_all,0,rfl⟩
 ·have h0:ls.length=0:=by omega
  have h1':(ls.length:Int)<1:=by omega
  rw [decide_eq_false (by omega),Bool.false_and]
  go_enter Try.func52,Try.ntmps52
  go_wp2
  go_ret
  exact ⟨by first|rfl|simp_all,0,rfl⟩
end Go.Proofs.Ytjpjdipdhakjnaa.ClockBase
