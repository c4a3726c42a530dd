/- a part -/
import Derived.Test.YtfhamdobagjakaaJoDo
import Derived.Test.YtfhamdobagjakaaJoPlain
namespace Go.Proofs.Ytfhamdobagjakaa.Dsk
open Go.RowKit Go.Proofs.YtfhamdobagjakaaW.PrintWords Go.Proofs.YtfhamdobagjakaaW.PrintLast Go.Proofs.YtfhamdobagjakaaW.PrintMore Go.Proofs.Ytfhamdobagjakaa.Hand Go.Proofs.Ytfhamdobagjakaa.Cards Go.Proofs.Ytfhamdobagjakaa.PJo Go.Proofs.Ytfhamdobagjakaa.Wr
set_option linter.unusedVariables false
set_option linter.unusedSimpArgs false
section
def Elder (t:Int) (b:List Int):Prop:=b=[]\/∃ (t':Nat) (l m:List Rc),0<t'/\(t':Int)<t/\b=whole t' l++recs m/\mayL l/\byL l/\mayL m/\byL m
structure PInv (i:Nat) (d:Dk) (s t:Int) (base more:List Rc):Prop where
 good:d.Good
 live:d.Live
 rm:d.room<=255
 t0:0<=t
 ti:t<=(i:Int)
 hs:s=0\/s=1
 mb:mayL base
 bb:byL base
 mm:mayL more
 bm:byL more
 zero:t=0->s=1/\d.b0=[]/\d.b1=[]/\base=[]/\more=[]
 some_:0<t->d.row s=whole t.toNat base++recs more
 other:∀ o,(o=0\/o=1)->o≠s->Elder t (d.row o)
variable {i : Nat} {d : Dk} {s t : Int} {base more R : List Rc}
theorem PInv.next (h:PInv i d s t base more):PInv (i+1) d s t base more:={ h with ti:=by have:=h.ti;omega }
theorem PInv.start {room:Int} (h0:0<=room) (h1:room<=255):PInv 0 (Dk.new room) 1 0 [] [] :=
 ⟨Dk.good_new h0 (by omega),⟨rfl,rfl⟩,h1,Int.le_refl _,Int.le_refl _,.inr rfl,(λ_ h=>by cases h),(λ_ h=>by cases h),(λ_ h=>by cases h),(λ_ h=>by cases h),λ_=>⟨rfl,rfl,rfl,rfl,rfl⟩,λh=>absurd h (by omega),λo ho hne=>.inl (by unfold Dk.row Dk.new;split<;>rfl)⟩
theorem put_room {i:Int} {b:List Int} {s:Int}:(d.put i b s).room=d.room:=by unfold Dk.put;split<;>rfl
theorem not_iff {o s:Int} (ho:o=0\/o=1) (hs:s=0\/s=1) (hne:o≠s):¬ (o=0↔s=0):=by omega
theorem PInv.sync (h:PInv i d s t base more):PInv (i+1) (d.syn s).1 s t base more:=by
 have e:(d.syn s).1=d.put s (d.row s) ((d.row s).length:Int):=by rw [h.live.syn h.hs]
 have hrow:∀ o,(d.put s (d.row s) ((d.row s).length:Int)).row o=d.row o:=λo=>by
  rw [Dk.row_put]
  split
  ·rename_i q;exact(Dk.row_iff q).1
  ·rfl
 have g:=h.good.syn s
 rw [e] at g ⊢
 refine ⟨g,h.live.put _ _ _,by rw [put_room];exact h.rm,h.t0,by have:=h.ti;omega,h.hs,h.mb,h.bb,h.mm,h.bm,λh0=>?_,λh0=>by rw [hrow];exact h.some_ h0,λo ho hne=>by rw [hrow];exact h.other o ho hne⟩
 obtain ⟨a1,a2,a3,a4,a5⟩:=h.zero h0
 have r0:=hrow 0
 have r1:=hrow 1
 exact ⟨a1,r0.trans a2,r1.trans a3,a4,a5⟩
theorem PInv.append (h:PInv i d s t base more) (ht:0<t) (hm:mayL R) (hb:byL R) :
  ((d.app s (recs R)).2=0->PInv (i+1) (d.app s (recs R)).1 s t base (more++R))/\((d.app s (recs R)).2≠0->PInv (i+1) (d.app s (recs R)).1 s t base more/\(d.app s (recs R)).1.left<(recs R).length):=by
 have g:=h.good.app s (recs R)
 rw [h.live.app h.hs] at g ⊢
 by_cases hl:d.left<((recs R).length:Int)
 ·rw [if_pos hl] at g ⊢
  exact ⟨λe=>absurd (show(6:Int)=0 from e) (by decide),λ_=>⟨h.next,hl⟩⟩
 ·rw [if_neg hl] at g ⊢
  refine ⟨λ_=>?_,λe=>absurd rfl e⟩
  refine ⟨g,h.live.put _ _ _,by rw [put_room];exact h.rm,h.t0,by have:=h.ti;omega,h.hs,h.mb,h.bb,h.mm.append hm,h.bm.append hb,λh0=>by omega,λh0=>?_,λo ho hne=>?_⟩
  ·rw [Dk.row_put,if_pos Iff.rfl,h.some_ h0,recs_append,List.append_assoc]
  ·rw [Dk.row_put,if_neg (λe=>not_iff ho h.hs hne e.symm)]
   exact h.other o ho hne
theorem PInv.renew (h:PInv i d s t base more) (hi:(i:Int)<200) {o:Int} (ho:o=0\/o=1) (hne:o≠s) (hm:mayL R) (hb:byL R) {t':Nat} (ht:(t':Int)=t+1) :
  ((d.renew o (whole t' R)).2=0->PInv (i+1) (d.renew o (whole t' R)).1 o (t+1) R [])/\((d.renew o (whole t' R)).2≠0->PInv (i+1) (d.renew o (whole t' R)).1 s t base more/\(d.renew o (whole t' R)).1.left<((whole 9 R).length:Int)):=by
 have g:=h.good.renew h.live ho (whole t' R)
 have gc:=h.good.clear h.live ho
 have h0:=h.t0
 have h1:=h.ti
 have wl:(whole t' R).length=(whole 9 R).length:=by rw [whole_len (by omega) (by omega),whole_len (by omega) (by omega)]
 rw [h.live.renew ho] at g ⊢
 by_cases hl:(d.put o [] 0).left<((whole t' R).length:Int)
 ·rw [if_pos hl] at g ⊢
  refine ⟨λe=>absurd (show(6:Int)=0 from e) (by decide),λ_=>⟨?_,by rw [<-wl];exact hl⟩⟩
  refine ⟨gc,h.live.put _ _ _,by rw [put_room];exact h.rm,h.t0,by omega,h.hs,h.mb,h.bb,h.mm,h.bm,λh0=>?_,λh0=>?_,λo2 ho2 hne2=>?_⟩
  ·obtain ⟨a1,a2,a3,a4,a5⟩:=h.zero h0
   have r0:(d.put o [] 0).row 0=[]:=by rw [Dk.row_put];split;rfl;exact a2
   have r1:(d.put o [] 0).row 1=[]:=by rw [Dk.row_put];split;rfl;exact a3
   exact ⟨a1,r0,r1,a4,a5⟩
  ·rw [Dk.row_put,if_neg (not_iff ho h.hs hne)]
   exact h.some_ h0
  ·rw [Dk.row_put]
   split
   ·exact .inl rfl
   ·exact h.other o2 ho2 hne2
 ·rw [if_neg hl] at g ⊢
  refine ⟨λ_=>?_,λe=>absurd rfl e⟩
  refine ⟨g,h.live.put _ _ _,by rw [put_room];exact h.rm,by omega,by omega,ho,hm,hb,(λ_ h=>by cases h),(λ_ h=>by cases h),λh0=>by omega,λh0=>?_,λo2 ho2 hne2=>?_⟩
  ·rw [Dk.row_put,if_pos Iff.rfl,show(t+1).toNat=t' by omega]
   simp [recs]
  ·have hes:o2=s:=by have:=h.hs;omega
   subst hes
   rw [Dk.row_put,if_neg (λe=>not_iff ho2 ho hne2 e.symm)]
   rcases Int.lt_or_eq_of_le h0 with hp|hz
   ·exact .inr ⟨t.toNat,base,more,by omega,by omega,h.some_ hp,h.mb,h.bb,h.mm,h.bm⟩
   ·obtain ⟨a1,a2,a3,a4,a5⟩:=h.zero hz.symm
    refine .inl ?_
    rw [a1]
    exact a3
end
end Go.Proofs.Ytfhamdobagjakaa.Dsk
