/- a part -/
import Derived.Test.YtgocnchjpecafaaSortMid
import Derived.Test.YtgocnchjpecafaaSortRuns
namespace Go.Proofs.Ytgocnchjpecafaa.Srt
open Go.Shelf Go.RowKit Go.Lib Go.Sort
set_option linter.unusedVariables false
set_option linter.unusedSimpArgs false
set_option linter.unusedSectionVars false
section
variable {α : Type} [Inhabited α] {P : Program} {k : Nat}
set_option maxHeartbeats 4000000 in
set_option maxRecDepth 1000000 in
theorem insertion (enc:α→List Value) (cf:α→α→Int) (g:Nat) (cb:Array Value) (blk off cap a b:Nat) (d0 d:Array α) (w0 w:World)
  (X:Srt P k enc cf g cb blk off d0 w0) (hs:d0.size=d.size) (S:SWB enc k w0 blk off d w) (hab:a≤b) (hb:b≤d.size) :
  Calls P 104 #[.slice (some ⟨blk,off,none⟩) d.size cap,.int .i64 a,.int .i64 b,.func (.func g) #[] cb] w fun e w'=>e = .returned (.tuple #[])∧∃ d',Aside (SWB enc k w0 blk off d' w')∧Hid (Merged (ltOf cf) a b d d'):=by
 have L:=X.L
 have mixed:=L.mixed;have tT:=L.tT;have aT:=L.aT;have zT:=L.zT;have vT:=L.vT;have tI:=L.tI;have aI:=L.aI;have zI:=L.zI;have vI:=L.vI;have tB:=L.tB;have aB:=L.aB;have zB:=L.zB;have vB:=L.vB;have tU:=L.tU;have aU:=L.aU;have zU:=L.zU;have vU:=L.vU;have tS:=L.tS;have aS:=L.aS;have zS:=L.zS;have vS:=L.vS;have tC:=L.tC;have aC:=L.aC;have zC:=L.zC;have vC:=L.vC;have aE:=L.aE;have zE:=L.zE
 have eg:=X.E
 have hz:=X.Z
 have S0:Aside (SWB enc k w0 blk off d w):=S
 have XX:Aside (Srt P k enc cf g cb blk off d0 w0):=X
 clear S X L
 go_enter XX.out.L.fin,Try.ntmps104
 go_wp2
 go_loopg [8] (b - a) (fun g1 vi wr=>∃ (i:Nat) (dk:Array α),vi = .int .i64 i∧a<i∧i≤b+1∧b+1 - i≤g1+1∧dk.size=d.size∧Aside (SWB enc k w0 blk off dk wr)∧Hid (insOuter (ltOf cf) a b i dk=insOuter (ltOf cf) a b (a+1) d))
 case atStart=>exact ⟨a+1,d,by go_num,by omega,by omega,by omega,rfl,S0,rfl⟩
 case round =>
  clear S0
  obtain ⟨i,dk,rfl,hai,hib,hg1,hsk,S1,HO⟩:=hrel
  by_cases hlt:i<b
  ·have hltz:(i:Int)<(b:Int):=by omega
   go_wp2
   go_loopg [9] i (fun g2 vj wr2=>∃ (j:Nat) (dj:Array α),vj = .int .i64 j∧a≤j∧j≤i∧j≤g2∧dj.size=d.size∧Aside (SWB enc k w0 blk off dj wr2)∧Hid (insInner (ltOf cf) a j dj=insInner (ltOf cf) a i dk))
   case atStart=>exact ⟨i,dk,rfl,by omega,Nat.le_refl _,Nat.le_refl _,hsk,S1,rfl⟩
   case round =>
    clear S1
    obtain ⟨j,dj,rfl,haj,hji,hg2,hsj,S1,HI⟩:=hrel
    have out:(j≤a∨ltOf cf dj[j]! dj[j - 1]! = false)→Hid (insOuter (ltOf cf) a b (i+1) dj=insOuter (ltOf cf) a b (a+1) d):=fun hs=>by
     show _=_
     rw [←HO.out,insOuter_go _ _ _ _ _ hlt,←HI.out,insInner_stop _ _ _ _ hs]
    have OUT:Aside _:=out
    clear out
    by_cases hja:a<j
    ·have hjaz:(a:Int)<(j:Int):=by omega
     obtain ⟨jp,rfl⟩:∃ jp,j=jp+1:=⟨j - 1,by omega⟩
     have hwp:IntKind.i64.wrap (jp:Int)=(jp:Int):=by rw [IntKind.wrap_i64];omega
     have jz:(jp:Int)+1<(d.size:Int):=by omega
     have jz1:(jp:Int)<(d.size:Int):=by omega
     have hjaz':(a:Int)<(jp:Int)+1:=by omega
     have p0:(0:Int)≤(jp:Int)+1:=by omega
     have e0:((jp:Int)+1).toNat=jp+1:=by omega
     obtain ⟨x,hx⟩:∃ x,x=dj[jp+1]!:=⟨_,rfl⟩
     obtain ⟨y,hy⟩:∃ y,y=dj[jp]!:=⟨_,rfl⟩
     have la:∀ p:SomeW enc k w0 blk off dj,_:=fun p=>p.h.load XX.out.R (by omega) P (jp+1) (by omega)
     have lb:∀ p:SomeW enc k w0 blk off dj,_:=fun p=>p.h.load XX.out.R (by omega) P jp (by omega)
     simp only [←hx] at la
     simp only [←hy] at lb
     have hc:=XX.out.C.at (hsj.trans hs.symm) x y (dk:=dj)
     haveI:Nonempty (SomeW enc k w0 blk off dj):=⟨⟨wr,S1.out⟩⟩
     cases hG:ltOf cf x y with
     | true =>
      have hv:cf x y<0:=of_decide_eq_true hG
      have hd:decide (cf x y<0)=true:=decide_eq_true hv
      rw [hx,hy] at hG
      have GG:Hid _:=hG
      clear hx hy hG
      go_wp2_with fail
      refine wp_region_some (by assumption) (by kernel_rfl) S1.out ?_
      repeat(quiet_step (first|(go_at_fn g;exact hc _)))
      refine wpQuiet_nil ?_
      rintro w3 ⟨⟨w3,S2_⟩,rfl⟩
      have S2:Aside (SWB enc k w0 blk off dj w3):=S2_
      clear la lb hc S1 S2_
      have S3:Aside (SWB enc k w0 blk off (swp dj (jp+1) jp) ((w3.drew.setCells blk (off+(jp+1)*k) (enc dj[jp]!)).setCells blk (off+jp*k) (enc dj[jp+1]!))):=S2.out.swapped XX.out.R (jp+1) jp (by omega) (by omega)
      have l44a:=S2.out.ld1 XX.out.R (by omega) P (jp+1) (by omega)
      have l44b:=S2.out.ld1 XX.out.R (by omega) P jp (by omega)
      have s44a:=S2.out.st1 XX.out.R (by omega) P (jp+1) (by omega) dj[jp]!
      have s44b:=S2.out.st2 XX.out.R (by omega) P (jp+1) jp (by omega) (by omega) dj[jp]! dj[jp+1]!
      have n44a:(enc dj[jp+1]!).length=k:=XX.out.R.hk _
      have n44b:(enc dj[jp]!).length=k:=XX.out.R.hk _
      generalize enc dj[jp+1]! = cI44 at S3 l44a s44b n44a
      generalize enc dj[jp]! = cJ44 at S3 l44b s44a s44b n44b
      clear S2
      go_wp2_with fail
      go_big_region_o
      clear l44a l44b s44a s44b
      generalize (w3.drew.setCells blk (off+(jp+1)*k) cJ44).setCells blk (off+jp*k) cI44=w4 at S3 ⊢
      go_wp2
      go_roundg jp
      case measure=>omega
      case rel =>
       refine ⟨jp,swp dj (jp+1) jp,by first|rfl|go_num|(congr 1;omega),by omega,by omega,Nat.le_refl _,by rw [size_swp];exact hsj,S3,(show Hid _ from ?_)⟩
       show _=_
       have:=insInner_go (ltOf cf) a (jp+1) dj hja (by simp only [Nat.add_sub_cancel];exact GG.out)
       simp only [Nat.add_sub_cancel] at this
       rw [←HI.out,this]
     | false =>
      have hv:¬ cf x y<0:=of_decide_eq_false hG
      have hd:decide (cf x y<0)=false:=decide_eq_false hv
      rw [hx,hy] at hG
      have GG:Hid _:=hG
      clear hx hy hG
      go_wp2_with fail
      refine wp_region_some (by assumption) (by kernel_rfl) S1.out ?_
      repeat(quiet_step (first|(go_at_fn g;exact hc _)))
      refine wpQuiet_nil ?_
      rintro w3 ⟨⟨w3,S2_⟩,rfl⟩
      have S2:Aside (SWB enc k w0 blk off dj w3):=S2_
      clear la lb hc S1 S2_
      go_wp2
      go_roundg (b - (i+1))
      case measure=>omega
      case rel=>exact ⟨i+1,dj,by go_num,by omega,by omega,by omega,hsj,S2,OUT.out (Or.inr (by simp only [Nat.add_sub_cancel];exact GG.out))⟩
    ·have hjaz:decide ((j:Int) > (a:Int))=false:=decide_eq_false (by omega)
     have hjaz':¬ (a:Int)<(j:Int):=by omega
     have S2:Aside (SWB enc k w0 blk off dj wr.drew):=S1.out.drew
     clear S1
     go_wp2_with fail
     go_big_region_o
     generalize wr.drew=w2 at S2 ⊢
     all_goals go_wp2
     go_roundg (b - (i+1))
     case measure=>omega
     case rel=>exact ⟨i+1,dj,by go_num,by omega,by omega,by omega,hsj,S2,OUT.out (Or.inl (by omega))⟩
  ·have hltz:¬ (i:Int)<(b:Int):=by omega
   go_wp2
   go_end0
   refine ⟨rfl,dk,S1,?_⟩
   have h:=insertion_merged XX.out.S hab hb
   unfold insertionSort at h
   rw [←HO.out,insOuter_stop _ _ _ _ _ hlt] at h
   exact h
theorem merge (enc:α→List Value) (cf:α→α→Int) (g:Nat) (cb:Array Value) (blk off cap:Nat) (d0:Array α) (w0:World) (X:Srt P k enc cf g cb blk off d0 w0) :
  ∀ (N a m b:Nat) (d:Array α) (w:World),b - a≤N→d0.size=d.size→SWB enc k w0 blk off d w→a<m→m<b→b≤d.size→SortedIn (ltOf cf) a m d→SortedIn (ltOf cf) m b d→SymAt P enc k cf g cb blk off cap d0 w0 a m b d w
 | 0,a,m,b,d,w,hN,_,_,h1,h2,_,_,_=>by omega
 | N+1,a,m,b,d,w,hN,hs,S,h1,h2,hb,hA,hB=>by
  by_cases e1:m=a+1
  ·subst e1
   exact symFirst enc cf g cb blk off cap a b d0 d w0 w X hs S h2 hb hB
  by_cases e2:b=m+1
  ·subst e2
   exact symLast enc cf g cb blk off cap a m d0 d w0 w X hs S (by omega) (by omega) hA
  ·exact symMid enc cf g cb blk off cap a m b d0 d w0 w X hs S (by omega) (by omega) hb hA hB
    (fun a' m' b' d' w' hlt hs' S' h1' h2' hb' hA' hB'=>merge enc cf g cb blk off cap d0 w0 X N a' m' b' d' w' (by omega) hs' S' h1' h2' hb' hA' hB')
end
end Go.Proofs.Ytgocnchjpecafaa.Srt
