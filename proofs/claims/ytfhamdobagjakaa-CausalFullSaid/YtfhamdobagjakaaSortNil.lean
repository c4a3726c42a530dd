import Derived.Test.YtfhamdobagjakaaSortBase
import Derived.Test.YtfhamdobagjakaaSortMid
/- a part -/
namespace Go.Proofs.Ytfhamdobagjakaa.Srt
open Go.Sort
set_option linter.unusedVariables false
set_option linter.unusedSimpArgs false
set_option linter.unusedSectionVars false
section
variable {α : Type} [Inhabited α] {lt : α -> α -> Bool} {d c : Array α} {bs q n a : Nat}
def Blocks (lt:α->α->Bool) (bs n:Nat) (d:Array α):Prop:=∀ p,SortedIn lt (p*bs) (min ((p+1)*bs) n) d
def Half (lt:α->α->Bool) (bs q n:Nat) (d:Array α):Prop :=
 (∀ p,p<q->SortedIn lt (p*(2*bs)) (min ((p+1)*(2*bs)) n) d)/\(∀ p,2*q<=p->SortedIn lt (p*bs) (min ((p+1)*bs) n) d)
theorem SortedIn.empty {x y:Nat} (h:y<=x):SortedIn lt x y d:=λi j hi hij hj=>by omega
theorem Half.start (h:Blocks lt bs n d):Half lt bs 0 n d:=⟨λp hp=>by omega,λp _=>h p⟩
theorem Half.runs (h:Half lt bs q n d) (ha:a=q*(2*bs)):SortedIn lt a (min (a+bs) n) d/\SortedIn lt (a+bs) (min (a+2*bs) n) d:=by
 have e1:2*q*bs=a:=by rw [ha,Nat.mul_comm 2 q,Nat.mul_assoc]
 have e2:(2*q+1)*bs=a+bs:=by rw [Nat.add_mul,e1,Nat.one_mul]
 have e3:(2*q+1+1)*bs=a+2*bs:=by rw [Nat.add_mul,e2];omega
 have h1:=h.2 (2*q) (Nat.le_refl _)
 have h2:=h.2 (2*q+1) (by omega)
 rw [e1,e2] at h1
 rw [e2,e3] at h2
 exact ⟨h1,h2⟩
theorem Half.next (h:Half lt bs q n d) (ha:a=q*(2*bs)) (hout:∀ t,t<a\/min (a+2*bs) n<=t->c[t]! = d[t]!) (hs:SortedIn lt a (min (a+2*bs) n) c):Half lt bs (q+1) n c:=by
 refine ⟨λp hp=>?_,λp hp=>?_⟩
 ·by_cases hpq:p=q
  ·subst hpq
   rw [Nat.add_mul,<-ha,Nat.one_mul]
   exact hs
  ·have hle:(p+1)*(2*bs)<=q*(2*bs):=Nat.mul_le_mul_right _ (by omega)
   exact SortedIn.same (h.1 p (by omega)) λt t1 t2=>hout t (by omega)
 ·have hle:(2*(q+1))*bs<=p*bs:=Nat.mul_le_mul_right _ hp
  have e:(2*(q+1))*bs=a+2*bs:=by rw [Nat.mul_add,Nat.add_mul,ha,Nat.mul_comm 2 q,Nat.mul_assoc]
  exact SortedIn.same (h.2 p (by omega)) λt t1 t2=>hout t (by omega)
theorem Half.stop (h:Half lt bs q n d) (ha:n<=q*(2*bs)):Blocks lt (2*bs) n d:=λp=>by
 by_cases hp:p<q
 ·exact h.1 p hp
 ·have hle:q*(2*bs)<=p*(2*bs):=Nat.mul_le_mul_right _ (by omega)
  exact SortedIn.empty (by omega)
theorem Half.skip (h:Half lt bs q n d) (ha:a=q*(2*bs)) (hn:n<=a+bs):Half lt bs (q+1) n d:=by
 refine h.next ha (λ_ _=>rfl) ?_
 have h1:=(h.runs ha).1
 rw [Nat.min_eq_right (by omega)] at h1 ⊢
 exact h1
def First (lt:α->α->Bool) (bs q n:Nat) (d:Array α):Prop:=∀ p,p<q->SortedIn lt (p*bs) (min ((p+1)*bs) n) d
theorem First.next (h:First lt bs q n d) (ha:a=q*bs) (hout:∀ t,t<a\/min (a+bs) n<=t->c[t]! = d[t]!) (hs:SortedIn lt a (min (a+bs) n) c):First lt bs (q+1) n c:=λp hp=>by
 by_cases hpq:p=q
 ·subst hpq
  rw [Nat.add_mul,<-ha,Nat.one_mul]
  exact hs
 ·have hle:(p+1)*bs<=q*bs:=Nat.mul_le_mul_right _ (by omega)
  exact SortedIn.same (h p (by omega)) λt t1 t2=>hout t (by omega)
theorem First.stop (h:First lt bs q n d) (hn:n<=q*bs):Blocks lt bs n d:=λp=>by
 by_cases hp:p<q
 ·exact h p hp
 ·have hle:q*bs<=p*bs:=Nat.mul_le_mul_right _ (by omega)
  exact SortedIn.empty (by omega)
theorem Blocks.one (h:Blocks lt bs n d) (hn:n<=bs):SortedIn lt 0 n d:=by
 have h0:=h 0
 rw [Nat.zero_mul,Nat.zero_add,Nat.one_mul,Nat.min_eq_right hn] at h0
 exact h0
end
end Go.Proofs.Ytfhamdobagjakaa.Srt
/- a part -/
namespace Go.Proofs.Ytfhamdobagjakaa.Srt
open Go.Shelf Go.RowKit Go.Lib Go.Sort
set_option linter.unusedVariables false
set_option linter.unusedSimpArgs false
set_option linter.unusedSectionVars false
section
variable {α : Type} [Inhabited α] {P : Program} {k : Nat}
set_option maxHeartbeats 4000000 in
set_option maxRecDepth 1000000 in
theorem insertion (enc:α->List Value) (cf:α->α->Int) (g:Nat) (cb:Array Value) (blk off cap a b:Nat) (d0 d:Array α) (w0 w:World)
  (X:Srt P k enc cf g cb blk off d0 w0) (hs:d0.size=d.size) (S:SWB enc k w0 blk off d w) (hab:a<=b) (hb:b<=d.size) :
  Calls P 121 #[.slice (some ⟨blk,off,none⟩) d.size cap,.int .i64 a,.int .i64 b,.func (.func g) #[] cb] w λe w'=>e = .returned (.tuple #[])/\∃ d',Aside (SWB enc k w0 blk off d' w')/\Hid (Merged (ltOf cf) a b d d'):=by
 have L:=X.L
 have mixed:=L.mixed;have tT:=L.tT;have aT:=L.aT;have zT:=L.zT;have vT:=L.vT;have tI:=L.tI;have aI:=L.aI;have zI:=L.zI;have vI:=L.vI;have tB:=L.tB;have aB:=L.aB;have zB:=L.zB;have vB:=L.vB;have tU:=L.tU;have aU:=L.aU;have zU:=L.zU;have vU:=L.vU;have tS:=L.tS;have aS:=L.aS;have zS:=L.zS;have vS:=L.vS;have tC:=L.tC;have aC:=L.aC;have zC:=L.zC;have vC:=L.vC;have aE:=L.aE;have zE:=L.zE
 have eg:=X.E
 have hz:=X.Z
 have S0:Aside (SWB enc k w0 blk off d w):=S
 have XX:Aside (Srt P k enc cf g cb blk off d0 w0):=X
 clear S X L
 go_enter XX.out.L.fin,Try.ntmps121
 go_wp2
 go_loopg [8] (b - a) (λg1 vi wr=>∃ (i:Nat) (dk:Array α),vi = .int .i64 i/\a<i/\i<=b+1/\b+1 - i<=g1+1/\dk.size=d.size/\Aside (SWB enc k w0 blk off dk wr)/\Hid (insOuter (ltOf cf) a b i dk=insOuter (ltOf cf) a b (a+1) d))
 case atStart=>exact ⟨a+1,d,by go_num,by omega,by omega,by omega,rfl,S0,rfl⟩
 case round =>
  clear S0
  obtain ⟨i,dk,rfl,hai,hib,hg1,hsk,S1,HO⟩:=hrel
  by_cases hlt:i<b
  ·have hltz:(i:Int)<(b:Int):=by omega
   go_wp2
   go_loopg [9] i (λg2 vj wr2=>∃ (j:Nat) (dj:Array α),vj = .int .i64 j/\a<=j/\j<=i/\j<=g2/\dj.size=d.size/\Aside (SWB enc k w0 blk off dj wr2)/\Hid (insInner (ltOf cf) a j dj=insInner (ltOf cf) a i dk))
   case atStart=>exact ⟨i,dk,rfl,by omega,Nat.le_refl _,Nat.le_refl _,hsk,S1,rfl⟩
   case round =>
    clear S1
    obtain ⟨j,dj,rfl,haj,hji,hg2,hsj,S1,HI⟩:=hrel
    have out:(j<=a\/ltOf cf dj[j]! dj[j - 1]! = false)->Hid (insOuter (ltOf cf) a b (i+1) dj=insOuter (ltOf cf) a b (a+1) d):=λhs=>by
     show _=_
     rw [<-HO.out,insOuter_go _ _ _ _ _ hlt,<-HI.out,insInner_stop _ _ _ _ hs]
    have OUT:Aside _:=out
    clear out
    by_cases hja:a<j
    ·have hjaz:(a:Int)<(j:Int):=by omega
     obtain ⟨jp,rfl⟩:∃ jp,j=jp+1:=⟨j - 1,by omega⟩
     have hwp:IntKind.i64.wrap (jp:Int)=(jp:Int):=by rw [IntKind.wrap_i64];omega
     have jz:(jp:Int)+1<(d.size:Int):=by omega
     have jz1:(jp:Int)<(d.size:Int):=by omega
     have hjaz':(a:Int)<(jp:Int)+1:=by omega
     have p0:(0:Int)<=(jp:Int)+1:=by omega
     have e0:((jp:Int)+1).toNat=jp+1:=by omega
     obtain ⟨x,hx⟩:∃ x,x=dj[jp+1]!:=⟨_,rfl⟩
     obtain ⟨y,hy⟩:∃ y,y=dj[jp]!:=⟨_,rfl⟩
     have la:∀ p:SomeW enc k w0 blk off dj,_:=λp=>p.h.load XX.out.R (by omega) P (jp+1) (by omega)
     have lb:∀ p:SomeW enc k w0 blk off dj,_:=λp=>p.h.load XX.out.R (by omega) P jp (by omega)
     simp only [<-hx] at la
     simp only [<-hy] at lb
     have hc:=XX.out.C.at (hsj.trans hs.symm) x y (dk:=dj)
     haveI:Nonempty (SomeW enc k w0 blk off dj):=⟨⟨wr,S1.out⟩⟩
     cases hG:ltOf cf x y with
     | true =>
      have hv:cf x y<0:=of_decide_eq_true hG
      have hd:decide (cf x y<0)=true:=decide_eq_true hv
      rw [hx,hy] at hG
      have GG:Hid _:=hG
      clear hx hy hG
      go_wp2_with fail
      refine wp_region_some (by assumption) (by kernel_rfl) S1.out ?_
      repeat(quiet_step (first|(go_at_fn g;exact hc _)))
      refine wpQuiet_nil ?_
      rintro w3 ⟨⟨w3,S2_⟩,rfl⟩
      have S2:Aside (SWB enc k w0 blk off dj w3):=S2_
      clear la lb hc S1 S2_
      have S3:Aside (SWB enc k w0 blk off (swp dj (jp+1) jp) ((w3.drew.setCells blk (off+(jp+1)*k) (enc dj[jp]!)).setCells blk (off+jp*k) (enc dj[jp+1]!))):=S2.out.swapped XX.out.R (jp+1) jp (by omega) (by omega)
      have l44a:=S2.out.ld1 XX.out.R (by omega) P (jp+1) (by omega)
      have l44b:=S2.out.ld1 XX.out.R (by omega) P jp (by omega)
      have s44a:=S2.out.st1 XX.out.R (by omega) P (jp+1) (by omega) dj[jp]!
      have s44b:=S2.out.st2 XX.out.R (by omega) P (jp+1) jp (by omega) (by omega) dj[jp]! dj[jp+1]!
      have n44a:(enc dj[jp+1]!).length=k:=XX.out.R.hk _
      have n44b:(enc dj[jp]!).length=k:=XX.out.R.hk _
      generalize enc dj[jp+1]! = cI44 at S3 l44a s44b n44a
      generalize enc dj[jp]! = cJ44 at S3 l44b s44a s44b n44b
      clear S2
      go_wp2_with fail
      go_big_region_o
      clear l44a l44b s44a s44b
      generalize (w3.drew.setCells blk (off+(jp+1)*k) cJ44).setCells blk (off+jp*k) cI44=w4 at S3 ⊢
      go_wp2
      go_roundg jp
      case measure=>omega
      case rel =>
       refine ⟨jp,swp dj (jp+1) jp,by first|rfl|go_num|(congr 1;omega),by omega,by omega,Nat.le_refl _,by rw [size_swp];exact hsj,S3,(show Hid _ from ?_)⟩
       show _=_
       have:=insInner_go (ltOf cf) a (jp+1) dj hja (by simp only [Nat.add_sub_cancel];exact GG.out)
       simp only [Nat.add_sub_cancel] at this
       rw [<-HI.out,this]
     | false =>
      have hv:¬ cf x y<0:=of_decide_eq_false hG
      have hd:decide (cf x y<0)=false:=decide_eq_false hv
      rw [hx,hy] at hG
      have GG:Hid _:=hG
      clear hx hy hG
      go_wp2_with fail
      refine wp_region_some (by assumption) (by kernel_rfl) S1.out ?_
      repeat(quiet_step (first|(go_at_fn g;exact hc _)))
      refine wpQuiet_nil ?_
      rintro w3 ⟨⟨w3,S2_⟩,rfl⟩
      have S2:Aside (SWB enc k w0 blk off dj w3):=S2_
      clear la lb hc S1 S2_
      go_wp2
      go_roundg (b - (i+1))
      case measure=>omega
      case rel=>exact ⟨i+1,dj,by go_num,by omega,by omega,by omega,hsj,S2,OUT.out (Or.inr (by simp only [Nat.add_sub_cancel];exact GG.out))⟩
    ·have hjaz:decide ((j:Int) > (a:Int))=false:=decide_eq_false (by omega)
     have hjaz':¬ (a:Int)<(j:Int):=by omega
     have S2:Aside (SWB enc k w0 blk off dj wr.drew):=S1.out.drew
     clear S1
     go_wp2_with fail
     go_big_region_o
     generalize wr.drew=w2 at S2 ⊢
     all_goals go_wp2
     go_roundg (b - (i+1))
     case measure=>omega
     case rel=>exact ⟨i+1,dj,by go_num,by omega,by omega,by omega,hsj,S2,OUT.out (Or.inl (by omega))⟩
  ·have hltz:¬ (i:Int)<(b:Int):=by omega
   go_wp2
   go_end0
   refine ⟨rfl,dk,S1,?_⟩
   have h:=insertion_merged XX.out.S hab hb
   unfold insertionSort at h
   rw [<-HO.out,insOuter_stop _ _ _ _ _ hlt] at h
   exact h
theorem merge (enc:α->List Value) (cf:α->α->Int) (g:Nat) (cb:Array Value) (blk off cap:Nat) (d0:Array α) (w0:World) (X:Srt P k enc cf g cb blk off d0 w0) :
  ∀ (N a m b:Nat) (d:Array α) (w:World),b - a<=N->d0.size=d.size->SWB enc k w0 blk off d w->a<m->m<b->b<=d.size->SortedIn (ltOf cf) a m d->SortedIn (ltOf cf) m b d->SymAt P enc k cf g cb blk off cap d0 w0 a m b d w
 | 0,a,m,b,d,w,hN,_,_,h1,h2,_,_,_=>by omega
 | N+1,a,m,b,d,w,hN,hs,S,h1,h2,hb,hA,hB=>by
  by_cases e1:m=a+1
  ·subst e1
   exact symFirst enc cf g cb blk off cap a b d0 d w0 w X hs S h2 hb hB
  by_cases e2:b=m+1
  ·subst e2
   exact symLast enc cf g cb blk off cap a m d0 d w0 w X hs S (by omega) (by omega) hA
  ·exact symMid enc cf g cb blk off cap a m b d0 d w0 w X hs S (by omega) (by omega) hb hA hB
    (λa' m' b' d' w' hlt hs' S' h1' h2' hb' hA' hB'=>merge enc cf g cb blk off cap d0 w0 X N a' m' b' d' w' (by omega) hs' S' h1' h2' hb' hA' hB')
end
end Go.Proofs.Ytfhamdobagjakaa.Srt
/- a part -/
namespace Go.Proofs.Ytfhamdobagjakaa.Srt
open Go.Shelf Go.RowKit Go.Lib Go.Sort
set_option linter.unusedVariables false
set_option linter.unusedSimpArgs false
set_option linter.unusedSectionVars false
section
variable {α : Type} [Inhabited α] {P : Program} {k : Nat}
set_option maxHeartbeats 4000000 in
set_option maxRecDepth 1000000 in
theorem stable (enc:α->List Value) (cf:α->α->Int) (g:Nat) (cb:Array Value) (blk off cap:Nat) (d0 d:Array α) (w0 w:World)
  (X:Srt P k enc cf g cb blk off d0 w0) (hs:d0.size=d.size) (S:SWB enc k w0 blk off d w) :
  Calls P 118 #[.slice (some ⟨blk,off,none⟩) d.size cap,.int .i64 d.size,.func (.func g) #[] cb] w λe w'=>e = .returned (.tuple #[])/\∃ d',Aside (SWB enc k w0 blk off d' w')/\Hid (Merged (ltOf cf) 0 d.size d d'):=by
 have L:=X.L
 have mixed:=L.mixed;have tT:=L.tT;have aT:=L.aT;have zT:=L.zT;have vT:=L.vT;have tI:=L.tI;have aI:=L.aI;have zI:=L.zI;have vI:=L.vI;have tB:=L.tB;have aB:=L.aB;have zB:=L.zB;have vB:=L.vB;have tU:=L.tU;have aU:=L.aU;have zU:=L.zU;have vU:=L.vU;have tS:=L.tS;have aS:=L.aS;have zS:=L.zS;have vS:=L.vS;have tC:=L.tC;have aC:=L.aC;have zC:=L.zC;have vC:=L.vC;have aE:=L.aE;have zE:=L.zE
 have eg:=X.E
 have hz:=X.Z
 have eIn:∀ args w,(callFunc 121 args).run P w = .ok (.enter 121 args) w:=enters_of L.fin (by kernel_rfl) rfl
 have eSy:∀ args w,(callFunc 122 args).run P w = .ok (.enter 122 args) w:=enters_of L.fsy (by kernel_rfl) rfl
 obtain ⟨n,hn⟩:∃ n,n=d.size:=⟨_,rfl⟩
 rw [<-hn]
 have S0:Aside (SWB enc k w0 blk off d w):=S
 have XX:Aside (Srt P k enc cf g cb blk off d0 w0):=X
 have hs0:d0.size=n:=by omega
 have HN:Hid (n=d.size):=hn
 clear S X L hs hn
 go_enter XX.out.L.fst,Try.ntmps118
 go_wp2
 go_loopg [7,8] (n / 20) (λg1 va vb wr=>∃ (q a b:Nat) (dk:Array α),va = .int .i64 a/\vb = .int .i64 b/\Hid (a=20*q/\b=a+20/\a<=n)/\n / 20 - q<=g1/\Aside (SWB enc k w0 blk off dk wr)/\Hid (StabIn (ltOf cf) 0 n d dk/\First (ltOf cf) 20 q n dk))
 case atStart=>exact ⟨0,0,20,d,rfl,rfl,⟨by omega,by omega,by omega⟩,by omega,S0,StabIn.refl _ _ _,λp hp=>by omega⟩
 case round =>
  clear S0
  obtain ⟨q,a,b,dk,rfl,rfl,HQ,hg1,S1,HF⟩:=hrel
  have hds:dk.size=n:=HF.out.1.size.trans HN.out.symm
  by_cases hlt:b<=n
  ·have hltz:(b:Int)<=(n:Int):=by omega
   have hc:=insertion enc cf g cb blk off cap a b d0 dk w0 wr XX.out (hs0.trans hds.symm) S1.out (by have:=HQ.out;omega) (by omega)
   rw [hds] at hc
   have r1:IntKind.i64.wrap ((b:Int)+20)=((b+20:Nat):Int):=by rw [IntKind.wrap_i64];omega
   clear S1
   go_wp2_with (go_at_fn 121;refine hc.mono ?_;rintro e w1 ⟨rfl,d1,S2,HM⟩)
   clear hc
   go_roundg (n / 20 - (q+1))
   case measure=>have:=HQ.out;omega
   case rel =>
    refine ⟨q+1,b,b+20,d1,rfl,by go_num,⟨by have:=HQ.out;omega,by omega,by omega⟩,Nat.le_refl _,S2,HF.out.1.trans (HM.out.1.mono (by omega) (by have:=HQ.out;omega) (by omega)),?_⟩
    have h:=HQ.out
    refine HF.out.2.next (a:=a) (by omega) (λt ht=>HM.out.1.out t (by omega)) ?_
    rw [show min (a+20) n=b by omega]
    exact HM.out.2
  ·have hltz:¬ (b:Int)<=(n:Int):=by omega
   have hc:=insertion enc cf g cb blk off cap a n d0 dk w0 wr XX.out (hs0.trans hds.symm) S1.out (by have:=HQ.out;omega) (by omega)
   rw [hds] at hc
   clear S1
   go_wp2_with (go_at_fn 121;refine hc.mono ?_;rintro e w1 ⟨rfl,d1,S2,HM⟩)
   clear hc
   have HB1:Hid (StabIn (ltOf cf) 0 n d d1/\Blocks (ltOf cf) 20 n d1):=by
    have h:=HQ.out
    refine ⟨HF.out.1.trans (HM.out.1.mono (by omega) (by omega) (by omega)),?_⟩
    refine First.stop (q:=q+1) (HF.out.2.next (a:=a) (by omega) (λt ht=>HM.out.1.out t (by omega)) ?_) (by omega)
    rw [show min (a+20) n=n by omega]
    exact HM.out.2
   clear HF HM HQ hg1 hltz hlt hds
   go_loopg [6] n (λg1 vs wr=>∃ (s:Nat) (dk:Array α),vs = .int .i64 s/\Hid (0<s)/\s<=2*n+20/\n - s<=g1/\Aside (SWB enc k w0 blk off dk wr)/\Hid (StabIn (ltOf cf) 0 n d dk/\Blocks (ltOf cf) s n dk))
   case atStart=>exact ⟨20,d1,rfl,by show 0<20;omega,by omega,by omega,S2,HB1.out⟩
   case round =>
    clear S2 HB1
    obtain ⟨s,dk,rfl,HS,hsn,hg2,S1,HF⟩:=hrel
    have hds:dk.size=n:=HF.out.1.size.trans HN.out.symm
    by_cases hlt:s<n
    ·have hltz:(s:Int)<(n:Int):=by omega
     obtain ⟨s2,hs2⟩:∃ s2,s2=2*s:=⟨_,rfl⟩
     have HS2:Hid (s2=2*s):=hs2
     have hs2n:s2<=2*n:=by omega
     have hs3:0<s2:=by have:=HS.out;omega
     have r1:IntKind.i64.wrap (2*(s:Int))=(s2:Int):=by rw [IntKind.wrap_i64];omega
     have r2:IntKind.i64.wrap ((s:Int)*2)=(s2:Int):=by rw [IntKind.wrap_i64];omega
     clear hs2
     go_wp2
     go_loopg [7,8] n (λg3 va vb wr=>∃ (q a b:Nat) (dk:Array α),va = .int .i64 a/\vb = .int .i64 b/\Hid (a=q*(2*s)/\b=a+s2/\a<=n)/\n - a<=g3/\Aside (SWB enc k w0 blk off dk wr)/\Hid (StabIn (ltOf cf) 0 n d dk/\Half (ltOf cf) s q n dk))
     case atStart=>exact ⟨0,0,s2,dk,rfl,rfl,⟨by omega,by omega,by omega⟩,by omega,S1,HF.out.1,Half.start HF.out.2⟩
     case round =>
      clear S1 HF
      obtain ⟨q,a,b,dk,rfl,rfl,HQ,hg3,S1,HF⟩:=hrel
      have hds:dk.size=n:=HF.out.1.size.trans HN.out.symm
      have hq:=HQ.out
      have hs2:=HS2.out
      have hs1:=HS.out
      have HR:=HF.out.2.runs hq.1
      rw [<-hs2] at HR
      have han:a<=n:=hq.2.2
      have hba:b=a+s2:=hq.2.1
      have hss:2*s=s2:=hs2.symm
      by_cases hlt2:b<=n
      ·have hltz2:(b:Int)<=(n:Int):=by omega
       have r3:IntKind.i64.wrap ((b:Int)+(s2:Int))=((b+s2:Nat):Int):=by rw [IntKind.wrap_i64];omega
       have r4:IntKind.i64.wrap ((a:Int)+(s:Int))=((a+s:Nat):Int):=by rw [IntKind.wrap_i64];omega
       have hc:=merge enc cf g cb blk off cap d0 w0 XX.out (b - a) a (a+s) b dk wr (Nat.le_refl _) (hs0.trans hds.symm) S1.out (by omega) (by omega) (by omega)
        (by have h:=HR.1;rw [Nat.min_eq_left (by omega)] at h;exact h) (by have h:=HR.2;rw [Nat.min_eq_left (by omega),<-hba] at h;exact h)
       unfold SymAt at hc
       rw [hds] at hc
       clear S1 hq hs2 hs1 HR han hba hss
       go_wp2_with (go_at_fn 122;refine hc.mono ?_;rintro e w2 ⟨rfl,d2,S3,HM⟩)
       clear hc
       have hq:=HQ.out
       have hs2:=HS2.out
       have hs1:=HS.out
       go_roundg (n - b)
       case measure=>omega
       case rel =>
        have he:(q+1)*(2*s)=b:=by rw [Nat.add_mul,<-hq.1];omega
        refine ⟨q+1,b,b+s2,d2,rfl,by go_num,⟨he.symm,rfl,hlt2⟩,Nat.le_refl _,S3,HF.out.1.trans (HM.out.1.mono (by omega) (by omega) (by omega)),?_⟩
        refine HF.out.2.next hq.1 (λt ht=>HM.out.1.out t (by omega)) ?_
        rw [show min (a+2*s) n=b by omega]
        exact HM.out.2
      ·have hltz2:¬ (b:Int)<=(n:Int):=by omega
       have r4:IntKind.i64.wrap ((a:Int)+(s:Int))=((a+s:Nat):Int):=by rw [IntKind.wrap_i64];omega
       obtain ⟨m,hm⟩:∃ m,m=a+s:=⟨_,rfl⟩
       rw [<-hm] at r4
       have HMM:Hid (m=a+s):=hm
       by_cases hlt3:m<n
       ·have hltz3:(m:Int)<(n:Int):=by omega
        have hc:=merge enc cf g cb blk off cap d0 w0 XX.out (n - a) a m n dk wr (Nat.le_refl _) (hs0.trans hds.symm) S1.out (by omega) hlt3 (by omega)
         (by have h:=HR.1;rw [Nat.min_eq_left (by omega),<-hm] at h;exact h) (by have h:=HR.2;rw [Nat.min_eq_right (by omega),<-hm] at h;exact h)
        unfold SymAt at hc
        rw [hds] at hc
        clear S1 hq hs2 hs1 HR han hba hss hm
        go_wp2_with (go_at_fn 122;refine hc.mono ?_;rintro e w2 ⟨rfl,d2,S3,HM⟩)
        clear hc
        have hq:=HQ.out
        have hs2:=HS2.out
        have hs1:=HS.out
        have hm:=HMM.out
        go_roundg (n - s2)
        case measure=>omega
        case rel =>
         refine ⟨s2,d2,rfl,hs3,by omega,Nat.le_refl _,S3,HF.out.1.trans (HM.out.1.mono (by omega) (by omega) (by omega)),?_⟩
         have he:(q+1)*(2*s)=b:=by rw [Nat.add_mul,<-hq.1];omega
         rw [hs2]
         refine Half.stop (q:=q+1) (HF.out.2.next hq.1 (λt ht=>HM.out.1.out t (by omega)) ?_) (by omega)
         rw [show min (a+2*s) n=n by omega]
         exact HM.out.2
       ·have hltz3:¬ (m:Int)<(n:Int):=by omega
        clear hq hs2 hs1 HR han hba hss hm
        go_wp2
        have hq:=HQ.out
        have hs2:=HS2.out
        have hs1:=HS.out
        have hm:=HMM.out
        go_roundg (n - s2)
        case measure=>omega
        case rel =>
         refine ⟨s2,dk,rfl,hs3,by omega,Nat.le_refl _,S1,HF.out.1,?_⟩
         have he:(q+1)*(2*s)=b:=by rw [Nat.add_mul,<-hq.1];omega
         rw [hs2]
         exact Half.stop (q:=q+1) (HF.out.2.skip hq.1 (by omega)) (by omega)
    ·have hltz:¬ (s:Int)<(n:Int):=by omega
     go_wp2
     go_end0
     exact ⟨rfl,dk,S1,HF.out.1,Blocks.one HF.out.2 (by omega)⟩
set_option maxHeartbeats 4000000 in
set_option maxRecDepth 1000000 in
theorem sortStable (enc:α->List Value) (cf:α->α->Int) (g:Nat) (cb:Array Value) (blk off cap:Nat) (d0 d:Array α) (w0 w:World)
  (X:Srt P k enc cf g cb blk off d0 w0) (hs:d0.size=d.size) (S:SWB enc k w0 blk off d w) :
  Calls P 98 #[.slice (some ⟨blk,off,none⟩) d.size cap,.func (.func g) #[] cb] w λe w'=>e = .returned (.tuple #[])/\∃ d',Aside (SWB enc k w0 blk off d' w')/\Hid (Merged (ltOf cf) 0 d.size d d'):=by
 have L:=X.L
 have mixed:=L.mixed;have tT:=L.tT;have aT:=L.aT;have zT:=L.zT;have vT:=L.vT;have tI:=L.tI;have aI:=L.aI;have zI:=L.zI;have vI:=L.vI;have tB:=L.tB;have aB:=L.aB;have zB:=L.zB;have vB:=L.vB;have tU:=L.tU;have aU:=L.aU;have zU:=L.zU;have vU:=L.vU;have tS:=L.tS;have aS:=L.aS;have zS:=L.zS;have vS:=L.vS;have tC:=L.tC;have aC:=L.aC;have zC:=L.zC;have vC:=L.vC;have aE:=L.aE;have zE:=L.zE
 have eSt:∀ args w,(callFunc 118 args).run P w = .ok (.enter 118 args) w:=enters_of L.fst (by kernel_rfl) rfl
 have hc:=stable enc cf g cb blk off cap d0 d w0 w X hs S
 have XX:Aside (Srt P k enc cf g cb blk off d0 w0):=X
 clear S X L
 go_enter XX.out.L.fso,Try.ntmps98
 go_wp2_with (go_at_fn 118;refine hc.mono ?_;rintro e w2 ⟨rfl,d2,S3,HM⟩)
 go_end0
 exact ⟨rfl,d2,S3,HM⟩
end
end Go.Proofs.Ytfhamdobagjakaa.Srt
/- a part -/
namespace Go.Proofs.Ytfhamdobagjakaa.Srt
open Go.Shelf Go.RowKit Go.Lib Go.Sort
set_option linter.unusedVariables false
set_option linter.unusedSimpArgs false
theorem nil_ins (g:Nat) (cb:Array Value) (w:World):Calls Try.prog 121 #[.slice none 0 0,.int .i64 0,.int .i64 0,.func (.func g) #[] cb] w λe w'=>e = .returned (.tuple #[])/\w'=w:=by
 go_enter Try.func121,Try.ntmps121
 go_wp2
 refine wp_loop_rounds 1 ?_
 rw [rounds_succ]
 go_wp2
 go_end0
 exact ⟨rfl,rfl⟩
theorem nil_stable (g:Nat) (cb:Array Value) (w:World):Calls Try.prog 118 #[.slice none 0 0,.int .i64 0,.func (.func g) #[] cb] w λe w'=>e = .returned (.tuple #[])/\w'=w:=by
 go_enter Try.func118,Try.ntmps118
 go_wp2
 refine wp_loop_rounds 1 ?_
 rw [rounds_succ]
 go_wp2_with (go_at_call 121;refine(nil_ins g cb _).mono ?_;rintro e w' ⟨rfl,rfl⟩)
 refine wp_loop_rounds 1 ?_
 rw [rounds_succ]
 go_wp2
 go_end0
 exact ⟨rfl,rfl⟩
theorem nil_sort (g:Nat) (cb:Array Value) (w:World):Calls Try.prog 98 #[.slice none 0 0,.func (.func g) #[] cb] w λe w'=>e = .returned (.tuple #[])/\w'=w:=by
 go_enter Try.func98,Try.ntmps98
 go_wp2_with (go_at_call 118;refine(nil_stable g cb _).mono ?_;rintro e w' ⟨rfl,rfl⟩)
 go_end0
 exact ⟨rfl,rfl⟩
end Go.Proofs.Ytfhamdobagjakaa.Srt
