/- a part -/
import Derived.Test.YtgocnchjpecafaaSortTop
namespace Go.Proofs.Ytgocnchjpecafaa.Srt
open Go.Shelf Go.RowKit Go.Lib Go.Sort
set_option linter.unusedVariables false
set_option linter.unusedSimpArgs false
set_option linter.unusedSectionVars false
section
variable {α : Type} [Inhabited α] {P : Program} {k : Nat}
set_option maxHeartbeats 4000000 in
set_option maxRecDepth 1000000 in
theorem stable (enc:α→List Value) (cf:α→α→Int) (g:Nat) (cb:Array Value) (blk off cap:Nat) (d0 d:Array α) (w0 w:World)
  (X:Srt P k enc cf g cb blk off d0 w0) (hs:d0.size=d.size) (S:SWB enc k w0 blk off d w) :
  Calls P 89 #[.slice (some ⟨blk,off,none⟩) d.size cap,.int .i64 d.size,.func (.func g) #[] cb] w fun e w'=>e = .returned (.tuple #[])∧∃ d',Aside (SWB enc k w0 blk off d' w')∧Hid (Merged (ltOf cf) 0 d.size d d'):=by
 have L:=X.L
 have mixed:=L.mixed;have tT:=L.tT;have aT:=L.aT;have zT:=L.zT;have vT:=L.vT;have tI:=L.tI;have aI:=L.aI;have zI:=L.zI;have vI:=L.vI;have tB:=L.tB;have aB:=L.aB;have zB:=L.zB;have vB:=L.vB;have tU:=L.tU;have aU:=L.aU;have zU:=L.zU;have vU:=L.vU;have tS:=L.tS;have aS:=L.aS;have zS:=L.zS;have vS:=L.vS;have tC:=L.tC;have aC:=L.aC;have zC:=L.zC;have vC:=L.vC;have aE:=L.aE;have zE:=L.zE
 have eg:=X.E
 have hz:=X.Z
 have eIn:∀ args w,(callFunc 104 args).run P w = .ok (.enter 104 args) w:=enters_of L.fin (by kernel_rfl) rfl
 have eSy:∀ args w,(callFunc 105 args).run P w = .ok (.enter 105 args) w:=enters_of L.fsy (by kernel_rfl) rfl
 obtain ⟨n,hn⟩:∃ n,n=d.size:=⟨_,rfl⟩
 rw [←hn]
 have S0:Aside (SWB enc k w0 blk off d w):=S
 have XX:Aside (Srt P k enc cf g cb blk off d0 w0):=X
 have hs0:d0.size=n:=by omega
 have HN:Hid (n=d.size):=hn
 clear S X L hs hn
 go_enter XX.out.L.fst,Try.ntmps89
 go_wp2
 go_loopg [7,8] (n / 20) (fun g1 va vb wr=>∃ (q a b:Nat) (dk:Array α),va = .int .i64 a∧vb = .int .i64 b∧Hid (a=20*q∧b=a+20∧a≤n)∧n / 20 - q≤g1∧Aside (SWB enc k w0 blk off dk wr)∧Hid (StabIn (ltOf cf) 0 n d dk∧First (ltOf cf) 20 q n dk))
 case atStart=>exact ⟨0,0,20,d,rfl,rfl,⟨by omega,by omega,by omega⟩,by omega,S0,StabIn.refl _ _ _,fun p hp=>by omega⟩
 case round =>
  clear S0
  obtain ⟨q,a,b,dk,rfl,rfl,HQ,hg1,S1,HF⟩:=hrel
  have hds:dk.size=n:=HF.out.1.size.trans HN.out.symm
  by_cases hlt:b≤n
  ·have hltz:(b:Int)≤(n:Int):=by omega
   have hc:=insertion enc cf g cb blk off cap a b d0 dk w0 wr XX.out (hs0.trans hds.symm) S1.out (by have:=HQ.out;omega) (by omega)
   rw [hds] at hc
   have r1:IntKind.i64.wrap ((b:Int)+20)=((b+20:Nat):Int):=by rw [IntKind.wrap_i64];omega
   clear S1
   go_wp2_with (go_at_fn 104;refine hc.mono ?_;rintro e w1 ⟨rfl,d1,S2,HM⟩)
   clear hc
   go_roundg (n / 20 - (q+1))
   case measure=>have:=HQ.out;omega
   case rel =>
    refine ⟨q+1,b,b+20,d1,rfl,by go_num,⟨by have:=HQ.out;omega,by omega,by omega⟩,Nat.le_refl _,S2,HF.out.1.trans (HM.out.1.mono (by omega) (by have:=HQ.out;omega) (by omega)),?_⟩
    have h:=HQ.out
    refine HF.out.2.next (a:=a) (by omega) (fun t ht=>HM.out.1.out t (by omega)) ?_
    rw [show min (a+20) n=b by omega]
    exact HM.out.2
  ·have hltz:¬ (b:Int)≤(n:Int):=by omega
   have hc:=insertion enc cf g cb blk off cap a n d0 dk w0 wr XX.out (hs0.trans hds.symm) S1.out (by have:=HQ.out;omega) (by omega)
   rw [hds] at hc
   clear S1
   go_wp2_with (go_at_fn 104;refine hc.mono ?_;rintro e w1 ⟨rfl,d1,S2,HM⟩)
   clear hc
   have HB1:Hid (StabIn (ltOf cf) 0 n d d1∧Blocks (ltOf cf) 20 n d1):=by
    have h:=HQ.out
    refine ⟨HF.out.1.trans (HM.out.1.mono (by omega) (by omega) (by omega)),?_⟩
    refine First.stop (q:=q+1) (HF.out.2.next (a:=a) (by omega) (fun t ht=>HM.out.1.out t (by omega)) ?_) (by omega)
    rw [show min (a+20) n=n by omega]
    exact HM.out.2
   clear HF HM HQ hg1 hltz hlt hds
   go_loopg [6] n (fun g1 vs wr=>∃ (s:Nat) (dk:Array α),vs = .int .i64 s∧Hid (0<s)∧s≤2*n+20∧n - s≤g1∧Aside (SWB enc k w0 blk off dk wr)∧Hid (StabIn (ltOf cf) 0 n d dk∧Blocks (ltOf cf) s n dk))
   case atStart=>exact ⟨20,d1,rfl,by show 0<20;omega,by omega,by omega,S2,HB1.out⟩
   case round =>
    clear S2 HB1
    obtain ⟨s,dk,rfl,HS,hsn,hg2,S1,HF⟩:=hrel
    have hds:dk.size=n:=HF.out.1.size.trans HN.out.symm
    by_cases hlt:s<n
    ·have hltz:(s:Int)<(n:Int):=by omega
     obtain ⟨s2,hs2⟩:∃ s2,s2=2*s:=⟨_,rfl⟩
     have HS2:Hid (s2=2*s):=hs2
     have hs2n:s2≤2*n:=by omega
     have hs3:0<s2:=by have:=HS.out;omega
     have r1:IntKind.i64.wrap (2*(s:Int))=(s2:Int):=by rw [IntKind.wrap_i64];omega
     have r2:IntKind.i64.wrap ((s:Int)*2)=(s2:Int):=by rw [IntKind.wrap_i64];omega
     clear hs2
     go_wp2
     go_loopg [7,8] n (fun g3 va vb wr=>∃ (q a b:Nat) (dk:Array α),va = .int .i64 a∧vb = .int .i64 b∧Hid (a=q*(2*s)∧b=a+s2∧a≤n)∧n - a≤g3∧Aside (SWB enc k w0 blk off dk wr)∧Hid (StabIn (ltOf cf) 0 n d dk∧Half (ltOf cf) s q n dk))
     case atStart=>exact ⟨0,0,s2,dk,rfl,rfl,⟨by omega,by omega,by omega⟩,by omega,S1,HF.out.1,Half.start HF.out.2⟩
     case round =>
      clear S1 HF
      obtain ⟨q,a,b,dk,rfl,rfl,HQ,hg3,S1,HF⟩:=hrel
      have hds:dk.size=n:=HF.out.1.size.trans HN.out.symm
      have hq:=HQ.out
      have hs2:=HS2.out
      have hs1:=HS.out
      have HR:=HF.out.2.runs hq.1
      rw [←hs2] at HR
      have han:a≤n:=hq.2.2
      have hba:b=a+s2:=hq.2.1
      have hss:2*s=s2:=hs2.symm
      by_cases hlt2:b≤n
      ·have hltz2:(b:Int)≤(n:Int):=by omega
       have r3:IntKind.i64.wrap ((b:Int)+(s2:Int))=((b+s2:Nat):Int):=by rw [IntKind.wrap_i64];omega
       have r4:IntKind.i64.wrap ((a:Int)+(s:Int))=((a+s:Nat):Int):=by rw [IntKind.wrap_i64];omega
       have hc:=merge enc cf g cb blk off cap d0 w0 XX.out (b - a) a (a+s) b dk wr (Nat.le_refl _) (hs0.trans hds.symm) S1.out (by omega) (by omega) (by omega)
        (by have h:=HR.1;rw [Nat.min_eq_left (by omega)] at h;exact h) (by have h:=HR.2;rw [Nat.min_eq_left (by omega),←hba] at h;exact h)
       unfold SymAt at hc
       rw [hds] at hc
       clear S1 hq hs2 hs1 HR han hba hss
       go_wp2_with (go_at_fn 105;refine hc.mono ?_;rintro e w2 ⟨rfl,d2,S3,HM⟩)
       clear hc
       have hq:=HQ.out
       have hs2:=HS2.out
       have hs1:=HS.out
       go_roundg (n - b)
       case measure=>omega
       case rel =>
        have he:(q+1)*(2*s)=b:=by rw [Nat.add_mul,←hq.1];omega
        refine ⟨q+1,b,b+s2,d2,rfl,by go_num,⟨he.symm,rfl,hlt2⟩,Nat.le_refl _,S3,HF.out.1.trans (HM.out.1.mono (by omega) (by omega) (by omega)),?_⟩
        refine HF.out.2.next hq.1 (fun t ht=>HM.out.1.out t (by omega)) ?_
        rw [show min (a+2*s) n=b by omega]
        exact HM.out.2
      ·have hltz2:¬ (b:Int)≤(n:Int):=by omega
       have r4:IntKind.i64.wrap ((a:Int)+(s:Int))=((a+s:Nat):Int):=by rw [IntKind.wrap_i64];omega
       obtain ⟨m,hm⟩:∃ m,m=a+s:=⟨_,rfl⟩
       rw [←hm] at r4
       have HMM:Hid (m=a+s):=hm
       by_cases hlt3:m<n
       ·have hltz3:(m:Int)<(n:Int):=by omega
        have hc:=merge enc cf g cb blk off cap d0 w0 XX.out (n - a) a m n dk wr (Nat.le_refl _) (hs0.trans hds.symm) S1.out (by omega) hlt3 (by omega)
         (by have h:=HR.1;rw [Nat.min_eq_left (by omega),←hm] at h;exact h) (by have h:=HR.2;rw [Nat.min_eq_right (by omega),←hm] at h;exact h)
        unfold SymAt at hc
        rw [hds] at hc
        clear S1 hq hs2 hs1 HR han hba hss hm
        go_wp2_with (go_at_fn 105;refine hc.mono ?_;rintro e w2 ⟨rfl,d2,S3,HM⟩)
        clear hc
        have hq:=HQ.out
        have hs2:=HS2.out
        have hs1:=HS.out
        have hm:=HMM.out
        go_roundg (n - s2)
        case measure=>omega
        case rel =>
         refine ⟨s2,d2,rfl,hs3,by omega,Nat.le_refl _,S3,HF.out.1.trans (HM.out.1.mono (by omega) (by omega) (by omega)),?_⟩
         have he:(q+1)*(2*s)=b:=by rw [Nat.add_mul,←hq.1];omega
         rw [hs2]
         refine Half.stop (q:=q+1) (HF.out.2.next hq.1 (fun t ht=>HM.out.1.out t (by omega)) ?_) (by omega)
         rw [show min (a+2*s) n=n by omega]
         exact HM.out.2
       ·have hltz3:¬ (m:Int)<(n:Int):=by omega
        clear hq hs2 hs1 HR han hba hss hm
        go_wp2
        have hq:=HQ.out
        have hs2:=HS2.out
        have hs1:=HS.out
        have hm:=HMM.out
        go_roundg (n - s2)
        case measure=>omega
        case rel =>
         refine ⟨s2,dk,rfl,hs3,by omega,Nat.le_refl _,S1,HF.out.1,?_⟩
         have he:(q+1)*(2*s)=b:=by rw [Nat.add_mul,←hq.1];omega
         rw [hs2]
         exact Half.stop (q:=q+1) (HF.out.2.skip hq.1 (by omega)) (by omega)
    ·have hltz:¬ (s:Int)<(n:Int):=by omega
     go_wp2
     go_end0
     exact ⟨rfl,dk,S1,HF.out.1,Blocks.one HF.out.2 (by omega)⟩
set_option maxHeartbeats 4000000 in
set_option maxRecDepth 1000000 in
theorem sortStable (enc:α→List Value) (cf:α→α→Int) (g:Nat) (cb:Array Value) (blk off cap:Nat) (d0 d:Array α) (w0 w:World)
  (X:Srt P k enc cf g cb blk off d0 w0) (hs:d0.size=d.size) (S:SWB enc k w0 blk off d w) :
  Calls P 60 #[.slice (some ⟨blk,off,none⟩) d.size cap,.func (.func g) #[] cb] w fun e w'=>e = .returned (.tuple #[])∧∃ d',Aside (SWB enc k w0 blk off d' w')∧Hid (Merged (ltOf cf) 0 d.size d d'):=by
 have L:=X.L
 have mixed:=L.mixed;have tT:=L.tT;have aT:=L.aT;have zT:=L.zT;have vT:=L.vT;have tI:=L.tI;have aI:=L.aI;have zI:=L.zI;have vI:=L.vI;have tB:=L.tB;have aB:=L.aB;have zB:=L.zB;have vB:=L.vB;have tU:=L.tU;have aU:=L.aU;have zU:=L.zU;have vU:=L.vU;have tS:=L.tS;have aS:=L.aS;have zS:=L.zS;have vS:=L.vS;have tC:=L.tC;have aC:=L.aC;have zC:=L.zC;have vC:=L.vC;have aE:=L.aE;have zE:=L.zE
 have eSt:∀ args w,(callFunc 89 args).run P w = .ok (.enter 89 args) w:=enters_of L.fst (by kernel_rfl) rfl
 have hc:=stable enc cf g cb blk off cap d0 d w0 w X hs S
 have XX:Aside (Srt P k enc cf g cb blk off d0 w0):=X
 clear S X L
 go_enter XX.out.L.fso,Try.ntmps60
 go_wp2_with (go_at_fn 89;refine hc.mono ?_;rintro e w2 ⟨rfl,d2,S3,HM⟩)
 go_end0
 exact ⟨rfl,d2,S3,HM⟩
end
end Go.Proofs.Ytgocnchjpecafaa.Srt
