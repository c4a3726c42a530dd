/- a part -/
import Derived.Test.YtfhamdobagjakaaSort
import Derived.Deep.RegionHeld3
import Derived.Deep.Cut
namespace Go.Proofs.Ytfhamdobagjakaa.Srt
open Go.Shelf Go.RowKit Go.Lib Go.Sort
set_option linter.unusedVariables false
set_option linter.unusedSimpArgs false
set_option linter.unusedSectionVars false
section
variable {α : Type} [Inhabited α] {P : Program} {k : Nat}
theorem rot_low {lt:α->α->Bool} {a s m e:Nat} {d c:Array α} (hr:Rot s m e d c) (h2:s<=m) (hA:SortedIn lt a m d):SortedIn lt a s c:=λi j hi hij hj=>by
 rw [hr.2,hr.2,if_neg (by omega),if_neg (by omega),if_neg (by omega),if_neg (by omega)]
 exact hA i j hi hij (by omega)
theorem rot_low2 {lt:α->α->Bool} {s m e b:Nat} {d c:Array α} (hr:Rot s m e d c) (h2:s<=m) (h3:m<=e) (h4:e<=b) (hB:SortedIn lt m b d):SortedIn lt s (s+(e - m)) c:=λi j hi hij hj=>by
 rw [hr.2,hr.2,if_pos (by omega),if_pos (by omega)]
 exact hB _ _ (by omega) (by omega) (by omega)
theorem rot_high {lt:α->α->Bool} {a s m e:Nat} {d c:Array α} (hr:Rot s m e d c) (h1:a<=s) (h2:s<=m) (h3:m<=e) (hA:SortedIn lt a m d):SortedIn lt (s+(e - m)) e c:=λi j hi hij hj=>by
 rw [hr.2,hr.2,if_neg (by omega),if_pos (by omega),if_neg (by omega),if_pos (by omega)]
 exact hA _ _ (by omega) (by omega) (by omega)
theorem rot_high2 {lt:α->α->Bool} {s m e b:Nat} {d c:Array α} (hr:Rot s m e d c) (h2:s<=m) (h3:m<=e) (hB:SortedIn lt m b d):SortedIn lt e b c:=λi j hi hij hj=>by
 rw [hr.2,hr.2,if_neg (by omega),if_neg (by omega),if_neg (by omega),if_neg (by omega)]
 exact hB _ _ (by omega) (by omega) (by omega)
def Placed (lt:α->α->Bool) (a m b lo0 hi0 M:Nat) (d:Array α):Prop :=
 (∀ x y,lo0<=x->x<=y->y<hi0->lt d[M+m - 1 - x]! d[x]! = true->lt d[M+m - 1 - y]! d[y]! = true) /\
 ∀ s,lo0<=s->s<=hi0->(∀ t,lo0<=t->t<s->lt d[M+m - 1 - t]! d[t]! = false)->(∀ t,s<=t->t<hi0->lt d[M+m - 1 - t]! d[t]! = true) ->
  (a<=s/\s<=m/\m<=M+m - s/\M+m - s<=b/\s+(M+m - s - m)=M) /\
  (∀ i j,a<=i->i<s->M+m - s<=j->j<b->lt d[j]! d[i]! = false) /\
  (∀ i j,s<=i->i<m->m<=j->j<M+m - s->lt d[j]! d[i]! = true)
theorem placed {lt:α->α->Bool} {a m b lo0 hi0 M:Nat} {d:Array α} (hA:SortedIn lt a m d) (hB:SortedIn lt m b d) (hS:SWO lt) (h1:a<m) (h2:m<b)
  (e1:lo a m b=lo0) (e2:hi a m b=hi0) (e3:M=(a+b) / 2):Placed lt a m b lo0 hi0 M d:=by
 subst e1 e2 e3
 exact ⟨λx y hx hxy hy h=>place hA hB hS h1 h2 hx hxy hy h,λs s1 s2 s3 s4=>place_rows hA hB hS h1 h2 s1 s2 s3 s4⟩
inductive Three (p q r:Prop):Prop where
 | wayA (h:p):Three p q r
 | wayB (h:q):Three p q r
 | wayC (h:r):Three p q r
theorem three {p q r:Prop} (h:p\/q\/r):Three p q r:=by
 rcases h with h|h|h
 ·exact .wayA h
 ·exact .wayB h
 ·exact .wayC h
def SymAt (P:Program) (enc:α->List Value) (k:Nat) (cf:α->α->Int) (g:Nat) (cb:Array Value) (blk off cap:Nat) (d0:Array α) (w0:World) (a m b:Nat) (d:Array α) (w:World):Prop :=
 Calls P 122 #[.slice (some ⟨blk,off,none⟩) d.size cap,.int .i64 a,.int .i64 m,.int .i64 b,.func (.func g) #[] cb] w λe w'=>e = .returned (.tuple #[])/\∃ d',Aside (SWB enc k w0 blk off d' w')/\Hid (Merged (ltOf cf) a b d d')
set_option maxHeartbeats 8000000 in
set_option maxRecDepth 1000000 in
theorem symMid (enc:α->List Value) (cf:α->α->Int) (g:Nat) (cb:Array Value) (blk off cap a m b:Nat) (d0 d:Array α) (w0 w:World)
  (X:Srt P k enc cf g cb blk off d0 w0) (hs:d0.size=d.size) (S:SWB enc k w0 blk off d w) (ham:a+1<m) (hmb:m+1<b) (hb:b<=d.size) (hA:SortedIn (ltOf cf) a m d) (hB:SortedIn (ltOf cf) m b d)
  (ih:∀ (a' m' b':Nat) (d':Array α) (w':World),b' - a'<b - a->d0.size=d'.size->SWB enc k w0 blk off d' w'->a'<m'->m'<b'->b'<=d'.size->SortedIn (ltOf cf) a' m' d'->SortedIn (ltOf cf) m' b' d'->SymAt P enc k cf g cb blk off cap d0 w0 a' m' b' d' w') :
  SymAt P enc k cf g cb blk off cap d0 w0 a m b d w:=by
 unfold SymAt
 have L:=X.L
 have mixed:=L.mixed;have tT:=L.tT;have aT:=L.aT;have zT:=L.zT;have vT:=L.vT;have tI:=L.tI;have aI:=L.aI;have zI:=L.zI;have vI:=L.vI;have tB:=L.tB;have aB:=L.aB;have zB:=L.zB;have vB:=L.vB;have tU:=L.tU;have aU:=L.aU;have zU:=L.zU;have vU:=L.vU;have tS:=L.tS;have aS:=L.aS;have zS:=L.zS;have vS:=L.vS;have tC:=L.tC;have aC:=L.aC;have zC:=L.zC;have vC:=L.vC;have aE:=L.aE;have zE:=L.zE
 have eg:=X.E
 have hz:=X.Z
 have eRo:∀ args w,(callFunc 124 args).run P w = .ok (.enter 124 args) w:=enters_of L.fro (by kernel_rfl) rfl
 have eSy:∀ args w,(callFunc 122 args).run P w = .ok (.enter 122 args) w:=enters_of L.fsy (by kernel_rfl) rfl
 have S0:Aside (SWB enc k w0 blk off d w):=S
 have XX:Aside (Srt P k enc cf g cb blk off d0 w0):=X
 have HA:Aside (SortedIn (ltOf cf) a m d):=hA
 have HB:Aside (SortedIn (ltOf cf) m b d):=hB
 have IH:Aside _:=ih
 clear S X L hA hB ih
 have q1:(((m:Int) - (a:Int)) == 1)=false:=by simp;omega
 have q3:¬ ((m:Int) - (a:Int))=1:=by omega
 have q4:IntKind.i64.wrap ((m:Int) - (a:Int))=(m:Int) - (a:Int):=by rw [IntKind.wrap_i64];omega
 have q5:(((b:Int) - (m:Int)) == 1)=false:=by simp;omega
 have q6:¬ ((b:Int) - (m:Int))=1:=by omega
 have q7:IntKind.i64.wrap ((b:Int) - (m:Int))=(b:Int) - (m:Int):=by rw [IntKind.wrap_i64];omega
 have r1:IntKind.i64.wrap ((a:Int)+(b:Int))=(a:Int)+(b:Int):=by rw [IntKind.wrap_i64];omega
 have r2:IntKind.u64.wrap ((a:Int)+(b:Int))=(a:Int)+(b:Int):=by rw [IntKind.wrap_u64];omega
 obtain ⟨M,hM⟩:∃ M:Nat,M=(a+b) / 2:=⟨_,rfl⟩
 have hMz:((a:Int)+(b:Int)) / 2=(M:Int):=by omega
 have r3:IntKind.i64.wrap ((M:Int)+(m:Int))=(M:Int)+(m:Int):=by rw [IntKind.wrap_i64];omega
 have r4:IntKind.i64.wrap ((M:Int)+(m:Int) - 1)=(M:Int)+(m:Int) - 1:=by rw [IntKind.wrap_i64];omega
 obtain ⟨lo0,hlo0⟩:∃ x,lo a m b=x:=⟨_,rfl⟩
 obtain ⟨hi0,hhi0⟩:∃ x,hi a m b=x:=⟨_,rfl⟩
 have PP:Hid _:=placed HA.out HB.out XX.out.S (by omega) (by omega) hlo0 hhi0 hM
 have BB:lo0<=hi0/\a<=lo0/\hi0<=m/\hi0<=M/\M+m - b<=lo0:=by
  unfold lo at hlo0
  unfold hi at hhi0
  rw [<-hM] at hlo0 hhi0
  split at hlo0<;>split at hhi0<;>omega
 have HM:Hid (M=(a+b) / 2):=hM
 clear hM
 go_enter XX.out.L.fsy,Try.ntmps122
 by_cases hmM:M<m
 case' pos =>
  have e1:(M:Int)+(m:Int) - (b:Int)=(lo0:Int):=by
   unfold lo at hlo0
   rw [<-HM.out,if_pos hmM] at hlo0
   omega
  have e2:hi0=M:=by
   unfold hi at hhi0
   rw [<-HM.out,if_pos hmM] at hhi0
   exact hhi0.symm
  have hmz:(M:Int)<(m:Int):=by omega
  have r5:IntKind.i64.wrap ((lo0:Int))=(lo0:Int):=by rw [IntKind.wrap_i64];omega
  clear hlo0 hhi0
  go_wp2_with fail
 case' neg =>
  have e1:lo0=a:=by
   unfold lo at hlo0
   rw [<-HM.out,if_neg hmM] at hlo0
   exact hlo0.symm
  have e2:hi0=m:=by
   unfold hi at hhi0
   rw [<-HM.out,if_neg hmM] at hhi0
   exact hhi0.symm
  have hmz:¬ (M:Int)<(m:Int):=by omega
  have e3:Hid (lo0=a/\hi0=m):=⟨e1,e2⟩
  clear hlo0 hhi0 e1 e2
  go_wp2_with fail
 all_goals
  go_loopg [20,21] (hi0 - lo0) (λkx s20 s21 wr=>∃ (s r:Nat),s20 = .int .i64 s/\s21 = .int .i64 r/\lo0<=s/\s<=r/\r<=hi0/\r - s<=kx/\Aside (SWB enc k w0 blk off d wr) /\
   Hid ((∀ t,lo0<=t->t<s->ltOf cf d[M+m - 1 - t]! d[t]! = false)/\(∀ t,r<=t->t<hi0->ltOf cf d[M+m - 1 - t]! d[t]! = true)))
  case atStart=>exact ⟨lo0,hi0,by first|rfl|(rw [e3.out.1])|(rw [e2]),by first|rfl|(rw [e3.out.2])|(rw [e2]),by omega,by omega,by omega,by omega,S0,λt h1 h2=>by omega,λt h1 h2=>by omega⟩
  case round =>
   clear S0
   obtain ⟨s,r,rfl,rfl,hls,hsr,hrh,hkx,S1,HE⟩:=hrel
   by_cases hlt:s<r
   ·have hltz:(s:Int)<(r:Int):=by omega
    have t1:IntKind.i64.wrap ((s:Int)+(r:Int))=(s:Int)+(r:Int):=by rw [IntKind.wrap_i64];omega
    have t2:IntKind.u64.wrap ((s:Int)+(r:Int))=(s:Int)+(r:Int):=by rw [IntKind.wrap_u64];omega
    obtain ⟨c,hc,hsc,hcr⟩:∃ c:Nat,((s:Int)+(r:Int)) / 2=(c:Int)/\s<=c/\c<r:=⟨(s+r) / 2,by omega,by omega,by omega⟩
    obtain ⟨z,hz1⟩:∃ z:Nat,z=M+m - 1 - c:=⟨_,rfl⟩
    have hz2:(M:Int)+(m:Int) - 1 - (c:Int)=(z:Int):=by omega
    have hzs:z<d.size:=by omega
    have bz:(z:Int)<(d.size:Int):=by omega
    have bc:(c:Int)<(d.size:Int):=by omega
    have t3:IntKind.i64.wrap (z:Int)=(z:Int):=by rw [IntKind.wrap_i64];omega
    have t4:IntKind.i64.wrap ((c:Int)+1)=((c+1:Nat):Int):=by rw [IntKind.wrap_i64];omega
    have HZ:Hid (z=M+m - 1 - c):=hz1
    obtain ⟨x,hx⟩:∃ x,x=d[z]!:=⟨_,rfl⟩
    obtain ⟨y,hy⟩:∃ y,y=d[c]!:=⟨_,rfl⟩
    have la:∀ p:SomeW enc k w0 blk off d,_:=λp=>p.h.load XX.out.R hs.symm P z (by omega)
    have lb:∀ p:SomeW enc k w0 blk off d,_:=λp=>p.h.load XX.out.R hs.symm P c (by omega)
    simp only [<-hx] at la
    simp only [<-hy] at lb
    have hcc:=XX.out.C.at hs.symm x y (dk:=d)
    haveI:Nonempty (SomeW enc k w0 blk off d):=⟨⟨wr,S1.out⟩⟩
    clear hz1
    cases hG:ltOf cf x y with
    | true =>
     have hv:cf x y<0:=of_decide_eq_true hG
     have hd:decide (cf x y<0)=true:=decide_eq_true hv
     rw [hx,hy,HZ.out] at hG
     have GG:Hid _:=hG
     clear hx hy hG
     go_wp2_with fail
     refine wp_region_some (by assumption) (by kernel_rfl) S1.out ?_
     repeat(quiet_step (first|(go_at_fn g;exact hcc _)))
     refine wpQuiet_nil ?_
     rintro w3 ⟨⟨w3,S2_⟩,rfl⟩
     have S2:Aside (SWB enc k w0 blk off d w3):=S2_
     clear la lb hcc S1 S2_
     go_wp2_with fail
     go_roundg (c - s)
     case measure=>omega
     case rel =>
      refine ⟨s,c,rfl,by go_num,hls,hsc,by omega,by omega,S2,HE.out.1,?_⟩
      intro t t1 t2
      exact PP.out.1 c t (by omega) t1 t2 GG.out
    | false =>
     have hv:¬ cf x y<0:=of_decide_eq_false hG
     have hd:decide (cf x y<0)=false:=decide_eq_false hv
     rw [hx,hy,HZ.out] at hG
     have GG:Hid _:=hG
     clear hx hy hG
     go_wp2_with fail
     refine wp_region_some (by assumption) (by kernel_rfl) S1.out ?_
     repeat(quiet_step (first|(go_at_fn g;exact hcc _)))
     refine wpQuiet_nil ?_
     rintro w3 ⟨⟨w3,S2_⟩,rfl⟩
     have S2:Aside (SWB enc k w0 blk off d w3):=S2_
     clear la lb hcc S1 S2_
     go_wp2_with fail
     go_roundg (r - (c+1))
     case measure=>omega
     case rel =>
      refine ⟨c+1,r,by go_num,rfl,by omega,by omega,hrh,by omega,S2,?_,HE.out.2⟩
      intro t t1 t2
      cases hT:ltOf cf d[M+m - 1 - t]! d[t]! with
      | false=>rfl
      | true =>
       have:=PP.out.1 t c t1 (by omega) (by omega) hT
       rw [GG.out] at this
       cases this
   ·have hltz:¬ (s:Int)<(r:Int):=by omega
    obtain rfl:s=r:=by omega
    obtain ⟨F1,F2,F3⟩:=PP.out.2 s hls hrh HE.out.1 HE.out.2
    obtain ⟨e,he⟩:∃ e:Nat,e=M+m - s:=⟨_,rfl⟩
    rw [<-he] at F1 F2 F3
    have G2:Hid _:=F2
    have G3:Hid _:=F3
    have he2:(M:Int)+(m:Int) - (s:Int)=(e:Int):=by omega
    have t1:IntKind.i64.wrap (e:Int)=(e:Int):=by rw [IntKind.wrap_i64];omega
    obtain ⟨f1,f2,f3,f4,f5⟩:=F1
    have HEQ:Hid (s+(e - m)=M):=f5
    clear F2 F3 HE PP he
    have ROT:(s<m/\m<e)\/(¬ s<m)\/(s<m/\¬ m<e):=by omega
    rcases three ROT with h1|h1|h1
    case' wayA =>
     have z1:(s:Int)<(m:Int):=by omega
     have z2:(m:Int)<(e:Int):=by omega
     have hcR:Calls P 124 #[.slice (some ⟨blk,off,none⟩) d.size cap,.int .i64 s,.int .i64 m,.int .i64 e,.func (.func g) #[] cb] wr λe_ w'=>e_ = .returned (.tuple #[])/\∃ d',Aside (SWB enc k w0 blk off d' w')/\Hid (Rot s m e d d'):=by
      have h:=rotate XX.out.L enc g cb blk off cap s m e d0 d w0 wr XX.out.R hs S1.out h1.1 h1.2 (by omega) (by omega)
      exact h
     clear S1
     go_upto_region 41 with (go_at_fn 124;refine hcR.mono ?_;rintro e_ w1 ⟨rfl,c,S2,HR⟩)
     clear hcR
    case' wayB =>
     have z1:¬ (s:Int)<(m:Int):=by omega
     obtain ⟨c,S2,HR⟩:∃ c,Aside (SWB enc k w0 blk off c wr)/\Hid (Rot s m e d c):=⟨d,S1,by have h:s=m:=(by omega);rw [h];exact Rot.refl_l m e d⟩
     clear S1
     go_upto_region 41 with (fail)
    case' wayC =>
     have z1:(s:Int)<(m:Int):=by omega
     have z2:¬ (m:Int)<(e:Int):=by omega
     obtain ⟨c,S2,HR⟩:∃ c,Aside (SWB enc k w0 blk off c wr)/\Hid (Rot s m e d c):=⟨d,S1,by have h:e=m:=(by omega);rw [h];exact Rot.refl_r s m d⟩
     clear S1
     go_upto_region 41 with (fail)
    all_goals
     have hcs:c.size=d.size:=HR.out.1
     have HC1:Hid (SortedIn (ltOf cf) a s c):=rot_low HR.out f2 HA.out
     have HC2:Hid (SortedIn (ltOf cf) s M c):=by have h:=rot_low2 HR.out f2 f3 f4 HB.out;rw [f5] at h;exact h
     have HC3:Hid (SortedIn (ltOf cf) M e c):=by have h:=rot_high HR.out f1 f2 f3 HA.out;rw [f5] at h;exact h
     have HC4:Hid (SortedIn (ltOf cf) e b c):=rot_high2 HR.out f2 f3 HB.out
     have LOW:(a<s/\s<M)\/(¬ a<s)\/(a<s/\¬ s<M):=by omega
     rcases three LOW with h2|h2|h2
     case' wayA =>
      have y1:(a:Int)<(s:Int):=by omega
      have y2:(s:Int)<(M:Int):=by omega
      have hcL:=IH.out a s M c _ (by omega) (by omega) S2.out h2.1 h2.2 (by omega) HC1.out HC2.out
      unfold SymAt at hcL
      rw [hcs] at hcL
      clear S2
      go_upto_region 43 with (go_at_fn 122;refine hcL.mono ?_;rintro e_ w2 ⟨rfl,c1,S3,HL⟩)
      clear hcL
     case' wayB =>
      have y1:¬ (a:Int)<(s:Int):=by omega
      obtain ⟨c1,S3,HL⟩:∃ c1,Aside (SWB enc k w0 blk off c1 _)/\Hid (Merged (ltOf cf) a M c c1):=⟨c,S2,merged_sorted (by have h:a=s:=(by omega);rw [h];exact HC2.out)⟩
      clear S2
      go_upto_region 43 with (fail)
     case' wayC =>
      have y1:(a:Int)<(s:Int):=by omega
      have y2:¬ (s:Int)<(M:Int):=by omega
      obtain ⟨c1,S3,HL⟩:∃ c1,Aside (SWB enc k w0 blk off c1 _)/\Hid (Merged (ltOf cf) a M c c1):=⟨c,S2,merged_sorted (by have h:M=s:=(by omega);rw [h];exact HC1.out)⟩
      clear S2
      go_upto_region 43 with (fail)
     all_goals
      have hcs1:c1.size=d.size:=HL.out.1.size.trans hcs
      have HC5:Hid (SortedIn (ltOf cf) M e c1):=SortedIn.same HC3.out (λt t1 t2=>HL.out.1.out t (by omega))
      have HC6:Hid (SortedIn (ltOf cf) e b c1):=SortedIn.same HC4.out (λt t1 t2=>HL.out.1.out t (by omega))
      have fin:∀ c2,Merged (ltOf cf) M b c1 c2->Merged (ltOf cf) a b d c2:=λc2 h =>
       merged_of XX.out.S f1 f2 f3 f4 HA.out HB.out G2.out G3.out HR.out (by rw [f5];exact HL.out) (by rw [f5];exact h)
      have FIN:Hid _:=fin
      clear fin
      have HIGH:(M<e/\e<b)\/(¬ M<e)\/(M<e/\¬ e<b):=by omega
      rcases three HIGH with h3|h3|h3
      case wayA =>
       have x1:(M:Int)<(e:Int):=by omega
       have x2:(e:Int)<(b:Int):=by omega
       have hcH:=IH.out M e b c1 _ (by omega) (by omega) S3.out h3.1 h3.2 (by omega) HC5.out HC6.out
       unfold SymAt at hcH
       rw [hcs1] at hcH
       clear S3
       go_wp2_with (go_at_fn 122;refine hcH.mono ?_;rintro e_ w3 ⟨rfl,c2,S4,HH⟩)
       go_end0
       exact ⟨rfl,c2,S4,FIN.out c2 HH.out⟩
      case wayB =>
       have x1:¬ (M:Int)<(e:Int):=by omega
       go_wp2_with fail
       go_end0
       exact ⟨rfl,c1,S3,FIN.out c1 (merged_sorted (by have h:M=e:=(by omega);rw [h];exact HC6.out))⟩
      case wayC =>
       have x1:(M:Int)<(e:Int):=by omega
       have x2:¬ (e:Int)<(b:Int):=by omega
       go_wp2_with fail
       go_end0
       exact ⟨rfl,c1,S3,FIN.out c1 (merged_sorted (by have h:b=e:=(by omega);rw [h];exact HC5.out))⟩
end
end Go.Proofs.Ytfhamdobagjakaa.Srt
