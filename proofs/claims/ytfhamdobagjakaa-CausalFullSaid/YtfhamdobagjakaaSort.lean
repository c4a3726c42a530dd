import Derived.Test.YtfhamdobagjakaaProg
import Derived.Test.YtfhamdobagjakaaSortBase
import Derived.Sort.WalkB2
import Derived.Sort.WalkB12
import Derived.Deep.LoopGhost
import Derived.WalkKit
/- a part -/
namespace Go.Proofs.Ytfhamdobagjakaa.Srt
open Go.Shelf Go.RowKit Go.Lib Go.Sort
set_option linter.unusedVariables false
set_option linter.unusedSimpArgs false
set_option linter.unusedSectionVars false
section
variable {α : Type} [Inhabited α] {P : Program} {k : Nat}
structure Lays (P:Program) (k:Nat):Prop where
 mixed:P.follows .mixedOrders=true
 fsw:P.funcs[125]? = some Try.f125
 fro:P.funcs[124]? = some Try.f124
 fsy:P.funcs[122]? = some Try.f122
 fst:P.funcs[118]? = some Try.f118
 fin:P.funcs[121]? = some Try.f121
 fso:P.funcs[98]? = some Try.f98
 tT:P.underlying 0=some (TypeDesc.tuple #[])
 aT:∀ w,(isAgg 0).run P w = .ok false w
 zT:∀ w,(Go.sizeOf 0).run P w = .ok 1 w
 vT:∀ w,(zeroValue 0).run P w = .ok (Value.tuple #[]) w
 tI:P.underlying 3=some (TypeDesc.int IntKind.i64)
 aI:∀ w,(isAgg 3).run P w = .ok false w
 zI:∀ w,(Go.sizeOf 3).run P w = .ok 1 w
 vI:∀ w,(zeroValue 3).run P w = .ok (Value.int IntKind.i64 0) w
 tB:P.underlying 4=some (TypeDesc.bool)
 aB:∀ w,(isAgg 4).run P w = .ok false w
 zB:∀ w,(Go.sizeOf 4).run P w = .ok 1 w
 vB:∀ w,(zeroValue 4).run P w = .ok (Value.bool false) w
 tU:P.underlying 145=some (TypeDesc.int IntKind.u64)
 aU:∀ w,(isAgg 145).run P w = .ok false w
 zU:∀ w,(Go.sizeOf 145).run P w = .ok 1 w
 vU:∀ w,(zeroValue 145).run P w = .ok (Value.int IntKind.u64 0) w
 tS:P.underlying 50=some (TypeDesc.slice 59)
 aS:∀ w,(isAgg 50).run P w = .ok false w
 zS:∀ w,(Go.sizeOf 50).run P w = .ok 1 w
 vS:∀ w,(zeroValue 50).run P w = .ok (Value.slice none 0 0) w
 tC:P.underlying 143=some (TypeDesc.func #[59,59] #[3] false)
 aC:∀ w,(isAgg 143).run P w = .ok false w
 zC:∀ w,(Go.sizeOf 143).run P w = .ok 1 w
 vC:∀ w,(zeroValue 143).run P w = .ok (Value.nilFunc) w
 aE:∀ w,(isAgg 59).run P w = .ok true w
 zE:∀ w,(Go.sizeOf 59).run P w = .ok k w
theorem lays:Lays Try.prog 4:={ mixed:=by kernel_rfl,fsw:=Try.func125,fro:=Try.func124,fsy:=Try.func122,fst:=Try.func118,fin:=Try.func121,fso:=Try.func98,tT:=Try.underlying0,aT:=λw=>by kernel_rfl,zT:=λw=>by kernel_rfl,vT:=λw=>by kernel_rfl,tI:=Try.underlying3,aI:=λw=>by kernel_rfl,zI:=λw=>by kernel_rfl,vI:=λw=>by kernel_rfl,tB:=Try.underlying4,aB:=λw=>by kernel_rfl,zB:=λw=>by kernel_rfl,vB:=λw=>by kernel_rfl,tU:=Try.underlying145,aU:=λw=>by kernel_rfl,zU:=λw=>by kernel_rfl,vU:=λw=>by kernel_rfl,tS:=Try.underlying50,aS:=λw=>by kernel_rfl,zS:=λw=>by kernel_rfl,vS:=λw=>by kernel_rfl,tC:=Try.underlying143,aC:=λw=>by kernel_rfl,zC:=λw=>by kernel_rfl,vC:=λw=>by kernel_rfl,aE:=λw=>by kernel_rfl,zE:=λw=>by kernel_rfl }
set_option maxHeartbeats 4000000 in
set_option maxRecDepth 1000000 in
theorem swapRange (L:Lays P k) (enc:α->List Value) (g:Nat) (cb:Array Value) (blk off cap a b n:Nat) (d0 d:Array α) (w0 w:World)
  (R:RowK enc k w0 blk off d0) (hs:d0.size=d.size) (S:SWB enc k w0 blk off d w) (hab:a+n<=b) (hb:b+n<=d.size) (hsz:d.size<4611686018427387904) :
  Calls P 125 #[.slice (some ⟨blk,off,none⟩) d.size cap,.int .i64 a,.int .i64 b,.int .i64 n,.func (.func g) #[] cb] w λe w'=>e = .returned (.tuple #[])/\∃ d',SWB enc k w0 blk off d' w'/\SwR a b n d d':=by
 have mixed:=L.mixed;have tT:=L.tT;have aT:=L.aT;have zT:=L.zT;have vT:=L.vT;have tI:=L.tI;have aI:=L.aI;have zI:=L.zI;have vI:=L.vI;have tB:=L.tB;have aB:=L.aB;have zB:=L.zB;have vB:=L.vB;have tU:=L.tU;have aU:=L.aU;have zU:=L.zU;have vU:=L.vU;have tS:=L.tS;have aS:=L.aS;have zS:=L.zS;have vS:=L.vS;have tC:=L.tC;have aC:=L.aC;have zC:=L.zC;have vC:=L.vC;have aE:=L.aE;have zE:=L.zE
 have S0:Aside (SWB enc k w0 blk off d w):=S
 clear S
 go_enter L.fsw,Try.ntmps125
 go_wp2
 go_loopg [10] n (λkx s10 wr=>∃ (i:Nat) (dk:Array α),s10 = .int .i64 i/\i<=n/\n - i<=kx/\Aside (SWB enc k w0 blk off dk wr)/\Hid (SwR a b i d dk))
 case atStart=>exact ⟨0,d,rfl,by omega,by omega,S0,SwR.zero a b d⟩
 case round =>
  clear S0
  obtain ⟨i,dk,rfl,hi,hkx,S1,HE⟩:=hrel
  have hds:dk.size=d.size:=HE.out.1
  by_cases hlt:i<n
  ·have hltz:(i:Int)<(n:Int):=by omega
   go_wp2_with fail
   have ea:((a:Int)+(i:Int)).toNat=a+i:=by omega
   have pa:(0:Int)<=(a:Int)+(i:Int):=by omega
   have ba:(a:Int)+(i:Int)<(d.size:Int):=by omega
   have ra:IntKind.i64.wrap ((a:Int)+(i:Int))=(a:Int)+(i:Int):=by rw [IntKind.wrap_i64];omega
   have ec:((b:Int)+(i:Int)).toNat=b+i:=by omega
   have pc:(0:Int)<=(b:Int)+(i:Int):=by omega
   have bc:(b:Int)+(i:Int)<(d.size:Int):=by omega
   have rc:IntKind.i64.wrap ((b:Int)+(i:Int))=(b:Int)+(i:Int):=by rw [IntKind.wrap_i64];omega
   have S2:Aside (SWB enc k w0 blk off (swp dk (a+i) (b+i)) ((wr.drew.setCells blk (off+(a+i)*k) (enc dk[b+i]!)).setCells blk (off+(b+i)*k) (enc dk[a+i]!))):=S1.out.swapped R (a+i) (b+i) (by omega) (by omega)
   have l44a:=S1.out.ld1 R (by omega) P (a+i) (by omega)
   have l44b:=S1.out.ld1 R (by omega) P (b+i) (by omega)
   have s44a:=S1.out.st1 R (by omega) P (a+i) (by omega) dk[b+i]!
   have s44b:=S1.out.st2 R (by omega) P (a+i) (b+i) (by omega) (by omega) dk[b+i]! dk[a+i]!
   have n44a:(enc dk[a+i]!).length=k:=R.hk _
   have n44b:(enc dk[b+i]!).length=k:=R.hk _
   generalize enc dk[a+i]! = cI44 at S2 l44a s44b n44a
   generalize enc dk[b+i]! = cJ44 at S2 l44b s44a s44b n44b
   clear S1
   go_wp2_with fail
   go_big_region_o
   clear l44a l44b s44a s44b
   generalize (wr.drew.setCells blk (off+(a+i)*k) cJ44).setCells blk (off+(b+i)*k) cI44=w2 at S2 ⊢
   go_wp2
   go_roundg (n - (i+1))
   case measure=>omega
   case rel=>exact ⟨i+1,swp dk (a+i) (b+i),by go_num,by omega,by omega,S2,HE.out.succ (by omega) (by omega)⟩
  ·have hltz:¬ (i:Int)<(n:Int):=by omega
   obtain rfl:i=n:=by omega
   go_wp2
   go_end0
   exact ⟨rfl,dk,S1.out,HE.out⟩
set_option maxHeartbeats 4000000 in
set_option maxRecDepth 1000000 in
theorem rotate (L:Lays P k) (enc:α->List Value) (g:Nat) (cb:Array Value) (blk off cap a m b:Nat) (d0 d:Array α) (w0 w:World)
  (R:RowK enc k w0 blk off d0) (hs:d0.size=d.size) (S:SWB enc k w0 blk off d w) (ham:a<m) (hmb:m<b) (hb:b<=d.size) (hsz:d.size<4611686018427387904) :
  Calls P 124 #[.slice (some ⟨blk,off,none⟩) d.size cap,.int .i64 a,.int .i64 m,.int .i64 b,.func (.func g) #[] cb] w λe w'=>e = .returned (.tuple #[])/\∃ d',SWB enc k w0 blk off d' w'/\Rot a m b d d':=by
 have mixed:=L.mixed;have tT:=L.tT;have aT:=L.aT;have zT:=L.zT;have vT:=L.vT;have tI:=L.tI;have aI:=L.aI;have zI:=L.zI;have vI:=L.vI;have tB:=L.tB;have aB:=L.aB;have zB:=L.zB;have vB:=L.vB;have tU:=L.tU;have aU:=L.aU;have zU:=L.zU;have vU:=L.vU;have tS:=L.tS;have aS:=L.aS;have zS:=L.zS;have vS:=L.vS;have tC:=L.tC;have aC:=L.aC;have zC:=L.zC;have vC:=L.vC;have aE:=L.aE;have zE:=L.zE
 have S0:Aside (SWB enc k w0 blk off d w):=S
 have RR:Aside (RowK enc k w0 blk off d0):=R
 have LL:Aside (Lays P k):=L
 have eSw:∀ args w,(callFunc 125 args).run P w = .ok (.enter 125 args) w:=enters_of L.fsw (by kernel_rfl) rfl
 clear S R L
 go_enter LL.out.fro,Try.ntmps124
 go_wp2
 go_loopg [10,11] (m - a+(b - m)) (λkx s10 s11 wr=>∃ (i j:Nat) (dk:Array α),s10 = .int .i64 i/\s11 = .int .i64 j/\0<i/\0<j/\i<=m/\m+j<=d.size/\i+j<=kx/\dk.size=d.size/\Aside (SWB enc k w0 blk off dk wr) /\
  Hid (∀ d',Rot (m - i) m (m+j) dk d'->Rot a m b d d'))
 case atStart =>
  refine ⟨m - a,b - m,d,by go_num,by go_num,by omega,by omega,by omega,by omega,by omega,rfl,S0,?_⟩
  intro d' h
  rw [show m - (m - a)=a by omega,show m+(b - m)=b by omega] at h
  exact h
 case round =>
  clear S0
  obtain ⟨i,j,dk,rfl,rfl,hi0,hj0,him,hjb,hkx,hds,S1,HE⟩:=hrel
  have hi1:((m:Int) - (i:Int))=((m - i:Nat):Int):=by omega
  have hw1:IntKind.i64.wrap ((m:Int) - (i:Int))=(m:Int) - (i:Int):=by rw [IntKind.wrap_i64];omega
  by_cases hne:(i:Int)=(j:Int)
  ·obtain rfl:i=j:=by omega
   have hc:Calls P 125 #[.slice (some ⟨blk,off,none⟩) d.size cap,.int .i64 ((m - i:Nat):Int),.int .i64 m,.int .i64 i,.func (.func g) #[] cb] wr λe w'=>e = .returned (.tuple #[])/\∃ d',Aside (SWB enc k w0 blk off d' w')/\SwR (m - i) m i dk d':=by
    have h:=swapRange LL.out enc g cb blk off cap (m - i) m i d0 dk w0 wr RR.out (by omega) S1.out (by omega) (by omega) (by omega)
    rw [hds] at h
    exact h
   clear S1
   go_wp2_with (go_at_fn 125;refine hc.mono ?_;rintro e w1 ⟨rfl,d',S2,h2⟩)
   go_end0
   exact ⟨rfl,d',S2.out,HE.out d' (Rot.even him h2)⟩
  ·by_cases hgt:(i:Int) > (j:Int)
   ·have hc:Calls P 125 #[.slice (some ⟨blk,off,none⟩) d.size cap,.int .i64 ((m - i:Nat):Int),.int .i64 m,.int .i64 j,.func (.func g) #[] cb] wr λe w'=>e = .returned (.tuple #[])/\∃ d',Aside (SWB enc k w0 blk off d' w')/\SwR (m - i) m j dk d':=by
     have h:=swapRange LL.out enc g cb blk off cap (m - i) m j d0 dk w0 wr RR.out (by omega) S1.out (by omega) (by omega) (by omega)
     rw [hds] at h
     exact h
    clear S1
    have hgt':(j:Int)<(i:Int):=hgt
    have hw2:IntKind.i64.wrap ((i:Int) - (j:Int))=(i:Int) - (j:Int):=by rw [IntKind.wrap_i64];omega
    go_wp2_with (go_at_fn 125;refine hc.mono ?_;rintro e w1 ⟨rfl,d',S2,h2⟩)
    go_roundg (i - j+j)
    case measure=>omega
    case rel =>
     refine ⟨i - j,j,d',by go_num,rfl,by omega,hj0,by omega,hjb,by omega,by rw [h2.1];exact hds,S2,?_⟩
     intro d'' h
     refine HE.out d'' (Rot.left him (by omega) h2 ?_)
     rw [show m - (i - j)=m - i+j by omega] at h
     exact h
   ·have hgt':¬ (j:Int)<(i:Int):=hgt
    have hw2:IntKind.i64.wrap ((j:Int) - (i:Int))=(j:Int) - (i:Int):=by rw [IntKind.wrap_i64];omega
    have hw3:IntKind.i64.wrap ((m:Int)+(j:Int))=(m:Int)+(j:Int):=by rw [IntKind.wrap_i64];omega
    have hw4:IntKind.i64.wrap ((m:Int)+(j:Int) - (i:Int))=(m:Int)+(j:Int) - (i:Int):=by rw [IntKind.wrap_i64];omega
    have hi2:((m:Int)+(j:Int) - (i:Int))=((m+j - i:Nat):Int):=by omega
    have hc:Calls P 125 #[.slice (some ⟨blk,off,none⟩) d.size cap,.int .i64 ((m - i:Nat):Int),.int .i64 ((m+j - i:Nat):Int),.int .i64 i,.func (.func g) #[] cb] wr λe w'=>e = .returned (.tuple #[])/\∃ d',Aside (SWB enc k w0 blk off d' w')/\SwR (m - i) (m+j - i) i dk d':=by
     have h:=swapRange LL.out enc g cb blk off cap (m - i) (m+j - i) i d0 dk w0 wr RR.out (by omega) S1.out (by omega) (by omega) (by omega)
     rw [hds] at h
     exact h
    clear S1
    go_wp2_with (go_at_fn 125;refine hc.mono ?_;rintro e w1 ⟨rfl,d',S2,h2⟩)
    go_roundg (i+(j - i))
    case measure=>omega
    case rel =>
     refine ⟨i,j - i,d',rfl,by go_num,hi0,by omega,him,by omega,by omega,by rw [h2.1];exact hds,S2,?_⟩
     intro d'' h
     exact HE.out d'' (Rot.right him (by omega) h2 h)
structure Srt (P:Program) (k:Nat) (enc:α->List Value) (cf:α->α->Int) (g:Nat) (cb:Array Value) (blk off:Nat) (d0:Array α) (w0:World):Prop where
 L:Lays P k
 R:RowK enc k w0 blk off d0
 C:CmpB P g cb enc k cf blk off d0.size w0
 E:∀ args w,(callFunc g args).run P w = .ok (.enter g args) w
 S:SWO (ltOf cf)
 Z:d0.size<2305843009213693952
set_option maxHeartbeats 4000000 in
set_option maxRecDepth 1000000 in
theorem symFirst (enc:α->List Value) (cf:α->α->Int) (g:Nat) (cb:Array Value) (blk off cap a b:Nat) (d0 d:Array α) (w0 w:World)
  (X:Srt P k enc cf g cb blk off d0 w0) (hs:d0.size=d.size) (S:SWB enc k w0 blk off d w) (hmb:a+1<b) (hb:b<=d.size) (hB:SortedIn (ltOf cf) (a+1) b d) :
  Calls P 122 #[.slice (some ⟨blk,off,none⟩) d.size cap,.int .i64 a,.int .i64 ((a+1:Nat):Int),.int .i64 b,.func (.func g) #[] cb] w λe w'=>e = .returned (.tuple #[])/\∃ d',SWB enc k w0 blk off d' w'/\Merged (ltOf cf) a b d d':=by
 have L:=X.L
 have mixed:=L.mixed;have tT:=L.tT;have aT:=L.aT;have zT:=L.zT;have vT:=L.vT;have tI:=L.tI;have aI:=L.aI;have zI:=L.zI;have vI:=L.vI;have tB:=L.tB;have aB:=L.aB;have zB:=L.zB;have vB:=L.vB;have tU:=L.tU;have aU:=L.aU;have zU:=L.zU;have vU:=L.vU;have tS:=L.tS;have aS:=L.aS;have zS:=L.zS;have vS:=L.vS;have tC:=L.tC;have aC:=L.aC;have zC:=L.zC;have vC:=L.vC;have aE:=L.aE;have zE:=L.zE
 have eg:=X.E
 have hz:=X.Z
 have S0:Aside (SWB enc k w0 blk off d w):=S
 have XX:Aside (Srt P k enc cf g cb blk off d0 w0):=X
 have HB:Aside (SortedIn (ltOf cf) (a+1) b d):=hB
 clear S X L hB
 have q1:((a:Int)+1 - (a:Int))=1:=by omega
 go_enter XX.out.L.fsy,Try.ntmps122
 go_wp2
 go_loopg [10,11] (b - a) (λkx s10 s11 wr=>∃ (i j:Nat),s10 = .int .i64 i/\s11 = .int .i64 j/\a+1<=i/\i<=j/\j<=b/\j - i<=kx/\Aside (SWB enc k w0 blk off d wr) /\
  Hid ((∀ t,a+1<=t->t<i->ltOf cf d[t]! d[a]! = true)/\(∀ t,j<=t->t<b->ltOf cf d[t]! d[a]! = false)))
 case atStart=>exact ⟨a+1,b,by go_num,rfl,by omega,by omega,by omega,by omega,S0,λt h1 h2=>by omega,λt h1 h2=>by omega⟩
 case round =>
  clear S0
  obtain ⟨i,j,rfl,rfl,hi,hij,hj,hkx,S1,HE⟩:=hrel
  by_cases hlt:i<j
  ·have hltz:(i:Int)<(j:Int):=by omega
   have r1:IntKind.i64.wrap ((i:Int)+(j:Int))=(i:Int)+(j:Int):=by rw [IntKind.wrap_i64];omega
   have r2:IntKind.u64.wrap ((i:Int)+(j:Int))=(i:Int)+(j:Int):=by rw [IntKind.wrap_u64];omega
   obtain ⟨h,hh,hih,hhj⟩:∃ h:Nat,((i:Int)+(j:Int)) / 2=(h:Int)/\i<=h/\h<j:=⟨(i+j) / 2,by omega,by omega,by omega⟩
   have bh:(h:Int)<(d.size:Int):=by omega
   have ba:(a:Int)<(d.size:Int):=by omega
   have r3:IntKind.i64.wrap ((h:Int)+1)=((h+1:Nat):Int):=by rw [IntKind.wrap_i64];omega
   obtain ⟨x,hx⟩:∃ x,x=d[h]!:=⟨_,rfl⟩
   obtain ⟨y,hy⟩:∃ y,y=d[a]!:=⟨_,rfl⟩
   have la:∀ p:SomeW enc k w0 blk off d,_:=λp=>p.h.load XX.out.R hs.symm P h (by omega)
   have lb:∀ p:SomeW enc k w0 blk off d,_:=λp=>p.h.load XX.out.R hs.symm P a (by omega)
   simp only [<-hx] at la
   simp only [<-hy] at lb
   have hc:=XX.out.C.at hs.symm x y (dk:=d)
   haveI:Nonempty (SomeW enc k w0 blk off d):=⟨⟨wr,S1.out⟩⟩
   cases hG:ltOf cf x y with
   | true =>
    have hv:cf x y<0:=of_decide_eq_true hG
    have hd:decide (cf x y<0)=true:=decide_eq_true hv
    rw [hx,hy] at hG
    have GG:Hid _:=hG
    clear hx hy hG
    go_wp2_with fail
    refine wp_region_some (by assumption) (by kernel_rfl) S1.out ?_
    repeat(quiet_step (first|(go_at_fn g;exact hc _)))
    refine wpQuiet_nil ?_
    rintro w3 ⟨⟨w3,S2_⟩,rfl⟩
    have S2:Aside (SWB enc k w0 blk off d w3):=S2_
    clear la lb hc S1 S2_
    go_wp2
    go_roundg (j - (h+1))
    case measure=>omega
    case rel =>
     refine ⟨h+1,j,by go_num,rfl,by omega,by omega,hj,by omega,S2,?_,HE.out.2⟩
     intro t t1 t2
     refine le_lt XX.out.S (SortedIn.le XX.out.S HB.out t1 (by omega:t<=h) (by omega)) GG.out
   | false =>
    have hv:¬ cf x y<0:=of_decide_eq_false hG
    have hd:decide (cf x y<0)=false:=decide_eq_false hv
    rw [hx,hy] at hG
    have GG:Hid _:=hG
    clear hx hy hG
    go_wp2_with fail
    refine wp_region_some (by assumption) (by kernel_rfl) S1.out ?_
    repeat(quiet_step (first|(go_at_fn g;exact hc _)))
    refine wpQuiet_nil ?_
    rintro w3 ⟨⟨w3,S2_⟩,rfl⟩
    have S2:Aside (SWB enc k w0 blk off d w3):=S2_
    clear la lb hc S1 S2_
    go_wp2
    go_roundg (h - i)
    case measure=>omega
    case rel =>
     refine ⟨i,h,rfl,by go_num,hi,hih,by omega,by omega,S2,HE.out.1,?_⟩
     intro t t1 t2
     exact XX.out.S.ntrans _ _ _ (SortedIn.le XX.out.S HB.out (by omega:a+1<=h) t1 t2) GG.out
  ·have hltz:¬ (i:Int)<(j:Int):=by omega
   obtain rfl:i=j:=by omega
   go_wp2
   go_loopg [13] (i - 1 - a) (λkx s13 wr=>∃ (q:Nat) (dk:Array α),s13 = .int .i64 q/\a<=q/\q+1<=i/\i - 1 - q<=kx/\Aside (SWB enc k w0 blk off dk wr)/\Hid (Rot a (a+1) (q+1) d dk))
   case atStart=>exact ⟨a,d,rfl,by omega,by omega,by omega,S1,Rot.refl_r a (a+1) d⟩
   case round =>
    clear S1
    obtain ⟨q,dk,rfl,hq1,hq2,hkx,S1,HR⟩:=hrel
    have hds:dk.size=d.size:=HR.out.1
    have i1:(i:Int) - 1=((i - 1:Nat):Int):=by omega
    have i2:IntKind.i64.wrap ((i:Int) - 1)=(i:Int) - 1:=by rw [IntKind.wrap_i64];omega
    by_cases hlt2:q+1<i
    ·have hltz2:(q:Int)<(i:Int) - 1:=by omega
     have hltz3:(q:Int)<((i - 1:Nat):Int):=by omega
     have ea:((q:Int)+1).toNat=q+1:=by omega
     have pa:(0:Int)<=(q:Int)+1:=by omega
     have ba:(q:Int)+1<(d.size:Int):=by omega
     have bb:(q:Int)<(d.size:Int):=by omega
     have ra:IntKind.i64.wrap ((q:Int)+1)=(q:Int)+1:=by rw [IntKind.wrap_i64];omega
     have S2:Aside (SWB enc k w0 blk off (swp dk q (q+1)) ((wr.drew.setCells blk (off+q*k) (enc dk[q+1]!)).setCells blk (off+(q+1)*k) (enc dk[q]!))):=S1.out.swapped XX.out.R q (q+1) (by omega) (by omega)
     have l44a:=S1.out.ld1 XX.out.R (by omega) P q (by omega)
     have l44b:=S1.out.ld1 XX.out.R (by omega) P (q+1) (by omega)
     have s44a:=S1.out.st1 XX.out.R (by omega) P q (by omega) dk[q+1]!
     have s44b:=S1.out.st2 XX.out.R (by omega) P q (q+1) (by omega) (by omega) dk[q+1]! dk[q]!
     have n44a:(enc dk[q]!).length=k:=XX.out.R.hk _
     have n44b:(enc dk[q+1]!).length=k:=XX.out.R.hk _
     generalize enc dk[q]! = cI44 at S2 l44a s44b n44a
     generalize enc dk[q+1]! = cJ44 at S2 l44b s44a s44b n44b
     clear S1
     go_wp2_with fail
     go_big_region_o
     clear l44a l44b s44a s44b
     generalize (wr.drew.setCells blk (off+q*k) cJ44).setCells blk (off+(q+1)*k) cI44=w2 at S2 ⊢
     go_wp2
     go_roundg (i - 1 - (q+1))
     case measure=>omega
     case rel=>exact ⟨q+1,swp dk q (q+1),by go_num,by omega,by omega,by omega,S2,HR.out.up hq1 (by omega)⟩
    ·have hltz2:¬ (q:Int)<(i:Int) - 1:=by omega
     have hltz3:¬ (q:Int)<((i - 1:Nat):Int):=by omega
     obtain rfl:i=q+1:=by omega
     go_wp2
     refine bodyPost_ret (results_none rfl _ _ _) rfl ?_
     exact ⟨rfl,dk,S1.out,merged_first XX.out.S (by omega) HB.out (by omega) (by omega) HE.out.1 HE.out.2 HR.out⟩
set_option maxHeartbeats 4000000 in
set_option maxRecDepth 1000000 in
theorem symLast (enc:α->List Value) (cf:α->α->Int) (g:Nat) (cb:Array Value) (blk off cap a m:Nat) (d0 d:Array α) (w0 w:World)
  (X:Srt P k enc cf g cb blk off d0 w0) (hs:d0.size=d.size) (S:SWB enc k w0 blk off d w) (ham:a+1<m) (hm:m<d.size) (hA:SortedIn (ltOf cf) a m d) :
  Calls P 122 #[.slice (some ⟨blk,off,none⟩) d.size cap,.int .i64 a,.int .i64 m,.int .i64 ((m+1:Nat):Int),.func (.func g) #[] cb] w λe w'=>e = .returned (.tuple #[])/\∃ d',SWB enc k w0 blk off d' w'/\Merged (ltOf cf) a (m+1) d d':=by
 have L:=X.L
 have mixed:=L.mixed;have tT:=L.tT;have aT:=L.aT;have zT:=L.zT;have vT:=L.vT;have tI:=L.tI;have aI:=L.aI;have zI:=L.zI;have vI:=L.vI;have tB:=L.tB;have aB:=L.aB;have zB:=L.zB;have vB:=L.vB;have tU:=L.tU;have aU:=L.aU;have zU:=L.zU;have vU:=L.vU;have tS:=L.tS;have aS:=L.aS;have zS:=L.zS;have vS:=L.vS;have tC:=L.tC;have aC:=L.aC;have zC:=L.zC;have vC:=L.vC;have aE:=L.aE;have zE:=L.zE
 have eg:=X.E
 have hz:=X.Z
 have S0:Aside (SWB enc k w0 blk off d w):=S
 have XX:Aside (Srt P k enc cf g cb blk off d0 w0):=X
 have HA:Aside (SortedIn (ltOf cf) a m d):=hA
 clear S X L hA
 have q1:(((m:Int) - (a:Int)) == 1)=false:=by simp;omega
 have q2:((m:Int)+1 - (m:Int))=1:=by omega
 have q3:¬ ((m:Int) - (a:Int))=1:=by omega
 have q4:IntKind.i64.wrap ((m:Int) - (a:Int))=(m:Int) - (a:Int):=by rw [IntKind.wrap_i64];omega
 go_enter XX.out.L.fsy,Try.ntmps122
 go_wp2
 go_loopg [14,15] (m - a) (λkx s10 s11 wr=>∃ (i j:Nat),s10 = .int .i64 i/\s11 = .int .i64 j/\a<=i/\i<=j/\j<=m/\j - i<=kx/\Aside (SWB enc k w0 blk off d wr) /\
  Hid ((∀ t,a<=t->t<i->ltOf cf d[m]! d[t]! = false)/\(∀ t,j<=t->t<m->ltOf cf d[m]! d[t]! = true)))
 case atStart=>exact ⟨a,m,rfl,rfl,by omega,by omega,by omega,by omega,S0,λt h1 h2=>by omega,λt h1 h2=>by omega⟩
 case round =>
  clear S0
  obtain ⟨i,j,rfl,rfl,hi,hij,hj,hkx,S1,HE⟩:=hrel
  by_cases hlt:i<j
  ·have hltz:(i:Int)<(j:Int):=by omega
   have r1:IntKind.i64.wrap ((i:Int)+(j:Int))=(i:Int)+(j:Int):=by rw [IntKind.wrap_i64];omega
   have r2:IntKind.u64.wrap ((i:Int)+(j:Int))=(i:Int)+(j:Int):=by rw [IntKind.wrap_u64];omega
   obtain ⟨h,hh,hih,hhj⟩:∃ h:Nat,((i:Int)+(j:Int)) / 2=(h:Int)/\i<=h/\h<j:=⟨(i+j) / 2,by omega,by omega,by omega⟩
   have bh:(h:Int)<(d.size:Int):=by omega
   have ba:(m:Int)<(d.size:Int):=by omega
   have r3:IntKind.i64.wrap ((h:Int)+1)=((h+1:Nat):Int):=by rw [IntKind.wrap_i64];omega
   obtain ⟨x,hx⟩:∃ x,x=d[m]!:=⟨_,rfl⟩
   obtain ⟨y,hy⟩:∃ y,y=d[h]!:=⟨_,rfl⟩
   have la:∀ p:SomeW enc k w0 blk off d,_:=λp=>p.h.load XX.out.R hs.symm P m (by omega)
   have lb:∀ p:SomeW enc k w0 blk off d,_:=λp=>p.h.load XX.out.R hs.symm P h (by omega)
   simp only [<-hx] at la
   simp only [<-hy] at lb
   have hc:=XX.out.C.at hs.symm x y (dk:=d)
   haveI:Nonempty (SomeW enc k w0 blk off d):=⟨⟨wr,S1.out⟩⟩
   cases hG:ltOf cf x y with
   | true =>
    have hv:cf x y<0:=of_decide_eq_true hG
    have hd:decide (cf x y<0)=true:=decide_eq_true hv
    rw [hx,hy] at hG
    have GG:Hid _:=hG
    clear hx hy hG
    go_wp2_with fail
    refine wp_region_some (by assumption) (by kernel_rfl) S1.out ?_
    repeat(quiet_step (first|(go_at_fn g;exact hc _)))
    refine wpQuiet_nil ?_
    rintro w3 ⟨⟨w3,S2_⟩,rfl⟩
    have S2:Aside (SWB enc k w0 blk off d w3):=S2_
    clear la lb hc S1 S2_
    go_wp2
    go_roundg (h - i)
    case measure=>omega
    case rel =>
     refine ⟨i,h,rfl,by go_num,hi,hih,by omega,by omega,S2,HE.out.1,?_⟩
     intro t t1 t2
     exact lt_le XX.out.S GG.out (SortedIn.le XX.out.S HA.out (by omega:a<=h) t1 t2)
   | false =>
    have hv:¬ cf x y<0:=of_decide_eq_false hG
    have hd:decide (cf x y<0)=false:=decide_eq_false hv
    rw [hx,hy] at hG
    have GG:Hid _:=hG
    clear hx hy hG
    go_wp2_with fail
    refine wp_region_some (by assumption) (by kernel_rfl) S1.out ?_
    repeat(quiet_step (first|(go_at_fn g;exact hc _)))
    refine wpQuiet_nil ?_
    rintro w3 ⟨⟨w3,S2_⟩,rfl⟩
    have S2:Aside (SWB enc k w0 blk off d w3):=S2_
    clear la lb hc S1 S2_
    go_wp2
    go_roundg (j - (h+1))
    case measure=>omega
    case rel =>
     refine ⟨h+1,j,by go_num,rfl,by omega,by omega,hj,by omega,S2,?_,HE.out.2⟩
     intro t t1 t2
     exact XX.out.S.ntrans _ _ _ GG.out (SortedIn.le XX.out.S HA.out t1 (by omega:t<=h) (by omega))
  ·have hltz:¬ (i:Int)<(j:Int):=by omega
   obtain rfl:i=j:=by omega
   go_wp2
   go_loopg [17] (m - i) (λkx s13 wr=>∃ (q:Nat) (dk:Array α),s13 = .int .i64 q/\i<=q/\q<=m/\q - i<=kx/\Aside (SWB enc k w0 blk off dk wr)/\Hid (Rot q m (m+1) d dk))
   case atStart=>exact ⟨m,d,rfl,by omega,by omega,by omega,S1,Rot.refl_l m (m+1) d⟩
   case round =>
    clear S1
    obtain ⟨q,dk,rfl,hq1,hq2,hkx,S1,HR⟩:=hrel
    have hds:dk.size=d.size:=HR.out.1
    by_cases hlt2:i<q
    ·obtain ⟨p,rfl⟩:∃ p,q=p+1:=⟨q - 1,by omega⟩
     have hltz2:(i:Int)<(p:Int)+1:=by omega
     have ea:((p:Int)+1).toNat=p+1:=by omega
     have pa:(0:Int)<=(p:Int)+1:=by omega
     have ba:(p:Int)+1<(d.size:Int):=by omega
     have bb:(p:Int)<(d.size:Int):=by omega
     have rb:IntKind.i64.wrap (p:Int)=(p:Int):=by rw [IntKind.wrap_i64];omega
     have S2:Aside (SWB enc k w0 blk off (swp dk (p+1) p) ((wr.drew.setCells blk (off+(p+1)*k) (enc dk[p]!)).setCells blk (off+p*k) (enc dk[p+1]!))):=S1.out.swapped XX.out.R (p+1) p (by omega) (by omega)
     have l44a:=S1.out.ld1 XX.out.R (by omega) P (p+1) (by omega)
     have l44b:=S1.out.ld1 XX.out.R (by omega) P p (by omega)
     have s44a:=S1.out.st1 XX.out.R (by omega) P (p+1) (by omega) dk[p]!
     have s44b:=S1.out.st2 XX.out.R (by omega) P (p+1) p (by omega) (by omega) dk[p]! dk[p+1]!
     have n44a:(enc dk[p+1]!).length=k:=XX.out.R.hk _
     have n44b:(enc dk[p]!).length=k:=XX.out.R.hk _
     generalize enc dk[p+1]! = cI44 at S2 l44a s44b n44a
     generalize enc dk[p]! = cJ44 at S2 l44b s44a s44b n44b
     clear S1
     go_wp2_with fail
     go_big_region_o
     clear l44a l44b s44a s44b
     generalize (wr.drew.setCells blk (off+(p+1)*k) cJ44).setCells blk (off+p*k) cI44=w2 at S2 ⊢
     go_wp2
     go_roundg (p - i)
     case measure=>omega
     case rel=>exact ⟨p,swp dk (p+1) p,by go_num,by omega,by omega,by omega,S2,HR.out.down (by omega) hm⟩
    ·have hltz2:¬ (i:Int)<(q:Int):=by omega
     obtain rfl:i=q:=by omega
     go_wp2
     refine bodyPost_ret (results_none rfl _ _ _) rfl ?_
     exact ⟨rfl,dk,S1.out,merged_last XX.out.S HA.out (by omega) (by omega) HE.out.1 HE.out.2 HR.out⟩
end
end Go.Proofs.Ytfhamdobagjakaa.Srt
