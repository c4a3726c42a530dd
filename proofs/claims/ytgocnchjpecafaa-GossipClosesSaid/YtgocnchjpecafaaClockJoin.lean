/- a part -/
import Derived.Test.YtgocnchjpecafaaProg
import Derived.Lib.Walk
import Derived.Laws.CopyRow
import Derived.Deep.WholeRow
import Derived.Handy
import Derived.Test.YtgocnchjpecafaaClockClone
import Derived.RegionTactic
namespace Go.Proofs.Ytgocnchjpecafaa.ClockBase
open Go.RowKit Go.Lib Go.Proofs.YtgocnchjpecafaaW.PrintWords Go.Proofs.YtgocnchjpecafaaW.PrintLast Go.Proofs.YtgocnchjpecafaaW.PrintMore
set_option linter.unusedVariables false
set_option linter.unusedSimpArgs false
def bad (n:Int):Bool:=decide (n<0) || decide (n > 1048576)
theorem bad_calls (n:Int) (w:World):Calls Try.prog 95 #[.int .i64 n] w λe w'=>e = .returned (.bool (bad n))/\∃ q,w'=w.drewN q:=by
 unfold bad
 by_cases h:n<0
 ·go_enter Try.func95,Try.ntmps95
  go_wp2
  all_goals (go_ret;exact ⟨by first|(simp_all;done)|(simp_all;omega),0,rfl⟩)
 ·go_enter Try.func95,Try.ntmps95
  go_wp2
  all_goals (go_ret;exact ⟨by first|(simp_all;done)|(simp_all;omega),0,rfl⟩)
theorem any_hit {l:List Int} {kk:Nat} (h:kk<l.length) (hb:bad (l.getD kk 0)=true):decide ((kk:Int)>=0)=l.any bad:=by
 rw [decide_eq_true (by omega)]
 refine(List.any_eq_true.2 ⟨l[kk],List.getElem_mem h,?_⟩).symm
 rw [List.getD_eq_getElem?_getD,List.getElem?_eq_getElem h] at hb
 exact hb
theorem any_miss {l:List Int} (hb:∀ j,j<l.length->bad (l.getD j 0)=false):decide ((-1:Int)>=0)=l.any bad:=by
 rw [decide_eq_false (by omega)]
 refine(List.any_eq_false.2 λx hx=>?_).symm
 obtain ⟨j,hj,rfl⟩:=List.mem_iff_getElem.1 hx
 have:=hb j hj
 rw [List.getD_eq_getElem?_getD,List.getElem?_eq_getElem hj] at this
 simpa using this
set_option maxHeartbeats 4000000 in
theorem idx_calls (a:Addr) (c:Nat) (l:List Int) (w:World) (hn:l.length<=9223372036854775807) (hc:∀ j,j<l.length->w.cell? (a.add j)=some (.int .i64 (l.getD j 0))) :
  Calls Try.prog 107 #[.slice (some a) l.length c,.func (.func 95) #[] #[]] w λe w'=>(∃ i:Int,e = .returned (.int .i64 i)/\decide (i>=0)=l.any bad)/\∃ q,w'=w.drewN q:=by
 have hcall:=bad_calls
 go_enter Try.func107,Try.ntmps107
 go_wp2
 go_loopg [5,8] l.length (λgg _ s8 wr=>∃ kk q:Nat,kk<=l.length/\l.length - kk<=gg/\s8 = .int .i64 kk/\wr=w.drewN q/\Aside (∀ j,j<kk->bad (l.getD j 0)=false))
 case atStart=>exact ⟨0,0,Nat.zero_le _,by omega,rfl,rfl,λj hj=>absurd hj (Nat.not_lt_zero _)⟩
 case round =>
  obtain ⟨kk,q,hkk,hg,rfl,rfl,A⟩:=hrel
  by_cases hlt:kk<l.length
  ·have hltz:(kk:Int)<(l.length:Int):=by omega
   have hcell:w.cell? (a.add kk)=some (.int .i64 (l.getD kk 0)):=hc kk (by omega)
   clear hc
   generalize hy:l.getD kk 0=y at hcell
   have B:Aside (l.getD kk 0=y):=hy
   clear hy
   have hcall:=hcall y
   cases hq:bad y with
   | true =>
    rw [hq] at hcall
    go_wp2_with (go_at_call 95;refine(hcall _).mono ?_;rintro e w' ⟨rfl,q',rfl⟩)
    go_ret
    exact ⟨⟨kk,rfl,any_hit hlt (by rw [B.out];exact hq)⟩,_,rfl⟩
   | false =>
    rw [hq] at hcall
    go_wp2_with (go_at_call 95;refine(hcall _).mono ?_;rintro e w' ⟨rfl,q',rfl⟩)
    go_roundg (l.length - (kk+1))
    case measure=>omega
    case rel =>
     refine ⟨kk+1,_,by omega,by omega,by go_num,rfl,(show Aside _ from λj hj=>?_)⟩
     by_cases e:j=kk
     ·subst e
      rw [B.out];exact hq
     ·exact A.out j (by omega)
  ·have hltz:¬ (kk:Int)<(l.length:Int):=by omega
   have:kk=l.length:=by omega
   subst this
   go_wp2
   go_ret
   exact ⟨⟨-1,rfl,any_miss A.out⟩,q,rfl⟩
theorem idx_empty (A:Option Addr) (c:Nat) (w:World):Calls Try.prog 107 #[.slice A 0 c,.func (.func 95) #[] #[]] w λe w'=>e = .returned (.int .i64 (-1))/\∃ q,w'=w.drewN q:=by
 go_enter Try.func107,Try.ntmps107
 go_wp2
 go_loopg [5,8] 0 (λgg _ s8 wr=>s8 = .int .i64 0/\wr=w)
 case atStart=>exact ⟨rfl,rfl⟩
 case round =>
  obtain ⟨rfl,rfl⟩:=hrel
  go_wp2
  go_ret
  exact ⟨rfl,0,rfl⟩
theorem cells_of {k:IntKind} {w:World} {A:Option Addr} {l:List Int} (h:Kd.C (Kd.int k) w A l.length l) (hn:0<l.length):∃ a,A=some a/\∀ j,j<l.length->w.cell? (a.add j)=some (.int k (l.getD j 0)):=by
 obtain ⟨a,ha,hc⟩:=h.2.2 hn
 refine ⟨a,ha,λj hj=>?_⟩
 obtain ⟨c,h1,h2,h3⟩:=hc j _ (List.getElem?_eq_getElem hj)
 have h2:c=[.int k l[j]]:=h2
 subst h2
 have h4:=h3 0 _ rfl
 have e:j*(Kd.int k).sz+0=j:=by show j*1+0=j;omega
 rw [e] at h4
 rw [h4,List.getD_eq_getElem?_getD,List.getElem?_eq_getElem hj]
 rfl
theorem idx_any (A:Option Addr) (c:Nat) (l:List Int) (w:World) (hr:Kd.C (Kd.int .i64) w A l.length l) :
  Calls Try.prog 107 #[.slice A l.length c,.func (.func 95) #[] #[]] w λe w'=>(∃ i:Int,e = .returned (.int .i64 i)/\decide (i>=0)=l.any bad)/\∃ q,w'=w.drewN q:=by
 cases l with
 | nil =>
  refine(idx_empty A c w).mono ?_
  rintro e w' ⟨rfl,q,rfl⟩
  exact ⟨⟨-1,rfl,rfl⟩,q,rfl⟩
 | cons x l =>
  obtain ⟨a,rfl,h⟩:=cells_of hr (by simp)
  exact idx_calls a c (x :: l) w hr.2.1 h
theorem contains_calls (A:Option Addr) (c:Nat) (l:List Int) (w:World) (hr:Kd.C (Kd.int .i64) w A l.length l) :
  Calls Try.prog 94 #[.slice A l.length c,.func (.func 95) #[] #[]] w λe w'=>e = .returned (.bool (l.any bad))/\∃ q,w'=w.drewN q:=by
 have hcall:=idx_any A c l w hr
 clear hr
 generalize l.any bad=b at hcall ⊢
 go_enter Try.func94,Try.ntmps94
 go_wp2_with (go_at_call 107;refine hcall.mono ?_;rintro e w' ⟨⟨i,rfl,hi⟩,q,rfl⟩)
 go_ret
 exact ⟨by rw [<-hi];rfl,q,rfl⟩
def okC (l:List Int):Bool:=decide (l.length<=5) && !l.any bad
theorem check_calls (A:Option Addr) (c:Nat) (l:List Int) (w:World) (hr:Kd.C (Kd.int .i64) w A l.length l) :
  Calls Try.prog 71 #[.slice A l.length c] w λe w'=>e = .returned (.int .i64 (if okC l=true then 0 else 1))/\∃ q,w'=w.drewN q:=by
 have hcall:=contains_calls A c l w hr
 clear hr
 by_cases h5:l.length<=5
 ·have h5':¬ ((5:Int)<(l.length:Int)):=by omega
  cases hb:l.any bad with
  | true =>
   have e:(if okC l=true then(0:Int) else 1)=1:=by simp [okC,hb]
   rw [e]
   rw [hb] at hcall
   go_enter Try.func71,Try.ntmps71
   go_wp2_with (go_at_call 94;refine hcall.mono ?_;rintro e w' ⟨rfl,q,rfl⟩)
   go_ret
   exact ⟨rfl,q,rfl⟩
  | false =>
   have e:(if okC l=true then(0:Int) else 1)=0:=by simp [okC,hb,h5]
   rw [e]
   rw [hb] at hcall
   go_enter Try.func71,Try.ntmps71
   go_wp2_with (go_at_call 94;refine hcall.mono ?_;rintro e w' ⟨rfl,q,rfl⟩)
   go_ret
   exact ⟨rfl,q,rfl⟩
 ·have h5':(5:Int)<(l.length:Int):=by omega
  have e:(if okC l=true then(0:Int) else 1)=1:=by simp [okC,h5]
  rw [e]
  go_enter Try.func71,Try.ntmps71
  go_wp2
  go_ret
  exact ⟨rfl,0,rfl⟩
def ofL (l:List Int):List Int:=if okC l=true then l++List.replicate (5 - l.length) 0 else List.replicate 5 0
theorem ofL_length (l:List Int):(ofL l).length=5:=by
 unfold ofL
 by_cases h:okC l=true
 ·rw [if_pos h]
  have:l.length<=5:=by
   unfold okC at h
   simp at h
   exact h.1
  simp
  omega
 ·rw [if_neg h]
  simp
def enc5 (f:List Int):Value:=.agg (f.map (Value.int .i64)).toArray
theorem five {f:List Int} (h:f.length=5):∃ y0 y1 y2 y3 y4,f=[y0,y1,y2,y3,y4]:=by
 match f,h with
 | [y0,y1,y2,y3,y4],_=>exact ⟨y0,y1,y2,y3,y4,rfl⟩
theorem copy_run (A:Option Addr) (c:Nat) (l:List Int) (W:World) (g:Nat) (hr:Kd.C (Kd.int .i64) W A l.length l) (h5:l.length<=5) (hg:W.heap[g]? = some (.cells #[.int .i64 0,.int .i64 0,.int .i64 0,.int .i64 0,.int .i64 0] 118 (0,0))) :
  (Builtin.copy_ #[26,27] 3 #[.slice (some ⟨g,0,none⟩) 5 5,.slice A l.length c]).run Try.prog W = .ok (goInt l.length) (W.setRow g ((l++List.replicate (5 - l.length) 0).map (Value.int .i64)).toArray):=by
 have hu:Try.prog.underlying 26=some (.slice 3):=by kernel_rfl
 have hs:(Try.prog.info? 3).map (·.size)=some 1:=by kernel_rfl
 cases l with
 | nil =>
  have e:=run_copy_none (P:=Try.prog) W 26 27 3 3 (some ⟨g,0,none⟩) A 5 5 0 c hu hs rfl
  have ex:((([]:List Int)++List.replicate (5 - ([]:List Int).length) 0).map (Value.int .i64)).toArray=#[.int .i64 0,.int .i64 0,.int .i64 0,.int .i64 0,.int .i64 0]:=rfl
  rw [ex,setRow_self W g _ _ _ hg]
  exact e
 | cons x l =>
  obtain ⟨a,rfl,h⟩:=cells_of hr (by simp)
  have hmin:Nat.min (x :: l).length 5=(x :: l).length:=Nat.min_eq_left h5
  have e:=run_copy_row (P:=Try.prog) W 26 27 3 3 g 0 5 5 a (x :: l).length c _ _ ((x :: l).map (Value.int .i64)) hu hs hg (by rw [hmin,List.length_map]) (λj v hj=>by
   rw [List.getElem?_map] at hj
   obtain ⟨y,hy,rfl⟩:=Option.map_eq_some_iff.1 hj
   have hjl:j<(x :: l).length:=by
    by_cases hjl:j<(x :: l).length
    ·exact hjl
    ·rw [List.getElem?_eq_none (by omega)] at hy
     cases hy
   rw [h j hjl,List.getD_eq_getElem?_getD,hy]
   rfl) (by rw [List.length_map];simpa using h5) (λv hv=>by
   obtain ⟨y,_,rfl⟩:=List.mem_map.1 hv
   rfl)
  rw [List.length_map] at e
  have ex:∀ (l:List Int),l.length<=4->(((x :: l)++List.replicate (5 - (x :: l).length) 0).map (Value.int .i64)).toArray=((#[Value.int .i64 0,.int .i64 0,.int .i64 0,.int .i64 0,.int .i64 0]:Array Value).toList.take 0++(x :: l).map (Value.int .i64)++(#[Value.int .i64 0,.int .i64 0,.int .i64 0,.int .i64 0,.int .i64 0]:Array Value).toList.drop (0+(x :: l).length)).toArray:=by
   intro l h4
   match l,h4 with
   | [],_=>rfl
   | [_],_=>rfl
   | [_,_],_=>rfl
   | [_,_,_],_=>rfl
   | [_,_,_,_],_=>rfl
  rw [ex l (by rw [List.length_cons] at h5;omega)]
  exact e
def zeros5:Obj:=.cells #[.int .i64 0,.int .i64 0,.int .i64 0,.int .i64 0,.int .i64 0] 118
theorem drewN_setRow (w:World) (q g:Nat) (cs:Array Value):(w.drewN q).setRow g cs=(w.setRow g cs).drewN q:=rfl
theorem alloc_last (w:World) (o:Obj):(w.alloc o).heap[w.heap.size]? = some o:=(MapKept.heap_alloc w o).1
set_option maxHeartbeats 4000000 in
theorem of_calls (A:Option Addr) (c:Nat) (l:List Int) (w:World) (hr:Kd.C (Kd.int .i64) w A l.length l) :
  Calls Try.prog 90 #[.slice A l.length c] w λe w'=>e = .returned (enc5 (ofL l))/\Below w.heap.size w w':=by
 have hcall:=λW (hb:Below w.heap.size w W)=>check_calls A c l W (Kd.C_below hr hb)
 by_cases hk:okC l=true
 ·have h5:l.length<=5:=by
   unfold okC at hk
   simp at hk
   exact hk.1
  have e:ofL l=l++List.replicate (5 - l.length) 0:=by unfold ofL;rw [if_pos hk]
  obtain ⟨y0,y1,y2,y3,y4,e5⟩:=five (ofL_length l)
  rw [e5]
  rw [e] at e5
  rw [if_pos hk] at hcall
  have hcopy:∀ q,(Builtin.copy_ #[26,27] 3 #[.slice (some ⟨w.heap.size+1,0,none⟩) 5 5,.slice A l.length c]).run Try.prog (((w.alloc (.cells #[.int .i64 0,.int .i64 0,.int .i64 0,.int .i64 0,.int .i64 0] 118)).alloc (.cells #[.int .i64 0,.int .i64 0,.int .i64 0,.int .i64 0,.int .i64 0] 118)).drewN q) = .ok (goInt l.length) (((w.alloc (.cells #[.int .i64 0,.int .i64 0,.int .i64 0,.int .i64 0,.int .i64 0] 118)).alloc (.cells #[.int .i64 y0,.int .i64 y1,.int .i64 y2,.int .i64 y3,.int .i64 y4] 118)).drewN q):=by
   intro q
   have hsz:(w.alloc zeros5).heap.size=w.heap.size+1:=by simp
   have h1:=copy_run A c l (((w.alloc zeros5).alloc zeros5).drewN q) (w.heap.size+1) (Kd.C_drewN (Kd.C_alloc (Kd.C_alloc hr _) _) q) h5 (by
    show((w.alloc zeros5).alloc zeros5).heap[w.heap.size+1]? = _
    rw [<-hsz]
    exact alloc_last _ _)
   rw [drewN_setRow,<-hsz,e5] at h1
   have h2:((w.alloc zeros5).alloc zeros5).setRow (w.alloc zeros5).heap.size ([y0,y1,y2,y3,y4].map (Value.int .i64)).toArray=(w.alloc zeros5).alloc (.cells #[.int .i64 y0,.int .i64 y1,.int .i64 y2,.int .i64 y3,.int .i64 y4] 118):=World.setRow_alloc_new _ _ _ _
   rw [h2,hsz] at h1
   exact h1
  clear e e5 hr
  go_enter Try.func90,Try.ntmps90
  go_wp2_with (go_at_call 71;refine(hcall _ ?_).mono ?_;(case refine_1=>repeat' (first|(with_reducible exact Below.refl _ _)|(with_reducible refine pw_below_drewN ?_ _)|(with_reducible refine below_alloc ?_ _)));rintro e w' ⟨rfl,q,rfl⟩)
  go_returns
  refine ⟨rfl,?_⟩
  repeat' (first|(with_reducible exact Below.refl _ _)|(with_reducible exact Nat.le_refl _)|(with_reducible refine Below.setCell ?_ ?_ _)|(with_reducible refine pw_below_drewN ?_ _)|(with_reducible refine below_alloc ?_ _))
 ·have e:ofL l=[0,0,0,0,0]:=by unfold ofL;rw [if_neg hk];rfl
  rw [e]
  rw [if_neg hk] at hcall
  clear hr
  go_enter Try.func90,Try.ntmps90
  go_wp2_with (go_at_call 71;refine(hcall _ ?_).mono ?_;(case refine_1=>repeat' (first|(with_reducible exact Below.refl _ _)|(with_reducible refine pw_below_drewN ?_ _)|(with_reducible refine below_alloc ?_ _)));rintro e w' ⟨rfl,q,rfl⟩)
  go_returns
  refine ⟨rfl,?_⟩
  repeat' (first|(with_reducible exact Below.refl _ _)|(with_reducible exact Nat.le_refl _)|(with_reducible refine Below.setCell ?_ ?_ _)|(with_reducible refine pw_below_drewN ?_ _)|(with_reducible refine below_alloc ?_ _))
end Go.Proofs.Ytgocnchjpecafaa.ClockBase
namespace Go.Proofs.Ytgocnchjpecafaa.ClockBase
open Go.RowKit Go.Lib Go.Proofs.YtgocnchjpecafaaW.PrintWords Go.Proofs.YtgocnchjpecafaaW.PrintLast Go.Proofs.YtgocnchjpecafaaW.PrintMore
set_option linter.unusedVariables false
set_option linter.unusedSimpArgs false
theorem row_C {W:World} {g:Nat} {t:TypeId} {xs:List Int} {n:Nat} (hg:W.heap[g]? = some (.cells (xs.map (Value.int .i64)).toArray t (0,0))) (hn:n<=xs.length) (h5:xs.length<=5):Kd.C (Kd.int .i64) W (some ⟨g,0,none⟩) (xs.take n).length (xs.take n):=by
 refine ⟨rfl,by rw [List.length_take];omega,λ_=>⟨_,rfl,λj p hj=>⟨[.int .i64 p],rfl,rfl,λi u hu=>?_⟩⟩⟩
 have hi:i=0/\u = .int .i64 p:=by
  cases i with
  | zero=>exact ⟨rfl,(by simpa using hu.symm)⟩
  | succ i=>simp at hu
 obtain ⟨rfl,rfl⟩:=hi
 have hjn:j<n:=by
  by_cases h:j<n
  ·exact h
  ·rw [List.getElem?_take,if_neg h] at hj
   cases hj
 rw [List.getElem?_take,if_pos hjn] at hj
 have e:(⟨g,0,none⟩:Addr).add (j*(Kd.int .i64).sz+0)=⟨g,j,none⟩:=by
  show(⟨g,0,none⟩:Addr).add (j*1+0)=⟨g,j,none⟩
  rw [Nat.mul_one,Nat.add_zero]
  unfold Addr.add
  split<;>simp_all
 rw [e]
 simp [World.cell?,hg,hj]
theorem clone_calls (g:Nat) (xs:List Int) (n:Nat) (W:World) (t:TypeId) (hg:W.heap[g]? = some (.cells (xs.map (Value.int .i64)).toArray t (0,0))) (hn:n<=xs.length) (h5:xs.length=5) :
  Calls Try.prog 79 #[.slice (some ⟨g,0,none⟩) n 5] W λe w'=>∃ v,e = .returned v/\Kd.R (Kd.int .i64) 3 w' W.heap.size (λ_=>True) v (xs.take n)/\Below W.heap.size W w':=by
 have e:n=(xs.take n).length:=by rw [List.length_take];omega
 have h:=clockClone.calls (some ⟨g,0,none⟩) 5 (xs.take n) (xs.take n) W (row_C hg hn (by omega)) (by omega) (by
  unfold clockClone.f
  simp only [Option.bind_some,List.nil_append,List.length_nil]
  rw [if_pos (by omega)])
 rw [<-e] at h
 exact h
def upto0 (f:List Int):Nat->Nat
 | 0=>0
 | n+1=>if f.getD n 0=0 then upto0 f n else n+1
def trim (f:List Int):List Int:=f.take (upto0 f f.length)
set_option maxHeartbeats 8000000 in
set_option maxRecDepth 100000 in
theorem plain_calls (y0 y1 y2 y3 y4:Int) (w:World) :
  Calls Try.prog 96 #[.agg #[.int .i64 y0,.int .i64 y1,.int .i64 y2,.int .i64 y3,.int .i64 y4]] w λe w'=>∃ v,e = .returned v/\Kd.R (Kd.int .i64) 3 w' w.heap.size (λ_=>True) v (trim [y0,y1,y2,y3,y4])/\Below w.heap.size w w':=by
 have hcl:=λn=>clone_calls w.heap.size [y0,y1,y2,y3,y4] n (w.alloc (.cells #[.int .i64 y0,.int .i64 y1,.int .i64 y2,.int .i64 y3,.int .i64 y4] 118)) 118 (alloc_last _ _)
 by_cases h4:y4=0
 ·subst h4
  by_cases h3:y3=0
  ·subst h3
   by_cases h2:y2=0
   ·subst h2
    by_cases h1:y1=0
    ·subst h1
     by_cases h0:y0=0
     ·subst h0
      have e:trim [0,0,0,0,0]=List.take 0 [0,0,0,0,0]:=by simp [trim,upto0]
      rw [e]
      have hc:=hcl 0 (by simp) rfl
      clear hcl e
      go_enter Try.func96,Try.ntmps96
      go_wp2
      refine wp_loop_rounds 6 ?_
      repeat any_goals (rw [rounds_succ];go_wp2_with (go_at_call 79;refine hc.mono ?_;rintro e w' ⟨v,rfl,hv,hB⟩))
      go_ret
      exact ⟨v,rfl,Kd.R_lower hv (by simp),below_step (below_alloc (Below.refl _ _) _) hB⟩
     ·skip
      have e:trim [y0,0,0,0,0]=List.take 1 [y0,0,0,0,0]:=by simp [trim,upto0,h0]
      rw [e]
      have hc:=hcl 1 (by simp) rfl
      clear hcl e
      have hb:(y0 == 0)=false:=beq_eq_false_iff_ne.2 h0
      go_enter Try.func96,Try.ntmps96
      go_wp2
      refine wp_loop_rounds 6 ?_
      repeat any_goals (rw [rounds_succ];go_wp2_with (go_at_call 79;refine hc.mono ?_;rintro e w' ⟨v,rfl,hv,hB⟩))
      go_ret
      exact ⟨v,rfl,Kd.R_lower hv (by simp),below_step (below_alloc (Below.refl _ _) _) hB⟩
    ·skip
     have e:trim [y0,y1,0,0,0]=List.take 2 [y0,y1,0,0,0]:=by simp [trim,upto0,h1]
     rw [e]
     have hc:=hcl 2 (by simp) rfl
     clear hcl e
     have hb:(y1 == 0)=false:=beq_eq_false_iff_ne.2 h1
     go_enter Try.func96,Try.ntmps96
     go_wp2
     refine wp_loop_rounds 6 ?_
     repeat any_goals (rw [rounds_succ];go_wp2_with (go_at_call 79;refine hc.mono ?_;rintro e w' ⟨v,rfl,hv,hB⟩))
     go_ret
     exact ⟨v,rfl,Kd.R_lower hv (by simp),below_step (below_alloc (Below.refl _ _) _) hB⟩
   ·skip
    have e:trim [y0,y1,y2,0,0]=List.take 3 [y0,y1,y2,0,0]:=by simp [trim,upto0,h2]
    rw [e]
    have hc:=hcl 3 (by simp) rfl
    clear hcl e
    have hb:(y2 == 0)=false:=beq_eq_false_iff_ne.2 h2
    go_enter Try.func96,Try.ntmps96
    go_wp2
    refine wp_loop_rounds 6 ?_
    repeat any_goals (rw [rounds_succ];go_wp2_with (go_at_call 79;refine hc.mono ?_;rintro e w' ⟨v,rfl,hv,hB⟩))
    go_ret
    exact ⟨v,rfl,Kd.R_lower hv (by simp),below_step (below_alloc (Below.refl _ _) _) hB⟩
  ·skip
   have e:trim [y0,y1,y2,y3,0]=List.take 4 [y0,y1,y2,y3,0]:=by simp [trim,upto0,h3]
   rw [e]
   have hc:=hcl 4 (by simp) rfl
   clear hcl e
   have hb:(y3 == 0)=false:=beq_eq_false_iff_ne.2 h3
   go_enter Try.func96,Try.ntmps96
   go_wp2
   refine wp_loop_rounds 6 ?_
   repeat any_goals (rw [rounds_succ];go_wp2_with (go_at_call 79;refine hc.mono ?_;rintro e w' ⟨v,rfl,hv,hB⟩))
   go_ret
   exact ⟨v,rfl,Kd.R_lower hv (by simp),below_step (below_alloc (Below.refl _ _) _) hB⟩
 ·skip
  have e:trim [y0,y1,y2,y3,y4]=List.take 5 [y0,y1,y2,y3,y4]:=by simp [trim,upto0,h4]
  rw [e]
  have hc:=hcl 5 (by simp) rfl
  clear hcl e
  have hb:(y4 == 0)=false:=beq_eq_false_iff_ne.2 h4
  go_enter Try.func96,Try.ntmps96
  go_wp2
  refine wp_loop_rounds 6 ?_
  repeat any_goals (rw [rounds_succ];go_wp2_with (go_at_call 79;refine hc.mono ?_;rintro e w' ⟨v,rfl,hv,hB⟩))
  go_ret
  exact ⟨v,rfl,Kd.R_lower hv (by simp),below_step (below_alloc (Below.refl _ _) _) hB⟩
end Go.Proofs.Ytgocnchjpecafaa.ClockBase
namespace Go.Proofs.Ytgocnchjpecafaa.ClockBase
open Go.RowKit Go.Lib Go.Proofs.YtgocnchjpecafaaW.PrintWords Go.Proofs.YtgocnchjpecafaaW.PrintLast Go.Proofs.YtgocnchjpecafaaW.PrintMore
set_option linter.unusedVariables false
set_option linter.unusedSimpArgs false
theorem of_five {A:Option Addr} {c:Nat} {l:List Int} {w:World} (hr:Kd.C (Kd.int .i64) w A l.length l):∃ y0 y1 y2 y3 y4,ofL l=[y0,y1,y2,y3,y4]/\∀ W,Below w.heap.size w W ->
  Calls Try.prog 90 #[.slice A l.length c] W λe w'=>e = .returned (.agg #[.int .i64 y0,.int .i64 y1,.int .i64 y2,.int .i64 y3,.int .i64 y4])/\Below W.heap.size W w':=by
 obtain ⟨y0,y1,y2,y3,y4,e⟩:=five (ofL_length l)
 refine ⟨y0,y1,y2,y3,y4,e,λW hb=>?_⟩
 have h:=of_calls A c l W (Kd.C_below hr hb)
 rw [e] at h
 exact h
set_option maxRecDepth 100000 in
theorem Plain_calls (A:Option Addr) (c:Nat) (l:List Int) (w:World) (hr:Kd.C (Kd.int .i64) w A l.length l) :
  Calls Try.prog 72 #[.slice A l.length c] w λe w'=>∃ v,e = .returned v/\Kd.R (Kd.int .i64) 3 w' w.heap.size (λ_=>True) v (trim (ofL l))/\Below w.heap.size w w':=by
 obtain ⟨y0,y1,y2,y3,y4,e,hof⟩:=of_five (c:=c) hr
 rw [e]
 have hof:=hof w (Below.refl _ _)
 have hpl:=λW=>plain_calls y0 y1 y2 y3 y4 W
 clear e hr
 generalize trim [y0,y1,y2,y3,y4]=r at hpl ⊢
 go_enter Try.func72,Try.ntmps72
 go_wp2_with (first|(go_at_call 90;refine hof.mono ?_;rintro e w1 ⟨rfl,hB1⟩)|(go_at_call 96;refine(hpl _).mono ?_;rintro e w2 ⟨v,rfl,hv,hB2⟩))
 go_ret
 exact ⟨v,rfl,Kd.R_lower hv (below_size hB1),below_step hB1 hB2⟩
theorem there_in (rep:Int) (w:World) (h1:1<=rep) (h5:rep<=5):Calls Try.prog 91 #[.int .i64 rep] w λe w'=>e = .returned (.bool true)/\w'=w:=by
 go_enter Try.func91,Try.ntmps91
 go_wp2
 go_ret
 exact ⟨by simp_all,rfl⟩
def getS (l:List Int) (rep:Int):Int:=if 1<=rep/\rep<=5 then(ofL l).getD (rep - 1).toNat 0 else 0
set_option maxRecDepth 100000 in
set_option maxHeartbeats 4000000 in
theorem Get_calls (A:Option Addr) (c:Nat) (l:List Int) (rep:Int) (w:World) (hr:Kd.C (Kd.int .i64) w A l.length l) :
  Calls Try.prog 65 #[.slice A l.length c,.int .i64 rep] w λe w'=>e = .returned (.int .i64 (getS l rep))/\Below w.heap.size w w':=by
 obtain ⟨y0,y1,y2,y3,y4,e,hof⟩:=of_five (c:=c) hr
 have hof:=hof w (Below.refl _ _)
 unfold getS
 rw [e]
 clear e hr
 by_cases h1:1<=rep
 ·by_cases h5:rep<=5
  ·have h:rep=1\/rep=2\/rep=3\/rep=4\/rep=5:=by omega
   rw [if_pos ⟨h1,h5⟩]
   clear h1 h5
   rcases h with rfl|rfl|rfl|rfl|rfl
   all_goals
    go_enter Try.func65,Try.ntmps65
    go_wp2_with (first|(go_at_call 90;refine hof.mono ?_;rintro e w1 ⟨rfl,hB1⟩)|(go_at_call 91;refine(there_in _ _ (by omega) (by omega)).mono ?_;rintro e w' ⟨rfl,rfl⟩))
    go_returns
    refine ⟨rfl,?_⟩
    repeat' (first|(with_reducible exact hB1)|(with_reducible refine Below.setCell ?_ ?_ _)|(with_reducible refine pw_below_drewN ?_ _)|(with_reducible refine below_alloc ?_ _)|(with_reducible exact below_size hB1))
  ·rw [if_neg (λh=>h5 h.2)]
   have h5':(5:Int)<rep:=by omega
   go_enter Try.func65,Try.ntmps65
   go_wp2
   go_returns
   exact ⟨rfl,Below.refl _ _⟩
 ·rw [if_neg (λh=>h1 h.1)]
  go_enter Try.func65,Try.ntmps65
  go_wp2
  go_returns
  exact ⟨rfl,Below.refl _ _⟩
end Go.Proofs.Ytgocnchjpecafaa.ClockBase
namespace Go.Proofs.Ytgocnchjpecafaa.ClockBase
open Go.RowKit Go.Lib Go.Proofs.YtgocnchjpecafaaW.PrintWords Go.Proofs.YtgocnchjpecafaaW.PrintLast Go.Proofs.YtgocnchjpecafaaW.PrintMore
set_option linter.unusedVariables false
set_option linter.unusedSimpArgs false
def sumS (l:List Int):Int:=(ofL l).foldl (λa n=>wrap64 (a+n)) 0
set_option maxRecDepth 100000 in
set_option maxHeartbeats 4000000 in
theorem Sum_calls (A:Option Addr) (c:Nat) (l:List Int) (w:World) (hr:Kd.C (Kd.int .i64) w A l.length l) :
  Calls Try.prog 62 #[.slice A l.length c] w λe w'=>e = .returned (.int .i64 (sumS l))/\Below w.heap.size w w':=by
 obtain ⟨y0,y1,y2,y3,y4,e,hof⟩:=of_five (c:=c) hr
 have hof:=hof w (Below.refl _ _)
 unfold sumS
 rw [e]
 clear e hr
 have hi0:∀ W:World,(Instr.index 118 (.agg #[.int .i64 y0,.int .i64 y1,.int .i64 y2,.int .i64 y3,.int .i64 y4]) (.int .i64 0)).run Try.prog W = .ok (.int .i64 y0) W:=λ_=>by kernel_rfl
 have hi1:∀ W:World,(Instr.index 118 (.agg #[.int .i64 y0,.int .i64 y1,.int .i64 y2,.int .i64 y3,.int .i64 y4]) (.int .i64 1)).run Try.prog W = .ok (.int .i64 y1) W:=λ_=>by kernel_rfl
 have hi2:∀ W:World,(Instr.index 118 (.agg #[.int .i64 y0,.int .i64 y1,.int .i64 y2,.int .i64 y3,.int .i64 y4]) (.int .i64 2)).run Try.prog W = .ok (.int .i64 y2) W:=λ_=>by kernel_rfl
 have hi3:∀ W:World,(Instr.index 118 (.agg #[.int .i64 y0,.int .i64 y1,.int .i64 y2,.int .i64 y3,.int .i64 y4]) (.int .i64 3)).run Try.prog W = .ok (.int .i64 y3) W:=λ_=>by kernel_rfl
 have hi4:∀ W:World,(Instr.index 118 (.agg #[.int .i64 y0,.int .i64 y1,.int .i64 y2,.int .i64 y3,.int .i64 y4]) (.int .i64 4)).run Try.prog W = .ok (.int .i64 y4) W:=λ_=>by kernel_rfl
 go_enter Try.func62,Try.ntmps62
 go_wp2_with (go_at_call 90;refine hof.mono ?_;rintro e w1 ⟨rfl,hB1⟩)
 refine wp_loop_rounds 6 ?_
 repeat any_goals (rw [rounds_succ];go_wp2)
 go_ret
 refine ⟨?_,hB1⟩
 simp only [List.foldl,Int.zero_add]
 rfl
def withinS (a b:List Int):Bool:=(List.range 5).all λi=>decide ((ofL a).getD i 0<=(ofL b).getD i 0)
end Go.Proofs.Ytgocnchjpecafaa.ClockBase
namespace Go.Proofs.Ytgocnchjpecafaa.ClockBase
open Go.RowKit Go.Lib Go.Proofs.YtgocnchjpecafaaW.PrintWords Go.Proofs.YtgocnchjpecafaaW.PrintLast Go.Proofs.YtgocnchjpecafaaW.PrintMore
set_option linter.unusedVariables false
set_option linter.unusedSimpArgs false
end Go.Proofs.Ytgocnchjpecafaa.ClockBase
namespace Go.Proofs.Ytgocnchjpecafaa.ClockBase
open Go.RowKit Go.Lib Go.Proofs.YtgocnchjpecafaaW.PrintWords Go.Proofs.YtgocnchjpecafaaW.PrintLast Go.Proofs.YtgocnchjpecafaaW.PrintMore
set_option linter.unusedVariables false
set_option linter.unusedSimpArgs false
def lesser (x y:Int):Int:=if y<x then y else x
theorem min2_name (k k':IntKind) (x y:Int):Builtin.min2 (.int k x) (.int k' y)=pure (.int k (lesser x y)):=min2_int k k' x y
attribute [local go_sem] min2_name min_two
end Go.Proofs.Ytgocnchjpecafaa.ClockBase
namespace Go.Proofs.Ytgocnchjpecafaa.ClockBase
open Go.RowKit Go.Lib Go.Proofs.YtgocnchjpecafaaW.PrintWords Go.Proofs.YtgocnchjpecafaaW.PrintLast Go.Proofs.YtgocnchjpecafaaW.PrintMore
set_option linter.unusedVariables false
set_option linter.unusedSimpArgs false
def setOk (rep n:Int):Bool:=decide (1<=rep/\rep<=5) && decide (0<=n/\n<=1048576)
def setS (l:List Int) (rep n:Int):List Int:=trim ((ofL l).set (rep - 1).toNat n)
end Go.Proofs.Ytgocnchjpecafaa.ClockBase
namespace Go.Proofs.Ytgocnchjpecafaa.ClockBase
open Go.RowKit Go.Lib Go.Proofs.YtgocnchjpecafaaW.PrintWords Go.Proofs.YtgocnchjpecafaaW.PrintLast Go.Proofs.YtgocnchjpecafaaW.PrintMore
set_option linter.unusedVariables false
set_option linter.unusedSimpArgs false
def greater (x y:Int):Int:=if x<y then y else x
theorem max2_name (k k':IntKind) (x y:Int):Builtin.max2 (.int k x) (.int k' y)=pure (.int k (greater x y)):=max2_int k k' x y
attribute [local go_sem] max2_name max_two
end Go.Proofs.Ytgocnchjpecafaa.ClockBase
namespace Go.Proofs.Ytgocnchjpecafaa.ClockBase
set_option linter.unusedVariables false
set_option linter.unusedSimpArgs false
def GoodC (f:List Int):Prop:=f.length=5/\∀ n ∈ f,0<=n/\n<=1048576
theorem bad_not {n:Int}:bad n=false↔0<=n/\n<=1048576:=by
 unfold bad
 simp only [Bool.or_eq_false_iff,decide_eq_false_iff_not]
 omega
theorem okC_iff {l:List Int}:okC l=true↔l.length<=5/\∀ n ∈ l,0<=n/\n<=1048576:=by
 unfold okC
 simp only [Bool.and_eq_true,decide_eq_true_eq,Bool.not_eq_true',List.any_eq_false,Bool.not_eq_true,bad_not]
theorem good_of (l:List Int):GoodC (ofL l):=by
 refine ⟨ofL_length l,λn hn=>?_⟩
 unfold ofL at hn
 by_cases h:okC l=true
 ·rw [if_pos h] at hn
  rcases List.mem_append.1 hn with hn|hn
  ·exact(okC_iff.1 h).2 n hn
  ·rw [(List.mem_replicate.1 hn).2]
   omega
 ·rw [if_neg h] at hn
  rw [(List.mem_replicate.1 hn).2]
  omega
theorem ofL_good {f:List Int} (h:GoodC f):ofL f=f:=by
 have hk:okC f=true:=okC_iff.2 ⟨by have:=h.1;omega,h.2⟩
 unfold ofL
 rw [if_pos hk,h.1]
 simp
theorem okC_take {f:List Int} (h:GoodC f) (n:Nat):okC (f.take n)=true :=
 okC_iff.2 ⟨by have:=h.1;rw [List.length_take];omega,λx hx=>h.2 x (List.mem_of_mem_take hx)⟩
theorem upto0_le (f:List Int):∀ n,upto0 f n<=n
 | 0=>Nat.le_refl _
 | n+1=>by
  unfold upto0
  by_cases h:f.getD n 0=0
  ·rw [if_pos h]
   exact Nat.le_succ_of_le (upto0_le f n)
  ·rw [if_neg h]
   exact Nat.le_refl _
theorem upto0_app (f g:List Int):∀ n,n<=f.length->upto0 (f++g) n=upto0 f n
 | 0,_=>rfl
 | n+1,h=>by
  have e:(f++g).getD n 0=f.getD n 0:=by
   rw [List.getD_eq_getElem?_getD,List.getD_eq_getElem?_getD,List.getElem?_append_left (by omega)]
  unfold upto0
  rw [e,upto0_app f g n (by omega)]
theorem trim_snoc (f:List Int) (y:Int):trim (f++[y])=if y=0 then trim f else f++[y]:=by
 have e:(f++[y]).getD f.length 0=y:=by simp
 have hl:(f++[y]).length=f.length+1:=by simp
 unfold trim
 rw [hl]
 have hu:upto0 (f++[y]) (f.length+1)=if y=0 then upto0 (f++[y]) f.length else f.length+1:=by
  rw [upto0,e]
 rw [hu]
 by_cases h:y=0
 ·rw [if_pos h,if_pos h,upto0_app f [y] _ (Nat.le_refl _),List.take_append_of_le_length (upto0_le f _)]
 ·rw [if_neg h,if_neg h,<-hl,List.take_length]
theorem snoc_ind {α:Type} {P:List α->Prop} (nil:P []) (snoc:∀ l c,P l->P (l++[c])) (l:List α):P l:=by
 have h:∀ l:List α,P l.reverse:=λl=>by
  induction l with
  | nil=>exact nil
  | cons c l ih =>
   rw [List.reverse_cons]
   exact snoc _ _ ih
 simpa using h l.reverse
theorem trim_pad (f:List Int):trim f++List.replicate (f.length - (trim f).length) 0=f:=by
 induction f using snoc_ind with
 | nil=>rfl
 | snoc f y ih =>
  rw [trim_snoc]
  by_cases h:y=0
  ·subst h
   rw [if_pos rfl]
   have hle:(trim f).length<=f.length:=by
    unfold trim
    rw [List.length_take]
    exact Nat.min_le_right _ _
   have e:(f++[(0:Int)]).length - (trim f).length=(f.length - (trim f).length)+1:=by
    rw [List.length_append,List.length_singleton]
    omega
   rw [e,List.replicate_succ',<-List.append_assoc,ih]
  ·rw [if_neg h]
   simp
theorem trim_le (f:List Int):(trim f).length<=f.length:=by
 unfold trim
 rw [List.length_take]
 exact Nat.min_le_right _ _
theorem good_trim {f:List Int} (h:GoodC f):ofL (trim f)=f:=by
 have hk:okC (trim f)=true:=okC_take h _
 unfold ofL
 rw [if_pos hk]
 have:=trim_pad f
 rw [h.1] at this
 exact this
theorem good_at {a:List Int} (ha:GoodC a) (i:Nat):0<=a.getD i 0/\a.getD i 0<=1048576:=by
 rw [List.getD_eq_getElem?_getD]
 by_cases h:i<a.length
 ·rw [List.getElem?_eq_getElem h]
  exact ha.2 _ (List.getElem_mem h)
 ·rw [List.getElem?_eq_none (by omega)]
  exact ⟨Int.le_refl _,by decide⟩
def le5 (a b:List Int):Prop:=∀ i,i<5->a.getD i 0<=b.getD i 0
theorem withinS_iff (a b:List Int):withinS a b=true↔le5 (ofL a) (ofL b):=by
 unfold withinS le5
 simp
instance (a b:List Int):Decidable (le5 a b):=by unfold le5;infer_instance
theorem sum_eq (l:List Int):sumS l=(ofL l).getD 0 0+(ofL l).getD 1 0+(ofL l).getD 2 0+(ofL l).getD 3 0+(ofL l).getD 4 0:=by
 obtain ⟨y0,y1,y2,y3,y4,e⟩:=five (ofL_length l)
 have g:=good_of l
 unfold sumS
 rw [e] at g ⊢
 have h0:=g.2 y0 (by simp)
 have h1:=g.2 y1 (by simp)
 have h2:=g.2 y2 (by simp)
 have h3:=g.2 y3 (by simp)
 have h4:=g.2 y4 (by simp)
 simp only [List.foldl,List.getD_cons_zero,List.getD_cons_succ,Go.RowKit.wrap64]
 omega
end Go.Proofs.Ytgocnchjpecafaa.ClockBase
