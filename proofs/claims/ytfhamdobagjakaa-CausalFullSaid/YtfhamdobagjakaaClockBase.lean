/- a part -/
import Derived.Test.YtfhamdobagjakaaWMore
import Derived.Test.YtfhamdobagjakaaProg
import Derived.Lib.SliceRun
import Derived.Lib.Walk
import Derived.Laws.CopyRow
import Derived.Deep.WholeRow
import Derived.Handy
namespace Go.Proofs.Ytfhamdobagjakaa.ClockBase
open Go.RowKit Go.Lib Go.Proofs.YtfhamdobagjakaaW.PrintWords Go.Proofs.YtfhamdobagjakaaW.PrintLast Go.Proofs.YtfhamdobagjakaaW.PrintMore
set_option linter.unusedVariables false
set_option linter.unusedSimpArgs false
def bad (n:Int):Bool:=decide (n<0) || decide (n > 1048576)
theorem bad_calls (n:Int) (w:World):Calls Try.prog 85 #[.int .i64 n] w λe w'=>e = .returned (.bool (bad n))/\∃ q,w'=w.drewN q:=by
 unfold bad
 by_cases h:n<0
 ·go_enter Try.func85,Try.ntmps85
  go_wp2
  all_goals (go_ret;exact ⟨by first|(simp_all;done)|(simp_all;omega),0,rfl⟩)
 ·go_enter Try.func85,Try.ntmps85
  go_wp2
  all_goals (go_ret;exact ⟨by first|(simp_all;done)|(simp_all;omega),0,rfl⟩)
theorem any_hit {l:List Int} {kk:Nat} (h:kk<l.length) (hb:bad (l.getD kk 0)=true):decide ((kk:Int)>=0)=l.any bad:=by
 rw [decide_eq_true (by omega)]
 refine(List.any_eq_true.2 ⟨l[kk],List.getElem_mem h,?_⟩).symm
 rw [List.getD_eq_getElem?_getD,List.getElem?_eq_getElem h] at hb
 exact hb
theorem any_miss {l:List Int} (hb:∀ j,j<l.length->bad (l.getD j 0)=false):decide ((-1:Int)>=0)=l.any bad:=by
 rw [decide_eq_false (by omega)]
 refine(List.any_eq_false.2 λx hx=>?_).symm
 obtain ⟨j,hj,rfl⟩:=List.mem_iff_getElem.1 hx
 have:=hb j hj
 rw [List.getD_eq_getElem?_getD,List.getElem?_eq_getElem hj] at this
 simpa using this
set_option maxHeartbeats 4000000 in
theorem idx_calls (a:Addr) (c:Nat) (l:List Int) (w:World) (hn:l.length<=9223372036854775807) (hc:∀ j,j<l.length->w.cell? (a.add j)=some (.int .i64 (l.getD j 0))) :
  Calls Try.prog 115 #[.slice (some a) l.length c,.func (.func 85) #[] #[]] w λe w'=>(∃ i:Int,e = .returned (.int .i64 i)/\decide (i>=0)=l.any bad)/\∃ q,w'=w.drewN q:=by
 have hcall:=bad_calls
 go_enter Try.func115,Try.ntmps115
 go_wp2
 go_loopg [5,8] l.length (λgg _ s8 wr=>∃ kk q:Nat,kk<=l.length/\l.length - kk<=gg/\s8 = .int .i64 kk/\wr=w.drewN q/\Aside (∀ j,j<kk->bad (l.getD j 0)=false))
 case atStart=>exact ⟨0,0,Nat.zero_le _,by omega,rfl,rfl,λj hj=>absurd hj (Nat.not_lt_zero _)⟩
 case round =>
  obtain ⟨kk,q,hkk,hg,rfl,rfl,A⟩:=hrel
  by_cases hlt:kk<l.length
  ·have hltz:(kk:Int)<(l.length:Int):=by omega
   have hcell:w.cell? (a.add kk)=some (.int .i64 (l.getD kk 0)):=hc kk (by omega)
   clear hc
   generalize hy:l.getD kk 0=y at hcell
   have B:Aside (l.getD kk 0=y):=hy
   clear hy
   have hcall:=hcall y
   cases hq:bad y with
   | true =>
    rw [hq] at hcall
    go_wp2_with (go_at_call 85;refine(hcall _).mono ?_;rintro e w' ⟨rfl,q',rfl⟩)
    go_ret
    exact ⟨⟨kk,rfl,any_hit hlt (by rw [B.out];exact hq)⟩,_,rfl⟩
   | false =>
    rw [hq] at hcall
    go_wp2_with (go_at_call 85;refine(hcall _).mono ?_;rintro e w' ⟨rfl,q',rfl⟩)
    go_roundg (l.length - (kk+1))
    case measure=>omega
    case rel =>
     refine ⟨kk+1,_,by omega,by omega,by go_num,rfl,(show Aside _ from λj hj=>?_)⟩
     by_cases e:j=kk
     ·subst e
      rw [B.out];exact hq
     ·exact A.out j (by omega)
  ·have hltz:¬ (kk:Int)<(l.length:Int):=by omega
   have:kk=l.length:=by omega
   subst this
   go_wp2
   go_ret
   exact ⟨⟨-1,rfl,any_miss A.out⟩,q,rfl⟩
theorem idx_empty (A:Option Addr) (c:Nat) (w:World):Calls Try.prog 115 #[.slice A 0 c,.func (.func 85) #[] #[]] w λe w'=>e = .returned (.int .i64 (-1))/\∃ q,w'=w.drewN q:=by
 go_enter Try.func115,Try.ntmps115
 go_wp2
 go_loopg [5,8] 0 (λgg _ s8 wr=>s8 = .int .i64 0/\wr=w)
 case atStart=>exact ⟨rfl,rfl⟩
 case round =>
  obtain ⟨rfl,rfl⟩:=hrel
  go_wp2
  go_ret
  exact ⟨rfl,0,rfl⟩
theorem cells_of {k:IntKind} {w:World} {A:Option Addr} {l:List Int} (h:Kd.C (Kd.int k) w A l.length l) (hn:0<l.length):∃ a,A=some a/\∀ j,j<l.length->w.cell? (a.add j)=some (.int k (l.getD j 0)):=by
 obtain ⟨a,ha,hc⟩:=h.2.2 hn
 refine ⟨a,ha,λj hj=>?_⟩
 obtain ⟨c,h1,h2,h3⟩:=hc j _ (List.getElem?_eq_getElem hj)
 have h2:c=[.int k l[j]]:=h2
 subst h2
 have h4:=h3 0 _ rfl
 have e:j*(Kd.int k).sz+0=j:=by show j*1+0=j;omega
 rw [e] at h4
 rw [h4,List.getD_eq_getElem?_getD,List.getElem?_eq_getElem hj]
 rfl
theorem idx_any (A:Option Addr) (c:Nat) (l:List Int) (w:World) (hr:Kd.C (Kd.int .i64) w A l.length l) :
  Calls Try.prog 115 #[.slice A l.length c,.func (.func 85) #[] #[]] w λe w'=>(∃ i:Int,e = .returned (.int .i64 i)/\decide (i>=0)=l.any bad)/\∃ q,w'=w.drewN q:=by
 cases l with
 | nil =>
  refine(idx_empty A c w).mono ?_
  rintro e w' ⟨rfl,q,rfl⟩
  exact ⟨⟨-1,rfl,rfl⟩,q,rfl⟩
 | cons x l =>
  obtain ⟨a,rfl,h⟩:=cells_of hr (by simp)
  exact idx_calls a c (x :: l) w hr.2.1 h
theorem contains_calls (A:Option Addr) (c:Nat) (l:List Int) (w:World) (hr:Kd.C (Kd.int .i64) w A l.length l) :
  Calls Try.prog 84 #[.slice A l.length c,.func (.func 85) #[] #[]] w λe w'=>e = .returned (.bool (l.any bad))/\∃ q,w'=w.drewN q:=by
 have hcall:=idx_any A c l w hr
 clear hr
 generalize l.any bad=b at hcall ⊢
 go_enter Try.func84,Try.ntmps84
 go_wp2_with (go_at_call 115;refine hcall.mono ?_;rintro e w' ⟨⟨i,rfl,hi⟩,q,rfl⟩)
 go_ret
 exact ⟨by rw [<-hi];rfl,q,rfl⟩
def okC (l:List Int):Bool:=decide (l.length<=5) && !l.any bad
theorem check_calls (A:Option Addr) (c:Nat) (l:List Int) (w:World) (hr:Kd.C (Kd.int .i64) w A l.length l) :
  Calls Try.prog 52 #[.slice A l.length c] w λe w'=>e = .returned (.int .i64 (if okC l=true then 0 else 1))/\∃ q,w'=w.drewN q:=by
 have hcall:=contains_calls A c l w hr
 clear hr
 by_cases h5:l.length<=5
 ·have h5':¬ ((5:Int)<(l.length:Int)):=by omega
  cases hb:l.any bad with
  | true =>
   have e:(if okC l=true then(0:Int) else 1)=1:=by simp [okC,hb]
   rw [e]
   rw [hb] at hcall
   go_enter Try.func52,Try.ntmps52
   go_wp2_with (go_at_call 84;refine hcall.mono ?_;rintro e w' ⟨rfl,q,rfl⟩)
   go_ret
   exact ⟨rfl,q,rfl⟩
  | false =>
   have e:(if okC l=true then(0:Int) else 1)=0:=by simp [okC,hb,h5]
   rw [e]
   rw [hb] at hcall
   go_enter Try.func52,Try.ntmps52
   go_wp2_with (go_at_call 84;refine hcall.mono ?_;rintro e w' ⟨rfl,q,rfl⟩)
   go_ret
   exact ⟨rfl,q,rfl⟩
 ·have h5':(5:Int)<(l.length:Int):=by omega
  have e:(if okC l=true then(0:Int) else 1)=1:=by simp [okC,h5]
  rw [e]
  go_enter Try.func52,Try.ntmps52
  go_wp2
  go_ret
  exact ⟨rfl,0,rfl⟩
def ofL (l:List Int):List Int:=if okC l=true then l++List.replicate (5 - l.length) 0 else List.replicate 5 0
theorem ofL_length (l:List Int):(ofL l).length=5:=by
 unfold ofL
 by_cases h:okC l=true
 ·rw [if_pos h]
  have:l.length<=5:=by
   unfold okC at h
   simp at h
   exact h.1
  simp
  omega
 ·rw [if_neg h]
  simp
def enc5 (f:List Int):Value:=.agg (f.map (Value.int .i64)).toArray
theorem five {f:List Int} (h:f.length=5):∃ y0 y1 y2 y3 y4,f=[y0,y1,y2,y3,y4]:=by
 match f,h with
 | [y0,y1,y2,y3,y4],_=>exact ⟨y0,y1,y2,y3,y4,rfl⟩
theorem copy_run (A:Option Addr) (c:Nat) (l:List Int) (W:World) (g:Nat) (hr:Kd.C (Kd.int .i64) W A l.length l) (h5:l.length<=5) (hg:W.heap[g]? = some (.cells #[.int .i64 0,.int .i64 0,.int .i64 0,.int .i64 0,.int .i64 0] 132 (0,0))) :
  (Builtin.copy_ #[55,56] 3 #[.slice (some ⟨g,0,none⟩) 5 5,.slice A l.length c]).run Try.prog W = .ok (goInt l.length) (W.setRow g ((l++List.replicate (5 - l.length) 0).map (Value.int .i64)).toArray):=by
 have hu:Try.prog.underlying 55=some (.slice 3):=by kernel_rfl
 have hs:(Try.prog.info? 3).map (·.size)=some 1:=by kernel_rfl
 cases l with
 | nil =>
  have e:=run_copy_none (P:=Try.prog) W 55 56 3 3 (some ⟨g,0,none⟩) A 5 5 0 c hu hs rfl
  have ex:((([]:List Int)++List.replicate (5 - ([]:List Int).length) 0).map (Value.int .i64)).toArray=#[.int .i64 0,.int .i64 0,.int .i64 0,.int .i64 0,.int .i64 0]:=rfl
  rw [ex,setRow_self W g _ _ _ hg]
  exact e
 | cons x l =>
  obtain ⟨a,rfl,h⟩:=cells_of hr (by simp)
  have hmin:Nat.min (x :: l).length 5=(x :: l).length:=Nat.min_eq_left h5
  have e:=run_copy_row (P:=Try.prog) W 55 56 3 3 g 0 5 5 a (x :: l).length c _ _ ((x :: l).map (Value.int .i64)) hu hs hg (by rw [hmin,List.length_map]) (λj v hj=>by
   rw [List.getElem?_map] at hj
   obtain ⟨y,hy,rfl⟩:=Option.map_eq_some_iff.1 hj
   have hjl:j<(x :: l).length:=by
    by_cases hjl:j<(x :: l).length
    ·exact hjl
    ·rw [List.getElem?_eq_none (by omega)] at hy
     cases hy
   rw [h j hjl,List.getD_eq_getElem?_getD,hy]
   rfl) (by rw [List.length_map];simpa using h5) (λv hv=>by
   obtain ⟨y,_,rfl⟩:=List.mem_map.1 hv
   rfl)
  rw [List.length_map] at e
  have ex:∀ (l:List Int),l.length<=4->(((x :: l)++List.replicate (5 - (x :: l).length) 0).map (Value.int .i64)).toArray=((#[Value.int .i64 0,.int .i64 0,.int .i64 0,.int .i64 0,.int .i64 0]:Array Value).toList.take 0++(x :: l).map (Value.int .i64)++(#[Value.int .i64 0,.int .i64 0,.int .i64 0,.int .i64 0,.int .i64 0]:Array Value).toList.drop (0+(x :: l).length)).toArray:=by
   intro l h4
   match l,h4 with
   | [],_=>rfl
   | [_],_=>rfl
   | [_,_],_=>rfl
   | [_,_,_],_=>rfl
   | [_,_,_,_],_=>rfl
  rw [ex l (by rw [List.length_cons] at h5;omega)]
  exact e
def zeros5:Obj:=.cells #[.int .i64 0,.int .i64 0,.int .i64 0,.int .i64 0,.int .i64 0] 132
theorem drewN_setRow (w:World) (q g:Nat) (cs:Array Value):(w.drewN q).setRow g cs=(w.setRow g cs).drewN q:=rfl
theorem alloc_last (w:World) (o:Obj):(w.alloc o).heap[w.heap.size]? = some o:=(MapKept.heap_alloc w o).1
set_option maxHeartbeats 4000000 in
theorem of_calls (A:Option Addr) (c:Nat) (l:List Int) (w:World) (hr:Kd.C (Kd.int .i64) w A l.length l) :
  Calls Try.prog 86 #[.slice A l.length c] w λe w'=>e = .returned (enc5 (ofL l))/\Below w.heap.size w w':=by
 have hcall:=λW (hb:Below w.heap.size w W)=>check_calls A c l W (Kd.C_below hr hb)
 by_cases hk:okC l=true
 ·have h5:l.length<=5:=by
   unfold okC at hk
   simp at hk
   exact hk.1
  have e:ofL l=l++List.replicate (5 - l.length) 0:=by unfold ofL;rw [if_pos hk]
  obtain ⟨y0,y1,y2,y3,y4,e5⟩:=five (ofL_length l)
  rw [e5]
  rw [e] at e5
  rw [if_pos hk] at hcall
  have hcopy:∀ q,(Builtin.copy_ #[55,56] 3 #[.slice (some ⟨w.heap.size+1,0,none⟩) 5 5,.slice A l.length c]).run Try.prog (((w.alloc (.cells #[.int .i64 0,.int .i64 0,.int .i64 0,.int .i64 0,.int .i64 0] 132)).alloc (.cells #[.int .i64 0,.int .i64 0,.int .i64 0,.int .i64 0,.int .i64 0] 132)).drewN q) = .ok (goInt l.length) (((w.alloc (.cells #[.int .i64 0,.int .i64 0,.int .i64 0,.int .i64 0,.int .i64 0] 132)).alloc (.cells #[.int .i64 y0,.int .i64 y1,.int .i64 y2,.int .i64 y3,.int .i64 y4] 132)).drewN q):=by
   intro q
   have hsz:(w.alloc zeros5).heap.size=w.heap.size+1:=by simp
   have h1:=copy_run A c l (((w.alloc zeros5).alloc zeros5).drewN q) (w.heap.size+1) (Kd.C_drewN (Kd.C_alloc (Kd.C_alloc hr _) _) q) h5 (by
    show((w.alloc zeros5).alloc zeros5).heap[w.heap.size+1]? = _
    rw [<-hsz]
    exact alloc_last _ _)
   rw [drewN_setRow,<-hsz,e5] at h1
   have h2:((w.alloc zeros5).alloc zeros5).setRow (w.alloc zeros5).heap.size ([y0,y1,y2,y3,y4].map (Value.int .i64)).toArray=(w.alloc zeros5).alloc (.cells #[.int .i64 y0,.int .i64 y1,.int .i64 y2,.int .i64 y3,.int .i64 y4] 132):=World.setRow_alloc_new _ _ _ _
   rw [h2,hsz] at h1
   exact h1
  clear e e5 hr
  go_enter Try.func86,Try.ntmps86
  go_wp2_with (go_at_call 52;refine(hcall _ ?_).mono ?_;(case refine_1=>repeat' (first|(with_reducible exact Below.refl _ _)|(with_reducible refine pw_below_drewN ?_ _)|(with_reducible refine below_alloc ?_ _)));rintro e w' ⟨rfl,q,rfl⟩)
  go_returns
  refine ⟨rfl,?_⟩
  repeat' (first|(with_reducible exact Below.refl _ _)|(with_reducible exact Nat.le_refl _)|(with_reducible refine Below.setCell ?_ ?_ _)|(with_reducible refine pw_below_drewN ?_ _)|(with_reducible refine below_alloc ?_ _))
 ·have e:ofL l=[0,0,0,0,0]:=by unfold ofL;rw [if_neg hk];rfl
  rw [e]
  rw [if_neg hk] at hcall
  clear hr
  go_enter Try.func86,Try.ntmps86
  go_wp2_with (go_at_call 52;refine(hcall _ ?_).mono ?_;(case refine_1=>repeat' (first|(with_reducible exact Below.refl _ _)|(with_reducible refine pw_below_drewN ?_ _)|(with_reducible refine below_alloc ?_ _)));rintro e w' ⟨rfl,q,rfl⟩)
  go_returns
  refine ⟨rfl,?_⟩
  repeat' (first|(with_reducible exact Below.refl _ _)|(with_reducible exact Nat.le_refl _)|(with_reducible refine Below.setCell ?_ ?_ _)|(with_reducible refine pw_below_drewN ?_ _)|(with_reducible refine below_alloc ?_ _))
end Go.Proofs.Ytfhamdobagjakaa.ClockBase
