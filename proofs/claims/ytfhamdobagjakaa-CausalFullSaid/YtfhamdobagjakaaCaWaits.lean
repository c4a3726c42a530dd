/- a part -/
import Derived.Test.YtfhamdobagjakaaCaTell
import Derived.Test.YtfhamdobagjakaaAppEv
import Derived.LoopTactic
import Derived.Test.YtfhamdobagjakaaPCax7
namespace Go.Proofs.Ytfhamdobagjakaa.Cau
open Go.RowKit Go.Proofs.YtfhamdobagjakaaW.PrintWords Go.Proofs.YtfhamdobagjakaaW.PrintLast Go.Proofs.YtfhamdobagjakaaW.PrintMore Go.Proofs.Ytfhamdobagjakaa.Hand Go.Proofs.Ytfhamdobagjakaa.Cards Go.Proofs.Ytfhamdobagjakaa.PCa Go.Proofs.Ytfhamdobagjakaa.DotMap
set_option linter.unusedVariables false
set_option linter.unusedSimpArgs false
section
variable {w0 W w W1 W2 : World} {g bm clk : Nat} {X : Nat -> Prop} {c : List Int} {es : List En} {ok ok' : Nat -> Prop} {x : Ev} {v : Value} {Ap Ae Ac Ac1 : Option Addr} {cp ce cc cc1 : Nat}
abbrev rawE (es:List En):Array MapEntry:=((es.map En.ent).map Ent.raw).toArray
theorem raw_mem {m:MapEntry} (h:m ∈ (rawE es).toList):∃ e ∈ es,m=Ent.raw e.ent:=by
 simp only [rawE,List.map_map,List.mem_map,Function.comp] at h
 obtain ⟨e,he,rfl⟩:=h
 exact ⟨e,he,rfl⟩
theorem raw_in {e:En} (h:e ∈ es):Ent.raw e.ent ∈ (rawE es).toList:=by
 simp only [rawE,List.map_map,List.mem_map,Function.comp]
 exact ⟨e,h,rfl⟩
theorem raw_born:(rawE es).toList.map (·.born)=es.map (·.b):=by
 simp [rawE,Ent.raw,En.ent,Function.comp_def]
theorem eqv_dot {x y:Ev} (h:Srt.eqv event_Order.lt x y=true):dotE x=dotE y:=by
 simp only [Srt.eqv,Bool.and_eq_true,Bool.not_eq_true'] at h
 have h1:=h.1
 have h2:=h.2
 have l1:=event_Order.lt_iff x y
 have l2:=event_Order.lt_iff y x
 rw [h1] at l1
 rw [h2] at l2
 simp only [Bool.false_eq_true,false_iff,not_or,not_and] at l1 l2
 unfold dotE
 by_cases q:ClockBase.sumS x.f1=ClockBase.sumS y.f1
 ·have a:=l1.2 q
  have b:=l2.2 q.symm
  by_cases r:x.f0.f0=y.f0.f0
  ·have a2:=a.2 r
   have b2:=b.2 r.symm
   rw [r,show x.f0.f1=y.f0.f1 by omega]
  ·exact absurd (show x.f0.f0=y.f0.f0 by omega) r
 ·exact absurd (show ClockBase.sumS x.f1=ClockBase.sumS y.f1 by omega) q
theorem filter_perm {l m:List Ev} {p:Ev->Bool} (h:l.Perm m) (hk:(l.map dotE).Nodup) (hp:∀ x y,p x=true->p y=true->dotE x=dotE y):l.filter p=m.filter p:=by
 have hf:=h.filter p
 have hn:((l.filter p).map dotE).Nodup:=hk.sublist (List.filter_sublist.map _)
 have hall:∀ x ∈ l.filter p,∀ y ∈ l.filter p,dotE x=dotE y:=λx hx y hy=>hp x y (List.mem_filter.1 hx).2 (List.mem_filter.1 hy).2
 match hA:l.filter p with
 | []=>rw [hA] at hf;exact(List.nil_perm.1 hf).symm
 | [a]=>rw [hA] at hf;exact List.singleton_perm.1 hf
 | a :: b :: r =>
  rw [hA] at hn hall
  simp only [List.map_cons,List.nodup_cons,List.mem_cons,not_or] at hn
  exact absurd (hall a (by simp) b (by simp)) hn.1.1
instance evInh:Inhabited Ev:=⟨z59⟩
theorem ord_perm {l m:List Ev} (h:l.Perm m) (hk:(l.map dotE).Nodup):Srt.ordL event_Order.lt l=Srt.ordL event_Order.lt m:=by
 refine Srt.sorted_once event_Order.swo _ _ (Srt.ordL_sorted event_Order.swo l) (Srt.ordL_sorted event_Order.swo m) (λz=>?_)
 rw [Srt.ordL_filter event_Order.swo,Srt.ordL_filter event_Order.swo]
 exact filter_perm h hk (λx y hx hy=>(eqv_dot hx).symm.trans (eqv_dot hy))
theorem lit1_F {b:Nat} (hb:W.heap[b]? = some (.cells (evC x Ap cp Ae ce) 59 (0,0))) (hx:EvR W ok x Ap cp Ae ce):Kd.F k59 W (λk=>ok k\/k=b) (some ⟨b,0,none⟩) 1 [x]:=by
 intro W' hW
 have g1:=(hW b (.inr rfl) (blk_lt hb)).trans hb
 have hx':=hx.step (W1:=W') (λk hk hlt=>hW k (.inl hk) hlt)
 refine ⟨rfl,by simp,λ_=>⟨_,rfl,λj p hj=>?_⟩⟩
 rcases j with _|j
 ·simp only [List.getElem?_cons_zero,Option.some.injEq] at hj
  subst hj
  refine ⟨_,rfl,k59_mk W' x hx'.lp (Kd.F_now hx'.fp) hx'.le (Kd.F_now hx'.fe),λi z hz=>?_⟩
  rcases i with _|_|_|_|i
  ·simp only [List.getElem?_cons_zero,Option.some.injEq] at hz
   subst hz
   rw [add_plain]
   exact(blk_cell g1 _).trans rfl
  ·simp only [Nat.zero_add,List.getElem?_cons_succ,List.getElem?_cons_zero,Option.some.injEq] at hz
   subst hz
   rw [add_plain]
   exact(blk_cell g1 _).trans rfl
  ·simp only [Nat.reduceAdd,List.getElem?_cons_succ,List.getElem?_cons_zero,Option.some.injEq] at hz
   subst hz
   rw [add_plain]
   exact(blk_cell g1 _).trans rfl
  ·simp only [Nat.reduceAdd,List.getElem?_cons_succ,List.getElem?_cons_zero,Option.some.injEq] at hz
   subst hz
   rw [add_plain]
   exact(blk_cell g1 _).trans rfl
  ·simp at hz
 ·simp at hj
structure WL (w1 wr:World) (bm gi:Nat) (es:List En) (clk:Nat) (hd:List En) (v:Value):Prop where
 below:Below gi w1 wr
 it:wr.heap[gi]? = some (.mapIter (some bm) clk (hd.map (·.b)).toArray clk)
 row:Kd.N k59 59 wr (gi+1) (λk=>gi<k) v (hd.map (·.x))
 sub:∀ e ∈ hd,e ∈ es
 nd:(hd.map (·.b)).Nodup
theorem it_same {w:World} {i:Nat} {o:Obj} (h:w.heap[i]? = some o) (o':Obj):(ChangeMaps.setBlock w i o').heap[i]? = some o':=by
 unfold ChangeMaps.setBlock
 show(w.heap.setIfInBounds i o')[i]? = some o'
 rw [Array.getElem?_setIfInBounds_self,if_pos (blk_lt h)]
theorem it_other {w:World} {i k:Nat} {o:Obj} (h:w.heap[i]? = some o) (o':Obj) (hk:k≠i):(ChangeMaps.setBlock w i o').heap[k]? = w.heap[k]?:=by
 unfold ChangeMaps.setBlock
 show(w.heap.setIfInBounds i o')[k]? = w.heap[k]?
 rw [Array.getElem?_setIfInBounds_ne (λe=>hk e.symm)]
theorem nodup_of_map {α β:Type} {f:α->β} {l:List α} (h:(l.map f).Nodup):l.Nodup:=List.Pairwise.of_map f (λa b q e=>q (congrArg f e)) h
theorem nodup_le:∀ (l m:List Nat),l.Nodup->(∀ x ∈ l,x ∈ m)->l.length<=m.length
 | [],_,_,_=>Nat.zero_le _
 | x :: l,m,hn,hs=>by
  have hx:=hs x (List.mem_cons_self ..)
  have hn':=List.nodup_cons.1 hn
  have ih:=nodup_le l (m.erase x) hn'.2 (λy hy=>(List.mem_erase_of_ne (λe:y=x=>hn'.1 (by rw [<-e];exact hy))).2 (hs y (List.mem_cons_of_mem _ hy)))
  rw [List.length_erase_of_mem hx] at ih
  have:=List.length_pos_of_mem hx
  simp only [List.length_cons]
  omega
theorem WL.perm {w1 wr:World} {bm gi:Nat} {hd:List En} {v:Value} (h:WL w1 wr bm gi es clk hd v) (hn:(es.map (·.b)).Nodup) (h0:(leftOf (rawE es) (hd.map (·.b)).toArray).size=0):hd.Perm es:=by
 refine(List.perm_ext_iff_of_nodup (nodup_of_map h.nd) (nodup_of_map hn)).2 (λe=>⟨h.sub e,λhe=>?_⟩)
 have hb:e.b ∈ hd.map (·.b):=by
  refine Classical.byContradiction λhc=>?_
  have hm:Ent.raw e.ent ∈ (leftOf (rawE es) (hd.map (·.b)).toArray).toList:=by
   unfold leftOf
   rw [Array.toList_filter]
   refine List.mem_filter.2 ⟨raw_in he,?_⟩
   have hc2:¬ ∃ a,a ∈ hd/\a.b=e.b:=λ⟨a,h1,h2⟩=>hc (List.mem_map.2 ⟨a,h1,h2⟩)
   simpa [Ent.raw,En.ent] using λa h1 h2=>hc2 ⟨a,h1,h2⟩
  have:=List.length_pos_of_mem hm
  rw [Array.length_toList] at this
  omega
 obtain ⟨e',he',e2⟩:=List.mem_map.1 hb
 have:e'=e:=by
  have h1:=h.sub e' he'
  clear h h0 hb he'
  induction es with
  | nil=>cases he
  | cons a l ih =>
   simp only [List.map_cons,List.nodup_cons] at hn
   rcases List.mem_cons.1 he with q1|q1
   ·rcases List.mem_cons.1 h1 with q2|q2
    ·rw [q1,q2]
    ·rw [<-q1] at hn
     exact absurd (List.mem_map.2 ⟨e',q2,e2⟩) hn.1
   ·rcases List.mem_cons.1 h1 with q2|q2
    ·rw [<-q2] at hn
     exact absurd (List.mem_map.2 ⟨e,q1,e2.symm⟩) hn.1
    ·exact ih hn.2 q1 q2
 exact this ▸ he'
theorem waits_app {w1 w4 w5 w6 w7:World} {gi:Nat} {seen:Array Nat} {lx:List Ev} {A3 A2 A4:Option Addr} {c3 c2 c4:Nat} (B5:Below w4.heap.size w4 w5) (B56:Below w5.heap.size w5 w6) (hw7:w7=w6.alloc (.cells (evC x A2 c2 A4 c4) 59)) (IT4:w4.heap[gi]? = some (.mapIter (some bm) clk seen clk)) (BW:Below gi w1 w4)
  (ROW:Kd.N k59 59 w4 (gi+1) (λk=>gi<k) (.slice A3 lx.length c3) lx)
  (F2:True/\x.f1.length<=c2/\Kd.F KI w6 (λk=>¬ k<w5.heap.size) A2 x.f1.length x.f1) (F3:True/\x.f2.length<=c4/\Kd.F k111 w6 (λk=>¬ k<w5.heap.size) A4 x.f2.length x.f2) (hl:lx.length<=1000000) :
  ∃ v8 w8,(Builtin.append_ #[50,50] 50 #[.slice A3 lx.length c3,.slice (some ⟨w6.heap.size,0,none⟩) 1 1]).run Try.prog w7 = .ok v8 w8/\Kd.N k59 59 w8 (gi+1) (λk=>gi<k) v8 (lx++[x])/\Below gi w1 w8/\w8.heap[gi]? = some (.mapIter (some bm) clk seen clk):=by
 have hgi:=blk_lt IT4
 have B6:=below_step B5 B56
 have B67:Below w4.heap.size w4 w7:=by rw [hw7];exact below_alloc B6 _
 have Bw6:Below w6.heap.size w6 w7:=by rw [hw7];exact below_alloc (Below.refl _ _) _
 have x7:w7.heap[w6.heap.size]? = some (.cells (evC x A2 c2 A4 c4) 59 (0,0)):=by rw [hw7];exact heap_alloc_new w6 _
 have s5:=B5.size
 have s6:=B56.size
 have s7:=Bw6.size
 have hE:EvR w6 (λk=>¬ k<w5.heap.size) x A2 c2 A4 c4:=⟨F2.2.1,F2.2.2,F3.2.1,F3.2.2⟩
 have HF:=lit1_F x7 (hE.on Bw6)
 have HO:=Kd.N_step ROW (w1:=w7) (λk _ hlt=>B67.block k hlt)
 have hlt:=Kd.N_lt ROW
 have hbs:=Kd.N_base ROW
 obtain ⟨v8,w8,hr,hN,hg,hat⟩:=N_append_run (P:=Try.prog) (ty:=50) (c:=1) (m:=1) Try.underlying50 info59 rfl (by decide) (by decide) HO (Kd.F_mono HF (ok':=λk=>¬ k<w5.heap.size) (λk hk=>hk.elim id (λe=>by omega))) (λad e _=>by injection e with e;rw [<-e];show ¬ w6.heap.size<w5.heap.size;omega)
  (λk hk=>⟨by show gi<k;omega,λe=>by have:=hlt k e.symm;omega⟩) (λk hk=>by show gi<k;omega) (by omega) (by omega)
 refine ⟨v8,w8,hr,hN,?_,?_⟩
 ·have B17:=below_then BW (Nat.le_of_lt hgi) B67
  refine ⟨hg.os.trans B17.os,hg.tape.trans B17.tape,hg.output.trans B17.output,Nat.le_trans B17.size hg.size,λk hk=>(hg.block k (by omega) (λe=>by have:=hbs k e.symm;omega)).trans (B17.block k hk)⟩
 ·exact(hg.block gi (by omega) (λe=>by have:=hbs gi e.symm;omega)).trans ((B67.block gi hgi).trans IT4)
set_option maxHeartbeats 16000000 in
set_option maxRecDepth 100000 in
theorem waits_calls (h:Bf w0 W g bm X Ac cc c es clk) (hX:∀ k,X k->k<W.heap.size) (hlen:∀ e ∈ es,e.x.f1.length<=1000/\e.x.f2.length<=100000) (hn:es.length<=1000000):Calls Try.prog 24 #[.pointer (some ⟨g,0,none⟩)] W λe w'=>∃ v,e = .returned v/\Kd.N k59 59 w' W.heap.size (λk=>W.heap.size<=k) v (Srt.ordL event_Order.lt (es.map (·.x)))/\Below W.heap.size W w':=by
 have H:=Aside0.mk h
 have HX:=Aside0.mk hX
 clear h hX
 go_enter Try.func24,Try.ntmps24
 go_upto_region 4 with (first|(go_at_call 54;(with_reducible refine Calls.mono (is_calls H.out) ?_);rintro e w1 ⟨rfl,hb⟩;have HB:=Aside0.mk hb;have q_:=H.out.on hb;clear H hb;have H:=Aside0.mk q_;clear q_))
 have c1:=H.out.c1
 have hr:=run_range_map (P:=Try.prog) w1 88 54 59 bm _ clk Try.underlying88 H.out.map
 have lg:=blk_lt H.out.blk
 have lm:=blk_lt H.out.map
 have WLs:=Aside0.mk (show WL w1 (w1.alloc (.mapIter (some bm) clk #[] clk)) bm w1.heap.size es clk [] (.slice none 0 0) from
  ⟨below_alloc (Below.refl _ _) _,heap_alloc_new w1 _,Kd.N_nil _ _ _ _ _,(λe he=>by cases he),List.nodup_nil⟩)
 have HOLD:=Aside0.mk H.out.old
 have HNOD:=Aside0.mk H.out.nod
 have HKEY:=Aside0.mk H.out.key
 have HLEN:=Aside0.mk hlen
 have HN:=Aside0.mk hn
 clear hlen hn HX
 go_upto_region 5 with (fail)
 clear hr c1
 obtain ⟨gi,hgi⟩:∃ gi,gi=w1.heap.size:=⟨_,rfl⟩
 have GI:=Aside0.mk (show g<gi/\bm<gi/\W.heap.size<=gi/\gi=w1.heap.size from ⟨by omega,by omega,by rw [hgi];exact HB.out.size,hgi⟩)
 rw [<-hgi] at WLs ⊢
 generalize w1.alloc (.mapIter (some bm) clk #[] clk)=w2 at WLs ⊢
 clear hgi lg lm
 go_loopg [3] (leftOf (rawE es) #[]).size (λkn_ v3 wr=>∃ hd:List En,(leftOf (rawE es) (hd.map (·.b)).toArray).size=kn_/\Aside0 (WL w1 wr bm gi es clk hd v3))
 case atStart=>exact ⟨[],rfl,WLs⟩
 case round =>
  clear WLs
  obtain ⟨hd,hk,WLr⟩:=hrel
  have HR:=Aside0.mk (H.out.on (by have h_:=WLr.out.below;rw [GI.out.2.2.2] at h_;exact h_))
  rcases run_next_at (P:=Try.prog) wr 0 gi bm clk clk (hd.map (·.b)).toArray (rawE es) clk WLr.out.it HR.out.map (λm hm=>by obtain ⟨e,he,rfl⟩:=raw_mem hm;exact HOLD.out e he) (Nat.le_refl _) with ⟨h0,hnx⟩|⟨m,hm,w3,hw3,hnx⟩
  ·have hp:=WLr.out.perm HNOD.out h0
   have hpx:(hd.map (·.x)).Perm (es.map (·.x)):=hp.map _
   have hkd:((hd.map (·.x)).map dotE).Nodup:=by
    rw [List.map_map]
    exact((hp.map (λe=>dotE e.x)).nodup_iff).2 HKEY.out
   have ho:=ord_perm hpx hkd
   have hln:(hd.map (·.x)).length<=1000000:=by rw [hpx.length_eq,List.length_map];exact HN.out
   obtain ⟨lx,hlx⟩:∃ lx,lx=hd.map (·.x):=⟨_,rfl⟩
   have hrow:=WLr.out.row
   rw [<-hlx] at hrow ho hln
   have hf:event_Order.f lx=some (Srt.ordL event_Order.lt (es.map (·.x))):=by unfold event_Order.f;rw [if_pos (by omega),ho]
   obtain ⟨A3,c3,e3⟩:=Kd.N_slice hrow
   subst e3
   have hc:=event_Order.calls (λk=>gi<k) A3 c3 lx _ wr (Kd.V_mk (N_foot hrow).2.1 (N_foot hrow).2.2) hf
   have HC:=Aside0.mk hc
   clear hc hf ho hln hkd hpx hp h0 hrow hlx
   go_upto_region 8 with (fail)
   go_wp2_with (first|(go_at_call 61;(with_reducible refine Calls.mono HC.out ?_);rintro e w4 ⟨v0,rfl,hN,hb⟩;have HN4:=Aside0.mk hN;have HB4:=Aside0.mk hb;clear hN hb))
   go_ret
   have hw:=WLr.out.below
   have gi3:=GI.out.2.2.1
   rw [GI.out.2.2.2] at hw
   have hb4:=below_step HB.out (below_step hw HB4.out)
   have szr:=hw.size
   have gi4:=GI.out.2.2.2
   exact ⟨v0,rfl,Kd.N_mono (Kd.N_lower HN4.out (by omega)) (λk hk=>by rcases hk with hk|hk<;>omega),hb4⟩
  ·have hm1:=mem_left hm
   obtain ⟨e,he,rfl⟩:=raw_mem hm1.1
   have hev:=HR.out.evs e he
   obtain ⟨Ap,cp,Ae,ce,ev,hER⟩:=hev
   have hsh:=left_shrinks (rawE es) (hd.map (·.b)).toArray _ hm
   have enew:(hd.map (·.b)).toArray.push (Ent.raw e.ent).born=((hd++[e]).map (·.b)).toArray:=by
    rw [List.map_append]
    apply Array.ext'
    simp [Ent.raw,En.ent]
   rw [enew] at hnx hsh
   rw [show(Ent.raw e.ent).key=dotV (dotE e.x) from rfl,show(Ent.raw e.ent).val=evV e.x Ap cp Ae ce from ev] at hnx
   have hw3h:w3.heap=wr.heap:=by rcases hw3 with rfl|rfl<;>rfl
   have hit3:w3.heap[gi]? = some (.mapIter (some bm) clk (hd.map (·.b)).toArray clk):=by rw [hw3h];exact WLr.out.it
   obtain ⟨w4,hw4⟩:∃ w4,w4=ChangeMaps.setBlock w3 gi (.mapIter (some bm) clk ((hd++[e]).map (·.b)).toArray clk):=⟨_,rfl⟩
   have hit4:w4.heap[gi]? = some (.mapIter (some bm) clk ((hd++[e]).map (·.b)).toArray clk):=by rw [hw4];exact it_same hit3 _
   have hch4:∀ k,k≠gi->w4.heap[k]? = wr.heap[k]?:=λk hk=>by rw [hw4,it_other hit3 _ hk,hw3h]
   have hsz4:w4.heap.size=wr.heap.size:=by rw [hw4];simp [ChangeMaps.setBlock,hw3h]
   have hb4:Below gi wr w4:=by
    refine ⟨?_,?_,?_,Nat.le_of_eq hsz4.symm,λk hk=>hch4 k (by omega)⟩
    all_goals (rw [hw4];rcases hw3 with rfl|rfl<;>rfl)
   rw [<-hw4] at hnx
   have hmap4:MapIs w4 bm (es.map En.ent) clk:=by
    have h_:=HR.out.map
    unfold MapIs at *
    rw [hch4 bm (by have:=GI.out.2.1;omega)]
    exact h_
   have hen:=run_entry_at (P:=Try.prog) w4 gi bm clk (hd.map (·.b)).toArray (rawE es) clk (Ent.raw e.ent) (by rw [enew];exact hit4) hmap4 hm1.1 (by rw [raw_born];exact HNOD.out)
   rw [show(Ent.raw e.ent).key=dotV (dotE e.x) from rfl,show(Ent.raw e.ent).val=evV e.x Ap cp Ae ce from ev] at hen
   have hrow4:=Kd.N_step WLr.out.row (w1:=w4) (λk hk _=>hch4 k (by omega))
   have ER4:=Aside0.mk (show EvR w4 (λk=>¬ X k/\k≠gi/\k<gi) e.x Ap cp Ae ce from by
    have h1:=H.out.evs e he
    obtain ⟨Ap',cp',Ae',ce',ev',hR'⟩:=h1
    have e2:=ev.symm.trans ev'
    simp only [Value.agg.injEq,Array.mk.injEq,List.cons.injEq,Value.slice.injEq,true_and,and_true] at e2
    obtain ⟨⟨r1,r2⟩,r3,r4⟩:=e2
    subst r1 r2 r3 r4
    have gs:=GI.out.2.2.2
    have hw:=WLr.out.below
    refine(EvR.mono (⟨hR'.lp,Kd.F_bound hR'.fp,hR'.le,Kd.F_bound hR'.fe⟩:EvR w1 (λk=>¬ X k/\k<w1.heap.size) e.x Ap cp Ae ce) (ok':=λk=>¬ X k/\k≠gi/\k<gi) (λk hk=>⟨hk.1,by omega,by omega⟩)).step (λk hk hlt=>?_)
    rw [hch4 k hk.2.1]
    exact hw.block k hk.2.2)
   have HNEW:=Aside0.mk (show(∀ e' ∈ hd++[e],e' ∈ es)/\((hd++[e]).map (·.b)).Nodup from ⟨λe' h'=>(List.mem_append.1 h').elim (WLr.out.sub e') (λh'=>by rw [List.mem_singleton.1 h'];exact he),by
    rw [List.map_append,List.nodup_append]
    refine ⟨WLr.out.nd,by simp,λa ha b hb' e2=>?_⟩
    have hb2:b=e.b:=by simpa using hb'
    subst hb2
    subst e2
    have hc:=hm1.2
    have:(hd.map (·.b)).toArray.contains e.b=true:=by simpa using List.mem_map.1 ha
    rw [show(Ent.raw e.ent).born=e.b from rfl] at hc
    rw [this] at hc
    cases hc⟩)
   have LEN:=Aside0.mk (HLEN.out e he)
   have LHD:=Aside0.mk (show hd.length<=1000000 by
    have h1:=nodup_le (hd.map (·.b)) (es.map (·.b)) WLr.out.nd (λy hy=>by
     obtain ⟨a,ha,rfl⟩:=List.mem_map.1 hy
     exact List.mem_map.2 ⟨a,WLr.out.sub a ha,rfl⟩)
    rw [List.length_map,List.length_map] at h1
    have:=HN.out
    omega)
   have BW:=Aside0.mk (show Below gi w1 w4 from ⟨hb4.os.trans WLr.out.below.os,hb4.tape.trans WLr.out.below.tape,hb4.output.trans WLr.out.below.output,Nat.le_trans WLr.out.below.size hb4.size,λk hk=>(hb4.block k hk).trans (WLr.out.below.block k hk)⟩)
   have IT4:=Aside0.mk hit4
   have ROW:=Aside0.mk hrow4
   have SH:=Aside0.mk hsh
   obtain ⟨lx,hlx⟩:∃ lx,lx=hd.map (·.x):=⟨_,rfl⟩
   have LX:=Aside0.mk hlx
   rw [<-hlx] at ROW
   obtain ⟨A3,c3,e3⟩:=Kd.N_slice ROW.out
   subst e3
   clear hm1 hER hsh enew hw3h hit3 hit4 hch4 hsz4 hb4 hw4 hmap4 hrow4 hm hw3 WLr HR ev hlx
   go_upto_region 7 with (fail)
   have b5:=below_alloc (Below.refl w4.heap.size w4) (.cells (evC e.x Ap cp Ae ce) 59)
   have x5:=heap_alloc_new w4 (.cells (evC e.x Ap cp Ae ce) 59)
   have y0:=(blk_cell x5 0).trans (rfl:_=some (Value.int .i64 e.x.f0.f0))
   have y1:=(blk_cell x5 1).trans (rfl:_=some (Value.int .i64 e.x.f0.f1))
   have y2:=(blk_cell x5 2).trans (rfl:_=some (Value.slice Ap e.x.f1.length cp))
   have y3:=(blk_cell x5 3).trans (rfl:_=some (Value.slice Ae e.x.f2.length ce))
   have ER5:=Aside0.mk (ER4.out.on b5)
   have B5:=Aside0.mk b5
   have OWN:=Aside0.mk (own_f e.x LEN.out.1 LEN.out.2)
   clear ER4 b5 x5 hen hnx
   obtain ⟨g5,hg5⟩:∃ g5,g5=w4.heap.size:=⟨_,rfl⟩
   rw [<-hg5] at y0 y1 y2 y3 ⊢
   generalize w4.alloc (.cells #[.int .i64 e.x.f0.f0,.int .i64 e.x.f0.f1,.slice Ap e.x.f1.length cp,.slice Ae e.x.f2.length ce] 59)=w5 at y0 y1 y2 y3 ER5 B5 ⊢
   have G5:=Aside0.mk hg5
   clear hg5
   go_wp2_with (first|(go_at_call 58;(with_reducible refine Calls.mono (causal_own.calls e.x.f0.f0 e.x.f0.f1 Ap cp e.x.f1 Ae ce e.x.f2 e.x.f0.f0 e.x.f0.f1 e.x.f1 e.x.f2 w5 (Kd.F_now ER5.out.fp) ER5.out.lp (Kd.F_now ER5.out.fe) ER5.out.le OWN.out) ?_);rintro e_ w6 ⟨v2,v3,rfl,hr2,hr3,hb⟩;obtain ⟨A2,c2,e2⟩:=Kd.R_slice hr2;obtain ⟨A4,c4,e3⟩:=Kd.R_slice hr3;subst e2;subst e3;have B6:=Aside0.mk (below_step B5.out hb);have F2:=Aside0.mk (F_new (X:=λk=>k<w5.heap.size) hr2 (λk hk=>hk));have F3:=Aside0.mk (F_new (X:=λk=>k<w5.heap.size) hr3 (λk hk=>hk));have B56:=Aside0.mk hb;clear ER5 hr2 hr3 hb y0 y1 y2 y3)|((with_reducible refine gate_builtin (b:=.append) (xs:=#[.tmp 18,.tmp 21]) rfl ?_);at_builtin;obtain ⟨w7,hw7⟩:∃ w7,w7=w6.alloc (.cells (evC e.x A2 c2 A4 c4) 59):=⟨_,rfl⟩;have a8:=waits_app B5.out B56.out hw7 IT4.out BW.out ROW.out F2.out F3.out (by have:=LHD.out;rw [LX.out,List.length_map];omega);obtain ⟨v8,w8,hr8,hN8,hW8,hI8⟩:=a8;rw [hw7] at hr8;refine app_event (s:=.tmp 18) (x:=.tmp 21) (t:=50) (N:=some 22) rfl rfl rfl rfl rfl hr8 ?_;have N8:=Aside0.mk hN8;have W8:=Aside0.mk hW8;have I8:=Aside0.mk hI8;clear hr8 hN8 hW8 hI8 hw7))
   go_roundg ((leftOf (rawE es) ((hd++[e]).map (·.b)).toArray).size)
   case measure=>rw [<-hk];exact SH.out
   case rel =>
    refine ⟨hd++[e],rfl,⟨⟨W8.out,I8.out,?_,HNEW.out.1,HNEW.out.2⟩⟩⟩
    have h8:=N8.out
    rw [LX.out] at h8
    rw [List.map_append]
    exact h8
end
end Go.Proofs.Ytfhamdobagjakaa.Cau
