/- a part -/
import Derived.Test.YtfhamdobagjakaaCaGive
namespace Go.Proofs.Ytfhamdobagjakaa.Cau
open Go.RowKit Go.Proofs.YtfhamdobagjakaaW.PrintWords Go.Proofs.YtfhamdobagjakaaW.PrintLast Go.Proofs.YtfhamdobagjakaaW.PrintMore Go.Proofs.Ytfhamdobagjakaa.Hand Go.Proofs.Ytfhamdobagjakaa.Cards Go.Proofs.Ytfhamdobagjakaa.PCa Go.Proofs.Ytfhamdobagjakaa.DotMap
set_option linter.unusedVariables false
set_option linter.unusedSimpArgs false
section
variable {w0 W w W1 W2 wr : World} {g bm clk base k : Nat} {X Xr : Nat -> Prop} {c : List Int} {es : List En} {l : List Ev} {ok ok' : Nat -> Prop} {x y : Ev} {v : Value} {A Ap Ae Ac Ac1 : Option Addr} {cl cp ce cc cc1 : Nat}
def nextS (c:List Int) (wl:List Ev):Option Ev:=(Srt.ordL event_Order.lt wl).find? (canB c)
def goneS (d:Int×Int) (wl:List Ev):List Ev:=wl.filter (λy=>decide (dotE y≠d))
def runS:Nat->List Int->List Ev->List Ev×List Int×List Ev
 | 0,c,wl=>([],c,wl)
 | n+1,c,wl=>match nextS c wl with
  | none=>([],c,wl)
  | some y=>(y :: (runS n (ClockBase.setS c y.f0.f0 y.f0.f1) (goneS (dotE y) wl)).1,(runS n (ClockBase.setS c y.f0.f0 y.f0.f1) (goneS (dotE y) wl)).2)
theorem nextS_mem {wl:List Ev} (h:nextS c wl=some y):y ∈ wl:=(ordL_perm wl).mem_iff.1 (List.mem_of_find?_eq_some h)
theorem goneS_len {wl:List Ev} (h:y ∈ wl):(goneS (dotE y) wl).length<wl.length:=by
 unfold goneS
 rcases Nat.lt_or_ge (wl.filter (λz=>decide (dotE z≠dotE y))).length wl.length with h1|h1
 ·exact h1
 ·have h2:=List.length_filter_eq_length_iff.1 (Nat.le_antisymm (List.length_filter_le _ _) h1) y h
  simp at h2
theorem runS_fuel:∀ (n m:Nat) (c:List Int) (wl:List Ev),wl.length<=n->wl.length<=m->runS n c wl=runS m c wl
 | 0,m,c,wl,hn,hm=>by
  obtain rfl:=List.eq_nil_of_length_eq_zero (Nat.le_zero.1 hn)
  cases m with
  | zero=>rfl
  | succ m=>rfl
 | n+1,0,c,wl,hn,hm=>by
  obtain rfl:=List.eq_nil_of_length_eq_zero (Nat.le_zero.1 hm)
  rfl
 | n+1,m+1,c,wl,hn,hm=>by
  unfold runS
  cases h:nextS c wl with
  | none=>rfl
  | some y =>
   have hl:=goneS_len (nextS_mem h)
   simp only
   rw [runS_fuel n m _ _ (by omega) (by omega)]
theorem runS_none {n:Nat} {wl:List Ev} (h:nextS c wl=none):runS n c wl=([],c,wl):=by
 cases n with
 | zero=>rfl
 | succ n=>unfold runS;rw [h]
theorem runS_some {n:Nat} {wl:List Ev} (hn:wl.length<=n) (h:nextS c wl=some y):runS n c wl=(y :: (runS n (ClockBase.setS c y.f0.f0 y.f0.f1) (goneS (dotE y) wl)).1,(runS n (ClockBase.setS c y.f0.f0 y.f0.f1) (goneS (dotE y) wl)).2):=by
 have hl:=goneS_len (nextS_mem h)
 cases n with
 | zero=>omega
 | succ n =>
  rw [runS,h]
  simp only
  rw [runS_fuel n (n+1) _ _ (by omega) (by omega)]
structure Nx (W w':World) (e:Ending) (o:Option Ev):Prop where
 ex:∃ (y:Ev) (Ap:Option Addr) (cp:Nat) (Ae:Option Addr) (ce:Nat) (q:Bool),e = .returned (.tuple #[evV y Ap cp Ae ce,.bool q])/\EvR w' (λk=>W.heap.size<=k) y Ap cp Ae ce/\o=(if q=true then some y else none)
theorem nx_calls (h:Bf w0 W g bm X Ac cc c es clk) (hX:∀ k,X k->k<W.heap.size) (hlen:∀ e ∈ es,e.x.f1.length<=1000/\e.x.f2.length<=100000) (hn:es.length<=1000000):Calls Try.prog 60 #[.pointer (some ⟨g,0,none⟩)] W λe w'=>Nx W w' e (nextS c (es.map (·.x)))/\Below W.heap.size W w':=by
 refine(next_calls h hX hlen hn).mono ?_
 rintro e w' ⟨h1,hb⟩
 refine ⟨⟨?_⟩,hb⟩
 change NextIs W w' e (nextS c (es.map (·.x))) at h1
 cases ho:nextS c (es.map (·.x)) with
 | none =>
  rw [ho] at h1
  exact ⟨z59,none,0,none,0,false,h1,⟨Nat.le_refl 0,Kd.F_nil _ _ _,Nat.le_refl 0,Kd.F_nil _ _ _⟩,rfl⟩
 | some y =>
  rw [ho] at h1
  obtain ⟨v,rfl,Ap,cp,Ae,ce,rfl,hE⟩:=h1
  exact ⟨y,Ap,cp,Ae,ce,true,rfl,hE,rfl⟩
theorem lit1_N {b:Nat} (hb:W.heap[b]? = some (.cells (evC x Ap cp Ae ce) 59 (0,0))) (hbase:base<=b) (hok:ok b) (hx:EvR W (λk=>ok k/\k≠b) x Ap cp Ae ce):Kd.N k59 59 W base ok (.slice (some ⟨b,0,none⟩) 1 1) [x]:=by
 have ob:(Value.slice (some ⟨b,0,none⟩) 1 1).ownBlock=some b:=rfl
 have hFK:Kd.FK k59 W (λk=>ok k/\some k≠some b) x (evC x Ap cp Ae ce).toList:=Kd.FK_mono (k59_mkF W _ x hx.lp hx.fp hx.le hx.fe) (λk hk=>⟨hk.1,λe=>hk.2 (by injection e)⟩)
 have hnr:Reps (λx cs=>Kd.FK k59 W (λk=>ok k/\some k≠some b) x cs) 4 [x] (evC x Ap cp Ae ce).toList:=⟨rfl,λj p hj=>by
  rcases j with _|j
  ·simp only [List.getElem?_cons_zero,Option.some.injEq] at hj
   subst hj
   exact hFK
  ·simp at hj⟩
 refine ⟨λk hk=>by rw [ob] at hk;injection hk with hk;rw [<-hk];exact hok,Kd.chunks 4 1 (evC x Ap cp Ae ce).toList,rfl,⟨λk hk=>hk.symm,(evC x Ap cp Ae ce).toList,⟨rfl,.inr ⟨b,1,evC x Ap cp Ae ce,rfl,hbase,hb,Nat.le_refl _,by decide,rfl,rfl⟩⟩,Kd.reps_raw hnr (λx cs hk=>⟨k59.K_len (Kd.FK_now hk),k59.K_one (Kd.FK_now hk)⟩)⟩,λj x' cs hx' hc=>?_⟩
 have:=Kd.chunks_get hc
 subst this
 exact hnr.2 _ x' hx'
theorem Bf.grow (h:Bf w0 W g bm X Ac cc c es clk) {b:Option Nat} (hg:W.grownBy W1 b) (hb:∀ k,b=some k->X k/\k≠g/\k≠bm/\w0.heap.size<=k):Bf w0 W1 g bm X Ac cc c es clk:=by
 have hst:∀ k,¬ X k->k<W.heap.size->W1.heap[k]? = W.heap[k]?:=λk hk hlt=>hg.block k hlt (λe=>hk (hb k e.symm).1)
 have hm:=h.map
 refine ⟨⟨hg.os.trans h.below.os,hg.tape.trans h.below.tape,hg.output.trans h.below.output,Nat.le_trans h.below.size hg.size,λk hk=>(hg.block k (Nat.lt_of_lt_of_le hk h.below.size) (λe=>by have:=(hb k e.symm).2.2.2;omega)).trans (h.below.block k hk)⟩,
  h.gb,h.mb,h.ne,h.xg,h.xm,(hg.block g (blk_lt h.blk) (λe=>(hb g e.symm).2.1 rfl)).trans h.blk,h.lc,Kd.F_step h.fc hst,?_,λe he=>(h.evs e he).step hst,h.old,h.nod,h.key⟩
 unfold MapIs at *
 rw [hg.block bm (blk_lt hm) (λe=>(hb bm e.symm).2.2.1 rfl)]
 exact hm
theorem told_app {w5 w7:World} {A3 A2 A4:Option Addr} {c3 c2 c4 bt:Nat} {hd:List Ev} (h:Bf w0 w5 g bm Xr Ac cc c es clk) (hXr:∀ k,Xr k->k<w5.heap.size) (hXX:∀ k,X k->Xr k) (hXW:∀ k,X k->k<W.heap.size) (hXg:X g/\X bm) (hy:EvR w5 (λk=>¬ Xr k) y A2 c2 A4 c4)
  (row:Kd.N k59 59 w5 W.heap.size (λk=>¬ X k) (.slice A3 hd.length c3) hd) (own:∀ k,(Value.slice A3 hd.length c3).ownBlock=some k->Xr k) (hsz:w0.heap.size<=W.heap.size) (hsz5:W.heap.size<=w5.heap.size) (hw7:w7=w5.alloc (.cells (evC y A2 c2 A4 c4) 59)) (hl:hd.length<=1000000) (hbt:bt<w5.heap.size/\some bt≠(Value.slice A3 hd.length c3).ownBlock) :
  ∃ v8 w8 Xs,(Builtin.append_ #[50,50] 50 #[.slice A3 hd.length c3,.slice (some ⟨w5.heap.size,0,none⟩) 1 1]).run Try.prog w7 = .ok v8 w8/\Kd.N k59 59 w8 W.heap.size (λk=>¬ X k) v8 (hd++[y])/\Bf w0 w8 g bm Xs Ac cc c es clk/\(∀ k,Xr k->Xs k)/\(∀ k,Xs k->k<w8.heap.size)/\(∀ k,v8.ownBlock=some k->Xs k)/\some bt≠v8.ownBlock/\w5.heap.size<=w8.heap.size/\(∀ k,k<w5.heap.size->k≠g->k≠bm->(k<W.heap.size\/k=bt)->w8.heap[k]? = w5.heap[k]?):=by
 have B7:Below w5.heap.size w5 w7:=by rw [hw7];exact below_alloc (Below.refl _ _) _
 have x7:w7.heap[w5.heap.size]? = some (.cells (evC y A2 c2 A4 c4) 59 (0,0)):=by rw [hw7];exact heap_alloc_new w5 _
 have s7:=B7.size
 have l7:=blk_lt x7
 have HF:=lit1_F x7 (hy.on B7)
 have HO:=Kd.N_below row B7
 have hlt:=Kd.N_lt row
 have hbs:=Kd.N_base row
 have hown:=row.1
 obtain ⟨v8,w8,hr,hN,hg,hat⟩:=N_append_run (P:=Try.prog) (ty:=50) (c:=1) (m:=1) Try.underlying50 info59 rfl (by decide) (by decide) HO (Kd.F_mono HF (ok':=λk=>¬ Xr k) (λk hk=>hk.elim id (λe hx=>by have:=hXr k hx;omega))) (λad e _=>by injection e with e;rw [<-e];intro hx;have:=hXr _ hx;exact absurd this (Nat.lt_irrefl _))
  (λk hk=>⟨λe=>hk (hXX k e),λe=>hk (own k e.symm)⟩) (λk hk e=>by have:=hXW k e;omega) (by omega) (by omega)
 have hlt8:=Kd.N_lt hN
 have hbs8:=Kd.N_base hN
 refine ⟨v8,w8,λk=>Xr k\/(some k=v8.ownBlock/\w7.heap.size<=k),hr,hN,?_,λk hk=>.inl hk,λk hk=>?_,λk hk=>?_,?_,Nat.le_trans s7 hg.size,λk h1 h2 h3 h4=>?_⟩
 ·refine Bf.grow ((h.on B7).wide (λk hk=>hk.2)) hg (λk hk=>⟨.inl (own k hk),λe=>hown k hk (e ▸ hXg.1),λe=>hown k hk (e ▸ hXg.2),Nat.le_trans hsz (hbs k hk)⟩)
 ·have:=hg.size
  rcases hk with hk|⟨hk,_⟩
  ·have:=hXr k hk;omega
  ·exact hlt8 k hk.symm
 ·rcases hat with hat|⟨b,hb,hle⟩
  ·exact .inl (own k (hat ▸ hk))
  ·exact .inr ⟨hk.symm,by rw [hb] at hk;injection hk with hk;omega⟩
 ·rcases hat with hat|⟨b,hb,hle⟩
  ·rw [hat];exact hbt.2
  ·rw [hb]
   intro e
   injection e with e
   have:=hbt.1
   omega
 ·refine(hg.block k (by omega) (λe=>?_)).trans (B7.block k h1)
  rcases h4 with h4|h4
  ·have:=hbs k e.symm;omega
  ·rw [h4] at e
   exact hbt.2 e
structure TL (w0 W wr:World) (g bm:Nat) (X:Nat->Prop) (clk bt:Nat) (v6:Value) (q:Bool) (kn:Nat) (R:List Ev×List Int×List Ev) (Xr:Nat->Prop) (Ac:Option Addr) (cc:Nat) (c:List Int) (es:List En) (hd:List Ev) (y:Ev) (Ap:Option Addr) (cp:Nat) (Ae:Option Addr) (ce:Nat):Prop where
 bf:Bf w0 wr g bm Xr Ac cc c es clk
 xx:∀ k,X k->Xr k
 xr:∀ k,Xr k->k<wr.heap.size
 only:Only W wr g bm
 row:Kd.N k59 59 wr W.heap.size (λk=>¬ X k/\k≠bt) v6 hd
 own:∀ k,v6.ownBlock=some k->Xr k
 box:wr.heap[bt]? = some (.cells (evC y Ap cp Ae ce) 59 (0,0))
 bt:W.heap.size<=bt/\some bt≠v6.ownBlock/\bt≠g/\bt≠bm/\Xr bt
 ev:EvR wr (λk=>¬ Xr k) y Ap cp Ae ce
 nx:nextS c (es.map (·.x))=if q=true then some y else none
 len:es.length<=kn
 all:∀ e ∈ es,(e.x.f1.length<=1000/\e.x.f2.length<=100000)/\ClockBase.setOk e.x.f0.f0 e.x.f0.f1=true
 few:es.length<=100000
 hdl:hd.length+es.length<=100001
 res:R=(hd++(runS es.length c (es.map (·.x))).1,(runS es.length c (es.map (·.x))).2)
theorem N_bound {α:Type} {d:Kd α} {e:Nat} {v:Value} {xs:List α} (h:Kd.N d e W base ok v xs):Kd.N d e W base (λk=>ok k/\k<W.heap.size) v xs:=by
 have hlt:=Kd.N_lt h
 obtain ⟨h0,rows,hl,hR,hf⟩:=h
 exact ⟨λk hk=>⟨h0 k hk,hlt k hk⟩,rows,hl,hR,λj x cs hx hc=>Kd.FK_mono (Kd.FK_bound (hf j x cs hx hc)) (λk hk=>⟨⟨hk.1.1,hk.2⟩,hk.1.2⟩)⟩
abbrev put4W (w:World) (b:Nat) (y:Ev) (Ap:Option Addr) (cp:Nat) (Ae:Option Addr) (ce:Nat):World:=((((w.setCell ⟨b,0,none⟩ (.int .i64 y.f0.f0)).setCell ⟨b,1,none⟩ (.int .i64 y.f0.f1)).setCell ⟨b,2,none⟩ (.slice Ap y.f1.length cp)).setCell ⟨b,3,none⟩ (.slice Ae y.f2.length ce))
theorem put4_other {b:Nat} (hk:k≠b):(put4W W b y Ap cp Ae ce).heap[k]? = W.heap[k]?:=by rw [Below.heap_setCell _ _ _ _ hk,Below.heap_setCell _ _ _ _ hk,Below.heap_setCell _ _ _ _ hk,Below.heap_setCell _ _ _ _ hk]
theorem put4_size {b:Nat}:(put4W W b y Ap cp Ae ce).heap.size=W.heap.size:=by simp [World.setCell]
theorem Bf.far4 (h:Bf w0 W g bm X Ac cc c es clk) {b:Nat} (hb:X b) (hg:b≠g) (hm:b≠bm) (h0:w0.heap.size<=b):Bf w0 (put4W W b y Ap cp Ae ce) g bm X Ac cc c es clk:=(((h.far hb hg hm h0 0 _).far hb hg hm h0 1 _).far hb hg hm h0 2 _).far hb hg hm h0 3 _
theorem tl_put {w4:World} {bt kn:Nat} {v6:Value} {q:Bool} {R:List Ev×List Int×List Ev} {hd:List Ev} {z0 z1 z2 z3:Value} (bf:Bf w0 w4 g bm Xr Ac cc c es clk) (xx:∀ k,X k->Xr k) (xr:∀ k,Xr k->k<w4.heap.size) (only:Only W w4 g bm) (row:Kd.N k59 59 w4 W.heap.size (λk=>¬ X k/\k≠bt) v6 hd) (own:∀ k,v6.ownBlock=some k->Xr k)
  (box:w4.heap[bt]? = some (.cells #[z0,z1,z2,z3] 59 (0,0))) (hbt:W.heap.size<=bt/\some bt≠v6.ownBlock/\bt≠g/\bt≠bm/\Xr bt) (hw0:w0.heap.size<=W.heap.size) (ev:EvR w4 (λk=>¬ Xr k) y Ap cp Ae ce) (nx:nextS c (es.map (·.x))=if q=true then some y else none) (len:es.length<=kn)
  (all:∀ e ∈ es,(e.x.f1.length<=1000/\e.x.f2.length<=100000)/\ClockBase.setOk e.x.f0.f0 e.x.f0.f1=true) (few:es.length<=100000) (hdl:hd.length+es.length<=100001) (res:R=(hd++(runS es.length c (es.map (·.x))).1,(runS es.length c (es.map (·.x))).2)) :
  TL w0 W (put4W w4 bt y Ap cp Ae ce) g bm X clk bt v6 q kn R Xr Ac cc c es hd y Ap cp Ae ce:=by
 obtain ⟨b1,b2,b3,b4,b5⟩:=hbt
 exact ⟨bf.far4 b5 b3 b4 (Nat.le_trans hw0 b1),xx,λk hk=>by rw [put4_size];exact xr k hk,⟨by rw [put4_size];exact only.size,λk hk h1 h2=>(put4_other (by omega)).trans (only.block k hk h1 h2)⟩,Kd.N_step row (λk hk _=>put4_other hk.2),own,put4 box,⟨b1,b2,b3,b4,b5⟩,ev.step (λk hk _=>put4_other (λe=>hk (e ▸ b5))),nx,len,all,few,hdl,res⟩
theorem TL.y_ok {bt kn:Nat} {v6:Value} {R:List Ev×List Int×List Ev} {hd:List Ev} (h:TL w0 W wr g bm X clk bt v6 true kn R Xr Ac cc c es hd y Ap cp Ae ce):(y.f1.length<=1000/\y.f2.length<=100000)/\ClockBase.setOk y.f0.f0 y.f0.f1=true:=by
 have h1:=h.nx
 rw [if_pos rfl] at h1
 obtain ⟨e,he,rfl⟩:=List.mem_map.1 (nextS_mem h1)
 exact h.all e he
theorem TL.end_ {bt kn:Nat} {v6:Value} {R:List Ev×List Int×List Ev} {hd:List Ev} (h:TL w0 W wr g bm X clk bt v6 false kn R Xr Ac cc c es hd y Ap cp Ae ce):R=(hd,c,es.map (·.x)):=by
 have h1:=h.nx
 rw [if_neg (by decide)] at h1
 rw [h.res,runS_none h1,List.append_nil]
theorem goneS_map (h:(es.map λe=>dotE e.x).Nodup) (d:Int×Int):(delE d es).map (·.x)=goneS d (es.map (·.x)):=delE_map d es h
theorem delE_len (h:y ∈ es.map (·.x)) (hk:(es.map λe=>dotE e.x).Nodup):(delE (dotE y) es).length<es.length:=by
 have h1:=goneS_len h
 rw [<-goneS_map hk,List.length_map,List.length_map] at h1
 exact h1
structure TP (w0 W wr:World) (g bm:Nat) (X:Nat->Prop) (clk bt:Nat) (v6:Value) (Xr:Nat->Prop) (Ac:Option Addr) (cc:Nat) (c:List Int) (es:List En) (hd:List Ev) (z0 z1 z2 z3:Value):Prop where
 bf:Bf w0 wr g bm Xr Ac cc c es clk
 xx:∀ k,X k->Xr k
 xr:∀ k,Xr k->k<wr.heap.size
 only:Only W wr g bm
 row:Kd.N k59 59 wr W.heap.size (λk=>¬ X k/\k≠bt) v6 hd
 own:∀ k,v6.ownBlock=some k->Xr k
 box:wr.heap[bt]? = some (.cells #[z0,z1,z2,z3] 59 (0,0))
 bt:W.heap.size<=bt/\some bt≠v6.ownBlock/\bt≠g/\bt≠bm/\Xr bt
variable {v6 z0 z1 z2 z3 : Value} {bt kn : Nat} {hd : List Ev} {R : List Ev × List Int × List Ev} {q : Bool} {w2 w3 w' : World} {A2 A4 : Option Addr} {c2 c4 : Nat}
theorem TP.on (h:TP w0 W wr g bm X clk bt v6 Xr Ac cc c es hd z0 z1 z2 z3) (hb:Below wr.heap.size wr w'):TP w0 W w' g bm X clk bt v6 Xr Ac cc c es hd z0 z1 z2 z3 :=
 ⟨h.bf.on hb,h.xx,λk hk=>Nat.lt_of_lt_of_le (h.xr k hk) hb.size,h.only.trans (Only.of_below hb),Kd.N_below h.row hb,h.own,blk_below h.box hb,h.bt⟩
theorem TP.put (h:TP w0 W wr g bm X clk bt v6 Xr Ac cc c es hd z0 z1 z2 z3) (hw0:w0.heap.size<=W.heap.size):TP w0 W (put4W wr bt y Ap cp Ae ce) g bm X clk bt v6 Xr Ac cc c es hd (.int .i64 y.f0.f0) (.int .i64 y.f0.f1) (.slice Ap y.f1.length cp) (.slice Ae y.f2.length ce):=by
 obtain ⟨b1,b2,b3,b4,b5⟩:=h.bt
 exact ⟨h.bf.far4 b5 b3 b4 (Nat.le_trans hw0 b1),h.xx,λk hk=>by rw [put4_size];exact h.xr k hk,⟨by rw [put4_size];exact h.only.size,λk hk h1 h2=>(put4_other (by omega)).trans (h.only.block k hk h1 h2)⟩,Kd.N_step h.row (λk hk _=>put4_other hk.2),h.own,put4 h.box,⟨b1,b2,b3,b4,b5⟩⟩
theorem TP.tl (h:TP w0 W wr g bm X clk bt v6 Xr Ac cc c es hd z0 z1 z2 z3) (hw0:w0.heap.size<=W.heap.size) (ev:EvR wr (λk=>¬ Xr k) y Ap cp Ae ce) (nx:nextS c (es.map (·.x))=if q=true then some y else none) (len:es.length<=kn)
 (all:∀ e ∈ es,(e.x.f1.length<=1000/\e.x.f2.length<=100000)/\ClockBase.setOk e.x.f0.f0 e.x.f0.f1=true) (few:es.length<=100000) (hdl:hd.length+es.length<=100001) (res:R=(hd++(runS es.length c (es.map (·.x))).1,(runS es.length c (es.map (·.x))).2)) :
 TL w0 W (put4W wr bt y Ap cp Ae ce) g bm X clk bt v6 q kn R Xr Ac cc c es hd y Ap cp Ae ce:=tl_put h.bf h.xx h.xr h.only h.row h.own h.box h.bt hw0 ev nx len all few hdl res
theorem TP.tl0 (h:TP w0 W wr g bm X clk bt v6 Xr Ac cc c es hd (.int .i64 y.f0.f0) (.int .i64 y.f0.f1) (.slice Ap y.f1.length cp) (.slice Ae y.f2.length ce)) (ev:EvR wr (λk=>¬ Xr k) y Ap cp Ae ce) (nx:nextS c (es.map (·.x))=if q=true then some y else none) (len:es.length<=kn)
 (all:∀ e ∈ es,(e.x.f1.length<=1000/\e.x.f2.length<=100000)/\ClockBase.setOk e.x.f0.f0 e.x.f0.f1=true) (few:es.length<=100000) (hdl:hd.length+es.length<=100001) (res:R=(hd++(runS es.length c (es.map (·.x))).1,(runS es.length c (es.map (·.x))).2)) :
 TL w0 W wr g bm X clk bt v6 q kn R Xr Ac cc c es hd y Ap cp Ae ce:=⟨h.bf,h.xx,h.xr,h.only,h.row,h.own,h.box,h.bt,ev,nx,len,all,few,hdl,res⟩
theorem tp_alloc (bf:Bf w0 wr g bm Xr Ac cc c es clk) (xx:∀ k,X k->Xr k) (xr:∀ k,Xr k->k<wr.heap.size) (only:Only W wr g bm) (row:Kd.N k59 59 wr W.heap.size (λk=>¬ X k) v6 hd) (own:∀ k,v6.ownBlock=some k->Xr k) (hb:bt=wr.heap.size) (hw:w'=wr.alloc (.cells #[z0,z1,z2,z3] 59)) :
  TP w0 W w' g bm X clk bt v6 (λk=>Xr k\/k=bt) Ac cc c es hd z0 z1 z2 z3:=by
 have B:Below wr.heap.size wr w':=by rw [hw];exact below_alloc (Below.refl _ _) _
 have x:w'.heap[wr.heap.size]? = some (.cells #[z0,z1,z2,z3] 59 (0,0)):=by rw [hw];exact heap_alloc_new wr _
 have hl:=Kd.N_lt row
 subst hb
 exact ⟨(bf.wide (λk hk=>Nat.le_of_eq hk.symm)).on B,λk hk=>.inl (xx k hk),λk hk=>by rcases hk with hk|rfl;exact Nat.lt_of_lt_of_le (xr k hk) B.size;exact blk_lt x,only.trans (Only.of_below B),Kd.N_below (Kd.N_mono (N_bound row) (λk hk=>⟨hk.1,λe=>by have:=hk.2;omega⟩)) B,λk hk=>.inl (own k hk),x,⟨only.size,λe=>by have:=hl _ e.symm;omega,λe=>by have:=blk_lt bf.blk;omega,λe=>by have:=blk_lt bf.map;omega,.inr rfl⟩⟩
theorem told_first (h:Bf w0 w2 g bm X Ac cc c es clk) (hXW:∀ k,X k->k<W.heap.size) (hE:EvR w2 (λk=>¬ X k) x A2 c2 A4 c4) (hO:Only W w2 g bm) (hw3:w3=w2.alloc (.cells (evC x A2 c2 A4 c4) 59)) (hb:k=w2.heap.size) :
  Bf w0 w3 g bm (λj=>X j\/j=k) Ac cc c es clk/\Kd.N k59 59 w3 W.heap.size (λk=>¬ X k) (.slice (some ⟨k,0,none⟩) 1 1) [x]/\Only W w3 g bm/\(∀ j,(X j\/j=k)->j<w3.heap.size):=by
 have B:Below w2.heap.size w2 w3:=by rw [hw3];exact below_alloc (Below.refl _ _) _
 have x3:w3.heap[w2.heap.size]? = some (.cells (evC x A2 c2 A4 c4) 59 (0,0)):=by rw [hw3];exact heap_alloc_new w2 _
 have hs:=hO.size
 subst hb
 refine ⟨(h.wide (λk hk=>Nat.le_of_eq hk.symm)).on B,lit1_N x3 hs (λe=>by have:=hXW _ e;omega) (((hE.wide (λk (hk:k=w2.heap.size)=>Nat.le_of_eq hk.symm)).on B).mono (λk hk=>⟨λe=>hk (.inl e),λe=>hk (.inr e)⟩)),hO.trans (Only.of_below B),λj hj=>?_⟩
 rcases hj with hj|rfl
 ·have:=hXW j hj
  have:=B.size
  omega
 ·exact blk_lt x3
theorem EvR.tight (h:EvR W ok x Ap cp Ae ce):EvR W (λk=>ok k/\k<W.heap.size) x Ap cp Ae ce:=⟨h.lp,Kd.F_bound h.fp,h.le,Kd.F_bound h.fe⟩
theorem TL.mem (h:TL w0 W wr g bm X clk bt v6 true kn R Xr Ac cc c es hd y Ap cp Ae ce):nextS c (es.map (·.x))=some y:=by
 have h1:=h.nx
 rw [if_pos rfl] at h1
 exact h1
theorem TL.less (h:TL w0 W wr g bm X clk bt v6 true kn R Xr Ac cc c es hd y Ap cp Ae ce):(delE (dotE y) es).length<es.length:=delE_len (nextS_mem h.mem) h.bf.key
theorem TL.res_next (h:TL w0 W wr g bm X clk bt v6 true kn R Xr Ac cc c es hd y Ap cp Ae ce):R=((hd++[y])++(runS (delE (dotE y) es).length (ClockBase.setS c y.f0.f0 y.f0.f1) ((delE (dotE y) es).map (·.x))).1,(runS (delE (dotE y) es).length (ClockBase.setS c y.f0.f0 y.f0.f1) ((delE (dotE y) es).map (·.x))).2):=by
 have hl:=h.less
 rw [h.res,runS_some (Nat.le_of_eq (List.length_map ..)) h.mem,goneS_map h.bf.key,runS_fuel es.length (delE (dotE y) es).length _ _ (by rw [<-goneS_map h.bf.key,List.length_map];omega) (by rw [<-goneS_map h.bf.key,List.length_map];exact Nat.le_refl _),List.append_assoc]
 rfl
theorem TL.all_next (h:TL w0 W wr g bm X clk bt v6 q kn R Xr Ac cc c es hd y Ap cp Ae ce):∀ e ∈ delE (dotE y) es,(e.x.f1.length<=1000/\e.x.f2.length<=100000)/\ClockBase.setOk e.x.f0.f0 e.x.f0.f1=true:=λe he=>h.all e ((delE_sub _ _).subset he)
end
end Go.Proofs.Ytfhamdobagjakaa.Cau
