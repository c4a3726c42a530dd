/- a part -/
import Derived.Test.YtfhamdobagjakaaPCax6
namespace Go.Proofs.Ytfhamdobagjakaa.PCa
open Go.RowKit Go.Proofs.YtfhamdobagjakaaW.PrintWords Go.Proofs.YtfhamdobagjakaaW.PrintLast Go.Proofs.YtfhamdobagjakaaW.PrintMore
attribute [local go_sem] max2_int min2_int max_two min_two max_three min_three max_four min_four
set_option linter.unusedVariables false
set_option linter.unusedSimpArgs false
set_option maxHeartbeats 8000000
set_option maxRecDepth 100000
theorem z7_0 {P:Prop} (h:P:=by repeat(first|(with_reducible first|exact HB.out|apply below_alloc|apply pw_below_drewN|apply below_drew1|refine below_set ?_ GE137.out)|exact HB.out)):P:=h
theorem z7_2 {P:Prop} (h:P:=by exact(Reps.c6 (show Kd.M k111 _ _ _ (⟨1,0,(⟨#[107]⟩:ByteArray),0,0,(⟨#[]⟩:ByteArray)⟩:S111) [.int .i64 1,.int .i64 0,.string (⟨#[107]⟩:ByteArray),.int .i64 0,.int .i64 0,.string (⟨#[]⟩:ByteArray)] from(k111_mkM _ _ _ (⟨1,0,(⟨#[107]⟩:ByteArray),0,0,(⟨#[]⟩:ByteArray)⟩:S111) )) (Reps.none _ _))):P:=h
theorem z7_3 {P:Prop} (h:P:=by(with_reducible repeat(first|refine blk_drewN ?_ _|refine blk_drew ?_|refine blk_alloc ?_ _));exact BK137.out):P:=h
theorem z7_5 {P:Prop} (h:P:=by exact(Reps.one (show Kd.M (Kd.int .i64) _ _ _ (wrap64 (a0 - 1)) [.int .i64 (wrap64 (a0 - 1))] from rfl) (Reps.none _ _))):P:=h
def event_Order.less (a b:S54):Bool:=if a.f0<b.f0 then true else if a.f0=b.f0 then decide (a.f1<b.f1) else false
def event_Order.cmp (x y:S59):Int:=if wrap64 (ClockBase.sumS x.f1 - ClockBase.sumS y.f1)=0 then(if event_Order.less x.f0 y.f0=true then -1 else if event_Order.less y.f0 x.f0=true then 1 else 0) else wrap64 (ClockBase.sumS x.f1 - ClockBase.sumS y.f1)
def event_Order.lt (x y:S59):Bool:=decide (event_Order.cmp x y<0)
theorem event_Order.less_f (a b:S54):dots_Less.f a.f0 a.f1 b.f0 b.f1=some (event_Order.less a b):=by
 unfold dots_Less.f event_Order.less
 split
 ·rfl
 ·split<;>rfl
theorem event_Order.cmp_f (x y:S59):event_Order_1.f x.f0.f0 x.f0.f1 x.f1 x.f2 y.f0.f0 y.f0.f1 y.f1 y.f2=some (event_Order.cmp x y):=by
 unfold event_Order_1.f event_Order.cmp clock_Sum.f
 simp only [Option.bind_some,event_Order.less_f]
 split
 ·split
  ·rfl
  ·split<;>rfl
 ·rfl
theorem event_Order.less_iff (a b:S54):event_Order.less a b=true↔a.f0<b.f0\/a.f0=b.f0/\a.f1<b.f1:=by
 unfold event_Order.less
 split
 ·rename_i h
  exact ⟨λ_=>.inl h,λ_=>rfl⟩
 ·split
  ·rw [decide_eq_true_eq];omega
  ·simp only [Bool.false_eq_true,false_iff];omega
theorem event_Order.sum_in (l:List Int):0<=ClockBase.sumS l/\ClockBase.sumS l<=5242880:=by
 rw [ClockBase.sum_eq]
 have h:=ClockBase.good_of l
 have g:∀ i,i<5->0<=(ClockBase.ofL l).getD i 0/\(ClockBase.ofL l).getD i 0<=1048576:=λi hi=>by
  rw [List.getD_eq_getElem?_getD,List.getElem?_eq_getElem (by rw [h.1];exact hi)]
  exact h.2 _ (List.getElem_mem _)
 have g0:=g 0 (by omega)
 have g1:=g 1 (by omega)
 have g2:=g 2 (by omega)
 have g3:=g 3 (by omega)
 have g4:=g 4 (by omega)
 omega
theorem event_Order.lt_iff (x y:S59):event_Order.lt x y=true↔ClockBase.sumS x.f1<ClockBase.sumS y.f1\/ClockBase.sumS x.f1=ClockBase.sumS y.f1/\(x.f0.f0<y.f0.f0\/x.f0.f0=y.f0.f0/\x.f0.f1<y.f0.f1):=by
 have hx:=event_Order.sum_in x.f1
 have hy:=event_Order.sum_in y.f1
 have hw:wrap64 (ClockBase.sumS x.f1 - ClockBase.sumS y.f1)=ClockBase.sumS x.f1 - ClockBase.sumS y.f1:=by
  unfold wrap64
  omega
 have l1:=event_Order.less_iff x.f0 y.f0
 have l2:=event_Order.less_iff y.f0 x.f0
 unfold event_Order.lt event_Order.cmp
 rw [hw,decide_eq_true_eq]
 split
 ·split
  ·rename_i h1 h2
   have:=l1.mp h2
   omega
  ·rename_i h1 h2
   have n1:¬ (x.f0.f0<y.f0.f0\/x.f0.f0=y.f0.f0/\x.f0.f1<y.f0.f1):=λh=>h2 (l1.mpr h)
   split<;>omega
 ·omega
theorem event_Order.swo:Go.Sort.SWO event_Order.lt:=by
 have key:∀ x y,event_Order.lt x y=false↔¬ (ClockBase.sumS x.f1<ClockBase.sumS y.f1\/ClockBase.sumS x.f1=ClockBase.sumS y.f1/\(x.f0.f0<y.f0.f0\/x.f0.f0=y.f0.f0/\x.f0.f1<y.f0.f1)):=λx y=>by
  rw [<-event_Order.lt_iff,Bool.not_eq_true]
 refine ⟨λx=>(key x x).mpr (by omega),λx y z h1 h2=>?_,λx y z h1 h2=>?_⟩
 ·rw [event_Order.lt_iff] at *;omega
 ·rw [key] at *;omega
def event_Order.f (l0:List S59):Option (List S59):=if l0.length<2199023255552 then some (Srt.ordL event_Order.lt l0) else none
def event_Order.enc (rows:List (List Value)) (i:Nat):List Value:=rows.getD i [.int .i64 0,.int .i64 0,.slice none 0 0,.slice none 0 0]
theorem event_Order.z_K (w:World):k59.K w z59 [.int .i64 0,.int .i64 0,.slice none 0 0,.slice none 0 0]:=k59_mk w z59 (A2:=none) (c2:=0) (A3:=none) (c3:=0) (Nat.le_refl 0) (Kd.C_nil _ w) (Nat.le_refl 0) (Kd.C_nil _ w)
theorem event_Order.putRow_other {enc:Nat->List Value} {w:World} {g:Nat} {d:Array Nat} {j:Nat} (h:j≠g):(Go.Sort.putRowK enc 4 w g 0 d).heap[j]? = w.heap[j]?:=by
 unfold Go.Sort.putRowK Go.Sort.putRow Go.Sort.mapBlock
 simp only [Array.getElem?_modify]
 rw [if_neg (λe=>h e.symm)]
theorem event_Order.enc_len {rows:List (List Value)} (h:∀ c,c ∈ rows->c.length=4/\∀ u ∈ c,u.oneCell'=true) (i:Nat):(event_Order.enc rows i).length=4/\∀ u ∈ event_Order.enc rows i,u.oneCell'=true:=by
 unfold event_Order.enc
 rw [List.getD_eq_getElem?_getD]
 cases hc:rows[i]? with
 | none =>
  refine ⟨rfl,λu hu=>?_⟩
  simp only [Option.getD_none,List.mem_cons,List.not_mem_nil,or_false] at hu
  rcases hu with rfl|rfl|rfl|rfl<;>rfl
 | some c=>exact h c (List.mem_of_getElem? hc)
theorem event_Order.flat_at {enc:Nat->List Value} {d:Array Nat} {j:Nat} (h:j<d.size*4):(Go.Sort.flatK enc 4 d)[j]! = (enc d[j / 4]!)[j % 4]!:=Go.Sort.get_flatK enc 4 d j h
theorem event_Order.inner_at {rows:List (List Value)} {inner:List Value} (hrows:∀ (j:Nat) c,rows[j]? = some c->(inner.drop (j*4)).take 4=c/\c.length=4/\∀ u ∈ c,u.oneCell'=true) {j:Nat} (hj:j<rows.length*4) :
  inner[j]? = some (event_Order.enc rows (j / 4))[j % 4]!:=by
 have hq:j / 4<rows.length:=by omega
 have hc:rows[j / 4]? = some rows[j / 4]:=List.getElem?_eq_getElem hq
 obtain ⟨h1,h2,_⟩:=hrows _ _ hc
 have he:event_Order.enc rows (j / 4)=rows[j / 4]:=by
  unfold event_Order.enc
  rw [List.getD_eq_getElem?_getD,hc]
  rfl
 have h4:j % 4<(rows[j / 4]).length:=by omega
 have h3:((inner.drop (j / 4*4)).take 4)[j % 4]? = inner[j]?:=by
  rw [List.getElem?_take,if_pos (by omega),List.getElem?_drop,show j / 4*4+j % 4=j by omega]
 rw [<-h3,h1,he,List.getElem?_eq_getElem h4]
 exact congrArg some (getElem!_pos rows[j / 4] (j % 4) h4).symm
theorem event_Order.sorts (base:Nat) (ok:Nat->Prop) (v:Value) (xs:List S59) (w:World) (hN:Kd.N k59 59 w base ok v xs) (hn:xs.length<2199023255552) :
  Calls Try.prog 98 #[v,.func (.func 99) #[] #[]] w λe w'=>e = .returned (.tuple #[])/\Kd.N k59 59 w' base ok v (Srt.ordL event_Order.lt xs)/\(w'.os=w.os/\w'.tape=w.tape/\w'.output=w.output/\w.heap.size<=w'.heap.size/\∀ j,j<w.heap.size->some j≠v.ownBlock->w'.heap[j]? = w.heap[j]?):=by
 obtain ⟨hown,rows,hrl,hR,hF⟩:=hN
 obtain ⟨hR0,inner,ho,hrep⟩:=hR
 obtain ⟨hil,hv⟩:=ho
 have hrows:∀ (j:Nat) c,rows[j]? = some c->(inner.drop (j*4)).take 4=c/\c.length=4/\∀ u ∈ c,u.oneCell'=true:=λj c hc=>by
  have h:=hrep.2 j c hc
  have e:(inner.drop (j*4)).take 4=c:=h.1
  exact ⟨e,(by rw [<-e];exact h.2.1),(by rw [<-e];exact h.2.2)⟩
 have hmem:∀ c,c ∈ rows->c.length=4/\∀ u ∈ c,u.oneCell'=true:=λc hc=>by
  obtain ⟨j,hj⟩:=List.mem_iff_getElem?.mp hc
  exact(hrows j c hj).2
 rcases hv with ⟨rfl,hn0⟩|⟨g,cap,cur,rfl,hg,hh,hnc,hcm,hcs,htake⟩
 ·have hx:xs=[]:=List.eq_nil_of_length_eq_zero (by rw [<-hrl];exact hn0)
  subst hx
  refine(Srt.nil_sort _ _ w).mono λe w' ⟨he,hw⟩=>⟨he,?_,?_⟩
  ·rw [hw]
   exact Kd.N_nil _ _ _ _ _
  ·rw [hw]
   exact ⟨rfl,rfl,rfl,Nat.le_refl _,λ_ _ _=>rfl⟩
 ·have hsz:rows.length=xs.length:=hrl
  have hlt:g<w.heap.size:=blk_lt hh
  have htake:cur.toList.take (rows.length*4)=inner:=htake
  have hcs:cur.size=cap*4:=hcs
  have d0s:(Array.range xs.length).size=xs.length:=Array.size_range
  have d0a:∀ i,i<xs.length->(Array.range xs.length)[i]! = i:=λi hi=>by
   rw [getElem!_pos _ _ (by rw [d0s];exact hi),Array.getElem_range]
  have hH:Go.Sort.HoldsK (event_Order.enc rows) 4 w g 0 (Array.range xs.length):=λj hj=>by
   rw [Go.Sort.size_flatK,d0s] at hj
   refine ⟨?_,(by rw [Nat.zero_add];exact blk_frozen hh j)⟩
   rw [Nat.zero_add,blk_cell hh,event_Order.flat_at (by rw [d0s];exact hj),d0a _ (by omega)]
   have h:=event_Order.inner_at hrows (j:=j) (by omega)
   rw [<-htake,List.getElem?_take,if_pos (by omega)] at h
   rw [<-Array.getElem?_toList]
   exact h
  have R:RowK (event_Order.enc rows) 4 w g 0 (Array.range xs.length):=⟨λx=>(event_Order.enc_len hmem x).1,λx=>(event_Order.enc_len hmem x).2,hH,hlt⟩
  have elem:∀ W,(∀ j,j<w.heap.size->j≠g->W.heap[j]? = w.heap[j]?)->∀ x:Nat,k59.K W (xs.getD x z59) (event_Order.enc rows x):=λW hW x=>by
   by_cases hx:x<xs.length
   rotate_left
   ·have he:event_Order.enc rows x=[.int .i64 0,.int .i64 0,.slice none 0 0,.slice none 0 0]:=by
     unfold event_Order.enc
     rw [List.getD_eq_getElem?_getD,List.getElem?_eq_none (by omega)]
     rfl
    rw [he,List.getD_eq_getElem?_getD,List.getElem?_eq_none (by omega)]
    exact event_Order.z_K W
   have hc:rows[x]? = some rows[x]:=List.getElem?_eq_getElem (by omega)
   have he:event_Order.enc rows x=rows[x]:=by
    unfold event_Order.enc
    rw [List.getD_eq_getElem?_getD,hc]
    rfl
   rw [he,List.getD_eq_getElem?_getD,List.getElem?_eq_getElem hx]
   refine hF x _ _ (List.getElem?_eq_getElem hx) hc W λq hq hql=>hW q hql λe=>hq.2 ?_
   rw [e]
   rfl
  have C:Srt.CmpB Try.prog 99 #[] (event_Order.enc rows) 4 (λx y=>event_Order.cmp (xs.getD x z59) (xs.getD y z59)) g 0 (Array.range xs.length).size w:=λdk W hsz hW x y=>by
   have keep:∀ j,j<w.heap.size->j≠g->W.heap[j]? = w.heap[j]?:=λj hj hne=>(hW.b.block j hj).trans (event_Order.putRow_other hne)
   obtain ⟨A2,c2,A3,c3,ex,l2,g2,l3,g3⟩:=k59_open (elem W keep x)
   obtain ⟨B2,e2,B3,e3,ey,m2,o2,m3,o3⟩:=k59_open (elem W keep y)
   rw [ex,ey]
   exact event_Order_1.calls _ _ A2 c2 _ A3 c3 _ _ _ B2 e2 _ B3 e3 _ _ W g2 l2 g3 l3 o2 m2 o3 m3 (event_Order.cmp_f _ _)
  have sS:Go.Sort.SWO (ltOf (λx y=>event_Order.cmp (xs.getD x z59) (xs.getD y z59))):=⟨λx=>event_Order.swo.irrefl _,λx y z h1 h2=>event_Order.swo.trans _ _ _ h1 h2,λx y z h1 h2=>event_Order.swo.ntrans _ _ _ h1 h2⟩
  have X:Srt.Srt Try.prog 4 (event_Order.enc rows) (λx y=>event_Order.cmp (xs.getD x z59) (xs.getD y z59)) 99 #[] g 0 (Array.range xs.length) w :=
   ⟨Srt.lays,R,C,enters_of Try.func99 (by kernel_rfl) rfl,sS,(by rw [d0s];omega)⟩
  have hc:=Srt.sortStable (event_Order.enc rows) (λx y=>event_Order.cmp (xs.getD x z59) (xs.getD y z59)) 99 #[] g 0 cap (Array.range xs.length) (Array.range xs.length) w w X rfl (Srt.SWB.start hH)
  rw [d0s] at hc
  simp only [hsz] at hown hR0 hF ⊢
  refine hc.mono λe w' ⟨he,d',S',M'⟩=>⟨he,?_,?_⟩
  ·have hds:d'.size=xs.length:=by rw [M'.out.1.size,d0s]
   have hxs:(Srt.seg (Array.range xs.length) 0 xs.length).map (λi=>xs.getD i z59)=xs:=by
    refine List.ext_getElem? λi=>?_
    unfold Srt.seg
    rw [List.getElem?_map,List.getElem?_map]
    by_cases hi:i<xs.length
    ·rw [List.getElem?_range' hi,List.getElem?_eq_getElem hi];simp only [Option.map_some,Nat.one_mul,Nat.zero_add];rw [d0a i hi,List.getD_eq_getElem?_getD,List.getElem?_eq_getElem hi];rfl
    ·rw [List.getElem?_eq_none (by rw [List.length_range'];omega),List.getElem?_eq_none (by omega)];rfl
   haveI:Inhabited S59:=⟨z59⟩
   have hord:(Srt.seg d' 0 xs.length).map (λi=>xs.getD i z59)=Srt.ordL event_Order.lt xs:=by
    have h:=Srt.merged_map (lt:=event_Order.lt) (λi:Nat=>xs.getD i z59) (λi j=>rfl) event_Order.swo sS M'.out
    rw [hxs] at h
    exact h
   rw [<-hord]
   have hHd:=S'.out.holds R (by rw [hds,d0s])
   obtain ⟨cur',hh',hs'⟩:∃ cur',w'.heap[g]? = some (.cells cur' 59 (0,0))/\cur'.size=cur.size:=by
    refine ⟨Go.Sort.putCells id 0 (Go.Sort.flatK (event_Order.enc rows) 4 d') cur,?_,(by unfold Go.Sort.putCells;rw [Array.size_mapIdx])⟩
    rw [S'.out.b.block g hlt]
    unfold Go.Sort.putRowK Go.Sort.putRow Go.Sort.mapBlock
    simp only [Array.getElem?_modify,hh,ite_true,Option.map_some,Go.Sort.onCells]
   have cell':∀ j,j<xs.length*4->cur'[j]? = some (event_Order.enc rows d'[j / 4]!)[j % 4]!:=λj hj=>by
    have h:=(hHd j (by rw [Go.Sort.size_flatK,hds];exact hj)).1
    rw [Nat.zero_add,blk_cell hh',event_Order.flat_at (by rw [hds];exact hj)] at h
    exact h
   refine ⟨hown,(Srt.seg d' 0 xs.length).map (event_Order.enc rows),(by rw [List.length_map,List.length_map]),⟨hR0,?_⟩,?_⟩
   ·have hl':((Srt.seg d' 0 xs.length).map (event_Order.enc rows)).length=xs.length:=by rw [List.length_map,Srt.seg_length]
    have hc4:xs.length*4<=cur'.size:=by rw [hs',hcs];exact Nat.mul_le_mul_right 4 (by omega)
    have hil':(cur'.toList.take (xs.length*4)).length=xs.length*4:=by rw [List.length_take];exact Nat.min_eq_left (by rw [show cur'.toList.length=cur'.size from rfl];exact hc4)
    refine ⟨cur'.toList.take (xs.length*4),⟨?_,.inr ⟨g,cap,cur',?_,hg,hh',?_,hcm,hs'.trans hcs,?_⟩⟩,?_,?_⟩
    ·rw [hl'];exact hil'
    ·rw [hl']
    ·rw [hl'];omega
    ·rw [hl'];rfl
    ·rw [hl'];exact hil'
    ·intro j p hj
     have hjl:j<xs.length:=by
      have:=(List.getElem?_eq_some_iff.mp hj).1
      rw [hl'] at this
      exact this
     rw [List.getElem?_map] at hj
     unfold Srt.seg at hj
     rw [List.getElem?_map,List.getElem?_range' hjl] at hj
     simp only [Option.map_some,Nat.one_mul,Nat.zero_add,Option.some.injEq] at hj
     subst hj
     have hel:=event_Order.enc_len hmem d'[j]!
     have hel1:=hel.1
     have e:((cur'.toList.take (xs.length*4)).drop (j*4)).take 4=event_Order.enc rows d'[j]!:=by
      refine List.ext_getElem? λq=>?_
      by_cases hq:q<4
      ·rw [List.getElem?_take,if_pos hq,List.getElem?_drop,List.getElem?_take,if_pos (by omega),Array.getElem?_toList,cell' _ (by omega),show(j*4+q) / 4=j by omega,show(j*4+q) % 4=q by omega]
       rw [List.getElem?_eq_getElem (by omega)]
       exact congrArg some (getElem!_pos (event_Order.enc rows d'[j]!) q (by omega))
      ·rw [List.getElem?_eq_none (by rw [List.length_take];omega),List.getElem?_eq_none (by omega)]
     exact ⟨e,(by rw [show(Kd.raw k59.sz).sz=4 from rfl,e];exact hel)⟩
   ·intro j x c hx hc
    rw [List.getElem?_map] at hx hc
    have hjl:j<xs.length:=by
     cases hq:(Srt.seg d' 0 xs.length)[j]? with
     | none=>rw [hq] at hx;cases hx
     | some q =>
      have:=(List.getElem?_eq_some_iff.mp hq).1
      rw [Srt.seg_length] at this
      exact this
    unfold Srt.seg at hx hc
    rw [List.getElem?_map,List.getElem?_range' hjl] at hx hc
    simp only [Option.map_some,Nat.one_mul,Nat.zero_add,Option.some.injEq] at hx hc
    subst hx hc
    obtain ⟨i,i1,i2,ei⟩:=M'.out.1.mem sS (i:=j) (Nat.zero_le j) hjl
    rw [ei,d0a i i2]
    have hc:rows[i]? = some rows[i]:=List.getElem?_eq_getElem (by omega)
    have he:event_Order.enc rows i=rows[i]:=by
     unfold event_Order.enc
     rw [List.getD_eq_getElem?_getD,hc]
     rfl
    rw [he,List.getD_eq_getElem?_getD,List.getElem?_eq_getElem i2]
    refine Kd.FK_step (hF i _ _ (List.getElem?_eq_getElem i2) hc) λq hq hql=>?_
    exact(S'.out.b.block q hql).trans (event_Order.putRow_other λe=>hq.2 (by rw [e];rfl))
  ·have b:=S'.out.b
   refine ⟨b.os,b.tape,b.output,S'.out.le,λj hj hne=>(b.block j hj).trans (event_Order.putRow_other λe=>hne ?_)⟩
   rw [e]
   rfl
theorem event_Order.calls (P0_:Nat->Prop) (A0:Option Addr) (c0:Nat) (l0:List (S59)) (r:List (S59)) (w:World) (hs0:Kd.V k59 59 w w.heap.size (λk_=>P0_ k_) (.slice A0 l0.length c0) l0) (h:event_Order.f l0=some r) :
  Calls Try.prog 61 #[.slice A0 l0.length c0] w λe w'=>∃ v0_:Value,e = .returned (v0_)/\Kd.N k59 59 w' w.heap.size (λk_=>(P0_ k_\/w.heap.size<=k_)) v0_ r/\Below w.heap.size w w':=by
 unfold event_Order.f at h
 split at h
 rotate_left
 ·cases h
 rename_i hlen
 obtain rfl:=Option.some.inj h
 clear h
 have hcl:=api_Event_97.calls P0_ A0 c0 l0 l0 w hs0 (by unfold api_Event_97.f;simp only [Option.bind_some,List.nil_append,List.length_nil,Nat.zero_add];exact if_pos hlen)
 go_enter Try.func61,Try.ntmps61
 go_wp2_with (first|(go_at_call 97;refine hcl.mono ?_;rintro e w1 ⟨v0,rfl,hN,hb⟩;have hso:=event_Order.sorts _ _ _ _ _ hN hlen)|(go_at_call 98;refine hso.mono ?_;rintro e w2 ⟨rfl,hN2,k1,k2,k3,k4,k5⟩))
 go_ret
 refine ⟨_,rfl,hN2,k1.trans hb.os,k2.trans hb.tape,k3.trans hb.output,Nat.le_trans hb.size k4,λj hj=>?_⟩
 refine(k5 j (Nat.lt_of_lt_of_le hj hb.size) λe=>?_).trans (hb.block j hj)
 have:=Kd.N_base hN j e.symm
 omega
def w26_one.f (a0:Int):Option (Int×Int×List Int×(List (S111))):=if a0=1 then(some (1,a0,([]:List Int),(([(⟨1,0,(⟨#[107]⟩:ByteArray),0,0,(⟨#[]⟩:ByteArray)⟩:S111)]:List (S111))))) else(some (1,a0,(([wrap64 (a0 - 1)]:List Int)),(([(⟨1,0,(⟨#[107]⟩:ByteArray),0,0,(⟨#[]⟩:ByteArray)⟩:S111)]:List (S111)))))
theorem w26_one.calls (a0:Int) (r1:Int) (r2:Int) (r3:List Int) (r4:List (S111)) (w:World) (h:w26_one.f a0=some (r1,r2,r3,r4)) :
  Calls Try.prog 23 #[.int .i64 a0] w λe w'=>∃ v2_ v3_:Value,e = .returned (.agg #[.int .i64 r1,.int .i64 r2,v2_,v3_])/\Kd.R (Kd.int .i64) 3 w' w.heap.size (λ_=>True) v2_ r3/\Kd.R k111 111 w' w.heap.size (λ_=>True) v3_ r4/\Below w.heap.size w w':=by
 have hu59:=Try.underlying59
 have hu54:=Try.underlying54
 have hu111:=Try.underlying111
 have HB:=Aside0.mk (Below.refl w.heap.size w)
 have H:(if a0=1 then(some (1,a0,([]:List Int),(([(⟨1,0,(⟨#[107]⟩:ByteArray),0,0,(⟨#[]⟩:ByteArray)⟩:S111)]:List (S111))))) else(some (1,a0,(([wrap64 (a0 - 1)]:List Int)),(([(⟨1,0,(⟨#[107]⟩:ByteArray),0,0,(⟨#[]⟩:ByteArray)⟩:S111)]:List (S111))))))=some (r1,r2,r3,r4):=h
 clear h
 obtain ⟨y138,hy138⟩:∃ y_:List Int,y_=(([wrap64 (a0 - 1)]:List Int)):=⟨_,rfl⟩
 replace H:(if a0=1 then(some (1,a0,([]:List Int),(([(⟨1,0,(⟨#[107]⟩:ByteArray),0,0,(⟨#[]⟩:ByteArray)⟩:S111)]:List (S111))))) else(some (1,a0,y138,(([(⟨1,0,(⟨#[107]⟩:ByteArray),0,0,(⟨#[]⟩:ByteArray)⟩:S111)]:List (S111))))))=some (r1,r2,r3,r4):=by first|(rw [hy138];with_reducible exact H)|(have H2_:=(Option.bind_some _ _).symm.trans H;rw [hy138];with_reducible exact H2_)|(have H2_:=(Option.bind_some _ _).symm.trans H;with_reducible exact H2_)|with_reducible exact H|(rw [hy138];exact H)|exact H
 have Ny138:=Aside0.mk hy138
 clear hy138
 by_cases c2:a0=1
 rotate_left
 ·rw [if_neg c2] at H
  have c2b0:(a0 == 1)=false:=beq_eq_false_iff_ne.mpr c2
  have c2b1:(a0 != 1)=true:=bne_iff_ne.mpr c2
  obtain ⟨y144,hy144⟩:∃ y_:List (S111),y_=(([(⟨1,0,(⟨#[107]⟩:ByteArray),0,0,(⟨#[]⟩:ByteArray)⟩:S111)]:List (S111))):=⟨_,rfl⟩
  replace H:(some (1,a0,y138,y144))=some (r1,r2,r3,r4):=by first|(rw [hy144];with_reducible exact H)|(have H2_:=(Option.bind_some _ _).symm.trans H;rw [hy144];with_reducible exact H2_)|(have H2_:=(Option.bind_some _ _).symm.trans H;with_reducible exact H2_)|with_reducible exact H|(rw [hy144];exact H)|exact H
  have Ny144:=Aside0.mk hy144
  clear hy144
  simp only [Option.some.injEq,Prod.mk.injEq] at H
  obtain ⟨rfl,rfl,rfl,rfl⟩:=H
  go_enter Try.func23,Try.ntmps23
  go_wp2_with (first|((with_reducible refine gate_dst (N:=2) rfl ?_);refine box_event ?hg (N:=2) ?hd (cs:=#[.int .i64 0,.int .i64 0,.slice none 0 0,.slice none 0 0]) (t:=59) ?hr ?_;(case hd=>rfl);(case hg=>rfl);(case hr=>exact z3_4);intro gb137 hg w10 hbox hb;have BK137:=Aside0.mk (hbox);have GW137:=Aside0.mk ((by rw [hg];exact(below_size z4_4):w.heap.size<=gb137));have GE137:=Aside0.mk ((by rw [hg];exact(below_size z4_4):w.heap.size<=gb137));replace HB:=Aside0.mk (below_step z4_4 hb);clear hb hbox hg)|((with_reducible refine gate_dst (N:=6) rfl ?_);refine Kd.R_lit (Kd.int .i64) _ 3 ?hg (N:=6) ?hd (xs:=([wrap64 (a0 - 1)]:List Int)) (inner:=[.int .i64 (wrap64 (a0 - 1))]) (ok:=λ_=>True) (okp:=λ_=>True) ?hr ?hp (λ_ hk=>hk) trivial (Below.refl _ _) (Nat.le_refl _) (by simp) ?_;(case hd=>rfl);(case hg=>rfl);(case hr=>exact z3_4);(case hp=>exact z7_5);intro v139 w11 ho12 hb hg_ hnew_;clear hg_ hnew_;(first|rw [<-Ny138.out] at ho12|(simp only [Int.reduceToNat] at ho12;rw [<-Ny138.out] at ho12));have HO140:=Aside0.mk (Kd.R_lower ho12 (below_size z7_0));replace BK137:=Aside0.mk (blk_below (g:=gb137) (o:=.cells #[.int .i64 0,.int .i64 0,.slice none 0 0,.slice none 0 0] 59 (0,0)) z7_3 hb);replace HB:=Aside0.mk (below_step z7_0 hb);clear hb ho12)|((with_reducible refine gate_dst (N:=13) rfl ?_);refine Kd.R_lit k111 _ 111 ?hg (N:=13) ?hd (xs:=([(⟨1,0,(⟨#[107]⟩:ByteArray),0,0,(⟨#[]⟩:ByteArray)⟩:S111)]:List (S111))) (inner:=[.int .i64 1,.int .i64 0,.string (⟨#[107]⟩:ByteArray),.int .i64 0,.int .i64 0,.string (⟨#[]⟩:ByteArray)]) (ok:=λ_=>True) (okp:=λ_=>True) ?hr ?hp (λ_ hk=>hk) trivial (Below.refl _ _) (Nat.le_refl _) (by simp) ?_;(case hd=>rfl);(case hg=>rfl);(case hr=>exact z3_4);(case hp=>exact z7_2);intro v145 w13 ho14 hb hg_ hnew_;clear hg_ hnew_;(first|rw [<-Ny144.out] at ho14|(simp only [Int.reduceToNat] at ho14;rw [<-Ny144.out] at ho14));replace HO140:=Aside0.mk (Kd.R_below (by(with_reducible repeat(first|apply Kd.R_alloc|apply Kd.R_drewN|apply Kd.R_drew));exact HO140.out) hb);have HO146:=Aside0.mk (Kd.R_lower ho14 (below_size z7_0));replace BK137:=Aside0.mk (blk_below (g:=gb137) (o:=.cells #[.int .i64 0,.int .i64 0,.slice none 0 0,.slice none 0 0] 59 (0,0)) z7_3 hb);replace HB:=Aside0.mk (below_step z7_0 hb);clear hb ho14;obtain ⟨Ao15,co15,eo15⟩:=Kd.R_slice HO146.out;subst eo15;obtain ⟨Ao16,co16,eo16⟩:=Kd.R_slice HO140.out;subst eo16;obtain ⟨hcz17_0,hcz17_1,hcz17_2,hcz17_3,hfz17_0,hfz17_1,hfz17_2,hfz17_3⟩:=cz4_ BK137.out))
  refine bodyPost_ret (results_cell_row rfl _ _ gb137 59 #[.int .i64 1,.int .i64 a0,.slice Ao16 y138.length co16,.slice Ao15 y144.length co15] (0,0) _ rfl (by(with_reducible repeat(first|refine blk_drewN ?_ _|refine blk_drew ?_|refine blk_alloc ?_ _));refine blk_put (cs:=#[.int .i64 1,.int .i64 a0,.slice Ao16 y138.length co16,.slice none 0 0]) ?_ 3 _ rfl;(with_reducible repeat(first|refine blk_drewN ?_ _|refine blk_drew ?_|refine blk_alloc ?_ _));refine blk_put (cs:=#[.int .i64 1,.int .i64 a0,.slice none 0 0,.slice none 0 0]) ?_ 2 _ rfl;(with_reducible repeat(first|refine blk_drewN ?_ _|refine blk_drew ?_|refine blk_alloc ?_ _));refine blk_put (cs:=#[.int .i64 1,.int .i64 0,.slice none 0 0,.slice none 0 0]) ?_ 1 _ rfl;(with_reducible repeat(first|refine blk_drewN ?_ _|refine blk_drew ?_|refine blk_alloc ?_ _));refine blk_put (cs:=#[.int .i64 0,.int .i64 0,.slice none 0 0,.slice none 0 0]) ?_ 0 _ rfl;(with_reducible repeat(first|refine blk_drewN ?_ _|refine blk_drew ?_|refine blk_alloc ?_ _));exact BK137.out) Try.underlying59 rfl (by kernel_rfl)) rfl ?_
  exact ⟨_,_,(by first|rfl|(simp [errW_none,errW_some]<;>rfl)|(simp [*,errW_none,errW_some]<;>rfl)),(by(with_reducible repeat(first|apply Kd.R_alloc|apply Kd.R_drewN|apply Kd.R_drew));exact Kd.R_mono (Kd.R_far (p:=⟨gb137,3,none⟩) (Kd.R_far (p:=⟨gb137,2,none⟩) (Kd.R_far (p:=⟨gb137,1,none⟩) (Kd.R_far (p:=⟨gb137,0,none⟩) (Kd.R_types HO140.out BK137.out (by decide)) (λ_ hk=>hk.2) (.int .i64 1)) (λ_ hk=>hk.2) (.int .i64 a0)) (λ_ hk=>hk.2) (.slice Ao16 y138.length co16)) (λ_ hk=>hk.2) (.slice Ao15 y144.length co15)) (λ_ hk=>trivial)),(by(with_reducible repeat(first|apply Kd.R_alloc|apply Kd.R_drewN|apply Kd.R_drew));exact Kd.R_mono (Kd.R_far (p:=⟨gb137,3,none⟩) (Kd.R_far (p:=⟨gb137,2,none⟩) (Kd.R_far (p:=⟨gb137,1,none⟩) (Kd.R_far (p:=⟨gb137,0,none⟩) (Kd.R_types HO146.out BK137.out (by decide)) (λ_ hk=>hk.2) (.int .i64 1)) (λ_ hk=>hk.2) (.int .i64 a0)) (λ_ hk=>hk.2) (.slice Ao16 y138.length co16)) (λ_ hk=>hk.2) (.slice Ao15 y144.length co15)) (λ_ hk=>trivial)),z7_0⟩
 rw [if_pos c2] at H
 have c2b0:(a0 == 1)=true:=beq_iff_eq.mpr c2
 have c2b1:(a0 != 1)=false:=bne_eq_false_iff_eq.mpr c2
 clear c2
 obtain ⟨y141,hy141⟩:∃ y_:List (S111),y_=(([(⟨1,0,(⟨#[107]⟩:ByteArray),0,0,(⟨#[]⟩:ByteArray)⟩:S111)]:List (S111))):=⟨_,rfl⟩
 replace H:(some (1,a0,([]:List Int),y141))=some (r1,r2,r3,r4):=by first|(rw [hy141];with_reducible exact H)|(have H2_:=(Option.bind_some _ _).symm.trans H;rw [hy141];with_reducible exact H2_)|(have H2_:=(Option.bind_some _ _).symm.trans H;with_reducible exact H2_)|with_reducible exact H|(rw [hy141];exact H)|exact H
 have Ny141:=Aside0.mk hy141
 clear hy141
 simp only [Option.some.injEq,Prod.mk.injEq] at H
 obtain ⟨rfl,rfl,rfl,rfl⟩:=H
 go_enter Try.func23,Try.ntmps23
 go_wp2_with (first|((with_reducible refine gate_dst (N:=2) rfl ?_);refine box_event ?hg (N:=2) ?hd (cs:=#[.int .i64 0,.int .i64 0,.slice none 0 0,.slice none 0 0]) (t:=59) ?hr ?_;(case hd=>rfl);(case hg=>rfl);(case hr=>exact z3_4);intro gb137 hg w3 hbox hb;have BK137:=Aside0.mk (hbox);have GW137:=Aside0.mk ((by rw [hg];exact(below_size z4_4):w.heap.size<=gb137));have GE137:=Aside0.mk ((by rw [hg];exact(below_size z4_4):w.heap.size<=gb137));replace HB:=Aside0.mk (below_step z4_4 hb);clear hb hbox hg)|((with_reducible refine gate_dst (N:=6) rfl ?_);refine Kd.R_lit (Kd.int .i64) _ 3 ?hg (N:=6) ?hd (xs:=([wrap64 (a0 - 1)]:List Int)) (inner:=[.int .i64 (wrap64 (a0 - 1))]) (ok:=λ_=>True) (okp:=λ_=>True) ?hr ?hp (λ_ hk=>hk) trivial (Below.refl _ _) (Nat.le_refl _) (by simp) ?_;(case hd=>rfl);(case hg=>rfl);(case hr=>exact z3_4);(case hp=>exact z7_5);intro v139 w4 ho5 hb hg_ hnew_;clear hg_ hnew_;(first|rw [<-Ny138.out] at ho5|(simp only [Int.reduceToNat] at ho5;rw [<-Ny138.out] at ho5));have HO140:=Aside0.mk (Kd.R_lower ho5 (below_size z7_0));replace BK137:=Aside0.mk (blk_below (g:=gb137) (o:=.cells #[.int .i64 0,.int .i64 0,.slice none 0 0,.slice none 0 0] 59 (0,0)) z7_3 hb);replace HB:=Aside0.mk (below_step z7_0 hb);clear hb ho5)|((with_reducible refine gate_dst (N:=13) rfl ?_);refine Kd.R_lit k111 _ 111 ?hg (N:=13) ?hd (xs:=([(⟨1,0,(⟨#[107]⟩:ByteArray),0,0,(⟨#[]⟩:ByteArray)⟩:S111)]:List (S111))) (inner:=[.int .i64 1,.int .i64 0,.string (⟨#[107]⟩:ByteArray),.int .i64 0,.int .i64 0,.string (⟨#[]⟩:ByteArray)]) (ok:=λ_=>True) (okp:=λ_=>True) ?hr ?hp (λ_ hk=>hk) trivial (Below.refl _ _) (Nat.le_refl _) (by simp) ?_;(case hd=>rfl);(case hg=>rfl);(case hr=>exact z3_4);(case hp=>exact z7_2);intro v142 w6 ho7 hb hg_ hnew_;clear hg_ hnew_;(first|rw [<-Ny141.out] at ho7|(simp only [Int.reduceToNat] at ho7;rw [<-Ny141.out] at ho7));replace HO140:=Aside0.mk (Kd.R_below (by(with_reducible repeat(first|apply Kd.R_alloc|apply Kd.R_drewN|apply Kd.R_drew));exact HO140.out) hb);have HO143:=Aside0.mk (Kd.R_lower ho7 (below_size z7_0));replace BK137:=Aside0.mk (blk_below (g:=gb137) (o:=.cells #[.int .i64 0,.int .i64 0,.slice none 0 0,.slice none 0 0] 59 (0,0)) z7_3 hb);replace HB:=Aside0.mk (below_step z7_0 hb);clear hb ho7;obtain ⟨Ao8,co8,eo8⟩:=Kd.R_slice HO143.out;subst eo8;obtain ⟨hcz9_0,hcz9_1,hcz9_2,hcz9_3,hfz9_0,hfz9_1,hfz9_2,hfz9_3⟩:=cz4_ BK137.out))
 refine bodyPost_ret (results_cell_row rfl _ _ gb137 59 #[.int .i64 1,.int .i64 a0,.slice none 0 0,.slice Ao8 y141.length co8] (0,0) _ rfl (by(with_reducible repeat(first|refine blk_drewN ?_ _|refine blk_drew ?_|refine blk_alloc ?_ _));refine blk_put (cs:=#[.int .i64 1,.int .i64 a0,.slice none 0 0,.slice none 0 0]) ?_ 3 _ rfl;(with_reducible repeat(first|refine blk_drewN ?_ _|refine blk_drew ?_|refine blk_alloc ?_ _));refine blk_put (cs:=#[.int .i64 1,.int .i64 a0,.slice none 0 0,.slice none 0 0]) ?_ 2 _ rfl;(with_reducible repeat(first|refine blk_drewN ?_ _|refine blk_drew ?_|refine blk_alloc ?_ _));refine blk_put (cs:=#[.int .i64 1,.int .i64 0,.slice none 0 0,.slice none 0 0]) ?_ 1 _ rfl;(with_reducible repeat(first|refine blk_drewN ?_ _|refine blk_drew ?_|refine blk_alloc ?_ _));refine blk_put (cs:=#[.int .i64 0,.int .i64 0,.slice none 0 0,.slice none 0 0]) ?_ 0 _ rfl;(with_reducible repeat(first|refine blk_drewN ?_ _|refine blk_drew ?_|refine blk_alloc ?_ _));exact BK137.out) Try.underlying59 rfl (by kernel_rfl)) rfl ?_
 exact ⟨_,_,(by first|rfl|(simp [errW_none,errW_some]<;>rfl)|(simp [*,errW_none,errW_some]<;>rfl)),(by first|exact Kd.R_nil _ _ _ _ _|exact Kd.N_nil _ _ _ _ _|exact Kd.V_nil _ _ _ _ _|exact Kd.Q_nil _ _ _ _ _|exact Kd.S_nil _ _ _ _ _),(by(with_reducible repeat(first|apply Kd.R_alloc|apply Kd.R_drewN|apply Kd.R_drew));exact Kd.R_mono (Kd.R_far (p:=⟨gb137,3,none⟩) (Kd.R_far (p:=⟨gb137,2,none⟩) (Kd.R_far (p:=⟨gb137,1,none⟩) (Kd.R_far (p:=⟨gb137,0,none⟩) (Kd.R_types HO143.out BK137.out (by decide)) (λ_ hk=>hk.2) (.int .i64 1)) (λ_ hk=>hk.2) (.int .i64 a0)) (λ_ hk=>hk.2) (.slice none 0 0)) (λ_ hk=>hk.2) (.slice Ao8 y141.length co8)) (λ_ hk=>trivial)),z7_0⟩
end Go.Proofs.Ytfhamdobagjakaa.PCa
