/- a part -/
import Derived.Test.YtfhamdobagjakaaCaWaits
import Derived.Test.YtfhamdobagjakaaHand2
namespace Go.Proofs.Ytfhamdobagjakaa.Cau
open Go.RowKit Go.Proofs.YtfhamdobagjakaaW.PrintWords Go.Proofs.YtfhamdobagjakaaW.PrintLast Go.Proofs.YtfhamdobagjakaaW.PrintMore Go.Proofs.Ytfhamdobagjakaa.Hand Go.Proofs.Ytfhamdobagjakaa.Cards Go.Proofs.Ytfhamdobagjakaa.PCa Go.Proofs.Ytfhamdobagjakaa.DotMap
set_option linter.unusedVariables false
set_option linter.unusedSimpArgs false
section
variable {w0 W w W1 W2 : World} {g bm clk base : Nat} {X : Nat -> Prop} {c : List Int} {es : List En} {l : List Ev} {ok ok' : Nat -> Prop} {x : Ev} {v : Value} {A Ap Ae Ac Ac1 : Option Addr} {cl cp ce cc cc1 : Nat}
theorem own_ok {α:Type} {d:Kd α} {e n cl:Nat} {xs:List α} {ad:Addr} (h:Kd.N d e W base ok (.slice (some ad) n cl) xs):ok ad.block:=by
 obtain ⟨hok,rows,hrl,⟨hro,inner,hown,hrr⟩,hf⟩:=h
 rcases hown.2 with ⟨he,_⟩|⟨g,cap,cur,he,_⟩
 ·injection he with he _ _
  cases he
 ·injection he with he _ _
  injection he with he
  subst he
  exact hok g rfl
theorem at_ev (h:Kd.N k59 59 W base ok (.slice A l.length cl) l) {i:Nat} (hi:i<l.length):∃ ad Ap cp Ae ce,A=some ad/\W.cell? (ad.add (i*4))=some (.int .i64 l[i].f0.f0)/\W.cell? ⟨(ad.add (i*4)).block,(ad.add (i*4)).off+1,none⟩=some (.int .i64 l[i].f0.f1)/\W.cell? ⟨(ad.add (i*4)).block,(ad.add (i*4)).off+2,none⟩=some (.slice Ap l[i].f1.length cp)/\W.cell? ⟨(ad.add (i*4)).block,(ad.add (i*4)).off+3,none⟩=some (.slice Ae l[i].f2.length ce)/\EvR W ok l[i] Ap cp Ae ce:=by
 have hf:=(N_foot h).2.2
 have hr:=F_reads hf (λad e hp=>by subst e;exact own_ok h)
 obtain ⟨ad,ea,hc⟩:=hr.2.2 (by omega)
 obtain ⟨cs,hlen,hFK,hcell⟩:=hc i _ (List.getElem?_eq_getElem hi)
 obtain ⟨A2,c2,A3,c3,rfl,l2,g2,l3,g3⟩:=k59_openF hFK
 have hk:k59.sz=4:=rfl
 have q:=λj z hz=>hcell j z hz
 refine ⟨ad,A2,c2,A3,c3,ea,?_,?_,?_,?_,l2,g2,l3,g3⟩
 ·have:=q 0 _ rfl
  rw [hk,Nat.add_zero] at this
  exact this
 ·have:=q 1 _ rfl
  rw [hk,add_field _ _ 1 (by omega)] at this
  exact this
 ·have:=q 2 _ rfl
  rw [hk,add_field _ _ 2 (by omega)] at this
  exact this
 ·have:=q 3 _ rfl
  rw [hk,add_field _ _ 3 (by omega)] at this
  exact this
def idx (p:Ev->Bool) (l:List Ev):Int:=match l.findIdx? p with|some i=>(i:Int)|none=>-1
theorem idx_hit {p:Ev->Bool} {i:Nat} (hi:i<l.length) (hp:p l[i]=true) (hb:∀ j (h:j<l.length),j<i->p l[j]=false):idx p l=i:=by
 unfold idx
 rw [List.findIdx?_eq_some_iff_getElem.2 ⟨hi,hp,λj hj=>by rw [hb j (by omega) hj];decide⟩]
theorem idx_miss {p:Ev->Bool} (hb:∀ j (h:j<l.length),p l[j]=false):idx p l = -1:=by
 unfold idx
 rw [List.findIdx?_eq_none_iff.2 (λx hx=>by obtain ⟨j,hj,rfl⟩:=List.mem_iff_getElem.1 hx;exact hb j hj)]
set_option maxHeartbeats 8000000 in
set_option maxRecDepth 100000 in
theorem index_calls (h:Bf w0 W g bm X Ac cc c es clk) (hN:Kd.N k59 59 W base ok (.slice A l.length cl) l) (hl:l.length<=1000000):Calls Try.prog 96 #[.slice A l.length cl,.func (.func 57) #[.pointer (some ⟨g,0,none⟩)] #[]] W λe w'=>e = .returned (.int .i64 (idx (canB c) l))/\Below W.heap.size W w':=by
 have H:=Aside0.mk h
 have HN:=Aside0.mk hN
 have HL:=Aside0.mk hl
 clear h hN hl
 obtain ⟨r,hr⟩:∃ r,r=idx (canB c) l:=⟨_,rfl⟩
 rw [<-hr]
 have HR:=Aside0.mk hr
 clear hr
 go_enter Try.func96,Try.ntmps96
 go_wp2
 go_loopg [8] l.length (λgg s8 wr=>∃ kk:Nat,kk<=l.length/\l.length - kk<=gg/\s8 = .int .i64 kk/\Aside0 (Below W.heap.size W wr)/\Aside0 (∀ j (h:j<l.length),j<kk->canB c l[j]=false))
 case atStart=>exact ⟨0,Nat.zero_le _,by omega,rfl,⟨Below.refl _ _⟩,⟨λj _ h=>absurd h (Nat.not_lt_zero _)⟩⟩
 case round =>
  obtain ⟨kk,hkk,hg,rfl,HB,LO⟩:=hrel
  have hl_:=HL.out
  by_cases hlt:kk<l.length
  ·have hltz:(kk:Int)<(l.length:Int):=by omega
   obtain ⟨ad,Ap,cp,Ae,ce,ea,y0,y1,y2,y3,hE⟩:=at_ev (Kd.N_below HN.out HB.out) hlt
   subst ea
   have cC:=can_calls (H.out.on HB.out) hE
   obtain ⟨x,hx⟩:∃ x,x=l[kk]:=⟨_,rfl⟩
   rw [<-hx] at y0 y1 y2 y3 cC
   have XK:=Aside0.mk hx
   clear hE hx
   cases hq:canB c x with
   | true =>
    rw [hq] at cC
    have e_:r=(kk:Int):=HR.out.trans (idx_hit hlt (by rw [<-XK.out];exact hq) LO.out)
    have C_:=Aside0.mk cC
    have HE:=Aside0.mk e_
    clear cC e_ hq
    go_wp2_with (go_at_call 57;refine C_.out.mono ?_;rintro e w2 ⟨rfl,hb⟩;have HB2:=Aside0.mk hb;clear hb)
    go_ret
    exact ⟨by rw [HE.out];rfl,below_step HB.out HB2.out⟩
   | false =>
    rw [hq] at cC
    have C_:=Aside0.mk cC
    clear cC
    go_wp2_with (go_at_call 57;refine C_.out.mono ?_;rintro e w2 ⟨rfl,hb⟩;have HB2:=Aside0.mk hb;clear hb)
    go_roundg (l.length - (kk+1))
    case measure=>omega
    case rel =>
     refine ⟨kk+1,by omega,by omega,by go_num,⟨below_step HB.out HB2.out⟩,⟨λj hj hjk=>?_⟩⟩
     by_cases e:j=kk
     ·subst e
      rw [<-XK.out]
      exact hq
     ·exact LO.out j hj (by omega)
  ·have hltz:¬ (kk:Int)<(l.length:Int):=by omega
   have e_:r = -1:=HR.out.trans (idx_miss (λj hj=>LO.out j hj (by omega)))
   subst e_
   go_wp2
   go_ret
   exact ⟨rfl,HB.out⟩
theorem insL_perm (x:Ev):∀ ys:List Ev,(Srt.insL event_Order.lt x ys).Perm (x :: ys)
 | []=>List.Perm.refl _
 | y :: ys=>by
  unfold Srt.insL
  split
  ·exact List.Perm.refl _
  ·exact((insL_perm x ys).cons y).trans (List.Perm.swap x y ys)
theorem ordL_perm (l:List Ev):(Srt.ordL event_Order.lt l).Perm l:=by
 have:∀ (l acc:List Ev),(l.foldl (λacc x=>Srt.insL event_Order.lt x acc) acc).Perm (acc++l):=by
  intro l
  induction l with
  | nil=>intro acc;rw [List.append_nil];exact List.Perm.refl _
  | cons x l ih =>
   intro acc
   rw [List.foldl_cons]
   refine(ih _).trans ?_
   refine((insL_perm x acc).append_right l).trans ?_
   exact(List.perm_middle (a:=x) (l₁:=acc) (l₂:=l)).symm
 exact this l []
def NextIs (W w':World) (e:Ending) (o:Option Ev):Prop:=match o with
 | none=>e = .returned (.tuple #[zEv,.bool false])
 | some x=>∃ v,e = .returned (.tuple #[v,.bool true])/\EvIs w' (λk=>W.heap.size<=k) v x
def waitL (es:List En):List Ev:=Srt.ordL event_Order.lt (es.map (·.x))
theorem idx_find {p:Ev->Bool}:∀ l:List Ev,(idx p l = -1/\l.find? p=none)\/∃ i,∃ h:i<l.length,idx p l=(i:Int)/\l.find? p=some l[i]
 | l=>by
  unfold idx
  cases h:l.findIdx? p with
  | none =>
   refine .inl ⟨rfl,List.find?_eq_none.2 (λx hx=>?_)⟩
   have:=List.findIdx?_eq_none_iff.1 h x hx
   rw [this]
   decide
  | some i =>
   obtain ⟨hi,hp,hb⟩:=List.findIdx?_eq_some_iff_getElem.1 h
   refine .inr ⟨i,hi,rfl,?_⟩
   rw [List.find?_eq_some_iff_getElem]
   exact ⟨hp,i,hi,rfl,λj hj=>by simpa using hb j hj⟩
set_option maxHeartbeats 8000000 in
set_option maxRecDepth 100000 in
theorem next_calls (h:Bf w0 W g bm X Ac cc c es clk) (hX:∀ k,X k->k<W.heap.size) (hlen:∀ e ∈ es,e.x.f1.length<=1000/\e.x.f2.length<=100000) (hn:es.length<=1000000):Calls Try.prog 60 #[.pointer (some ⟨g,0,none⟩)] W λe w'=>NextIs W w' e ((waitL es).find? (canB c))/\Below W.heap.size W w':=by
 have hb:Below W.heap.size W (W.alloc (.cells #[.int .i64 0,.int .i64 0,.slice none 0 0,.slice none 0 0] 59)):=below_alloc (Below.refl _ _) _
 have H:=Aside0.mk (h.on hb)
 have XB:=Aside0.mk (heap_alloc_new W (.cells #[.int .i64 0,.int .i64 0,.slice none 0 0,.slice none 0 0] 59))
 have HB:=Aside0.mk hb
 have WC:=Aside0.mk (waits_calls (h.on hb) (λk hk=>Nat.lt_of_lt_of_le (hX k hk) hb.size) hlen hn)
 have LL:(waitL es).length=es.length:=by unfold waitL;rw [(ordL_perm _).length_eq,List.length_map]
 have HN:=Aside0.mk hn
 have HL:=Aside0.mk LL
 obtain ⟨l,hl⟩:∃ l,l=waitL es:=⟨_,rfl⟩
 change Aside0 (Calls _ _ _ _ (λe w'=>∃ v,e = .returned v/\Kd.N _ _ _ _ _ v (waitL es)/\_)) at WC
 rw [<-hl] at WC HL ⊢
 obtain ⟨o,ho⟩:∃ o,o=l.find? (canB c):=⟨_,rfl⟩
 rw [<-ho]
 have HO:=Aside0.mk ho
 clear h hX hlen hn hb LL hl ho
 go_enter Try.func60,Try.ntmps60
 go_upto_region 1 with (fail)
 obtain ⟨w1,hw1⟩:∃ w1,w1=W.alloc (.cells #[.int .i64 0,.int .i64 0,.slice none 0 0,.slice none 0 0] 59):=⟨_,rfl⟩
 obtain ⟨br,hbr⟩:∃ br,br=W.heap.size:=⟨_,rfl⟩
 rw [<-hw1] at H XB HB WC ⊢
 rw [<-hbr] at XB ⊢
 have BR:=Aside0.mk hbr
 have W1S:=Aside0.mk (show W.heap.size<w1.heap.size by rw [hw1];simp)
 clear hw1 hbr
 go_upto_region 2 with (first|(go_at_call 24;(with_reducible refine Calls.mono WC.out ?_);rintro e w2 ⟨v,rfl,hN,hb⟩;obtain ⟨A3,c3,e3⟩:=Kd.N_slice hN;subst e3;have ROW:=Aside0.mk hN;have HB2:=Aside0.mk hb;clear hN hb))
 have q_:=blk_below XB.out HB2.out
 clear XB
 have XB:=Aside0.mk q_
 clear q_
 have q_:=H.out.on HB2.out
 clear H
 have H:=Aside0.mk q_
 clear q_
 have IC:=Aside0.mk (index_calls H.out ROW.out (by rw [HL.out];exact HN.out))
 rcases idx_find (p:=canB c) l with ⟨ei,ef⟩|⟨i,hi,ei,ef⟩
 ·rw [ei] at IC
  have EO:=Aside0.mk (HO.out.trans ef)
  clear ei ef
  go_upto_region 3 with (first|(go_at_call 96;(with_reducible refine Calls.mono IC.out ?_);rintro e w3 ⟨rfl,hb⟩;have HB3:=Aside0.mk hb;clear hb))
  have q_:=blk_below XB.out HB3.out
  clear XB IC
  have XB:=Aside0.mk q_
  clear q_
  have z0:=blk_frozen XB.out 0
  have z1:=blk_frozen XB.out 1
  have z2:=blk_frozen XB.out 2
  have z3:=blk_frozen XB.out 3
  have r0:=(blk_cell XB.out 0).trans (rfl:_=some (Value.int .i64 0))
  have r1:=(blk_cell XB.out 1).trans (rfl:_=some (Value.int .i64 0))
  have r2:=(blk_cell XB.out 2).trans (rfl:_=some (Value.slice none 0 0))
  have r3:=(blk_cell XB.out 3).trans (rfl:_=some (Value.slice none 0 0))
  go_wp2
  refine bodyPost_ret (v:=.tuple #[zEv,.bool false]) ?hres rfl ?_
  case hres =>
   simp only [results,Try.results60,r0,r1,r2,r3]
   first|rfl|(simp [r0,r1,r2,r3];done)|(go_simp;done)|(go_simp;rfl)
  refine ⟨by rw [EO.out];rfl,?_⟩
  exact below_put4 (below_step (below_step HB.out HB2.out) HB3.out) (by rw [BR.out];exact Nat.le_refl _)
 ·rw [ei] at IC
  have EO:=Aside0.mk (HO.out.trans ef)
  clear ei ef
  have HI:=Aside0.mk hi
  have hltz:((i:Int)<0)=False:=by simp
  go_upto_region 3 with (first|(go_at_call 96;(with_reducible refine Calls.mono IC.out ?_);rintro e w3 ⟨rfl,hb⟩;have HB3:=Aside0.mk hb;clear hb))
  have q_:=blk_below XB.out HB3.out
  clear XB IC
  have XB:=Aside0.mk q_
  clear q_
  obtain ⟨ad,Ap,cp,Ae,ce,ea,y0,y1,y2,y3,hE⟩:=at_ev (Kd.N_below ROW.out HB3.out) HI.out
  subst ea
  obtain ⟨x,hx⟩:∃ x,x=l[i]:=⟨_,rfl⟩
  rw [<-hx] at y0 y1 y2 y3 hE EO
  have HE:=Aside0.mk hE
  clear hE hx
  have hlz:(i:Int)<(l.length:Int):=by omega
  have z0:=blk_frozen XB.out 0
  have z1:=blk_frozen XB.out 1
  have z2:=blk_frozen XB.out 2
  have z3:=blk_frozen XB.out 3
  have r0:=(blk_cell XB.out 0).trans (rfl:_=some (Value.int .i64 0))
  have r1:=(blk_cell XB.out 1).trans (rfl:_=some (Value.int .i64 0))
  have r2:=(blk_cell XB.out 2).trans (rfl:_=some (Value.slice none 0 0))
  have r3:=(blk_cell XB.out 3).trans (rfl:_=some (Value.slice none 0 0))
  go_wp2
  refine bodyPost_ret (v:=.tuple #[evV x Ap cp Ae ce,.bool true]) ?hres rfl ?_
  case hres =>
   simp only [results,Try.results60,r0,r1,r2,r3]
   first|rfl|(simp [r0,r1,r2,r3];done)|(go_simp;done)|(go_simp;rfl)
  have s1:=HB.out.size
  have lb:=blk_lt XB.out
  refine ⟨?_,?_⟩
  ·rw [EO.out]
   exact ⟨_,rfl,Ap,cp,Ae,ce,rfl,(HE.out.step (λk hk _=>by have hk':k≠br:=(by have:=BR.out;have:=W1S.out;omega);rw [Below.heap_setCell _ _ _ _ hk',Below.heap_setCell _ _ _ _ hk',Below.heap_setCell _ _ _ _ hk',Below.heap_setCell _ _ _ _ hk'])).mono (λk hk=>Nat.le_trans s1 hk)⟩
  ·exact below_put4 (below_step (below_step HB.out HB2.out) HB3.out) (by rw [BR.out];exact Nat.le_refl _)
end
end Go.Proofs.Ytfhamdobagjakaa.Cau
