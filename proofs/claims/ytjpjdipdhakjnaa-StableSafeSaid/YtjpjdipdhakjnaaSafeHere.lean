/- a part -/
import Derived.Test.YtjpjdipdhakjnaaHand
import Derived.Test.YtjpjdipdhakjnaaSafePlain
import Derived.Test.YtjpjdipdhakjnaaPStabx1
namespace Go.Proofs.Ytjpjdipdhakjnaa.PStab
open Go.RowKit Go.Proofs.YtjpjdipdhakjnaaW.PrintWords Go.Proofs.YtjpjdipdhakjnaaW.PrintLast Go.Proofs.YtjpjdipdhakjnaaW.PrintMore Go.Proofs.Ytjpjdipdhakjnaa.ClockBase Go.Proofs.Ytjpjdipdhakjnaa.Hand
set_option linter.unusedVariables false
set_option linter.unusedSimpArgs false
def kE:Kd (Int×Int×List Int):=Kd.iso (Kd.pair (Kd.int .i64) (Kd.pair (Kd.int .i64) (Kd.pair (Kd.slice 3 (Kd.int .i64)) (Kd.slice 3 (Kd.int .i64))))) (λx=>(x.1,x.2.1,x.2.2,[]))
theorem kE_mk (w:World) (x:Int×Int×List Int) {A:Option Addr} {c:Nat} (l:x.2.2.length<=c) (g:(Kd.int .i64).C w A x.2.2.length x.2.2):kE.K w x [.int .i64 x.1,.int .i64 x.2.1,.slice A x.2.2.length c,.slice none 0 0] :=
 ⟨[_],[_,_,_],rfl,rfl,[_],[_,_],rfl,rfl,[_],[_],rfl,⟨A,c,rfl,l,g⟩,⟨none,0,rfl,Nat.le_refl _,Kd.C_nil _ _⟩⟩
theorem kE_mkF (W:World) (ok:Nat->Prop) (x:Int×Int×List Int) {A:Option Addr} {c:Nat} (l:x.2.2.length<=c) (g:Kd.F (Kd.int .i64) W ok A x.2.2.length x.2.2):Kd.FK kE W ok x [.int .i64 x.1,.int .i64 x.2.1,.slice A x.2.2.length c,.slice none 0 0]:=λW2 hW=>kE_mk W2 x l (g W2 hW)
theorem kE_open {w:World} {x:Int×Int×List Int} {cs:List Value} (h:kE.K w x cs):∃ A c B d,cs=[.int .i64 x.1,.int .i64 x.2.1,.slice A x.2.2.length c,.slice B 0 d]/\x.2.2.length<=c/\(Kd.int .i64).C w A x.2.2.length x.2.2:=by
 obtain ⟨_,_,rfl,rfl,_,_,rfl,rfl,_,_,rfl,⟨A,c,rfl,l,g⟩,⟨B,d,rfl,_,_⟩⟩:=h
 exact ⟨A,c,B,d,rfl,l,g⟩
theorem at_E {w:World} {A:Option Addr} {n:Nat} {xs:List (Int×Int×List Int)} (h:Kd.C kE w A n xs) (i:Nat) (h1:i<n):∃ ad A2 c2 B d,A=some ad/\w.cell? (ad.add (i*4))=some (.int .i64 (xs.getD i (0,0,[])).1)/\w.cell? ⟨(ad.add (i*4)).block,(ad.add (i*4)).off+1,none⟩=some (.int .i64 (xs.getD i (0,0,[])).2.1)/\w.cell? ⟨(ad.add (i*4)).block,(ad.add (i*4)).off+2,none⟩=some (.slice A2 (xs.getD i (0,0,[])).2.2.length c2)/\w.cell? ⟨(ad.add (i*4)).block,(ad.add (i*4)).off+3,none⟩=some (.slice B 0 d)/\(xs.getD i (0,0,[])).2.2.length<=c2/\(Kd.int .i64).C w A2 (xs.getD i (0,0,[])).2.2.length (xs.getD i (0,0,[])).2.2:=by
 obtain ⟨ad,c,e,_,hK,hc0⟩:=Kd.C_get h (0,0,[]) (i:Int) (by omega) (by omega)
 rw [Int.toNat_natCast] at hK hc0
 have hc:∀ j u,c[j]? = some u->w.cell? (ad.add (i*4+j))=some u:=hc0
 obtain ⟨A2,c2,B,d,rfl,l2,g2⟩:=kE_open hK
 exact ⟨ad,A2,c2,B,d,e,hc 0 _ rfl,by rw [<-add_field _ _ 1 (by omega)];exact hc 1 _ rfl,by rw [<-add_field _ _ 2 (by omega)];exact hc 2 _ rfl,by rw [<-add_field _ _ 3 (by omega)];exact hc 3 _ rfl,l2,g2⟩
def kT:Kd (Int×Int×Int×Bool):=Kd.pair (Kd.int .i64) (Kd.pair (Kd.int .i64) (Kd.pair (Kd.int .i64) Kd.bool))
theorem at_T {w:World} {A:Option Addr} {n:Nat} {xs:List (Int×Int×Int×Bool)} (h:Kd.C kT w A n xs) (i:Nat) (h1:i<n):∃ ad,A=some ad/\w.cell? (ad.add (i*4))=some (.int .i64 (xs.getD i (0,0,0,false)).1)/\w.cell? ⟨(ad.add (i*4)).block,(ad.add (i*4)).off+1,none⟩=some (.int .i64 (xs.getD i (0,0,0,false)).2.1)/\w.cell? ⟨(ad.add (i*4)).block,(ad.add (i*4)).off+2,none⟩=some (.int .i64 (xs.getD i (0,0,0,false)).2.2.1)/\w.cell? ⟨(ad.add (i*4)).block,(ad.add (i*4)).off+3,none⟩=some (.bool (xs.getD i (0,0,0,false)).2.2.2):=by
 obtain ⟨ad,c,e,_,hK,hc0⟩:=Kd.C_get h (0,0,0,false) (i:Int) (by omega) (by omega)
 rw [Int.toNat_natCast] at hK hc0
 have hc:∀ j u,c[j]? = some u->w.cell? (ad.add (i*4+j))=some u:=hc0
 obtain ⟨_,_,rfl,rfl,_,_,rfl,rfl,_,_,rfl,rfl,rfl⟩:=hK
 exact ⟨ad,e,hc 0 _ rfl,by rw [<-add_field _ _ 1 (by omega)];exact hc 1 _ rfl,by rw [<-add_field _ _ 2 (by omega)];exact hc 2 _ rfl,by rw [<-add_field _ _ 3 (by omega)];exact hc 3 _ rfl⟩
def Ck (w:World) (ok:Nat->Prop) (v:Value) (x:List Int):Prop:=∃ A c,v = .slice A x.length c/\x.length<=c/\Kd.F (Kd.int .i64) w ok A x.length x
theorem Ck.mono {w ok ok' v x} (h:Ck w ok v x) (hok:∀ k,ok k->k<w.heap.size->ok' k):Ck w ok' v x:=by
 obtain ⟨A,c,e,l,f⟩:=h
 exact ⟨A,c,e,l,Kd.F_mono (Kd.F_bound f) (λk hk=>hok k hk.1 hk.2)⟩
theorem Ck.step {w w1 ok v x} (h:Ck w ok v x) (hm:∀ k,ok k->k<w.heap.size->w1.heap[k]? = w.heap[k]?):Ck w1 ok v x:=by
 obtain ⟨A,c,e,l,f⟩:=h
 exact ⟨A,c,e,l,Kd.F_step f hm⟩
theorem Ck.nil (w ok):Ck w ok (.slice none 0 0) []:=⟨none,0,rfl,Nat.le_refl _,Kd.F_nil _ _ _⟩
theorem Ck.of_R {w base ok v x} (h:(Kd.int .i64).R 3 w base ok v x):Ck w (λk=>ok k/\base<=k) v x:=by
 have h2:=Kd.R_mono (Kd.R_bound h) (ok':=λk=>ok k/\base<=k) (λk hk=>⟨hk.1,hk.2.1⟩)
 obtain ⟨A,c,rfl⟩:=Kd.R_slice h2
 exact ⟨A,c,rfl,(Kd.R_reads' h2).2.1,Kd.R_F h2⟩
structure Arr (w:World) (b:Nat) (ok:Nat->Prop) (K:List (List Int)):Prop where
 len:K.length=4
 blk:∃ cs:Array Value,w.heap[b]? = some (.cells cs 54 (0,0))/\cs.size=4/\∀ j,j<4->∃ v,cs[j]? = some v/\Ck w ok v (kn K j)
theorem Arr.lt {w b ok K} (h:Arr w b ok K):b<w.heap.size:=by
 obtain ⟨_,cs,hb,_⟩:=h
 exact blk_lt hb
theorem Arr.at {w b ok K} (h:Arr w b ok K) {j:Nat} (hj:j<4):∃ v,w.cell? ⟨b,j,none⟩=some v/\Ck w ok v (kn K j):=by
 obtain ⟨_,cs,hb,hs,hc⟩:=h
 obtain ⟨v,e,c⟩:=hc j hj
 exact ⟨v,(blk_cell hb j).trans e,c⟩
theorem Arr.frozen {w b ok K} (h:Arr w b ok K) (j:Nat):w.frozen? ⟨b,j,none⟩=false:=by
 obtain ⟨_,cs,hb,hs,hc⟩:=h
 exact blk_frozen hb j
theorem Arr.step {w w1 b ok K} (h:Arr w b ok K) (hb:w1.heap[b]? = w.heap[b]?) (hm:∀ k,ok k->k<w.heap.size->w1.heap[k]? = w.heap[k]?):Arr w1 b ok K:=by
 obtain ⟨hl,cs,h0,hs,hc⟩:=h
 exact ⟨hl,cs,hb.trans h0,hs,λj hj=>by obtain ⟨v,e,c⟩:=hc j hj;exact ⟨v,e,c.step hm⟩⟩
theorem Arr.mono {w b ok ok' K} (h:Arr w b ok K) (hok:∀ k,ok k->k<w.heap.size->ok' k):Arr w b ok' K:=by
 obtain ⟨hl,cs,h0,hs,hc⟩:=h
 exact ⟨hl,cs,h0,hs,λj hj=>by obtain ⟨v,e,c⟩:=hc j hj;exact ⟨v,e,c.mono hok⟩⟩
theorem Arr.put {w b ok K} (h:Arr w b ok K) {j:Nat} (hj:j<4) {v:Value} {x:List Int} (hv:Ck w ok v x) (hok:∀ k,ok k->k≠b):Arr (w.setCell ⟨b,j,none⟩ v) b ok (K.set j x):=by
 obtain ⟨hl,cs,h0,hs,hc⟩:=h
 have hm:∀ k,ok k->k<w.heap.size->(w.setCell ⟨b,j,none⟩ v).heap[k]? = w.heap[k]?:=λk hk _=>Below.heap_setCell w ⟨b,j,none⟩ v k (hok k hk)
 refine ⟨by rw [List.length_set];exact hl,cs.setIfInBounds j v,blk_put h0 j v rfl,by rw [Array.size_setIfInBounds];exact hs,λi hi=>?_⟩
 rw [kn,gd_set (by omega),Array.getElem?_setIfInBounds]
 by_cases e:j=i
 ·subst e
  rw [if_pos rfl,if_pos rfl,if_pos (by omega)]
  exact ⟨v,rfl,hv.step hm⟩
 ·rw [if_neg e,if_neg (λq=>e q.symm)]
  obtain ⟨u,q,c⟩:=hc i hi
  exact ⟨u,q,c.step hm⟩
def Ok (bk ba:Nat) (v5:Value):Nat->Prop:=λk=>k≠bk/\k≠ba/\some k≠v5.ownBlock
structure Here (w wr:World) (bk ba:Nat) (v5 v6:Value) (K A L:List (List Int)) (M:List (Int×Int×List Int)):Prop where
 below:Below w.heap.size w wr
 gk:w.heap.size<=bk
 ga:w.heap.size<=ba
 ne:bk≠ba
 known:Arr wr bk (Ok bk ba v5) K
 asked:Arr wr ba (Ok bk ba v5) A
 made:Kd.N kE 62 wr w.heap.size (λk=>k≠bk/\k≠ba) v5 M
 list:∃ Al cl,v6 = .slice Al L.length cl/\L.length<=cl/\Kd.F (Kd.slice 3 (Kd.int .i64)) wr (Ok bk ba v5) Al L.length L
section
variable {w wr w1 : World} {bk ba : Nat} {v5 v6 : Value} {K A L : List (List Int)} {M : List (Int × Int × List Int)}
theorem Here.on (h:Here w wr bk ba v5 v6 K A L M) (hb:Below wr.heap.size wr w1):Here w w1 bk ba v5 v6 K A L M:=by
 have hm:∀ k,k<wr.heap.size->w1.heap[k]? = wr.heap[k]?:=λk hk=>hb.block k hk
 obtain ⟨Al,cl,e,l,f⟩:=h.list
 exact ⟨below_step h.below hb,h.gk,h.ga,h.ne,h.known.step (hm _ h.known.lt) (λk _ hk=>hm k hk),h.asked.step (hm _ h.asked.lt) (λk _ hk=>hm k hk),Kd.N_below h.made hb,Al,cl,e,l,Kd.F_below f hb⟩
theorem Ck.on {ok v x} (h:Ck wr ok v x) (hb:Below wr.heap.size wr w1):Ck w1 ok v x:=h.step (λk _ hk=>hb.block k hk)
theorem Ck.fresh {x:List Int} {v:Value} {base:Nat} {ok:Nat->Prop} (h:(Kd.int .i64).R 3 w1 base ok v x) (hk:bk<base) (ha:ba<base) (h5:∀ k,v5.ownBlock=some k->k<base):Ck w1 (Ok bk ba v5) v x :=
 (Ck.of_R h).mono λk hk' _=>⟨by omega,by omega,λe=>by have:=h5 k e.symm;omega⟩
theorem Here.own (h:Here w wr bk ba v5 v6 K A L M):∀ k,v5.ownBlock=some k->k<wr.heap.size:=Kd.N_lt h.made
theorem Here.putK (h:Here w wr bk ba v5 v6 K A L M) {j:Nat} (hj:j<4) {v:Value} {x:List Int} (hv:Ck wr (Ok bk ba v5) v x):Here w (wr.setCell ⟨bk,j,none⟩ v) bk ba v5 v6 (K.set j x) A L M:=by
 have hf:∀ k,k≠bk->(wr.setCell ⟨bk,j,none⟩ v).heap[k]? = wr.heap[k]?:=λk hk=>Below.heap_setCell wr ⟨bk,j,none⟩ v k hk
 obtain ⟨Al,cl,e,l,f⟩:=h.list
 exact ⟨below_set h.below h.gk,h.gk,h.ga,h.ne,h.known.put hj hv (λk hk=>hk.1),h.asked.step (hf ba (λe=>h.ne e.symm)) (λk hk _=>hf k hk.1),Kd.N_step h.made (λk hk _=>hf k hk.1),Al,cl,e,l,Kd.F_step f (λk hk _=>hf k hk.1)⟩
theorem Here.putA (h:Here w wr bk ba v5 v6 K A L M) {j:Nat} (hj:j<4) {v:Value} {x:List Int} (hv:Ck wr (Ok bk ba v5) v x):Here w (wr.setCell ⟨ba,j,none⟩ v) bk ba v5 v6 K (A.set j x) L M:=by
 have hf:∀ k,k≠ba->(wr.setCell ⟨ba,j,none⟩ v).heap[k]? = wr.heap[k]?:=λk hk=>Below.heap_setCell wr ⟨ba,j,none⟩ v k hk
 obtain ⟨Al,cl,e,l,f⟩:=h.list
 exact ⟨below_set h.below h.ga,h.gk,h.ga,h.ne,h.known.step (hf bk h.ne) (λk hk _=>hf k hk.2.1),h.asked.put hj hv (λk hk=>hk.2.1),Kd.N_step h.made (λk hk _=>hf k hk.2),Al,cl,e,l,Kd.F_step f (λk hk _=>hf k hk.2.1)⟩
theorem Ok.after {k:Nat} {v1:Value} {wr:World} (hk:Ok bk ba v5 k) (hlt:k<wr.heap.size) (hat:v1.ownBlock=v5.ownBlock\/∃ b,v1.ownBlock=some b/\wr.heap.size<=b):Ok bk ba v1 k:=by
 refine ⟨hk.1,hk.2.1,λe=>?_⟩
 rcases hat with hat|⟨b,hb,hle⟩
 ·rw [hat] at e;exact hk.2.2 e
 ·rw [hb] at e;injection e with e;omega
theorem Ck.after {v1 v:Value} {x:List Int} (h:Ck wr (Ok bk ba v5) v x) (hg:wr.grownBy w1 v5.ownBlock) (hat:v1.ownBlock=v5.ownBlock\/∃ b,v1.ownBlock=some b/\wr.heap.size<=b):Ck w1 (Ok bk ba v1) v x:=by
 obtain ⟨A,c,e,l,f⟩:=h
 exact ⟨A,c,e,l,Kd.F_mono (Kd.F_step (Kd.F_bound f) (λk hk hlt=>hg.block k hlt hk.1.2.2)) (λk hk=>Ok.after hk.1 hk.2 hat)⟩
theorem Here.more (h:Here w wr bk ba v5 v6 K A L M) {v1:Value} {M':List (Int×Int×List Int)} (hN:Kd.N kE 62 w1 w.heap.size (λk=>k≠bk/\k≠ba) v1 M') (hb:Below w.heap.size w w1) (hg:wr.grownBy w1 v5.ownBlock) (hat:v1.ownBlock=v5.ownBlock\/∃ b,v1.ownBlock=some b/\wr.heap.size<=b):Here w w1 bk ba v1 v6 K A L M':=by
 have nk:some bk≠v5.ownBlock:=λe=>(h.made.1 bk e.symm).1 rfl
 have na:some ba≠v5.ownBlock:=λe=>(h.made.1 ba e.symm).2 rfl
 obtain ⟨Al,cl,e,l,f⟩:=h.list
 have arr:∀ {b:Nat} {X:List (List Int)},some b≠v5.ownBlock->Arr wr b (Ok bk ba v5) X->Arr w1 b (Ok bk ba v1) X:=λ{b X} nb hA=>by
  obtain ⟨hl,cs,h0,hs,hc⟩:=hA
  exact ⟨hl,cs,(hg.block b (blk_lt h0) nb).trans h0,hs,λj hj=>by obtain ⟨v,e,c⟩:=hc j hj;exact ⟨v,e,c.after hg hat⟩⟩
 exact ⟨hb,h.gk,h.ga,h.ne,arr nk h.known,arr na h.asked,hN,Al,cl,e,l,Kd.F_mono (Kd.F_step (Kd.F_bound f) (λk hk hlt=>hg.block k hlt hk.1.2.2)) (λk hk=>Ok.after hk.1 hk.2 hat)⟩
theorem Here.learnt (h:Here w wr bk ba v5 v6 K A L M) (hb:Below wr.heap.size wr w1) {v:Value} {L':List (List Int)} {base:Nat} (hN:Kd.N (Kd.slice 3 (Kd.int .i64)) 23 w1 base (λk=>Ok bk ba v5 k\/wr.heap.size<=k) v L'):Here w w1 bk ba v5 v K A L' M:=by
 have h1:=h.on hb
 obtain ⟨Al,cl,rfl⟩:=Kd.N_slice hN
 have hk:=h.known.lt;have ha:=h.asked.lt;have h5:=h.own
 exact ⟨h1.below,h1.gk,h1.ga,h1.ne,h1.known,h1.asked,h1.made,Al,cl,rfl,(Kd.N_reads' hN).2.1,Kd.F_mono (Kd.N_F hN) (λk hk'=>by
  rcases hk' with hk'|hk'
  ·exact hk'
  ·exact ⟨by omega,by omega,λe=>by have:=h5 k e.symm;omega⟩)⟩
end
def zs:List (List Int):=[[],[],[],[]]
theorem zs_at (j:Nat):kn zs j=[]:=by
 match j with
 | 0=>rfl|1=>rfl|2=>rfl|3=>rfl
 | j+4=>rfl
abbrev zCells:Array Value:=#[.slice none 0 0,.slice none 0 0,.slice none 0 0,.slice none 0 0]
theorem arr_zero {W:World} {b:Nat} {ok:Nat->Prop} (h:W.heap[b]? = some (.cells zCells 54 (0,0))):Arr W b ok zs :=
 ⟨rfl,_,h,rfl,λj hj=>by
  rw [zs_at]
  refine ⟨.slice none 0 0,?_,Ck.nil _ _⟩
  rcases (by omega:j=0\/j=1\/j=2\/j=3) with rfl|rfl|rfl|rfl<;>rfl⟩
theorem here_start {w w3 w4:World} {v5 v6:Value} (h3:Below ((w.alloc (.cells zCells 54)).alloc (.cells zCells 54)).heap.size ((w.alloc (.cells zCells 54)).alloc (.cells zCells 54)) w3)
  (hN:Kd.N kE 62 w3 w.heap.size (λk=>k≠w.heap.size/\k≠w.heap.size+1) v5 []) (h4:Below w3.heap.size w3 w4) (hS:Kd.S (Kd.slice 3 (Kd.int .i64)) 23 w4 w3.heap.size (λ_=>True) v6 [[],[],[]]) :
  Here w w4 w.heap.size (w.heap.size+1) v5 v6 zs zs [[],[],[]] []:=by
 have s1:(w.alloc (.cells zCells 54)).heap.size=w.heap.size+1:=by simp
 have s2:((w.alloc (.cells zCells 54)).alloc (.cells zCells 54)).heap.size=w.heap.size+2:=by simp
 have b0:Below w.heap.size w ((w.alloc (.cells zCells 54)).alloc (.cells zCells 54)):=below_alloc (below_alloc (Below.refl _ _) _) _
 have k1:((w.alloc (.cells zCells 54)).alloc (.cells zCells 54)).heap[w.heap.size]? = some (.cells zCells 54 (0,0)):=by
  have:=heap_alloc_new w (.cells zCells 54)
  have h2:Below (w.alloc (.cells zCells 54)).heap.size (w.alloc (.cells zCells 54)) ((w.alloc (.cells zCells 54)).alloc (.cells zCells 54)):=below_alloc (Below.refl _ _) _
  exact blk_below this h2
 have k2:((w.alloc (.cells zCells 54)).alloc (.cells zCells 54)).heap[w.heap.size+1]? = some (.cells zCells 54 (0,0)):=by
  have:=heap_alloc_new (w.alloc (.cells zCells 54)) (.cells zCells 54)
  rwa [s1] at this
 have k1':=blk_below (blk_below k1 h3) h4
 have k2':=blk_below (blk_below k2 h3) h4
 have hsz:=below_size h3
 obtain ⟨Al,cl,rfl⟩:=Kd.S_slice hS
 refine ⟨below_step (below_step b0 h3) h4,Nat.le_refl _,Nat.le_succ _,by omega,arr_zero k1',arr_zero k2',Kd.N_below hN h4,Al,cl,rfl,(Kd.R_reads' (Kd.S_R hS)).2.1,?_⟩
 exact Kd.F_mono (Kd.S_F (Kd.S_bound hS)) (λk hk=>⟨by have:=hk.2.1;omega,by have:=hk.2.1;omega,λe=>by have:=Kd.N_lt hN k e.symm;have:=hk.2.1;omega⟩)
end Go.Proofs.Ytjpjdipdhakjnaa.PStab
