/- a part -/
import Derived.Test.YtfhamdobagjakaaJoAll
namespace Go.Proofs.Ytfhamdobagjakaa.Dsk
open Go.RowKit Go.Proofs.YtfhamdobagjakaaW.PrintWords Go.Proofs.YtfhamdobagjakaaW.PrintLast Go.Proofs.YtfhamdobagjakaaW.PrintMore Go.Proofs.Ytfhamdobagjakaa.Hand Go.Proofs.Ytfhamdobagjakaa.Cards Go.Proofs.Ytfhamdobagjakaa.PJo Go.Proofs.Ytfhamdobagjakaa.Wr
set_option linter.unusedVariables false
set_option linter.unusedSimpArgs false
section
abbrev Ac:=S34
theorem ac_rd {l:List Ac} {i:Nat} (h:i<l.length):rd_T34 l (i:Int)=l[i]:=by
 unfold rd_T34
 rw [List.getD_eq_getElem?_getD,Int.toNat_natCast,List.getElem?_eq_getElem h,Option.getD_some]
theorem light_in (l:List Ac) (hn:l.length<=1000000000000000) (hl:∀ x ∈ l,x.f1.length<=1000000000000000) (i:Nat) (hi:i<l.length) {Pr:Prop} (ih:∀ n,∃ r,Ev (λk=>w07_Light.l0 k l n ((i+1:Nat):Int)) r/\(r=true->Pr)) (e:Nat):∀ (j:Nat) (n:Int),j+e=l[i].f1.length->∃ r,Ev (λk=>w07_Light.l1 k l n (i:Int) (j:Int)) r/\(r=true->Pr):=by
 have hin:=hl _ (List.getElem_mem hi)
 have hwi:wrap64 ((i:Int)+1)=((i+1:Nat):Int):=by unfold wrap64;omega
 induction e with
 | zero =>
  intro j n hj
  obtain ⟨r,hr,hp⟩:=ih n
  refine ⟨r,Ev.step (f:=λk=>w07_Light.l0 k l n ((i+1:Nat):Int)) (λk=>?_) hr,hp⟩
  simp only [w07_Light.l1]
  rw [if_pos (by omega),if_pos (by omega),ac_rd hi,if_neg (by omega),hwi]
 | succ e ih2 =>
  intro j n hj
  have hwj:wrap64 ((j:Int)+1)=((j+1:Nat):Int):=by unfold wrap64;omega
  obtain ⟨m,hm⟩:∃ m,m=wrap64 (n+((rd_T92 l[i].f1 (j:Int)).f1.length:Int)):=⟨_,rfl⟩
  by_cases hb:m > 6000
  ·refine ⟨false,Ev.step (f:=λ_=>some false) (λk=>?_) (Ev.now _),λe=>by cases e⟩
   simp only [w07_Light.l1]
   rw [if_pos (by omega),if_pos (by omega),ac_rd hi,if_pos (by omega),if_pos (by omega),<-hm,if_pos hb]
  ·obtain ⟨r,hr,hp⟩:=ih2 (j+1) m (by omega)
   refine ⟨r,Ev.step (f:=λk=>w07_Light.l1 k l m (i:Int) ((j+1:Nat):Int)) (λk=>?_) hr,hp⟩
   simp only [w07_Light.l1]
   rw [if_pos (by omega),if_pos (by omega),ac_rd hi,if_pos (by omega),if_pos (by omega),<-hm,if_neg hb,hwj]
theorem light_loop (l:List Ac) (hn:l.length<=1000000000000000) (hl:∀ x ∈ l,x.f1.length<=1000000000000000) (d:Nat):∀ (i:Nat) (n:Int),i+d=l.length->∃ r,Ev (λk=>w07_Light.l0 k l n (i:Int)) r/\(r=true->l.length<=30/\∀ x ∈ l.drop i,x.f1.length<=10):=by
 induction d with
 | zero =>
  intro i n hi
  refine ⟨decide ((l.length:Int)<=30),Ev.step (f:=λk=>w07_Light.j1 k l n (i:Int) false) (λk=>?_) (Ev.step (f:=λ_=>some (decide ((l.length:Int)<=30))) (λk=>?_) (Ev.now _)),λe=>⟨by have:=of_decide_eq_true e;omega,λx hx=>?_⟩⟩
  ·simp only [w07_Light.l0]
   rw [if_neg (by omega)]
  ·simp only [w07_Light.j1]
   rw [if_neg (by decide)]
  ·rw [List.drop_eq_nil_of_le (by omega)] at hx
   cases hx
 | succ d ih =>
  intro i n hi
  have hil:i<l.length:=by omega
  have s0:∀ k,w07_Light.l0 (k+1) l n (i:Int)=w07_Light.j1 k l n (i:Int) (decide ((i:Int)<=30)):=λk=>by
   simp only [w07_Light.l0]
   rw [if_pos (by omega)]
  by_cases h30:(i:Int)<=30
  ·by_cases h10:(l[i].f1.length:Int) > 10
   ·refine ⟨false,Ev.step (f:=λk=>w07_Light.j1 k l n (i:Int) (decide ((i:Int)<=30))) s0 (Ev.step (f:=λ_=>some false) (λk=>?_) (Ev.now _)),λe=>by cases e⟩
    simp only [w07_Light.j1]
    rw [if_pos (decide_eq_true h30),if_pos (by omega),if_pos (by omega),ac_rd hil,if_pos h10]
   ·have hdr:l.drop i=l[i] :: l.drop (i+1):=List.drop_eq_getElem_cons hil
    obtain ⟨r,hr,hp⟩:=light_in l hn hl i hil (Pr:=l.length<=30/\∀ x ∈ l.drop (i+1),x.f1.length<=10) (λn=>ih (i+1) n (by omega)) l[i].f1.length 0 n (by omega)
    refine ⟨r,Ev.step (f:=λk=>w07_Light.j1 k l n (i:Int) (decide ((i:Int)<=30))) s0 (Ev.step (f:=λk=>w07_Light.l1 k l n (i:Int) ((0:Nat):Int)) (λk=>?_) hr),λe=>?_⟩
    ·simp only [w07_Light.j1]
     rw [if_pos (decide_eq_true h30),if_pos (by omega),if_pos (by omega),ac_rd hil,if_neg h10]
     rfl
    ·refine ⟨(hp e).1,λx hx=>?_⟩
     rw [hdr] at hx
     rcases List.mem_cons.1 hx with rfl|hx
     ·omega
     ·exact(hp e).2 x hx
  ·refine ⟨false,Ev.step (f:=λk=>w07_Light.j1 k l n (i:Int) (decide ((i:Int)<=30))) s0 (Ev.step (f:=λ_=>some false) (λk=>?_) (Ev.now _)),λe=>by cases e⟩
   simp only [w07_Light.j1]
   rw [if_neg (by rw [decide_eq_false h30];decide),decide_eq_false (by omega)]
theorem light_ev (l:List Ac) (hn:l.length<=1000000000000000) (hl:∀ x ∈ l,x.f1.length<=1000000000000000):∃ k r,w07_Light.f k l=some r/\(r=true->l.length<=30/\∀ x ∈ l,x.f1.length<=10):=by
 obtain ⟨r,hr,hp⟩:=light_loop l hn hl l.length 0 0 (by omega)
 obtain ⟨k,hk⟩:=ev_some hr
 exact ⟨k,r,hk,hp⟩
def LF (w1 w:World) (i:Nat) (g gj gw:Nat):Prop:=∃ D Ab Am cb cm d s t base more,Lw w1 w g gj gw D Ab Am cb cm d s t base more t/\PInv i d s t base more
theorem LF.on {w1 w w2:World} {i g gj gw:Nat} (h:LF w1 w i g gj gw) (hb:Below w.heap.size w w2):LF w1 w2 i g gj gw:=by
 obtain ⟨D,Ab,Am,cb,cm,d,s,t,base,more,hl,hp⟩:=h
 exact ⟨D,Ab,Am,cb,cm,d,s,t,base,more,hl.on hb,hp⟩
theorem recs_ge (l:List Rc):l.length<=(recs l).length:=by
 induction l with
 | nil=>exact Nat.le_refl _
 | cons r l ih =>
  rw [recs_cons,List.length_append,List.length_cons,record_length]
  omega
theorem row_small {d:Dk} (g:d.Good) (h:d.room<=255) (o:Int):(d.row o).length<=255:=by
 have h1:=g.l0
 unfold Dk.left at h1
 unfold Dk.row
 split<;>omega
theorem PInv.small {i:Nat} {d:Dk} {s t:Int} {base more:List Rc} (h:PInv i d s t base more):base.length+more.length<=255:=by
 by_cases h0:t=0
 ·obtain ⟨_,_,_,a,b⟩:=h.zero h0
  rw [a,b]
  decide
 ·have hr:=row_small h.good h.rm s
  rw [h.some_ (by have:=h.t0;omega)] at hr
  have h1:=recs_ge base
  have h2:=recs_ge more
  unfold whole at hr
  simp only [List.length_append] at hr
  omega
theorem scan_elder {t:Int} {b:List Int} (h:Elder t b) (ht:t<=1000) (hb:b.length<=255):∃ k f,journal_scan.f k b=some f/\(f.1<t\/f.1<=0)/\¬ f.2.2.1<f.2.2.2/\0<=f.1:=by
 rcases h with rfl|⟨t',l,m,h0,h1,rfl,a1,a2,a3,a4⟩
 ·exact ⟨3,_,scan_nil,.inr (Int.le_refl _),by decide,Int.le_refl _⟩
 ·have g1:=recs_ge l
  have g2:=recs_ge m
  unfold whole at hb
  simp only [List.length_append] at hb
  obtain ⟨k,hk⟩:=ev_some (scan_ev t' h0 (by omega) l m a1 a2 a3 a4 (by omega))
  exact ⟨k,_,hk,.inl h1,Int.lt_irrefl _,by show(0:Int)<=(t':Int);omega⟩
theorem PInv.opens {i:Nat} {d:Dk} {s t:Int} {base more:List Rc} (h:PInv i d s t base more) (hi:i<900) :
  ∃ k0 k1 f0 f1 x y,journal_scan.f k0 d.b0=some f0/\journal_scan.f k1 d.b1=some f1/\found 0 (1,0,[],0,0) x f0/\found 1 x y f1/\¬ y.2.2.2.1<y.2.2.2.2/\y.2.2.1=base++more:=by
 have h0:=h.t0
 have h1:=h.ti
 have r0:=row_small h.good h.rm 0
 have r1:=row_small h.good h.rm 1
 by_cases tz:t=0
 ·obtain ⟨_,b0,b1,e1,e2⟩:=h.zero tz
  rw [b0,b1,e1,e2]
  exact ⟨3,3,_,_,(1,0,[],0,0),(1,0,[],0,0),scan_nil,scan_nil,.inr ⟨by decide,rfl⟩,.inr ⟨by decide,rfl⟩,by decide,rfl⟩
 ·have hsm:=h.small
  obtain ⟨k,hk⟩:=ev_some (scan_ev t.toNat (by omega) (by omega) base more h.mb h.bb h.mm h.bm (by omega))
  have et:((t.toNat:Nat):Int)=t:=by omega
  rw [et,<-h.some_ (by omega)] at hk
  rcases h.hs with hs|hs
  ·subst hs
   obtain ⟨k1,f1,e1,e2,e3,e4⟩:=scan_elder (h.other 1 (.inr rfl) (by decide)) (by omega) r1
   refine ⟨k,k1,_,f1,(0,_),(0,_),hk,e1,.inl ⟨by show t > 0;omega,rfl⟩,.inr ⟨by show ¬ f1.1 > t;omega,rfl⟩,Int.lt_irrefl _,rfl⟩
  ·subst hs
   obtain ⟨k0,f0,e1,e2,e3,e4⟩:=scan_elder (h.other 0 (.inl rfl) (by decide)) (by omega) r0
   by_cases z:f0.1 > 0
   ·refine ⟨k0,k,f0,_,(0,f0),(1,_),e1,hk,.inl ⟨z,rfl⟩,.inl ⟨by show t > f0.1;omega,rfl⟩,Int.lt_irrefl _,rfl⟩
   ·refine ⟨k0,k,f0,_,(1,0,[],0,0),(1,_),e1,hk,.inr ⟨z,rfl⟩,.inl ⟨by show t > 0;omega,rfl⟩,Int.lt_irrefl _,rfl⟩
theorem mayL.small {l:List Rc} (h:mayL l):∀ r ∈ l,r.f1.length<=140737488355328:=λr hr=>by have:=(h r hr).2.2;omega
set_option maxHeartbeats 16000000 in
set_option maxRecDepth 100000 in
theorem jfull_calls (room:Int) (r0:0<=room) (r1:room<=255) (AL:Option Addr) (cl:Nat) (l0:List Ac) (w:World) (hr0:Kd.C k34 w AL l0.length l0) (hc0:l0.length<=cl) (hl:l0.length<=1000000000000000) (hb0:∀ x ∈ l0,x.f1.length<=1000000000000000/\byL x.f1) :
  Calls Try.prog 3 #[.slice AL l0.length cl,.int .u8 room] w λe w'=>e = .returned (.bool true)/\Below w.heap.size w w':=by
 obtain ⟨lk,lr,hlr,hlt⟩:=light_ev l0 hl (λx hx=>(hb0 x hx).1)
 have hL:=w07_Light.calls _ AL cl l0 lr w hr0 hc0 hlr
 have HL:=Aside0.mk hL
 have HR:=Aside0.mk hr0
 have HLE:=Aside0.mk hb0
 have HLT:=Aside0.mk hlt
 have R0:=Aside0.mk r0
 have R1:=Aside0.mk r1
 have hw:IntKind.i64.wrap room=room:=by rw [IntKind.wrap_i64];omega
 clear hL hlr hr0 hb0 hlt r0 r1
 go_enter Try.func3,Try.ntmps3
 cases lr with
 | false =>
  go_wp2_with (first|(go_at_call 10;(with_reducible refine Calls.mono HL.out ?_);rintro e w1 ⟨rfl,hd⟩;have HB:=Aside0.mk hd.below;clear hd)|(go_at_call 11;(with_reducible refine Calls.mono (jawake_calls _) ?_);rintro e w2 ⟨rfl,hb⟩;have HB2:=Aside0.mk (below_step HB.out hb);clear hb))
  go_ret
  exact ⟨rfl,HB2.out⟩
 | true =>
 go_upto_region 6 with (first|(go_at_call 10;(with_reducible refine Calls.mono HL.out ?_);rintro e w1 ⟨rfl,hd⟩;have HB:=Aside0.mk hd.below;clear hd)|(go_at_call 12;(with_reducible refine Calls.mono (begin_calls room R0.out R1.out w1) ?_);rintro e w2 ⟨g,gj,gw,D0,rfl,hl2⟩;have LP:=Aside0.mk (show LF w1 w2 0 g gj gw from ⟨D0,none,none,0,0,_,_,_,_,_,hl2,PInv.start R0.out R1.out⟩);clear hl2))
 have L30:=Aside0.mk (HLT.out (by trivial))
 clear HLT HL hw R0 R1
 go_wp2
 go_loopg [7] l0.length (λkn_ v7 wx=>∃ n:Nat,v7 = .int .i64 (n:Int)/\n+kn_=l0.length/\Aside0 (LF w1 wx n g gj gw))
 case atStart=>exact ⟨0,rfl,by omega,LP⟩
 case round =>
  clear LP
  obtain ⟨n,rfl,hnk,LP⟩:=hrel
  by_cases hn:n<l0.length
  case neg =>
   have cn:decide ((n:Int)<(l0.length:Int))=false:=decide_eq_false (by omega)
   go_upto_region 15 with (fail)
   have hn3:=L30.out.1
   obtain ⟨D,Ab,Am,cb,cm,d,s,t,base,more,hlw,hP⟩:=LP.out
   obtain ⟨k0,k1,f0,f1,x,y,q0,q1,hx,hy,hnn,hyl⟩:=hP.opens (by omega)
   obtain ⟨v0,v1,hraw⟩:=hlw.jo.dk
   have ho:=open_calls hraw hP.good hP.live.1 q0 q1 hx hy hnn
   obtain ⟨bm,hbm⟩:∃ bm,bm=base++more:=⟨_,rfl⟩
   rw [hyl,<-hbm] at ho
   have HO:=Aside0.mk ho
   have HBM:=Aside0.mk hbm
   have LW:=Aside0.mk hlw
   have HP:=Aside0.mk hP
   have c0:=hlw.c0
   clear ho hraw hlw hP q0 q1 hx hy hnn hyl LP cn hn3 hbm
   go_upto_region 16 with (first|(go_at_call 18;(with_reducible refine Calls.mono HO.out ?_);rintro e w5 ⟨gj2,A5,c5,rfl,hj,hge,hf,hc5,hb⟩;have q_:=LW.out.on hb;have FT:=Aside0.mk hf;have LC:=Aside0.mk hc5;clear HO hj hge hb hf hc5 LW c0;have LW:=Aside0.mk q_;clear q_))
   obtain ⟨ks,es⟩:=ev_some (same_ev bm (by have:=HP.out.small;rw [HBM.out,List.length_append];omega) (by rw [HBM.out];exact mayL.small (HP.out.mb.append HP.out.mm)))
   have ES:=Aside0.mk es
   have al:=all_calls LW.out (by have:=HP.out.small;omega)
   rw [<-HBM.out] at al
   have ALL:=Aside0.mk al
   clear es al
   go_wp2_with (first|(go_at_call 20;(with_reducible refine Calls.mono ALL.out ?_);rintro e w6 ⟨A6,c6,rfl,hc6,hC6,hb⟩;have C6:=Aside0.mk hC6;have L6:=Aside0.mk hc6;have C5:=Aside0.mk (Kd.C_below (Ft_now FT.out) hb);have B6:=Aside0.mk (below_step LW.out.jo.dk.below hb);clear hc6 hC6 hb)|(go_at_call 19;(with_reducible refine Calls.mono (r07_Same.calls ks A5 c5 bm A6 c6 bm true w6 C5.out LC.out C6.out L6.out ES.out) ?_);rintro e w7 ⟨rfl,hd⟩;have B7:=Aside0.mk (below_step B6.out hd.below);clear hd)|(go_at_call 11;(with_reducible refine Calls.mono (jawake_calls _) ?_);rintro e w8 ⟨rfl,hb⟩;have B8:=Aside0.mk (below_step B7.out hb);clear hb))
   go_ret
   exact ⟨rfl,below_step HB.out B8.out⟩
  have cn:decide ((n:Int)<(l0.length:Int))=true:=decide_eq_true (by omega)
  have hmem:rd_T34 l0 (n:Int) ∈ l0:=by rw [ac_rd hn];exact List.getElem_mem _
  obtain ⟨ad,A1,c1,e_,f0,f1,l1,g1⟩:=at_T34 HR.out (n:Int) (by omega) (by omega)
  subst e_
  have hbig:=(HLE.out _ hmem).2
  have h10:=L30.out.2 _ hmem
  rw [Int.toNat_natCast] at f0 f1
  generalize rd_T34 l0 (n:Int)=st at f0 f1 l1 g1 hbig h10
  clear hmem
  obtain ⟨D,Ab,Am,cb,cm,d,s,t,base,more,hlw,hP⟩:=LP.out
  have LW:=Aside0.mk hlw
  have HP:=Aside0.mk hP
  have bw:=below_step HB.out hlw.jo.dk.below
  have N30:=Aside0.mk (show n<30 by have:=L30.out.1;omega)
  have HBIG:=Aside0.mk hbig
  have H10:=Aside0.mk h10
  have L1:=Aside0.mk l1
  have F0:=Aside0.mk f0
  have F1:=Aside0.mk f1
  have G1:=Aside0.mk g1
  have x0:=hlw.c0
  have x1:=hlw.c1
  have x2:=hlw.c2
  have x3:=hlw.c3
  have x4:=hlw.c4
  clear f0 f1 l1 g1 bw hbig h10 hlw hP
  have d01:(0<=(n:Int))=True:=eq_true (by omega)
  have dn2:((n:Int)<(l0.length:Int))=True:=eq_true (by omega)
  go_upto_region 10 with (fail)
  have bl:=below_alloc (Below.refl wr.heap.size wr) (.cells (LwC g gj Ab Am cb cm base more t) 32)
  have XW:=Aside0.mk (heap_alloc_new wr (.cells (LwC g gj Ab Am cb cm base more t) 32))
  have NW:=Aside0.mk (show ¬ LD D gj gw wr.heap.size from λe=>by have:=LW.out.lt _ e;omega)
  have q_:=LW.out.on bl
  have B3:=Aside0.mk (below_step HB.out q_.jo.dk.below)
  clear LW bl x0 x1 x2 x3 x4 LP
  have LW:=Aside0.mk q_
  clear q_
  obtain ⟨bz,hbz⟩:∃ bz,bz=wr.heap.size:=⟨_,rfl⟩
  rw [<-hbz] at XW NW ⊢
  clear hbz
  generalize wr.alloc (.cells #[.pointer (some ⟨g,0,none⟩),.pointer (some ⟨gj,0,none⟩),.slice Ab base.length cb,.slice Am more.length cm,.int .i64 t] 32)=w3 at LW B3 XW ⊢
  have y0:=pw_cell_below B3.out F0.out
  have y1:=pw_cell_below B3.out F1.out
  by_cases h3:st.f0=3
  ·have o3:(st.f0 == 3)=true:=by simp [h3]
   clear h3
   go_wp2
   go_roundg (l0.length - (n+1))
   case measure=>omega
   case rel=>exact ⟨n+1,by first|(rw [Int.natCast_add];rfl)|rw [show wrap64 ((n:Int)+1)=((n+1:Nat):Int) by unfold wrap64;omega],by omega,⟨D,Ab,Am,cb,cm,d,s,t,base,more,LW.out,HP.out.next⟩⟩
  have o3:(st.f0 == 3)=false:=by simp [h3]
  have fr:=Kd.F_below (Kd.C_F k92_heap G1.out) B3.out
  have hdo:=do_all (i:=n) (o:=st.f0) (c:=c1) LW.out HP.out (by have:=N30.out;omega) h3 (Kd.F_mono fr (λk hk e=>by
   rcases e with e|e
   ·have:=LW.out.jo.ge k e;have:=HB.out.size;omega
   ·have:=LW.out.gb;have:=HB.out.size;omega)) L1.out HBIG.out (by have:=H10.out;omega) (by have:=HP.out.small;omega)
  have HDO:=Aside0.mk hdo
  clear h3 fr hdo
  go_upto_region 12 with (first|(go_at_call 13;(with_reducible refine Calls.mono HDO.out ?_);rintro e w4 ⟨ok,D4,Ab4,Am4,cb4,cm4,d4,s4,t4,base4,more4,n4,rfl,hl4,hs4,hT4,hF4⟩;have L4:=Aside0.mk hl4;have S4:=Aside0.mk hs4;have T4:=Aside0.mk hT4;have F4:=Aside0.mk hF4;clear hl4 hs4 hT4 hF4 HDO;cases ok))
  ·have hF:=F4.out (by trivial)
   have ht:=hF.1
   subst ht
   have P4:=Aside0.mk hF.2.1
   have M4:=Aside0.mk hF.2.2.1
   have LF4:=Aside0.mk hF.2.2.2
   clear hF F4 T4
   have xw:=S4.out.blk XW.out NW.out
   have fb:=F_LD LW.out.fb S4.out
   have fm:=F_LD LW.out.fm S4.out
   have hlb:=LW.out.lb
   have hlm:=LW.out.lm
   have nz:=xw.2
   have w2_:=(blk_cell xw.1 2).trans (rfl:_=some (Value.slice Ab base.length cb))
   have w3_:=(blk_cell xw.1 3).trans (rfl:_=some (Value.slice Am more.length cm))
   have w4_:=(blk_cell xw.1 4).trans (rfl:_=some (Value.int .i64 t4))
   have z2:=L4.out.c2
   have z3:=L4.out.c3
   have z4:=L4.out.c4
   have g2:=L4.out.fz 2
   have g3:=L4.out.fz 3
   have g4:=L4.out.fz 4
   have n1:bz≠gw:=λe=>nz (.inr e)
   have n2:gw≠bz:=λe=>n1 e.symm
   clear y0 y1
   go_region
   have q1:=L4.out.set (base1:=base) (Ab1:=Ab) (cb1:=cb) (more1:=more4) (Am1:=Am4) (cm1:=cm4) (n1:=n4) 2 (.slice Ab base.length cb) rfl hlb fb L4.out.lm L4.out.fm
   have fb1:=Kd.F_far (p:=⟨gw,2,none⟩) fb (λk hk e=>hk (.inr e)) (.slice Ab base.length cb)
   have fm1:=Kd.F_far (p:=⟨gw,2,none⟩) fm (λk hk e=>hk (.inr e)) (.slice Ab base.length cb)
   have q2:=q1.set (base1:=base) (Ab1:=Ab) (cb1:=cb) (more1:=more) (Am1:=Am) (cm1:=cm) (n1:=n4) 3 (.slice Am more.length cm) rfl hlb fb1 hlm fm1
   have fb2:=Kd.F_far (p:=⟨gw,3,none⟩) fb1 (λk hk e=>hk (.inr e)) (.slice Am more.length cm)
   have fm2:=Kd.F_far (p:=⟨gw,3,none⟩) fm1 (λk hk e=>hk (.inr e)) (.slice Am more.length cm)
   have q3:=(q2.set (base1:=base) (Ab1:=Ab) (cb1:=cb) (more1:=more) (Am1:=Am) (cm1:=cm) (n1:=t4) 4 (.int .i64 t4) rfl hlb fb2 hlm fm2).on (below_drew (Below.refl _ _))
   clear LW XW NW S4 xw fb fm hlb hlm nz w2_ w3_ w4_ z2 z3 z4 g2 g3 g4 n1 n2 q1 q2 fb1 fm1 fb2 fm2 L4 B3 HP
   have LW:=Aside0.mk q3
   clear q3
   generalize (((w4.setCell ⟨gw,2,none⟩ (.slice Ab base.length cb)).setCell ⟨gw,3,none⟩ (.slice Am more.length cm)).setCell ⟨gw,4,none⟩ (.int .i64 t4)).drew=w5 at LW ⊢
   obtain ⟨km,hkm⟩:=ev_some (may_ev st.f1 (by have:=H10.out;omega))
   rw [decide_eq_true M4.out] at hkm
   have KM:=Aside0.mk hkm
   obtain ⟨kw,hkw⟩:=ev_some (whole_ev 9 (by decide) st.f1 M4.out HBIG.out (by have:=H10.out;omega))
   have KW:=Aside0.mk hkw
   obtain ⟨wl,hwl⟩:∃ wl,wl=whole 9 st.f1:=⟨_,rfl⟩
   have hlf:¬ (d4.left>=(wl.length:Int)):=by rw [hwl];have:=LF4.out;omega
   rw [<-hwl] at KW
   have lf0:decide (d4.left>=(wl.length:Int))=false:=decide_eq_false hlf
   have lf1:decide ((wl.length:Int)<=d4.left)=false:=lf0
   have BW:=Aside0.mk (below_step HB.out LW.out.jo.dk.below)
   clear hkm hkw hwl hlf LF4
   go_upto_region 13 with (fail)
   refine region_cardsG (F:=?Fg) 28 (λw'=>Aside0 (Below w5.heap.size w5 w'))
    [λv _ _ _=>v = .pointer (some ⟨gw,0,none⟩),
    λv _ _ _=>v = .pointer (some ⟨gw,0,none⟩),
    λv _ _ _=>v = .pointer (some ⟨gw,1,none⟩),
    λv _ _ _=>v = .pointer (some ⟨gj,0,none⟩),
    λv w' _ _=>v = .bool false,
    λv _ _ _=>v = .bool false,
    λv _ _ _=>v = .slice (some ad) l0.length cl,
    λv _ _ _=>v = .int .i64 (n:Int),
    λv _ _ _=>v = .pointer (some (ad.add (n*2))),
    λv _ _ _=>v = .pointer (some ⟨(ad.add (n*2)).block,(ad.add (n*2)).off+1,none⟩),
    λv _ _ _=>v = .slice A1 st.f1.length c1,
    λv w' _ _=>v = .bool true,
    λv _ _ _=>v = .bool false,
    λv _ _ _=>v = .bool false,
    λv _ _ _=>v = .bool false,
    λv _ _ _=>v = .pointer (some ⟨gw,0,none⟩),
    λv _ _ _=>v = .pointer (some ⟨gw,0,none⟩),
    λv _ _ _=>v = .pointer (some ⟨gw,0,none⟩),
    λv _ _ _=>v = .pointer (some ⟨g,0,none⟩),
    λv w' _ _=>v = .int .i64 d4.left,
    λv _ _ _=>v = .slice (some ad) l0.length cl,
    λv _ _ _=>v = .int .i64 (n:Int),
    λv _ _ _=>v = .pointer (some (ad.add (n*2))),
    λv _ _ _=>v = .pointer (some ⟨(ad.add (n*2)).block,(ad.add (n*2)).off+1,none⟩),
    λv _ _ _=>v = .slice A1 st.f1.length c1,
    λv w' _ _=>∃ A_ c_,v = .slice A_ wl.length c_,
    λv _ _ _=>v = .int .i64 (wl.length:Int),
    λv _ _ _=>v = .bool false]
    (by kernel_rfl) (by kernel_rfl) ?hFg ?hS0g ?hSg ?hstayg ?hstepsg ?hendg
   case hFg =>
    intro vs
    simp only [List.take_succ_cons,List.take_zero,fill,if_true,if_false,Act.put,List.setIfInBounds_toArray,List.set_cons_zero,List.set_cons_succ,Nat.reduceAdd,List.contains_cons,List.contains_nil,Nat.reduceBEq,Bool.or_false,Bool.false_or,Bool.not_true,Bool.not_false,Bool.false_eq_true,Bool.or_self,Bool.true_or]
    rfl
   case hS0g=>exact ⟨below_drew (Below.refl _ _)⟩
   case hSg=>exact λw1 w2 hb hs=>⟨below_step hs.out hb⟩
   case hstayg=>exact ⟨λ_ _ _ _ _ _ h=>h,λ_ _ _ _ _ _ h=>h,λ_ _ _ _ _ _ h=>h,λ_ _ _ _ _ _ h=>h,λ_ _ _ _ _ _ h=>h,λ_ _ _ _ _ _ h=>h,λ_ _ _ _ _ _ h=>h,λ_ _ _ _ _ _ h=>h,λ_ _ _ _ _ _ h=>h,λ_ _ _ _ _ _ h=>h,λ_ _ _ _ _ _ h=>h,λ_ _ _ _ _ _ h=>h,λ_ _ _ _ _ _ h=>h,λ_ _ _ _ _ _ h=>h,λ_ _ _ _ _ _ h=>h,λ_ _ _ _ _ _ h=>h,λ_ _ _ _ _ _ h=>h,λ_ _ _ _ _ _ h=>h,λ_ _ _ _ _ _ h=>h,λ_ _ _ _ _ _ h=>h,λ_ _ _ _ _ _ h=>h,λ_ _ _ _ _ _ h=>h,λ_ _ _ _ _ _ h=>h,λ_ _ _ _ _ _ h=>h,λ_ _ _ _ _ _ h=>h,λ_ _ _ _ _ _ h=>h,λ_ _ _ _ _ _ h=>h,λ_ _ _ _ _ _ h=>h,trivial⟩
   case hstepsg =>
    refine ⟨?sg_0,?sg_1,?sg_2,?sg_3,?sg_4,?sg_5,?sg_6,?sg_7,?sg_8,?sg_9,?sg_10,?sg_11,?sg_12,?sg_13,?sg_14,?sg_15,?sg_16,?sg_17,?sg_18,?sg_19,?sg_20,?sg_21,?sg_22,?sg_23,?sg_24,?sg_25,?sg_26,?sg_27,trivial⟩
    case sg_0 =>
     intro vs lo hi W_ hs hp
     refine ⟨.inl rfl,?_⟩
     exact does_val (by first|(go_simp;done)|(go_simp;rfl)) ⟨rfl,Below.refl _ _⟩
    case sg_1 =>
     intro vs lo hi W_ hs hp
     have e0:vs 0 = .pointer (some ⟨gw,0,none⟩):=hp 0 (by kernel_rfl)
     refine ⟨.inl rfl,?_⟩
     exact does_val (by first|(go_simp;done)|(go_simp;rfl)) ⟨rfl,Below.refl _ _⟩
    case sg_2 =>
     intro vs lo hi W_ hs hp
     have e1:vs 1 = .pointer (some ⟨gw,0,none⟩):=hp 1 (by kernel_rfl)
     refine ⟨.inl rfl,?_⟩
     exact does_val (by first|(go_simp;done)|(go_simp;rfl)) ⟨rfl,Below.refl _ _⟩
    case sg_3 =>
     intro vs lo hi W_ hs hp
     have e2:vs 2 = .pointer (some ⟨gw,1,none⟩):=hp 2 (by kernel_rfl)
     refine ⟨.inl rfl,?_⟩
     have hc:=(LW.out.on hs.out).c1
     exact does_val (by first|(go_simp;done)|(go_simp;rfl)) ⟨rfl,Below.refl _ _⟩
    case sg_4 =>
     intro vs lo hi W_ hs hp
     have e3:vs 3 = .pointer (some ⟨gj,0,none⟩):=hp 3 (by kernel_rfl)
     refine ⟨.inl rfl,?_⟩
     refine does_call Try.func14 (by kernel_rfl) rfl #[.pointer (some ⟨gj,0,none⟩)] rfl rfl (by rw [<-e3];simp only [List.map_toArray,List.map_cons,List.map_nil];rfl) ?_
     refine(broken_on (LW.out.on hs.out).jo.blk).mono ?_
     rintro e w' ⟨rfl,hb⟩
     exact ⟨_,rfl,rfl,hb⟩
    case sg_5 =>
     intro vs lo hi W_ hs hp
     refine ⟨.inl rfl,?_⟩
     have e4:vs 4 = .bool false:=hp 4 (by kernel_rfl)
     exact does_val (by first|(go_simp;done)|(go_simp;rfl)) ⟨rfl,Below.refl _ _⟩
    case sg_6 =>
     intro vs lo hi W_ hs hp
     have e5:vs 5 = .bool false:=hp 5 (by kernel_rfl)
     refine ⟨.inr (wanted_of rfl rfl (congrArg some e5)),?_⟩
     exact does_val (by first|(go_simp;done)|(go_simp;rfl)) ⟨rfl,Below.refl _ _⟩
    case sg_7 =>
     intro vs lo hi W_ hs hp
     have e5:vs 5 = .bool false:=hp 5 (by kernel_rfl)
     refine ⟨.inr (wanted_of rfl rfl (congrArg some e5)),?_⟩
     exact does_val (by first|(go_simp;done)|(go_simp;rfl)) ⟨rfl,Below.refl _ _⟩
    case sg_8 =>
     intro vs lo hi W_ hs hp
     have e6:vs 6 = .slice (some ad) l0.length cl:=hp 6 (by kernel_rfl)
     have e7:vs 7 = .int .i64 (n:Int):=hp 7 (by kernel_rfl)
     have e5:vs 5 = .bool false:=hp 5 (by kernel_rfl)
     refine ⟨.inr (wanted_of rfl rfl (congrArg some e5)),?_⟩
     have c01_:(0<=(n:Int))=True:=eq_true (by omega)
     have ci2_:((n:Int)<(l0.length:Int))=True:=dn2
     exact does_val (by first|(go_simp;done)|(go_simp;rfl)) ⟨rfl,Below.refl _ _⟩
    case sg_9 =>
     intro vs lo hi W_ hs hp
     have e8:vs 8 = .pointer (some (ad.add (n*2))):=hp 8 (by kernel_rfl)
     have e5:vs 5 = .bool false:=hp 5 (by kernel_rfl)
     refine ⟨.inr (wanted_of rfl rfl (congrArg some e5)),?_⟩
     exact does_val (by first|(go_simp;done)|(go_simp;rfl)) ⟨rfl,Below.refl _ _⟩
    case sg_10 =>
     intro vs lo hi W_ hs hp
     have e9:vs 9 = .pointer (some ⟨(ad.add (n*2)).block,(ad.add (n*2)).off+1,none⟩):=hp 9 (by kernel_rfl)
     have e5:vs 5 = .bool false:=hp 5 (by kernel_rfl)
     refine ⟨.inr (wanted_of rfl rfl (congrArg some e5)),?_⟩
     have hc:=pw_cell_below (below_step BW.out (by have h_:=hs.out;exact ⟨h_.os,h_.tape,h_.output,h_.size,h_.block⟩)) F1.out
     exact does_val (by first|(go_simp;done)|(go_simp;rfl)) ⟨rfl,Below.refl _ _⟩
    case sg_11 =>
     intro vs lo hi W_ hs hp
     have e10:vs 10 = .slice A1 st.f1.length c1:=hp 10 (by kernel_rfl)
     have e5:vs 5 = .bool false:=hp 5 (by kernel_rfl)
     refine ⟨.inr (wanted_of rfl rfl (congrArg some e5)),?_⟩
     refine does_call Try.func15 (by kernel_rfl) rfl #[.slice A1 st.f1.length c1] rfl rfl (by rw [<-e10];simp only [List.map_toArray,List.map_cons,List.map_nil];rfl) ?_
     refine(r07_May.calls km A1 c1 st.f1 true W_ (Kd.C_below (Kd.C_below G1.out BW.out) hs.out) L1.out KM.out).mono ?_
     rintro e w' ⟨rfl,hd⟩
     exact ⟨_,rfl,rfl,hd.below⟩
    case sg_12 =>
     intro vs lo hi W_ hs hp
     have e5:vs 5 = .bool false:=hp 5 (by kernel_rfl)
     refine ⟨.inr (wanted_of rfl rfl (congrArg some e5)),?_⟩
     have e11:vs 11 = .bool true:=hp 11 (by kernel_rfl)
     exact does_val (by first|(go_simp;done)|(go_simp;rfl)) ⟨rfl,Below.refl _ _⟩
    case sg_13 =>
     intro vs lo hi W_ hs hp
     have e5:vs 5 = .bool false:=hp 5 (by kernel_rfl)
     have e12:vs 12 = .bool false:=hp 12 (by kernel_rfl)
     refine ⟨.inl rfl,?_⟩
     exact does_val (by first|(go_simp;done)|(go_simp;rfl)) ⟨rfl,Below.refl _ _⟩
    case sg_14 =>
     intro vs lo hi W_ hs hp
     have e13:vs 13 = .bool false:=hp 13 (by kernel_rfl)
     refine ⟨.inl rfl,?_⟩
     exact does_val (by first|(go_simp;done)|(go_simp;rfl)) ⟨rfl,Below.refl _ _⟩
    case sg_15 =>
     intro vs lo hi W_ hs hp
     have e14:vs 14 = .bool false:=hp 14 (by kernel_rfl)
     refine ⟨.inr (wanted_of rfl rfl (congrArg some e14)),?_⟩
     exact does_val (by first|(go_simp;done)|(go_simp;rfl)) ⟨rfl,Below.refl _ _⟩
    case sg_16 =>
     intro vs lo hi W_ hs hp
     have e15:vs 15 = .pointer (some ⟨gw,0,none⟩):=hp 15 (by kernel_rfl)
     have e14:vs 14 = .bool false:=hp 14 (by kernel_rfl)
     refine ⟨.inr (wanted_of rfl rfl (congrArg some e14)),?_⟩
     exact does_val (by first|(go_simp;done)|(go_simp;rfl)) ⟨rfl,Below.refl _ _⟩
    case sg_17 =>
     intro vs lo hi W_ hs hp
     have e16:vs 16 = .pointer (some ⟨gw,0,none⟩):=hp 16 (by kernel_rfl)
     have e14:vs 14 = .bool false:=hp 14 (by kernel_rfl)
     refine ⟨.inr (wanted_of rfl rfl (congrArg some e14)),?_⟩
     exact does_val (by first|(go_simp;done)|(go_simp;rfl)) ⟨rfl,Below.refl _ _⟩
    case sg_18 =>
     intro vs lo hi W_ hs hp
     have e17:vs 17 = .pointer (some ⟨gw,0,none⟩):=hp 17 (by kernel_rfl)
     have e14:vs 14 = .bool false:=hp 14 (by kernel_rfl)
     refine ⟨.inr (wanted_of rfl rfl (congrArg some e14)),?_⟩
     have hc:=(LW.out.on hs.out).c0
     exact does_val (by first|(go_simp;done)|(go_simp;rfl)) ⟨rfl,Below.refl _ _⟩
    case sg_19 =>
     intro vs lo hi W_ hs hp
     have e18:vs 18 = .pointer (some ⟨g,0,none⟩):=hp 18 (by kernel_rfl)
     have e14:vs 14 = .bool false:=hp 14 (by kernel_rfl)
     refine ⟨.inr (wanted_of rfl rfl (congrArg some e14)),?_⟩
     refine does_call Try.func16 (by kernel_rfl) rfl #[.pointer (some ⟨g,0,none⟩)] rfl rfl (by rw [<-e18];simp only [List.map_toArray,List.map_cons,List.map_nil];rfl) ?_
     obtain ⟨v0,v1,hr⟩:=(LW.out.on hs.out).jo.dk
     refine(left_calls hr P4.out.good).mono ?_
     rintro e w' ⟨rfl,hb⟩
     exact ⟨_,rfl,rfl,hb⟩
    case sg_20 =>
     intro vs lo hi W_ hs hp
     have e14:vs 14 = .bool false:=hp 14 (by kernel_rfl)
     refine ⟨.inr (wanted_of rfl rfl (congrArg some e14)),?_⟩
     exact does_val (by first|(go_simp;done)|(go_simp;rfl)) ⟨rfl,Below.refl _ _⟩
    case sg_21 =>
     intro vs lo hi W_ hs hp
     have e14:vs 14 = .bool false:=hp 14 (by kernel_rfl)
     refine ⟨.inr (wanted_of rfl rfl (congrArg some e14)),?_⟩
     exact does_val (by first|(go_simp;done)|(go_simp;rfl)) ⟨rfl,Below.refl _ _⟩
    case sg_22 =>
     intro vs lo hi W_ hs hp
     have e20:vs 20 = .slice (some ad) l0.length cl:=hp 20 (by kernel_rfl)
     have e21:vs 21 = .int .i64 (n:Int):=hp 21 (by kernel_rfl)
     have e14:vs 14 = .bool false:=hp 14 (by kernel_rfl)
     refine ⟨.inr (wanted_of rfl rfl (congrArg some e14)),?_⟩
     have c01_:(0<=(n:Int))=True:=eq_true (by omega)
     have ci2_:((n:Int)<(l0.length:Int))=True:=dn2
     exact does_val (by first|(go_simp;done)|(go_simp;rfl)) ⟨rfl,Below.refl _ _⟩
    case sg_23 =>
     intro vs lo hi W_ hs hp
     have e22:vs 22 = .pointer (some (ad.add (n*2))):=hp 22 (by kernel_rfl)
     have e14:vs 14 = .bool false:=hp 14 (by kernel_rfl)
     refine ⟨.inr (wanted_of rfl rfl (congrArg some e14)),?_⟩
     exact does_val (by first|(go_simp;done)|(go_simp;rfl)) ⟨rfl,Below.refl _ _⟩
    case sg_24 =>
     intro vs lo hi W_ hs hp
     have e23:vs 23 = .pointer (some ⟨(ad.add (n*2)).block,(ad.add (n*2)).off+1,none⟩):=hp 23 (by kernel_rfl)
     have e14:vs 14 = .bool false:=hp 14 (by kernel_rfl)
     refine ⟨.inr (wanted_of rfl rfl (congrArg some e14)),?_⟩
     have hc:=pw_cell_below (below_step BW.out (by have h_:=hs.out;exact ⟨h_.os,h_.tape,h_.output,h_.size,h_.block⟩)) F1.out
     exact does_val (by first|(go_simp;done)|(go_simp;rfl)) ⟨rfl,Below.refl _ _⟩
    case sg_25 =>
     intro vs lo hi W_ hs hp
     have e24:vs 24 = .slice A1 st.f1.length c1:=hp 24 (by kernel_rfl)
     have e14:vs 14 = .bool false:=hp 14 (by kernel_rfl)
     refine ⟨.inr (wanted_of rfl rfl (congrArg some e14)),?_⟩
     refine does_call Try.func17 (by kernel_rfl) rfl #[.int .u64 9,.slice A1 st.f1.length c1] rfl rfl (by rw [<-e24];simp only [List.map_toArray,List.map_cons,List.map_nil];rfl) ?_
     refine(r07_Whole.calls kw 9 A1 c1 st.f1 wl W_ (Kd.C_below (Kd.C_below G1.out BW.out) hs.out) L1.out KW.out).mono ?_
     rintro e w' ⟨v0,rfl,hR,hb⟩
     obtain ⟨A_,c_,e_⟩:=Kd.R_slice hR
     exact ⟨_,rfl,⟨A_,c_,e_⟩,hb⟩
    case sg_26 =>
     intro vs lo hi W_ hs hp
     have e14:vs 14 = .bool false:=hp 14 (by kernel_rfl)
     refine ⟨.inr (wanted_of rfl rfl (congrArg some e14)),?_⟩
     obtain ⟨A_,c_,e25⟩:∃ A_ c_,vs 25 = .slice A_ wl.length c_:=hp 25 (by kernel_rfl)
     exact does_val (by first|(go_simp;done)|(go_simp;rfl)) ⟨rfl,Below.refl _ _⟩
    case sg_27 =>
     intro vs lo hi W_ hs hp
     have e26:vs 26 = .int .i64 (wl.length:Int):=hp 26 (by kernel_rfl)
     have e14:vs 14 = .bool false:=hp 14 (by kernel_rfl)
     refine ⟨.inr (wanted_of rfl rfl (congrArg some e14)),?_⟩
     have e19:vs 19 = .int .i64 d4.left:=hp 19 (by kernel_rfl)
     exact does_val (by first|(go_simp;done)|(go_simp;rfl)) ⟨rfl,Below.refl _ _⟩
   case hendg =>
   intro vs lo_ hi_ Wc hs hp _
   simp only [List.drop_succ_cons,List.drop_zero]
   have e14:vs 14 = .bool false:=hp 14 (by decide)
   have e27:vs 27 = .bool false:=hp 27 (by decide)
   rw [e14,e27]
   have q_:=LW.out.on hs.out
   clear LW
   have LW:=Aside0.mk q_
   clear q_ hp hs
   go_wp2
   go_roundg (l0.length - (n+1))
   case measure=>omega
   case rel=>exact ⟨n+1,by first|(rw [Int.natCast_add];rfl)|rw [show wrap64 ((n:Int)+1)=((n+1:Nat):Int) by unfold wrap64;omega],by omega,⟨D4,Ab,Am,cb,cm,d4,s4,t4,base,more,LW.out,P4.out⟩⟩
  ·have hT:=T4.out trivial
   have hn4:=hT.1
   subst hn4
   go_roundg (l0.length - (n+1))
   case measure=>omega
   case rel=>exact ⟨n+1,by first|(rw [Int.natCast_add];rfl)|rw [show wrap64 ((n:Int)+1)=((n+1:Nat):Int) by unfold wrap64;omega],by omega,⟨D4,Ab4,Am4,cb4,cm4,d4,s4,_,base4,more4,L4.out,hT.2⟩⟩
end
end Go.Proofs.Ytfhamdobagjakaa.Dsk
