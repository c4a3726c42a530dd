/- a part -/
import Derived.Lib.Bytes
import Derived.Test.YtfhamdobagjakaaWireAid
import Derived.Test.YtfhamdobagjakaaCrcRef
namespace Go.Proofs.Ytfhamdobagjakaa.PJo
open Go.RowKit Go.Proofs.YtfhamdobagjakaaW.PrintWords Go.Proofs.YtfhamdobagjakaaW.PrintLast Go.Proofs.Ytfhamdobagjakaa.Wr Go.Proofs.Ytfhamdobagjakaa.Crc
set_option linter.unusedVariables false
set_option linter.unusedSimpArgs false
theorem bytesOf_inj:∀ (a b:List Int),Wr.Bytes a->Wr.Bytes b->Go.Lib.bytesOf a=Go.Lib.bytesOf b->a=b
 | [],[],_,_,_=>rfl
 | [],_ :: _,_,_,h=>by simp [Go.Lib.bytesOf] at h
 | _ :: _,[],_,_,h=>by simp [Go.Lib.bytesOf] at h
 | x :: xs,y :: ys,ha,hb,h=>by
  simp only [Go.Lib.bytesOf,List.map_cons,List.cons.injEq] at h
  have hx:=ha x (by simp)
  have hy:=hb y (by simp)
  have e:=congrArg UInt8.toNat h.1
  have e1:(UInt8.ofNat x.toNat).toNat=x.toNat % 256:=by simp
  have e2:(UInt8.ofNat y.toNat).toNat=y.toNat % 256:=by simp
  rw [e1,e2] at e
  rw [bytesOf_inj xs ys (λz hz=>ha z (List.mem_cons_of_mem _ hz)) (λz hz=>hb z (List.mem_cons_of_mem _ hz)) h.2]
  have:x=y:=by omega
  rw [this]
theorem equal_ev (a b:List Int) (ha:Wr.Bytes a) (hb:Wr.Bytes b):Ev (λ(_:Nat)=>bytes_Equal.f a b) (decide (a=b)):=by
 refine Ev.congr (f:=λ_=>some (decide (a=b))) (λk=>?_) (Ev.now _)
 unfold bytes_Equal.f
 rw [Go.Lib.strOfNums_toList,Go.Lib.strOfNums_toList]
 congr 1
 by_cases h:a=b
 ·subst h
  simp
 ·rw [decide_eq_false h]
  exact beq_eq_false_iff_ne.2 (λe=>h (bytesOf_inj a b ha hb e))
def dig (r:List Int) (i:Nat):Int:=if i<r.length then r.getD i 0 else if i=0 then 1 else 0
def fl (r:List Int):Nat->Nat
 | 0=>0
 | i+1=>fl r i*256+(dig r i).toNat
theorem dig_byte {r:List Int} (hr:Wr.Bytes r) (i:Nat):0<=dig r i/\dig r i<256:=by
 unfold dig
 by_cases h:i<r.length
 ·rw [if_pos h,List.getD_eq_getElem?_getD,List.getElem?_eq_getElem h]
  exact hr _ (List.getElem_mem h)
 ·rw [if_neg h]
  by_cases h0:i=0
  ·rw [if_pos h0];omega
  ·rw [if_neg h0];omega
theorem fl_lt {r:List Int} (hr:Wr.Bytes r):∀ i,fl r i<256 ^ i
 | 0=>by simp [fl]
 | i+1=>by
  have h:=fl_lt hr i
  have hd:=dig_byte hr i
  have e:256 ^ (i+1)=256 ^ i*256:=Nat.pow_succ 256 i
  rw [e]
  simp only [fl]
  omega
def short (l:List Int):Bool:=match l with|[]=>true|c :: r=>decide (c<=8/\(r.length:Int)<c/\dig r 0≠0/\fl r c.toNat<=65536)
theorem p56 {r:List Int} (hr:Wr.Bytes r) {i:Nat} (hi:i<=7):fl r i<72057594037927936:=by
 have h1:=fl_lt hr i
 have h2:256 ^ i<=256 ^ 7:=Nat.pow_le_pow_right (by omega) hi
 have h3:(256:Nat) ^ 7=72057594037927936:=by decide
 omega
theorem rd_tail {c:Int} {r:List Int} {i:Nat} (h:i<r.length):rd (c :: r) ((i+1:Nat):Int)=dig r i:=by
 rw [wl_rd (by rw [List.length_cons];omega)]
 unfold dig
 rw [if_pos h,List.getD_eq_getElem?_getD,List.getElem?_eq_getElem h]
 rfl
theorem short_loop (c:Int) (r:List Int) (hr:Wr.Bytes r) (h8:c<=8) (h0:0<=c) (d:Nat):∀ (i:Nat),i+d=c.toNat->Ev (λk=>wire_short.l0 k (c :: r) 65536 (fl r i:Int) ((i+1:Nat):Int)) (decide (fl r c.toNat<=65536)):=by
 have hc0:wrap64 (rd (c :: r) 0)=c:=wl_w64 (by show -9223372036854775808<=c;omega) (by show c<_;omega)
 have hl:(0:Int)<((c :: r).length:Int):=by rw [List.length_cons];omega
 induction d with
 | zero =>
  intro i hi
  have e:i=c.toNat:=by omega
  refine Ev.step (f:=λ_=>some (decide (fl r c.toNat<=65536))) (λk=>?_) (Ev.now _)
  simp only [wire_short.l0]
  rw [if_pos hl,hc0,if_neg (by omega),e]
  congr 1
  rw [decide_eq_decide]
  omega
 | succ d ih =>
  intro i hi
  have h56:=p56 hr (show i<=7 by omega)
  have hd:=dig_byte hr i
  have hw:wrap64 (((i+1:Nat):Int)+1)=((i+1+1:Nat):Int):=by unfold wrap64;omega
  have hm:IntKind.u64.wrap ((fl r i:Int)*256)=((fl r i*256:Nat):Int):=by
   rw [wl_u64 (by omega) (by omega)]
   omega
  have e2:Go.bits .or .u64 ((fl r i*256:Nat):Int) (dig r i)=((fl r (i+1):Nat):Int):=by
   have:=or_digit (fl r i) (dig r i).toNat h56 (by omega)
   rw [show(((dig r i).toNat:Nat):Int)=dig r i by omega] at this
   exact this
  refine Ev.step (f:=λk=>wire_short.l0 k (c :: r) 65536 (fl r (i+1):Int) ((i+1+1:Nat):Int)) (λk=>?_) (ih (i+1) (by omega))
  simp only [wire_short.l0]
  rw [if_pos hl,hc0,if_pos (by omega),hm]
  by_cases hi2:i<r.length
  ·rw [if_pos (by rw [List.length_cons];omega),if_pos (by omega),rd_tail hi2,wl_u64 (x:=dig r i) (by omega) (by omega),e2,hw]
  ·rw [if_neg (by rw [List.length_cons];omega)]
   by_cases hi0:i=0
   ·have hd1:dig r i=1:=by unfold dig;rw [if_neg hi2,if_pos hi0]
    rw [hd1] at e2
    rw [if_pos (by omega),e2,hw]
   ·have hd1:dig r i=0:=by unfold dig;rw [if_neg hi2,if_neg hi0]
    rw [hd1] at e2
    rw [if_neg (by omega),e2,hw]
theorem short_ev (l:List Int) (hl:Wr.Bytes l) (hn:l.length<=140737488351232):Ev (λk=>wire_short.f k l 65536) (short l):=by
 unfold wire_short.f
 cases l with
 | nil=>exact wl_if rfl (Ev.now _)
 | cons c r =>
  have hc:=hl c (by simp)
  have hr:Wr.Bytes r:=λx hx=>hl x (List.mem_cons_of_mem _ hx)
  have hc0:wrap64 (rd (c :: r) 0)=c:=wl_w64 (by show -9223372036854775808<=c;omega) (by show c<_;omega)
  rw [List.length_cons] at hn
  refine wl_else (by rw [List.length_cons];omega) ?_
  refine wl_if (by rw [List.length_cons];omega) ?_
  have hj:∀ b:Bool,(b=false->c<=8/\(r.length:Int)<c/\dig r 0≠0)->(b=true->¬ (c<=8/\(r.length:Int)<c/\dig r 0≠0))->Ev (λk=>wire_short.j0 k (c :: r) 65536 b) (short (c :: r)):=by
   intro b hf ht
   cases b with
   | true =>
    have e:short (c :: r)=false:=decide_eq_false (λh=>ht rfl ⟨h.1,h.2.1,h.2.2.1⟩)
    rw [e]
    refine Ev.step (f:=λ_=>some false) (λk=>?_) (Ev.now _)
    simp only [wire_short.j0]
    rfl
   | false =>
    have hh:=hf rfl
    have e:short (c :: r)=decide (fl r c.toNat<=65536):=by
     unfold short
     rw [decide_eq_decide]
     exact ⟨λh=>h.2.2.2,λh=>⟨hh.1,hh.2.1,hh.2.2,h⟩⟩
    rw [e]
    refine Ev.step (λk=>?_) (short_loop c r hr hh.1 hc.1 c.toNat 0 (by omega))
    simp only [wire_short.j0]
    rfl
  by_cases h8:c > 8
  ·exact wl_if h8 (hj true (λh=>by cases h) (λ_ h=>by omega))
  ·refine wl_else h8 ?_
   rw [hc0]
   by_cases hlen:((c :: r).length:Int) > c
   ·refine wl_if hlen (hj true (λh=>by cases h) (λ_ h=>?_))
    rw [List.length_cons] at hlen
    omega
   ·refine wl_else hlen ?_
    rw [List.length_cons] at hlen
    by_cases h1:((c :: r).length:Int) > 1
    ·refine wl_if h1 (wl_if h1 ?_)
     rw [List.length_cons] at h1
     have e1:rd (c :: r) 1=dig r 0:=rd_tail (i:=0) (by omega)
     rw [e1]
     refine hj _ (λh=>?_) (λh=>?_)
     ·exact ⟨by omega,by omega,beq_eq_false_iff_ne.1 h⟩
     ·exact λhh=>hh.2.2 (eq_of_beq h)
    ·refine wl_else h1 ?_
     rw [List.length_cons] at h1
     have e1:dig r 0=1:=by unfold dig;rw [if_neg (by omega),if_pos rfl]
     exact hj false (λ_=>⟨by omega,by omega,by omega⟩) (λh=>by cases h)
theorem refRecord_ev (kind:Int) (body:List Int) (hk:1<=kind/\kind<=200) (hb:Wr.Bytes body) (hl:body.length<=65536):Ev (λk=>r02_Record.f k kind body) (record kind body):=by
 unfold r02_Record.f
 have hm:kind % 256=kind:=by omega
 have hlen:=text_length body (by omega)
 refine Ev.bind (Ev.now _) ?_
 refine Ev.bind (refText_ev body (by omega)) ?_
 rw [hm]
 have n1:([kind]:List Int).length+(text body).length<140737488355328:=by rw [List.length_singleton];omega
 have n2:(recB kind body).length+4<140737488355328:=by unfold recB;rw [List.length_cons];omega
 refine wl_if n1 (Ev.bind (Ev.now _) ?_)
 have h1:=refOf_ev (recB kind body) (recB_bytes kind body hk hb hl) (by unfold recB;rw [List.length_cons];omega)
 refine Ev.bind h1 (Ev.bind (Ev.now _) ?_)
 refine wl_if n2 ?_
 have hs:=rg_lt (crcOn 0#32 (recB kind body))
 unfold record
 generalize rg (crcOn 0#32 (recB kind body))=s at hs
 clear n1 n2 h1 hlen hb hl hm
 rw [Int.tdiv_eq_ediv_of_nonneg hs.1,Int.tdiv_eq_ediv_of_nonneg hs.1,Int.tdiv_eq_ediv_of_nonneg hs.1,Int.tmod_eq_emod_of_nonneg hs.1]
 have e1:s / 16777216 % 4294967296 % 256=s / 16777216 % 256:=by omega
 have e2:s / 65536 % 4294967296 % 256=s / 65536 % 256:=by omega
 have e3:s / 256 % 4294967296 % 256=s / 256 % 256:=by omega
 have e4:s % 256 % 256=s % 256:=by omega
 rw [e1,e2,e3,e4]
 exact Ev.now _
theorem record_bad (kind:Int) (body:List Int) (h:¬ (1<=kind/\kind<=200/\body.length<=65536)):Ev (λk=>wire_Record.f k kind body) ([],1):=by
 unfold wire_Record.f
 by_cases h1:kind<1
 ·exact wl_if h1 (Ev.now _)
 ·refine wl_else h1 ?_
  by_cases h2:kind > 200
  ·exact wl_if h2 (Ev.now _)
  ·refine wl_else h2 ?_
   have h3:(body.length:Int) > 65536:=by omega
   exact wl_if h3 (Ev.now _)
theorem may_eq (kind:Int) (body:List Int):r02_May.f kind body=some (decide (1<=kind/\kind<=200/\body.length<=65536)):=by
 unfold r02_May.f
 by_cases h1:kind>=1
 ·rw [if_pos h1]
  by_cases h2:kind<=200
  ·rw [if_pos h2]
   congr 1
   rw [decide_eq_decide]
   omega
  ·rw [if_neg h2,decide_eq_false (λh=>h2 h.2.1)]
 ·rw [if_neg h1,decide_eq_false (λh=>h1 h.1)]
def recR (l:List Int):Int×List Int×Int×Int:=match l with
 | []=>(0,[],0,3)
 | c :: r=>if c<1\/200<c then(0,[],0,2) else if short r=true then(0,[],0,3) else match getNum r with
  | none=>(0,[],0,2)
  | some (u,n)=>if 65536<u then(0,[],0,2) else if (c :: r).length<1+n+u+4 then(0,[],0,3) else
   if ((c :: r).take (1+n+u+4)).drop (1+n+u)=sum4 (rg (crcOn 0#32 ((c :: r).take (1+n+u)))) then(c,((c :: r).take (1+n+u)).drop (1+n),((1+n+u+4:Nat):Int),0) else(0,[],0,2)
theorem take_bytes {l:List Int} (h:Wr.Bytes l) (n:Nat):Wr.Bytes (l.take n):=λx hx=>h x (List.mem_of_mem_take hx)
theorem drop_bytes {l:List Int} (h:Wr.Bytes l) (n:Nat):Wr.Bytes (l.drop n):=λx hx=>h x (List.mem_of_mem_drop hx)
theorem getRecord_end (c:Int) (r:List Int) (hl:Wr.Bytes (c :: r)) (hn:(c :: r).length<=140737488351232) (u n:Nat) (hu:u<=65536) (hn9:n<=9) :
  Ev (λk=>wire_GetRecord.j1 k (c :: r) (u:Int) (n:Int) false) (if (c :: r).length<1+n+u+4 then(0,[],0,3) else
   if ((c :: r).take (1+n+u+4)).drop (1+n+u)=sum4 (rg (crcOn 0#32 ((c :: r).take (1+n+u)))) then(c,((c :: r).take (1+n+u)).drop (1+n),((1+n+u+4:Nat):Int),0) else(0,[],0,2)):=by
 have hc:=hl c (by simp)
 have hc0:wrap64 (rd (c :: r) 0)=c:=wl_w64 (by show -9223372036854775808<=c;omega) (by show c<_;omega)
 have w1:wrap64 (1+(n:Int))=((1+n:Nat):Int):=by rw [wl_w64 (by omega) (by omega)];omega
 have w2:wrap64 (u:Int)=(u:Int):=wl_w64 (by omega) (by omega)
 have w3:wrap64 (((1+n:Nat):Int)+(u:Int))=((1+n+u:Nat):Int):=by rw [wl_w64 (by omega) (by omega)];omega
 have w4:wrap64 (((1+n+u:Nat):Int)+4)=((1+n+u+4:Nat):Int):=by rw [wl_w64 (by omega) (by omega)];omega
 generalize hL:c :: r=l at *
 have hd:rd l 0=rd (c :: r) 0:=by rw [hL]
 by_cases hlen:l.length<1+n+u+4
 ·rw [if_pos hlen]
  refine Ev.step (f:=λ_=>some (0,([]:List Int),0,3)) (λk=>?_) (Ev.now _)
  simp only [wire_GetRecord.j1]
  rw [if_neg (by simp),w1,w2,w3,w4,if_pos (by omega)]
 ·rw [if_neg hlen]
  refine Ev.step (f:=λk=>(sum_Of.f k [l.take (1+n+u)]).bind λt426=>(bytes_Equal.f ((l.take (1+n+u+4)).drop (1+n+u)) (sum4 t426)).bind λt435=>if t435=true then((bytes_Clone.f ((l.take (1+n+u)).drop (1+n))).bind λt442=>(some (c,t442,((1+n+u+4:Nat):Int),0))) else(some (0,([]:List Int),0,2))) (λk=>?_) ?_
  ·have i1:¬ ((l.length:Int)<((1+n+u+4:Nat):Int)):=by omega
   have i2:(0:Int)<=((1+n+u:Nat):Int):=by omega
   have i3:((1+n+u:Nat):Int)<=(l.length:Int):=by omega
   have i4:((1+n+u:Nat):Int)<=((1+n+u+4:Nat):Int):=by omega
   have i5:((1+n+u+4:Nat):Int)<=(l.length:Int):=by omega
   have i6:(0:Int)<(l.length:Int):=by omega
   have i7:(0:Int)<=((1+n:Nat):Int):=by omega
   have i8:((1+n:Nat):Int)<=((1+n+u:Nat):Int):=by omega
   simp only [wire_GetRecord.j1]
   rw [if_neg (by simp),w1,w2,w3,w4,if_neg i1,if_pos i2,if_pos i3]
   simp only [if_pos i4,if_pos i5,if_pos i6,if_pos i7,if_pos i8,Int.toNat_natCast,hc0]
   rfl
  ·refine Ev.bind (of_one _ (take_bytes hl _) (by rw [List.length_take];omega)) ?_
   refine Ev.bind (equal_ev _ _ (drop_bytes (take_bytes hl _) _) (sum4_bytes _)) ?_
   by_cases he:(l.take (1+n+u+4)).drop (1+n+u)=sum4 (rg (crcOn 0#32 (l.take (1+n+u))))
   ·rw [if_pos he]
    refine wl_if (decide_eq_true he) ?_
    exact Ev.bind (clone_ev _ (by rw [List.length_drop,List.length_take];omega)) (Ev.now _)
   ·rw [if_neg he]
    exact wl_else (by simpa using he) (Ev.now _)
theorem getNum_len {l:List Int} (hl:Wr.Bytes l) {u n:Nat} (h:getNum l=some (u,n)):n<=9:=by
 obtain ⟨b1,b2,b3,b4⟩:=getNum_some hl h
 clear b1
 have h1:=num_length u
 have h2:=be_len8 b2
 omega
theorem getRecord_ev (l:List Int) (hl:Wr.Bytes l) (hn:l.length<=140737488351232):Ev (λk=>wire_GetRecord.f k l) (recR l):=by
 unfold wire_GetRecord.f
 cases l with
 | nil=>exact wl_if rfl (Ev.now _)
 | cons c r =>
  have hc:=hl c (by simp)
  have hr:Wr.Bytes r:=λx hx=>hl x (List.mem_cons_of_mem _ hx)
  have hrn:r.length<=140737488351232:=by rw [List.length_cons] at hn;omega
  refine wl_else (by rw [List.length_cons];omega) ?_
  refine wl_if (by rw [List.length_cons];omega) ?_
  have hj:∀ b:Bool,b=decide (c<1\/200<c)->Ev (λk=>wire_GetRecord.j0 k (c :: r) b) (recR (c :: r)):=by
   intro b hb
   by_cases h:c<1\/200<c
   ·rw [decide_eq_true h] at hb
    subst hb
    simp only [recR]
    rw [if_pos h]
    refine Ev.step (f:=λ_=>some (0,([]:List Int),0,2)) (λk=>?_) (Ev.now _)
    simp only [wire_GetRecord.j0]
    rfl
   ·rw [decide_eq_false h] at hb
    subst hb
    simp only [recR]
    rw [if_neg h]
    refine Ev.step (f:=λk=>(wire_short.f k r 65536).bind λt409=>(if t409=true then(some (0,([]:List Int),0,3)) else((wire_GetNum.f k r).bind λbt415=>(if bt415.2.2=0 then(wire_GetRecord.j1 k (c :: r) bt415.1 bt415.2.1 (decide (bt415.1 > 65536))) else(wire_GetRecord.j1 k (c :: r) bt415.1 bt415.2.1 true))))) (λk=>?_) ?_
    ·have i1:(1:Int)<=((c :: r).length:Int):=by rw [List.length_cons];omega
     simp only [wire_GetRecord.j0]
     rw [if_neg (by simp),if_pos i1]
     rfl
    ·refine Ev.bind (short_ev r hr hrn) ?_
     by_cases hs:short r=true
     ·rw [if_pos hs]
      exact wl_if hs (Ev.now _)
     ·rw [if_neg hs]
      refine wl_else hs ?_
      refine Ev.bind (getNum_ev r hr hrn) ?_
      unfold numR
      cases hg:getNum r with
      | none =>
       refine wl_else (by simp) ?_
       refine Ev.step (f:=λ_=>some (0,([]:List Int),0,2)) (λk=>?_) (Ev.now _)
       simp only [wire_GetRecord.j1]
       rfl
      | some p =>
       obtain ⟨u,n⟩:=p
       have hn9:=getNum_len hr hg
       refine wl_if rfl ?_
       simp only
       by_cases hu:65536<u
       ·have hu':(u:Int) > 65536:=by omega
        rw [if_pos hu,decide_eq_true hu']
        refine Ev.step (f:=λ_=>some (0,([]:List Int),0,2)) (λk=>?_) (Ev.now _)
        simp only [wire_GetRecord.j1]
        rfl
       ·have hu':¬ ((u:Int) > 65536):=by omega
        rw [if_neg hu,decide_eq_false hu']
        exact getRecord_end c r hl hn u n (by omega) hn9
  have hd:rd (c :: r) 0=c:=rfl
  rw [hd]
  by_cases h1:c<1
  ·exact wl_if h1 (hj true (decide_eq_true (Or.inl h1)).symm)
  ·refine wl_else h1 (hj _ ?_)
   rw [decide_eq_decide]
   omega
end Go.Proofs.Ytfhamdobagjakaa.PJo
