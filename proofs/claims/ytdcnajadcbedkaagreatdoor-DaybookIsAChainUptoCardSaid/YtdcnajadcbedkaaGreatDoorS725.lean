/- Part of the proof of a law. -/
import Derived.ChangeCalls
import Derived.Test.YtdcnajadcbedkaaGreatDoorS717
import Derived.Test.YtdcnajadcbedkaaGreatDoorS720
import Derived.Test.YtdcnajadcbedkaaGreatDoorS724
set_option linter.all false
set_option linter.unusedSimpArgs false
set_option linter.unusedSectionVars false
section
open Go Go.Proofs Aq
namespace Sh
def mE (d:aJ):List UInt8:=List.map (fun n:Int=>UInt8.ofNat n.toNat) [d.b0,d.b1,d.b2,d.b3,d.b4,d.b5,d.b6,d.b7,d.b8,d.b9,d.b10,d.b11,d.b12,d.b13,d.b14,d.b15]
def uq (a b:aJ):Bool:=Op.bytesLess (mE a) (mE b)
theorem Yo:∀a b:List UInt8,decide (Lib.compareBytes a b≥0)= !Op.bytesLess a b
 | [],[]=>rfl
 | [],_::_=>rfl
 |_::_,[]=>rfl
 |a::x,b::y=>by
  unfold Lib.compareBytes Op.bytesLess
  by_cases h1:a<b
  ·simp[h1]
  ·by_cases h2:b<a
   ·have h3:(a==b)=false:=by
     rw[beq_eq_false_iff_ne];rintro rfl;exact UInt8.lt_irrefl _ h2
    simp[h1,h2,h3]
   ·have h3:a=b:=UInt8.le_antisymm (UInt8.not_lt.1 h2) (UInt8.not_lt.1 h1)
    subst h3
    simp only[h1,if_false,decide_false,Bool.false_or,beq_self_eq_true,Bool.true_and]
    exact Yo x y
theorem akp (n:Nat) (a b:aJ):∃c:Int,Bj n (a,b)=some c∧decide (c≥(0:Int))= !uq a b:=
 ⟨Lib.compareBytes (mE a) (mE b),by rw[ajC];exact bs (aiD _ _) rfl,Yo _ _⟩
theorem akq (n:Nat) (a b:aJ):Bg n (a,b)=some (uq a b):=by rw[ajy];rfl
def Fy (l:List Mark) (i:Nat):Bool:=match l[i]? with
 |some m=>decide (1≤m.Count)&& decide (m.Count≤4096)&& (decide (i=0)||match l[i-1]? with
  |some p=>uq p.bU m.bU
  |none=>true)
 |none=>true
def qR (l:List Mark):Nat→Nat→Bool
 |_,0=>true
 |i,k+1=>Fy l i&& qR l (i+1) k
theorem Qh (l:List Mark) (i k:Nat):qR l i (k+1)=(Fy l i&& qR l (i+1) k):=rfl
theorem wo (n:Nat) (a b c:Int):o9 n (a,(b,c))=some (decide (b≤a)&& decide (a≤c)):=by
 rw[ajB]
 show some (bif decide (b≤a) then decide (a≤c) else false)=some (decide (b≤a)&& decide (a≤c))
 cases decide (b≤a)<;>rfl
theorem Qi {l:List Mark} {i:Nat} {m:Mark} (h:l[i]? =some m):Fy l i=(decide (1≤m.Count)&& decide (m.Count≤4096)&& (decide (i=0)||match l[i-1]? with
 |some p=>uq p.bU m.bU
 |none=>true)):=by unfold Fy;rw[h]
theorem akr {n:Nat} {r:Root} (hb:r.Marks.length<2^62):∀(k i m:Nat),i+k=r.Marks.length→k<m→Bz n r m (i:Int)=some (bif qR r.Marks i k then .inl () else .inr false):=by
 intro k
 induction k with
 |zero=>
  intro i m hi hm
  obtain⟨m,rfl⟩:∃m',m=m'+1:=⟨m-1,by omega⟩
  rw[Yg,rV (by omega)];rfl
 |succ k ih=>
  intro i m hi hm
  obtain⟨m,rfl⟩:∃m',m=m'+1:=⟨m-1,by omega⟩
  have hlt:i<r.Marks.length:=by omega
  have hx:r.Marks[i]? =some r.Marks[i]:=List.getElem?_eq_getElem hlt
  generalize r.Marks[i]=x at hx
  have ih':=ih (i+1) m (by omega) (by omega)
  rw[Yg,vU hx,cond_true,lC (by omega),ih',Qh,Qi hx]
  refine bs (gM hx) (bs (wo n x.Count 1 4096) ?_)
  cases hw:decide (1≤x.Count)&& decide (x.Count≤4096)
  ·rfl
  ·refine bT rfl ?_
   by_cases h0:i=0
   ·subst h0;rfl
   ·have e2:decide ((i:Int)>0)=true:=by simp;omega
    have hp:r.Marks[i-1]? =some r.Marks[i-1]:=List.getElem?_eq_getElem (by omega)
    generalize r.Marks[i-1]=p at hp
    have e3:decide (i=0)=false:=decide_eq_false h0
    obtain⟨c,hc1,hc2⟩:=akp n p.bU x.bU
    rw[e2,hp,e3,Ej (by omega) (by omega)]
    refine bT rfl (bs (gM hp) (bs hc1 ?_))
    rw[show (decide (c≥(0:Int)))= !uq p.bU x.bU from hc2]
    show _=some (bif (true&& (false||uq p.bU x.bU))&& qR r.Marks (i+1) k then _ else _)
    cases uq p.bU x.bU<;>rfl
theorem aks {n:Nat} {r:Root} (hb:r.Marks.length<2^62):∀(k i m:Nat),i+k=r.Marks.length→k<m→wh n r m (i:Int)=some (bif qR r.Marks i k then .inl () else .inr false):=by
 intro k
 induction k with
 |zero=>
  intro i m hi hm
  obtain⟨m,rfl⟩:∃m',m=m'+1:=⟨m-1,by omega⟩
  rw[Yf,rV (by omega)];rfl
 |succ k ih=>
  intro i m hi hm
  obtain⟨m,rfl⟩:∃m',m=m'+1:=⟨m-1,by omega⟩
  have hlt:i<r.Marks.length:=by omega
  have hx:r.Marks[i]? =some r.Marks[i]:=List.getElem?_eq_getElem hlt
  generalize r.Marks[i]=x at hx
  have ih':=ih (i+1) m (by omega) (by omega)
  rw[Yf,vU hx,cond_true,lC (by omega),ih',Qh,Qi hx]
  refine bs (gM hx) ?_
  by_cases h1:(1:Int)≤x.Count
  ·rw[show decide (x.Count< (1:Int))=false from decide_eq_false (by omega),show decide ((1:Int)≤x.Count)=true from decide_eq_true h1]
   refine bT rfl (bs (gM hx) ?_)
   by_cases h2:x.Count≤4096
   ·rw[show decide (x.Count> (4096:Int))=false from decide_eq_false (by omega),show decide (x.Count≤(4096:Int))=true from decide_eq_true h2]
    refine bT rfl ?_
    by_cases h0:i=0
    ·subst h0;rfl
    ·have e2:decide ((i:Int)>0)=true:=by simp;omega
     have hp:r.Marks[i-1]? =some r.Marks[i-1]:=List.getElem?_eq_getElem (by omega)
     generalize r.Marks[i-1]=p at hp
     have e3:decide (i=0)=false:=decide_eq_false h0
     rw[e2,hp,e3,Ej (by omega) (by omega)]
     refine bT rfl (bs (gM hp) (bs (gM hx) (bs (akq n p.bU x.bU) ?_)))
     show _=some (bif (true&& true&& (false||uq p.bU x.bU))&& qR r.Marks (i+1) k then _ else _)
     cases uq p.bU x.bU<;>rfl
   ·rw[show decide (x.Count> (4096:Int))=true from decide_eq_true (by omega),show decide (x.Count≤(4096:Int))=false from decide_eq_false h2]
    rfl
  ·rw[show decide (x.Count< (1:Int))=true from decide_eq_true (by omega),show decide ((1:Int)≤x.Count)=false from decide_eq_false h1]
   rfl
def BD (r:Root):Bool:=decide (0≤r.bN∧r.bN≤31∧0≤r.aY∧r.aY≤1073741824∧0≤r.Day∧r.Day≤1048576∧0≤r.Floor∧r.Floor≤r.aY∧r.Marks.length≤256∧0≤r.dS∧r.dS≤65536∧0≤r.dU∧r.dU≤65536∧0≤r.bJ∧r.bJ≤2147483648)
def dP (r:Root):Bool:=qR r.Marks 0 r.Marks.length&& BD r
theorem akt (a b:Bool):(bif a then b else false)=(a&& b):=by cases a<;>rfl
theorem Fz (a b:Bool):(bif a then true else b)=(a||b):=by cases a<;>rfl
theorem uw {α β:Type} {c:Bool} {o:Option α} {d x:α} {f:α→Option β} {r:Option β} (h:o=some x) (k:f (bif c then x else d)=r):(fD c o d).bind f=r:=by
 rw[h,ahd];exact k
theorem aku {oA oB oC oD oF oV oS:Option Bool} {A B C D L F V S:Bool} (hA:oA=some A) (hB:oB=some B) (hC:oC=some C) (hD:oD=some D) (hF:oF=some F) (hV:oV=some V) (hS:oS=some S):
 (oA.bind fun (bZ:Bool)=>
   (fD bZ oB false).bind fun (jC:Bool)=>
   (fD (bif bZ then jC else false) oC false).bind fun (iy:Bool)=>
   (fD (bif bif bZ then jC else false then iy else false) oD false).bind fun (fU:Bool)=>
   (fD (bif bif bif bif bZ then jC else false then iy else false then fU else false then L else false) oF false).bind fun (qQ:Bool)=>
   (fD (bif bif bif bif bif bZ then jC else false then iy else false then fU else false then L else false then qQ else false) oV false).bind fun (nE:Bool)=>
   (fD (bif bif bif bif bif bif bZ then jC else false then iy else false then fU else false then L else false then qQ else false then nE else false) oS false).bind fun (r16:Bool)=>
   some (bif bif bif bif bif bif bif bZ then jC else false then iy else false then fU else false then L else false then qQ else false then nE else false then r16 else false))=some (A&& B&& C&& D&& L&& F&& V&& S):=by
 subst hA hB hC hD hF hV hS
 cases A<;>cases B<;>cases C<;>cases D<;>cases L<;>cases F<;>cases V<;>cases S<;>rfl
theorem BF {n:Nat} {r:Root} (hb:r.Marks.length<2^62) (hn:r.Marks.length<n):rZ n r=some (dP r):=by
 rw[ajD,show (0:Int)=((0:Nat):Int) from rfl,akr hb r.Marks.length 0 n (by omega) hn]
 refine bs rfl ?_
 unfold dP
 cases qR r.Marks 0 r.Marks.length
 ·rfl
 ·refine(aku (L:=decide ((r.Marks.length:Int)≤256)) (wo ..) (wo ..) (wo ..) (wo ..) (wo ..) (wo ..) (wo ..)).trans (congrArg some ?_)
  show _=(true&& BD r)
  rw[Bool.eq_iff_iff]
  unfold BD
  simp only[Bool.and_eq_true,decide_eq_true_eq,true_and]
  omega
theorem akv (a0 a1 a2 a3 a4 a5 a6 a7 b0 b1 b2 b3 b4 b5 b6 o:Bool):((!(bif (bif (bif (bif (bif (bif (bif a0 then true else a1) then true else a2) then true else a3) then true else a4) then true else a5) then true else a6) then true else a7))&& (o&& (bif (bif (bif (bif (bif (bif b0 then b1 else false) then b2 else false) then b3 else false) then b4 else false) then b5 else false) then b6 else false)))=(o&& ((!(a0||a1||a2||a3||a4||a5||a6||a7))&& (b0&& b1&& b2&& b3&& b4&& b5&& b6))):=by
 simp only[akt,Fz]
 generalize (!(a0||a1||a2||a3||a4||a5||a6||a7))=x
 generalize (b0&& b1&& b2&& b3&& b4&& b5&& b6)=y
 cases x<;>cases y<;>cases o<;>rfl
theorem akw {n:Nat} {r:Root} (hb:r.Marks.length<2^62) (hn:r.Marks.length<n):vX n r=some (dP r):=by
 rw[ajz,show wh n r n (0:Int)=wh n r n ((0:Nat):Int) from rfl,aks hb r.Marks.length 0 n (by omega) hn]
 unfold dP
 generalize qR r.Marks 0 r.Marks.length=o
 have fin:∀(C B:Bool),(bif C then some false else (some (bif o then (Sum.inl ():PUnit⊕Bool) else Sum.inr false)).bind fun x=>Sum.elim (fun _=>some B) (fun q=>some q) x)=some ((!C)&& (o&& B)):=by
  intro C B;cases C<;>cases o<;>rfl
 refine(fin _ _).trans (congrArg some ?_)
 refine(akv (decide (r.bN< (0:Int))) (decide (r.bN≥(32:Int))) (decide (r.aY< (0:Int))) (decide (r.aY> (1073741824:Int))) (decide (r.Day< (0:Int))) (decide (r.Day> (1048576:Int))) (decide (r.Floor< (0:Int))) (decide (r.Floor>r.aY)) (decide ((r.Marks.length:Int)≤(256:Int))) (decide (r.dS≥(0:Int))) (decide (r.dS≤(65536:Int))) (decide (r.dU≥(0:Int))) (decide (r.dU≤(65536:Int))) (decide (r.bJ≥(0:Int))) (decide (r.bJ≤(2147483648:Int))) o).trans ?_
 refine congrArg (o&& ·) (show (_:Bool)=BD r from ?_)
 rw[Bool.eq_iff_iff]
 unfold BD
 simp only[Bool.and_eq_true,Bool.or_eq_false_iff,decide_eq_true_eq,Bool.not_eq_true',decide_eq_false_iff_not]
 omega
end Sh
end
section
open Go Go.Proofs Aq
namespace Sh
def numsL (r:Root):List Int:=[r.bN,r.aY,r.Day,r.Floor,r.dS,r.dU]++r.Marks.map (·.Count)
def yD (r:Root):List (List UInt8):=uj (Bc (numsL r))::(vR r).map mE
def fV (r:Root):aJ:=mo 361 (yD r)
theorem Yp (d:aJ):(mE d).length=16:=rfl
theorem akx {n:Nat} {r:Root} (hb:r.Marks.length<2^20):∀(k i m:Nat) (a:List Int),i+k=r.Marks.length→k<m→a.length+k<2^29→Bv n r m (a,(i:Int))=some (a++(r.Marks.drop i).map (·.Count)):=by
 intro k
 induction k with
 |zero=>
  intro i m a hi hm _
  obtain⟨m,rfl⟩:∃m',m=m'+1:=⟨m-1,by omega⟩
  rw[Ye,rV (by omega),List.drop_eq_nil_of_le (by omega),List.map_nil,List.append_nil];rfl
 |succ k ih=>
  intro i m a hi hm hc
  obtain⟨m,rfl⟩:∃m',m=m'+1:=⟨m-1,by omega⟩
  have hlt:i<r.Marks.length:=by omega
  have hx:r.Marks[i]? =some r.Marks[i]:=List.getElem?_eq_getElem hlt
  have hd:r.Marks.drop i=r.Marks[i]::r.Marks.drop (i+1):=List.drop_eq_getElem_cons hlt
  rw[hd]
  generalize r.Marks[i]=x at hx⊢
  have h:=ih (i+1) m (a++[x.Count]) (by omega) (by omega) (by rw[List.length_append,List.length_singleton];omega)
  rw[List.append_assoc] at h
  rw[Ye,vU hx,cond_true,lC (by omega)]
  exact bs (gM hx) (gR (rY (by rw[List.length_singleton];omega) (by decide)) h)
theorem Yq (n:Nat):∀(xs:List aJ) (a:List (List UInt8)),a.length+xs.length<2^29→Bw n xs ((),a)=some ((),a++xs.map mE)
 | [],a,_=>by rw[aju,List.map_nil,List.append_nil]
 |x::xs,a,h=>by
  rw[List.length_cons] at h
  rw[ajv]
  have h1:=Yq n xs (a++[mE x]) (by rw[List.length_append,List.length_singleton];omega)
  rw[List.append_assoc] at h1
  exact gR (rY (by show a.length+1<2^30;omega) (by decide)) h1
theorem Yr:∀l:List Mark,(l.flatMap xM).length=2*l.length
 | []=>rfl
 |m::l=>by rw[List.flatMap_cons,List.length_append,Yr l,List.length_cons];show 2+_=_;omega
theorem Yt (r:Root):(vR r).length=4+2*r.Marks.length:=by unfold vR;rw[List.length_append,Yr];rfl
structure kN (r:Root):Prop where
 len:r.Marks.length<300
 off:rI r.bN
 com:rI r.aY
 day:rI r.Day
 Qj:rI r.Floor
 Qk:rI r.dS
 Ql:rI r.dU
 Yu:rI r.bJ
 cnt:∀m∈r.Marks,rI m.Count
theorem aky {r:Root} (h:kN r):∀x∈numsL r,rI x:=by
 intro x hx
 rcases List.mem_append.1 hx with hx|hx
 ·simp only[List.mem_cons,List.not_mem_nil,or_false] at hx
  rcases hx with rfl|rfl|rfl|rfl|rfl|rfl
  ·exact h.off
  ·exact h.com
  ·exact h.day
  ·exact h.Qj
  ·exact h.Qk
  ·exact h.Ql
 ·obtain⟨m,hm,rfl⟩:=List.mem_map.1 hx
  exact h.cnt m hm
theorem Yv (r:Root):(numsL r).length=6+r.Marks.length:=by unfold numsL;rw[List.length_append,List.length_map];rfl
theorem Qm (r:Root):(yD r).length=5+2*r.Marks.length:=by unfold yD;rw[List.length_cons,List.length_map,Yt];omega
theorem Yw {r:Root} (h:kN r):∀x∈yD r,x.length<4000:=by
 intro x hx
 rcases List.mem_cons.1 hx with rfl|hx
 ·rw[xY]
  have h1:=ahR (l:=numsL r)
  rw[Yv] at h1
  have:=h.len
  omega
 ·obtain⟨d,_,rfl⟩:=List.mem_map.1 hx
  rw[Yp];omega
theorem Yx {l:List (List UInt8)} {b:Nat} (h:∀x∈l,x.length<b):mh kr l≤(b+10)*l.length:=
 JC fun x hx=>by have:=ahO x;have:=h x hx;omega
theorem Yy {r:Root} (h:kN r):mh kr (yD r)<2^22:=by
 have h1:=Yx (Yw h)
 have:=h.len
 rw[Qm] at h1
 omega
theorem yE {n:Nat} {r:Root} (h:kN r) (hn:2^23<n):qp n r=some (fV r):=by
 have hl:=h.len
 have hln:=Yv r
 have h1:Bv n r n ([r.bN,r.aY,r.Day,r.Floor,r.dS,r.dU],(0:Int))=some (numsL r):=by
  refine(akx (n:=n) (r:=r) (by omega) r.Marks.length 0 n _ (by omega) (by omega) ?_).trans ?_
  ·show 6+r.Marks.length<2^29;omega
  ·rw[List.drop_zero];rfl
 rw[ajw]
 refine bs h1 (bs (ahS (aky h) (by omega) (by omega) (by omega)) (bs (ajt n r) ?_))
 refine bs (a:=((),yD r)) (bs (a:=vR r) ?_ (Yq n (vR r) [uj (Bc (numsL r))] ?_)) (bs (Pw (ls:=yD r) ?_ ?_ ?_ ?_ ?_ ?_) rfl)
 ·show DU r=_
  unfold DU
  rw[if_pos (by omega)]
 ·rw[Yt];show 1+_<_;omega
 ·intro x hx;have:=Yw h x hx;omega
 ·have:=Yy h;omega
 ·have:=Yy h;omega
 ·have:=Qm r;omega
 ·omega
 ·have:=Qm r;omega
end Sh
end
section
open Go Go.Proofs Aq
namespace Sh
def qU (k:Key):Bool:=decide (1≤k.fQ∧k.fQ≤2147483648∧1≤k.bJ∧k.bJ≤2147483648∧1≤k.jB.length∧k.jB.length≤64∧0≤k.From∧k.From<k.To∧k.To≤1048577)
theorem FB (n:Nat) (a b c:Int):sj n (a,(b,c))=some (decide (b≤a)&& decide (a≤c)):=by
 rw[ajE]
 show some (bif decide (b≤a) then decide (a≤c) else false)=some (decide (b≤a)&& decide (a≤c))
 cases decide (b≤a)<;>rfl
theorem akz {oA oB oC oD:Option Bool} {A B C D L M:Bool} (hA:oA=some A) (hB:oB=some B) (hC:oC=some C) (hD:oD=some D):
 (oA.bind fun (r2:Bool)=>
 (fD r2 oB false).bind fun (r3:Bool)=>
 (fD (bif r2 then r3 else false) oC false).bind fun (r4:Bool)=>
 (fD (bif bif r2 then r3 else false then r4 else false) oD false).bind fun (r5:Bool)=>
 some (bif bif bif bif bif r2 then r3 else false then r4 else false then r5 else false then L else false then M else false))=some (A&& B&& C&& D&& L&& M):=by
 subst hA hB hC hD
 cases A<;>cases B<;>cases C<;>cases D<;>cases L<;>cases M<;>rfl
theorem Yz {n:Nat} {k:Key} (h:rI k.To):Bl n k=some (qU k):=by
 rw[ajF]
 refine(akz (L:=decide (k.To≤1048577)) (M:=decide (k.To>0)) (FB ..) (FB ..) (FB ..) (FB ..)).trans (congrArg some ?_)
 have ⟨h1,h2⟩:=h
 rw[Bool.eq_iff_iff]
 unfold qU
 simp only[Bool.and_eq_true,decide_eq_true_eq]
 have e:k.To>0→IntKind.wrap .i64 (k.To-1)=k.To-1:=fun h=>by rw[IntKind.wrap_i64];omega
 by_cases hp:k.To>0
 ·rw[show IntKind.wrap .i64 (k.To-(1:Int))=k.To-1 from e hp];omega
 ·constructor
  ·intro h;omega
  ·intro h;omega
def uy:List (List (List UInt8))→Nat
 | []=>0
 |a::l=>a.length+uy l
theorem akA {n:Nat} {l:List (List (List UInt8))} (hb:l.length<2^20):∀(k i m s:Nat),i+k=l.length→k<m→s+uy (l.drop i)<2^28→Fp n l m ((s:Int),(i:Int))=some ((s+uy (l.drop i):Nat):Int):=by
 intro k
 induction k with
 |zero=>
  intro i m s hi hm _
  obtain⟨m,rfl⟩:∃m',m=m'+1:=⟨m-1,by omega⟩
  rw[Yh,rV (by omega),List.drop_eq_nil_of_le (by omega)];rfl
 |succ k ih=>
  intro i m s hi hm hc
  obtain⟨m,rfl⟩:∃m',m=m'+1:=⟨m-1,by omega⟩
  have hlt:i<l.length:=by omega
  have hx:l[i]? =some l[i]:=List.getElem?_eq_getElem hlt
  have hd:l.drop i=l[i]::l.drop (i+1):=List.drop_eq_getElem_cons hlt
  rw[hd] at hc⊢
  generalize l[i]=x at hx hc⊢
  have e:uy (x::l.drop (i+1))=x.length+uy (l.drop (i+1)):=rfl
  have h:=ih (i+1) m (s+x.length) (by omega) (by omega) (by omega)
  rw[Yh,vU hx,cond_true,lC (by omega)]
  refine bs (gM hx) ?_
  rw[ahe (show s+x.length<2^62 by omega)]
  refine bF (decide_eq_false (by omega)) ?_
  rw[h,e,Nat.add_assoc]
theorem akB {n:Nat} {l:List (List (List UInt8))} (hb:l.length<2^20):∀(k i m:Nat) (a:List (List UInt8)),i+k=l.length→k<m→a.length+uy (l.drop i)<2^28→Fq n l m (a,(i:Int))=some (a++(l.drop i).flatten):=by
 intro k
 induction k with
 |zero=>
  intro i m a hi hm _
  obtain⟨m,rfl⟩:∃m',m=m'+1:=⟨m-1,by omega⟩
  rw[Yi,rV (by omega),List.drop_eq_nil_of_le (by omega),List.flatten_nil,List.append_nil];rfl
 |succ k ih=>
  intro i m a hi hm hc
  obtain⟨m,rfl⟩:∃m',m=m'+1:=⟨m-1,by omega⟩
  have hlt:i<l.length:=by omega
  have hx:l[i]? =some l[i]:=List.getElem?_eq_getElem hlt
  have hd:l.drop i=l[i]::l.drop (i+1):=List.drop_eq_getElem_cons hlt
  rw[hd] at hc⊢
  generalize l[i]=x at hx hc⊢
  have e:uy (x::l.drop (i+1))=x.length+uy (l.drop (i+1)):=rfl
  have h:=ih (i+1) m (a++x) (by omega) (by omega) (by rw[List.length_append];omega)
  rw[Yi,vU hx,cond_true,lC (by omega),List.flatten_cons,←List.append_assoc]
  exact bs (gM hx) (gR (rY (by omega) (by decide)) h)
theorem akC {k:Nat} (h:k<2^28):Ay ((),((k:Nat):Int))=some []:=by
 unfold Ay
 exact if_pos ⟨by show (0:Int)≤(k:Nat);omega,by show ((k:Nat):Int)≤2^40;omega⟩
theorem akD {n:Nat} {l:List (List (List UInt8))} (hb:l.length<n) (hb2:l.length<2^20) (hs:uy l<2^28):Bo n l=some l.flatten:=by
 rw[ajH]
 have h1:=akA (n:=n) hb2 l.length 0 n 0 (by omega) hb (by rw[List.drop_zero];omega)
 have h2:=akB (n:=n) hb2 l.length 0 n [] (by omega) hb (by rw[List.drop_zero];show 0+_<_;omega)
 rw[List.drop_zero] at h1 h2
 rw[Nat.zero_add] at h1
 exact bs h1 (bs (akC hs) (bs h2 rfl))
def wu (k:Key) (b:List (List UInt8)):List (List UInt8):=[k.jB]++b++[k.jB]
def akE (d:aJ):Seal:=⟨d.b0,d.b1,d.b2,d.b3,d.b4,d.b5,d.b6,d.b7,d.b8,d.b9,d.b10,d.b11,d.b12,d.b13,d.b14,d.b15⟩
def wz (k:Key) (t:Int) (b:List (List UInt8)):Seal:=akE (mo t (wu k b))
def Small (b:List (List UInt8)):Prop:=b.length<1000∧∀x∈b,x.length<1000
theorem YA {k:Key} {b:List (List UInt8)} (hk:k.jB.length<1000) (hb:Small b):∀x∈wu k b,x.length<1000:=by
 intro x hx
 rcases List.mem_append.1 hx with hx|hx
 ·rcases List.mem_append.1 hx with hx|hx
  ·rw[List.mem_singleton.1 hx];exact hk
  ·exact hb.2 x hx
 ·rw[List.mem_singleton.1 hx];exact hk
theorem YB (k:Key) (b:List (List UInt8)):(wu k b).length=b.length+2:=by
 unfold wu;rw[List.length_append,List.length_append,List.length_singleton];omega
theorem akF {k:Key} {b:List (List UInt8)} (hk:k.jB.length<1000) (hb:Small b):mh kr (wu k b)<2^22:=by
 have h1:=Yx (YA hk hb)
 have:=hb.1
 rw[YB] at h1
 omega
theorem YC {n:Nat} {k:Key} {t:Int} {b:List (List UInt8)} (hk:k.jB.length<1000) (hb:Small b) (hn:2^23<n):yu n (k,(t,b))=some (wz k t b):=by
 have h0:=hb.1
 have hl:=YB k b
 have hz:=akF hk hb
 rw[ajI]
 refine bs (a:=wu k b) ((akD (l:=[[k.jB],b,[k.jB]]) (by show 3<n;omega) (by show 3<2^20;decide) (by show 1+(b.length+(1+0))<_;omega)).trans ?_) (bs (Pw (ls:=wu k b) ?_ ?_ ?_ ?_ ?_ ?_) rfl)
 ·unfold wu;simp;rfl
 ·intro x hx;have:=YA hk hb x hx;omega
 ·omega
 ·omega
 ·omega
 ·omega
 ·omega
def kC (a b:Key):Bool:=decide (a.fQ<b.fQ∨(a.fQ=b.fQ∧a.bJ<b.bJ))
def isK (p s:Int) (k:Key):Bool:=decide (k.fQ=p∧k.bJ=s)
def BG (l:List Key) (i:Nat):Bool:=match l[i]? with
 |some k=>qU k&& (decide (i=0)||match l[i-1]? with
  |some p=>kC p k
  |none=>true)
 |none=>true
def FC (l:List Key):Nat→Nat→Bool
 |_,0=>true
 |i,k+1=>BG l i&& FC l (i+1) k
theorem akG (l:List Key) (i k:Nat):FC l i (k+1)=(BG l i&& FC l (i+1) k):=rfl
theorem YD {l:List Key} {i:Nat} {m:Key} (h:l[i]? =some m):BG l i=(qU m&& (decide (i=0)||match l[i-1]? with
 |some p=>kC p m
 |none=>true)):=by unfold BG;rw[h]
def qw (l:List Key):Bool:=FC l 0 l.length&& decide (l.length≤500)
theorem YE {l:List Key}:∀{k i j:Nat},FC l i k=true→i≤j→j<i+k→BG l j=true
 |0,i,j,_,h1,h2=>by omega
 |k+1,i,j,h,h1,h2=>by
  rw[akG,Bool.and_eq_true] at h
  by_cases e:i=j
  ·rw[←e];exact h.1
  ·exact YE h.2 (by omega) (by omega)
theorem YF {l:List Key} (h:qw l=true) {i:Nat} (hi:i<l.length):BG l i=true:=by
 unfold qw at h
 rw[Bool.and_eq_true] at h
 exact YE h.1 (Nat.zero_le _) (by omega)
theorem akH {l:List Key} (h:qw l=true) {k:Key} (hk:k∈l):qU k=true:=by
 obtain⟨i,hi,rfl⟩:=List.getElem_of_mem hk
 have:=YF h hi
 rw[YD (List.getElem?_eq_getElem hi),Bool.and_eq_true] at this
 exact this.1
theorem Qn {a b c:Key} (h1:kC a b=true) (h2:kC b c=true):kC a c=true:=by
 unfold kC at*
 rw[decide_eq_true_eq] at*
 omega
theorem Kv {l:List Key} (h:qw l=true):∀{j i:Nat} (hij:i<j) (hj:j<l.length),kC (l[i]'(by omega)) l[j]=true
 |0,i,hij,_=>by omega
 |j+1,i,hij,hj=>by
  have h1:kC (l[j]'(by omega)) l[j+1]=true:=by
   have:=YF h hj
   rw[YD (List.getElem?_eq_getElem hj),Bool.and_eq_true] at this
   have h2:=this.2
   rw[show j+1-1=j from rfl,List.getElem?_eq_getElem (show j<l.length by omega),decide_eq_false (show¬j+1=0 by omega),Bool.false_or] at h2
   exact h2
  by_cases e:i=j
  ·subst e;exact h1
  ·exact Qn (Kv h (show i<j by omega) (by omega)) h1
end Sh
end
section
open Go Go.Proofs Aq
namespace Sh
def yF (a b:Int):Int:=if a<b then-1 else if a>b then 1 else 0
theorem YG (n:Nat) (a b:Int):cmp_Compare_int n (a,b)=some (yF a b):=by
 have h:∀x:Int,cmp_isNaN_int n x=some false:=fun x=>by
  rw[ajL]
  exact congrArg some (show (x !=x)=false by simp)
 rw[ajM]
 refine bs (h a) (bs (h b) (bF rfl (bF rfl ?_)))
 unfold yF
 by_cases h1:a<b
 ·rw[if_pos h1];exact bT (decide_eq_true h1) rfl
 ·rw[if_neg h1]
  refine bF (decide_eq_false h1) ?_
  by_cases h2:a>b
  ·rw[if_pos h2];exact bT (decide_eq_true h2) rfl
  ·rw[if_neg h2];exact bF (decide_eq_false h2) rfl
def BH (a b:Key):Int:=if yF a.fQ b.fQ≠0 then yF a.fQ b.fQ else yF a.bJ b.bJ
theorem akI {n:Nat} (hn:3<n) (a b:Int):Bp n [a,b]=some (if a≠0 then a else b):=by
 obtain⟨m,rfl⟩:∃m,n=m+1+1+1:=⟨n-3,by omega⟩
 refine(ajN _ [a,b]).trans ?_
 generalize hf:m+1+1+1=f
 have h0:Fu f [a,b] (m+1+1+1) (0:Int)=some (if a≠0 then .inr a else if b≠0 then .inr b else .inl ()):=by
  rw[Qf]
  refine bT rfl (bs (a:=a) rfl ?_)
  by_cases h:a=0
  ·refine bF (by rw[h];rfl) ?_
   rw[if_neg (by omega)]
   rw[show IntKind.wrap .i64 ((0:Int)+(1:Int))=(1:Int) by decide,Qf]
   refine bT rfl (bs (a:=b) rfl ?_)
   by_cases h2:b=0
   ·refine bF (by rw[h2];rfl) ?_
    rw[if_neg (by omega)]
    rw[show IntKind.wrap .i64 ((1:Int)+(1:Int))=(2:Int) by decide,Qf]
    exact bF rfl rfl
   ·rw[if_pos h2];exact bT (by simpa using h2) rfl
  ·rw[if_pos h];exact bT (by simpa using h) rfl
 rw[hf] at h0
 refine bs h0 ?_
 by_cases h:a=0
 ·subst h
  by_cases h2:b=0
  ·subst h2;rfl
  ·rw[if_neg (c:=(0:Int)≠0) (by omega),if_neg (c:=(0:Int)≠0) (by omega),if_pos h2];rfl
 ·rw[if_pos h,if_pos h];rfl
theorem YH {n:Nat} (hn:3<n) (a b:Key):yw n (a,b)=some (BH a b):=by
 rw[ajP]
 refine bs (a:=BH a b) ?_ rfl
 rw[ajO]
 exact bs (YG ..) (bs (YG ..) (bs (akI hn ..) rfl))
theorem akJ (a b:Key):decide (BH a b<0)=kC a b:=by
 rw[Bool.eq_iff_iff]
 unfold BH kC yF
 simp only[decide_eq_true_eq]
 split<;>(repeat' split)<;>omega
theorem akK (a b:Key):(BH a b==0)=isK b.fQ b.bJ a:=by
 rw[Bool.eq_iff_iff]
 unfold BH isK yF
 simp only[decide_eq_true_eq,beq_iff_eq]
 split<;>(repeat' split)<;>omega
theorem akL {i j:Nat} (hij:i<j) (hj:j<2^20):IntKind.wrap .i64 (iW .u64 (IntKind.wrap .u64 (IntKind.wrap .i64 ((i:Int)+(j:Int)))) (1:Int))=(((i+j)/2:Nat):Int):=by
 have e1:IntKind.wrap .i64 ((i:Int)+(j:Int))=((i+j:Nat):Int):=by rw[IntKind.wrap_i64];omega
 have e2:IntKind.wrap .u64 ((i+j:Nat):Int)=((i+j:Nat):Int):=by rw[IntKind.wrap_u64];omega
 rw[e1,e2]
 have e3:iW .u64 ((i+j:Nat):Int) (1:Int)=(((i+j)/2:Nat):Int):=by
  unfold iW
  show Int.fdiv _ 2=_
  rw[Int.fdiv_eq_ediv_of_nonneg _ (by decide)];omega
 rw[e3,IntKind.wrap_i64];omega
theorem akM {n:Nat} {l:List Key} {t:Key} (hr:qw l=true) (hl:l.length<2^19) (hn:3<n):∀(d i j m:Nat),j-i≤d→d<m→i≤j→j≤l.length→
 (∀k (h:k<l.length),k<i→kC l[k] t=true)→(∀k (h:k<l.length),j≤k→kC l[k] t=false)→
 ∃p,BA n l t m ((i:Int),(j:Int))=some ((p:Nat):Int)∧p≤l.length∧(∀k (h:k<l.length),k<p→kC l[k] t=true)∧(∀k (h:k<l.length),p≤k→kC l[k] t=false):=by
 intro d
 induction d with
 |zero=>
  intro i j m hd hm hij hj h1 h2
  obtain⟨m,rfl⟩:∃m',m=m'+1:=⟨m-1,by omega⟩
  obtain rfl:i=j:=by omega
  refine⟨i, ?_,hj,h1,h2⟩
  rw[Kt]
  exact bF (decide_eq_false (by omega)) rfl
 |succ d ih=>
  intro i j m hd hm hij hj h1 h2
  obtain⟨m,rfl⟩:∃m',m=m'+1:=⟨m-1,by omega⟩
  by_cases e:i=j
  ·subst e
   refine⟨i, ?_,hj,h1,h2⟩
   rw[Kt]
   exact bF (decide_eq_false (by omega)) rfl
  ·have hlt:i<j:=by omega
   have hmid:=akL hlt (show j<2^20 by omega)
   have hk:(i+j)/2<l.length:=by omega
   have hget:=List.getElem?_eq_getElem hk
   have hpl:=YH hn l[(i+j)/2] t
   have ho:=akJ l[(i+j)/2] t
   cases hc:kC l[(i+j)/2] t
   ·obtain⟨p,g1,g2,g3,g4⟩:=ih i ((i+j)/2) m (by omega) (by omega) (by omega) (by omega) h1 (by
     intro k hk2 hle
     by_cases e:k=(i+j)/2
     ·subst e;exact hc
     ·cases hx:kC l[k] t
      ·rfl
      ·rw[Qn (Kv hr (show (i+j)/2<k by omega) hk2) hx] at hc;cases hc)
    refine⟨p, ?_,g2,g3,g4⟩
    rw[Kt]
    refine bT (decide_eq_true (by omega)) (bT rfl ?_)
    rw[hmid]
    refine bs (gM hget) (bs hpl (bF (ho.trans hc) g1))
   ·obtain⟨p,g1,g2,g3,g4⟩:=ih ((i+j)/2+1) j m (by omega) (by omega) (by omega) (by omega) (by
     intro k hk2 hle
     by_cases e:k=(i+j)/2
     ·subst e;exact hc
     ·exact Qn (Kv hr (show k< (i+j)/2 by omega) hk) hc) h2
    refine⟨p, ?_,g2,g3,g4⟩
    rw[Kt]
    refine bT (decide_eq_true (by omega)) (bT rfl ?_)
    rw[hmid]
    refine bs (gM hget) (bs hpl (bT (ho.trans hc) ?_))
    rw[lC (by omega)];exact g1
def akN:Key:=⟨(0:Int),(0:Int),[],(0:Int),(0:Int)⟩
theorem akO {n:Nat} {l:List Key} {p s:Int} (hr:qw l=true) (hl:l.length<2^19) (hn:l.length+3<n):Br n (l,(p,s))=some (match l.find? (isK p s) with|some k=>(k,(0:Int))|none=>(akN,(5:Int))):=by
 obtain⟨q,g1,g2,g3,g4⟩:=akM (n:=n) (t:=⟨p,s,[],(0:Int),(0:Int)⟩) hr hl (by omega) l.length 0 l.length n (by omega) (by omega) (by omega) (by omega) (fun k _ h=>by omega) (fun k h1 h2=>by omega)
 have hle:∀k:Key,isK p s k=true→kC k ⟨p,s,[],(0:Int),(0:Int)⟩=false:=by
  intro k hk
  unfold isK at hk;unfold kC
  rw[decide_eq_true_eq] at hk
  rw[decide_eq_false_iff_not];show¬(k.fQ<p∨k.fQ=p∧k.bJ<s);omega
 have key:∀k (h:k<l.length),isK p s l[k]=true→k=q:=by
  intro k h hk
  rcases Nat.lt_trichotomy k q with hh|hh|hh
  ·have:=g3 k h hh
   rw[hle _ hk] at this;cases this
  ·exact hh
  ·have h5:=g4 q (by omega) (Nat.le_refl q)
   have h6:=Kv hr hh h
   have:kC l[q] ⟨p,s,[],(0:Int),(0:Int)⟩=true:=by
    unfold isK at hk;unfold kC at h6⊢
    rw[decide_eq_true_eq] at hk h6⊢
    show l[q].fQ<p∨l[q].fQ=p∧l[q].bJ<s
    omega
   rw[this] at h5;cases h5
 have hp:∃b,Bq n (l,(p,s))=some ((q:Int),b)∧b=(match l[q]? with|some k=>isK p s k|none=>false):=by
  refine⟨_, ?_,rfl⟩
  rw[ajR]
  refine bs (a:=((q:Int),_)) ?_ rfl
  rw[ajQ]
  refine bs g1 ?_
  by_cases hq:q<l.length
  ·have hx:=List.getElem?_eq_getElem hq
   rw[hx]
   refine bT (decide_eq_true (by omega)) (bs (gM hx) (bs (YH (by omega) ..) (congrArg some (congrArg (Prod.mk (q:Int)) ?_))))
   exact akK ..
  ·rw[List.getElem?_eq_none (by omega)]
   exact bF (decide_eq_false (by omega)) rfl
 obtain⟨b,hp,hb⟩:=hp
 rw[ajS]
 refine bs hp ?_
 cases hf:l.find? (isK p s) with
 |some k=>
  have hk:=List.find?_some hf
  obtain⟨i,hi,rfl⟩:=List.getElem_of_mem (List.mem_of_find?_eq_some hf)
  obtain rfl:=key i hi hk
  have hx:=List.getElem?_eq_getElem hi
  rw[hx] at hb
  have hb':b=true:=hb.trans hk
  subst hb'
  exact bF rfl (bs (gM hx) rfl)
 |none=>
  have hb':b=false:=by
   rw[hb]
   cases hx:l[q]? with
   |none=>rfl
   |some k=>
    have:=List.find?_eq_none.1 hf k (List.mem_of_getElem? hx)
    exact(Bool.not_eq_true _).mp this
  subst hb'
  exact bT rfl rfl
def Kw (l:List Key) (p s t:Int) (b:List (List UInt8)) (x:Seal) (day:Int):Int:=match l.find? (isK p s) with
 |none=>5
 |some k=>if k.From≤day∧day<k.To then (if wz k t b=x then 0 else 8) else 9
theorem akP (x y:Seal):((x.b0==y.b0)&& ((x.b1==y.b1)&& ((x.b2==y.b2)&& ((x.b3==y.b3)&& ((x.b4==y.b4)&& ((x.b5==y.b5)&& ((x.b6==y.b6)&& ((x.b7==y.b7)&& ((x.b8==y.b8)&& ((x.b9==y.b9)&& ((x.b10==y.b10)&& ((x.b11==y.b11)&& ((x.b12==y.b12)&& ((x.b13==y.b13)&& ((x.b14==y.b14)&& ((x.b15==y.b15)&& true))))))))))))))))=decide (x=y):=by
 rw[Bool.eq_iff_iff]
 simp only[Bool.and_eq_true,beq_iff_eq,decide_eq_true_eq,and_true]
 constructor
 ·intro h
  obtain⟨h0,h1,h2,h3,h4,h5,h6,h7,h8,h9,h10,h11,h12,Qo,Qp,Qq⟩:=h
  cases x;cases y
  simp only at*
  subst h0 h1 h2 h3 h4 h5 h6 h7 h8 h9 h10 h11 h12 Qo Qp Qq
  rfl
 ·rintro rfl
  exact⟨rfl,rfl,rfl,rfl,rfl,rfl,rfl,rfl,rfl,rfl,rfl,rfl,rfl,rfl,rfl,rfl⟩
theorem YI {k:Key} (h:qU k=true):1≤k.fQ∧k.fQ≤2147483648∧1≤k.bJ∧k.bJ≤2147483648∧1≤k.jB.length∧k.jB.length≤64∧0≤k.From∧k.From<k.To∧k.To≤1048577:=by
 unfold qU at h;exact of_decide_eq_true h
theorem akQ {n:Nat} {l:List Key} {p s t day:Int} {b:List (List UInt8)} {x:Seal} (hr:qw l=true) (hl:l.length<2^19) (hb:Small b) (hn:2^23<n):Bu n (l,(p,(s,(t,(b,(x,day))))))=some (Kw l p s t b x day):=by
 rw[ajU]
 refine bs (akO hr hl (by omega)) ?_
 unfold Kw
 cases hf:l.find? (isK p s) with
 |none=>rfl
 |some k=>
  have hk:=YI (akH hr (List.mem_of_find?_eq_some hf))
  have hc:Bt n (k,day)=some (decide (k.From≤day∧day<k.To)):=by
   rw[ajT]
   refine bs (FB ..) (congrArg some ?_)
   rw[show IntKind.wrap .i64 (k.To-(1:Int))=k.To-1 by rw[IntKind.wrap_i64];omega,Bool.eq_iff_iff]
   simp only[Bool.and_eq_true,decide_eq_true_eq];omega
  refine bF rfl (bs hc ?_)
  show _=some (if k.From≤day∧day<k.To then (if wz k t b=x then (0:Int) else 8) else 9)
  by_cases h:k.From≤day∧day<k.To
  ·rw[if_pos h]
   refine bF (by rw[decide_eq_true h];rfl) (bs (YC (by show k.jB.length<1000;omega) hb hn) ?_)
   rw[akP]
   by_cases e:wz k t b=x
   ·rw[if_pos e];exact bF (by rw[decide_eq_true e];rfl) rfl
   ·rw[if_neg e];exact bT (by rw[decide_eq_false e];rfl) rfl
  ·rw[if_neg h];exact bT (by rw[decide_eq_false h];rfl) rfl
end Sh
end
section
open Go Go.Proofs Aq
namespace Sh
theorem Qr (x y:aJ):((x.b0==y.b0)&& ((x.b1==y.b1)&& ((x.b2==y.b2)&& ((x.b3==y.b3)&& ((x.b4==y.b4)&& ((x.b5==y.b5)&& ((x.b6==y.b6)&& ((x.b7==y.b7)&& ((x.b8==y.b8)&& ((x.b9==y.b9)&& ((x.b10==y.b10)&& ((x.b11==y.b11)&& ((x.b12==y.b12)&& ((x.b13==y.b13)&& ((x.b14==y.b14)&& ((x.b15==y.b15)&& true))))))))))))))))=decide (x=y):=by
 rw[Bool.eq_iff_iff]
 simp only[Bool.and_eq_true,beq_iff_eq,decide_eq_true_eq,and_true]
 constructor
 ·intro h
  obtain⟨h0,h1,h2,h3,h4,h5,h6,h7,h8,h9,h10,h11,h12,Qo,Qp,Qq⟩:=h
  cases x;cases y
  simp only at*
  subst h0 h1 h2 h3 h4 h5 h6 h7 h8 h9 h10 h11 h12 Qo Qp Qq
  rfl
 ·rintro rfl
  exact⟨rfl,rfl,rfl,rfl,rfl,rfl,rfl,rfl,rfl,rfl,rfl,rfl,rfl,rfl,rfl,rfl⟩
structure YJ (r:Root):Prop where
 off:rI r.bN
 com:rI r.aY
 day:rI r.Day
 Qj:rI r.Floor
 Qk:rI r.dS
 Ql:rI r.dU
 Yu:rI r.bJ
 cnt:∀m∈r.Marks,rI m.Count
theorem YJ.ok {r:Root} (h:YJ r) (hl:r.Marks.length<300):kN r:=⟨hl,h.off,h.com,h.day,h.Qj,h.Qk,h.Ql,h.Yu,h.cnt⟩
def pq (r:Root) (s:Int):Root:=⟨r.bN,r.aY,r.Day,r.Floor,r.ay,r.ak,r.Marks,r.Gone,r.dS,r.aC,r.dU,s,r.Seal⟩
theorem YK {n:Nat} {r:Root} (h:kN r) (hn:2^23<n):yj n r=some (mE (fV r)):=by
 rw[ajG];exact bs (yE h hn) rfl
theorem YL (d:aJ):Small [mE d]:=⟨by show 1<1000;decide,fun x hx=>by rw[List.mem_singleton.1 hx,Yp];decide⟩
def sF (l:List Key) (r:Root):Int:=if dP r=true then Kw l (IntKind.wrap .i64 ((1073741824:Int)+r.bN)) r.bJ 362 [mE (fV r)] r.Seal r.Day else 1
theorem Qs {n:Nat} {l:List Key} {r:Root} (h:kN r) (hr:qw l=true) (hl:l.length<2^19) (hn:2^23<n):sw n (l,r)=some (sF l r):=by
 have:=h.len
 rw[ajV]
 refine bs (BF (by omega) (by omega)) ?_
 unfold sF
 cases dP r
 ·rfl
 ·exact bF rfl (bs (YK h hn) (bs (akQ hr hl (YL _) hn) rfl))
def lF (a b:Root):Int:=
 if dP a=false∨dP b=false∨a.bN≠b.bN then 1
 else if b.aY≠IntKind.wrap .i64 (a.aY+(1:Int))∨b.Day<a.Day∨b.Floor<a.Floor then 9
 else if a.ak=b.ak∧b.ay=fV a then 0 else 3
theorem akR {a b:Root} {oa ob:Option Bool} {on:Option aJ} (ha:oa=some (dP a)) (hb:ob=some (dP b)) (hn:on=some (fV a)):
 (oa.bind fun (r3:Bool)=>
 (fD (!(!r3)) ob false).bind fun (r4:Bool)=>
 bif bif bif !r3 then true else !r4 then true else a.bN !=b.bN then
  some ((1:Int))
 else
  bif bif bif b.aY !=(Go.IntKind.wrap Go.IntKind.i64 (a.aY+((1:Int)))) then true else decide (b.Day<a.Day) then true else decide (b.Floor<a.Floor) then
   some ((9:Int))
  else
   bif !(!decide (a.ak=b.ak)) then
    on.bind fun (r5:aJ)=>
    bif !(decide (b.ay=r5)) then
     some ((3:Int))
    else
     some ((0:Int))
   else
    some ((3:Int)))=some (lF a b):=by
 subst ha hb hn
 unfold lF
 cases h1:dP a
 ·rw[if_pos (Or.inl rfl)];rfl
 ·cases h2:dP b
  ·rw[if_pos (Or.inr (Or.inl rfl))];rfl
  ·by_cases h3:a.bN=b.bN
   ·rw[if_neg (by simp[h3])]
    refine bs rfl (bs rfl (bF (bne_eq_false_iff_eq.2 h3) ?_))
    by_cases h4:b.aY≠IntKind.wrap .i64 (a.aY+(1:Int))∨b.Day<a.Day∨b.Floor<a.Floor
    ·rw[if_pos h4]
     refine bT ?_ rfl
     rw[Fz,Fz]
     simp only[Bool.or_eq_true,bne_iff_ne,decide_eq_true_eq];omega
    ·rw[if_neg h4]
     refine bF ?_ ?_
     ·rw[Fz,Fz]
      simp only[Bool.or_eq_false_iff,bne_eq_false_iff_eq,decide_eq_false_iff_not];omega
     ·by_cases h5:a.ak=b.ak
      ·refine bT (by rw[decide_eq_true h5];rfl) (bs rfl ?_)
       by_cases h6:b.ay=fV a
       ·rw[if_pos ⟨h5,h6⟩];exact bF (by rw[decide_eq_true h6];rfl) rfl
       ·rw[if_neg (fun h=>h6 h.2)];exact bT (by rw[decide_eq_false h6];rfl) rfl
      ·rw[if_neg (fun h=>h5 h.1)];exact bF (by rw[decide_eq_false h5];rfl) rfl
   ·rw[if_pos (Or.inr (Or.inr h3))]
    exact bs rfl (bs rfl (bT (bne_iff_ne.2 h3) rfl))
theorem Qt {n:Nat} {a b:Root} (ha:kN a) (hb:kN b) (hn:2^23<n):vY n (a,b)=some (lF a b):=by
 have:=ha.len;have:=hb.len
 rw[ajJ]
 simp only[Qr]
 exact akR (BF (by omega) (by omega)) (BF (by omega) (by omega)) (yE ha hn)
def sG (l:List Key) (a b:Root):Bool:=decide (a.bN=b.bN∧sF l a=0∧sF l b=0)
theorem YM {n:Nat} {l:List Key} {a b:Root} (ha:kN a) (hb:kN b) (hr:qw l=true) (hl:l.length<2^19) (hn:2^23<n):yx n (l,(a,b))=some (sG l a b):=by
 rw[ajW]
 refine uw (Qs ha hr hl hn) (uw (Qs hb hr hl hn) (congrArg some ?_))
 have fin:∀(o:Bool) (x y:Int),(bif bif o then (bif o then x else 0)==0 else false then (bif (bif o then (bif o then x else 0)==0 else false) then y else 0)==0 else false)=(o&& x==0&& y==0):=by
  intro o x y
  cases o
  ·rfl
  ·show (bif x==0 then (bif x==0 then y else 0)==0 else false)=(x==0&& y==0)
   cases x==0<;>rfl
 refine(fin (a.bN==b.bN) (sF l a) (sF l b)).trans ?_
 rw[Bool.eq_iff_iff]
 unfold sG
 simp only[Bool.and_eq_true,beq_iff_eq,decide_eq_true_eq,and_assoc]
def wB (l:List Key) (a b:Root):Bool:=decide (a.aY=b.aY)&& sG l a b&& !decide (fV a=fV b)
theorem Qu {l:List Key} {a b:Root} (h:a.aY=b.aY) (h2:sG l a b=true):wB l a b= !decide (fV a=fV b):=by
 unfold wB;rw[h2,decide_eq_true h,Bool.true_and,Bool.true_and]
theorem akS {l:List Key} {a b:Root} (h2:sG l a b=false):wB l a b=false:=by
 unfold wB;rw[h2,Bool.and_false,Bool.false_and]
theorem YN {l:List Key} {a b:Root} (h:¬a.aY=b.aY):wB l a b=false:=by
 unfold wB;rw[decide_eq_false h,Bool.false_and,Bool.false_and]
theorem YO {n:Nat} {l:List Key} {a b:Root} (ha:kN a) (hb:kN b) (hr:qw l=true) (hl:l.length<2^19) (hn:2^23<n):yA n (l,(a,b))=some (wB l a b):=by
 rw[ajX]
 simp only[Qr]
 by_cases h:a.aY=b.aY
 ·refine bT (beq_iff_eq.2 h) (bs (YM ha hb hr hl hn) ?_)
  cases h2:sG l a b
  ·rw[akS h2];rfl
  ·rw[Qu h h2]
   exact bT rfl (bs (yE ha hn) (bs (yE hb hn) rfl))
 ·rw[YN h]
  exact bF (beq_eq_false_iff_ne.2 h) rfl
def BI (l:List Key) (a b:Root):Bool:=decide (b.aY=IntKind.wrap .i64 (a.aY+(1:Int)))&& sG l a b&& decide (lF a b≠0)
theorem YP {n:Nat} {l:List Key} {a b:Root} (ha:kN a) (hb:kN b) (hr:qw l=true) (hl:l.length<2^19) (hn:2^23<n):yB n (l,(a,b))=some (BI l a b):=by
 rw[ajY]
 refine uw (YM ha hb hr hl hn) (uw (Qt ha hb hn) (congrArg some ?_))
 have fin:∀(o x:Bool) (y:Int),(bif bif o then (bif o then x else false) else false then (bif (bif o then (bif o then x else false) else false) then y else 0) !=0 else false)=(o&& x&& y !=0):=by
  intro o x y
  cases o<;>cases x<;>rfl
 refine(fin (b.aY==IntKind.wrap .i64 (a.aY+(1:Int))) (sG l a b) (lF a b)).trans ?_
 rw[Bool.eq_iff_iff]
 unfold BI
 simp only[Bool.and_eq_true,beq_iff_eq,decide_eq_true_eq,bne_iff_ne]
end Sh
end
section
open Go Go.Proofs Aq
namespace Sh
def uz (r:Root):Bool:=decide (r.Marks.length≤20∨(256<r.Marks.length∧r.Marks.length<300))
theorem YQ (n:Nat) (r:Root):uo n r=some (uz r):=by
 rw[ajx]
 have fin:∀x y z:Bool,(bif x then true else bif y then z else false)=(x||(y&& z)):=by decide
 refine congrArg some ((fin (decide ((r.Marks.length:Int)≤(20:Int))) (decide ((r.Marks.length:Int)> (256:Int))) (decide ((r.Marks.length:Int)< (300:Int)))).trans ?_)
 rw[Bool.eq_iff_iff]
 unfold uz
 simp only[Bool.or_eq_true,Bool.and_eq_true,decide_eq_true_eq]
 omega
theorem akT {r:Root} (h:uz r=true):r.Marks.length<300:=by
 unfold uz at h;have:=of_decide_eq_true h;omega
end Sh
end
section
open Go Go.Proofs Aq
namespace Sh
def sH (b:List Root) (r:Root):Int:=
 if 65536≤b.length then 2 else if dP r=false then 1 else match b.getLast? with
  |none=>0
  |some a=>lF a r
theorem akU {b:List Root} (_:b≠[]):b[b.length-1]? =b.getLast? :=by rw[List.getLast?_eq_getElem?]
theorem akV {b:List Root} {r:Root} (h:65536≤b.length):sH b r=2:=if_pos h
theorem akW {b:List Root} {r:Root} (h:¬65536≤b.length) (hv:dP r=false):sH b r=1:=by unfold sH;rw[if_neg h,if_pos hv]
theorem YR {r:Root} (hv:dP r=true):sH [] r=0:=by
 unfold sH
 rw[if_neg (show¬65536≤([]:List Root).length by show¬65536≤0;decide),if_neg (by rw[hv];decide)];rfl
theorem YS {b:List Root} {r a:Root} (h:¬65536≤b.length) (hv:dP r=true) (hg:some a=b.getLast?):sH b r=lF a r:=by
 unfold sH
 rw[if_neg h,if_neg (by rw[hv];decide),←hg]
theorem akX {n:Nat} {b:List Root} {r:Root} (hb:∀a∈b,kN a) (hr:kN r) (hl:b.length<2^20) (hn:2^23<n):vZ n (⟨b⟩,r)=some ((⟨if sH b r=0 then b++[r] else b⟩:cK),sH b r):=by
 have hrl:=hr.len
 have hgrow:((bif (gL ((b.length:Nat):Int) b.length)&& ((gL ((b.length:Nat):Int) (Int.toNat ((b.length:Nat):Int)))&& (((b.length:Nat):Int)==((b.length:Nat):Int))) then
            bif eD ((List.take (Int.toNat ((b.length:Nat):Int)) b).length+[r].length) 160 then
             some (((⟨List.take (Int.toNat ((b.length:Nat):Int)) b++[r]⟩:cK),(0:Int)))
            else
             none
       else
        none:Option (cK×Int)))=some ((⟨b++[r]⟩:cK),(0:Int)):=by
  have e1:gL ((b.length:Nat):Int) b.length=true:=by unfold gL;simp
  rw[Int.toNat_natCast,e1,beq_self_eq_true,List.take_length]
  exact bT rfl (bT (rY (by rw[List.length_singleton];omega) (by decide)) rfl)
 rw[ajK]
 by_cases h1:65536≤b.length
 ·rw[akV h1,if_neg (by decide)]
  exact bT (decide_eq_true (by show (b.length:Int)≥65536;omega)) rfl
 ·refine bF (decide_eq_false (by show¬(b.length:Int)≥65536;omega)) (bs (BF (by omega) (by omega)) ?_)
  cases hv:dP r
  ·rw[akW h1 hv,if_neg (by decide)];rfl
  ·refine bF rfl ?_
   by_cases h2:b=[]
   ·subst h2
    rw[YR hv,if_pos rfl]
    exact bF rfl hgrow
   ·have hpos:0<b.length:=List.length_pos_iff.2 h2
    have hg:=akU h2
    have hx:b[b.length-1]? =some (b[b.length-1]'(by omega)):=List.getElem?_eq_getElem (by omega)
    rw[hx] at hg
    have ha:=hb _ (List.getElem_mem (show b.length-1<b.length by omega))
    generalize b[b.length-1]'(by omega)=a at hx hg ha
    rw[YS h1 hv hg]
    refine bT (decide_eq_true (by show (b.length:Int)>0;omega)) ?_
    rw[Ej hpos (by show b.length<_;omega)]
    refine bs (gM hx) (bs (Qt ha hr hn) ?_)
    by_cases h3:lF a r=0
    ·rw[if_pos h3,h3];exact bF rfl hgrow
    ·rw[if_neg h3];exact bT (bne_iff_ne.2 h3) rfl
def wC:aJ:=⟨(0:Int),(0:Int),(0:Int),(0:Int),(0:Int),(0:Int),(0:Int),(0:Int),(0:Int),(0:Int),(0:Int),(0:Int),(0:Int),(0:Int),(0:Int),(0:Int)⟩
def akY:Seal:=⟨(0:Int),(0:Int),(0:Int),(0:Int),(0:Int),(0:Int),(0:Int),(0:Int),(0:Int),(0:Int),(0:Int),(0:Int),(0:Int),(0:Int),(0:Int),(0:Int)⟩
def akZ:Root:=⟨(0:Int),(0:Int),(0:Int),(0:Int),wC,wC,[],wC,(0:Int),wC,(0:Int),(0:Int),akY⟩
end Sh
end
section
open Go Go.Proofs Aq
namespace Sh
def Qv (t:Root) (x:Seal):Root:=⟨t.bN,t.aY,t.Day,t.Floor,t.ay,t.ak,t.Marks,t.Gone,t.dS,t.aC,t.dU,t.bJ,x⟩
theorem ak0 (t:Root) (x:Seal):fV (Qv t x)=fV t:=rfl
theorem ak1 (t:Root) (s:Int):fV (pq t s)=fV t:=rfl
theorem ak2 (t:Root) (x:Seal):dP (Qv t x)=dP t:=rfl
theorem Qw {t:Root} (h:dP t=true):0≤t.bN∧t.bN≤31∧0≤t.aY∧t.aY≤1073741824∧0≤t.Day∧t.Day≤1048576∧0≤t.Floor∧t.Floor≤t.aY∧t.Marks.length≤256∧0≤t.dS∧t.dS≤65536∧0≤t.dU∧t.dU≤65536∧0≤t.bJ∧t.bJ≤2147483648:=by
 unfold dP at h
 rw[Bool.and_eq_true] at h
 have h2:=h.2
 unfold BD at h2
 exact of_decide_eq_true h2
theorem ak3 {l:List Mark} {k i:Nat} (h:qR l i k=true) {j:Nat} (h1:i≤j) (h2:j<i+k):Fy l j=true:=by
 induction k generalizing i with
 |zero=>omega
 |succ k ih=>
  rw[Qh,Bool.and_eq_true] at h
  by_cases e:i=j
  ·rw[←e];exact h.1
  ·exact ih h.2 (by omega) (by omega)
theorem Ky {t:Root} (h:dP t=true):kN t:=by
 have hn:=Qw h
 have hr:∀{x:Int},0≤x→x≤2147483648→rI x:=fun h1 h2=>by unfold rI;omega
 refine⟨by omega,hr (by omega) (by omega),hr (by omega) (by omega),hr (by omega) (by omega),hr (by omega) (by omega),hr (by omega) (by omega),hr (by omega) (by omega),hr (by omega) (by omega),fun m hm=> ?_⟩
 obtain⟨j,hj,rfl⟩:=List.getElem_of_mem hm
 unfold dP at h
 rw[Bool.and_eq_true] at h
 have h2:=ak3 h.1 (Nat.zero_le j) (by omega)
 rw[Qi (List.getElem?_eq_getElem hj),Bool.and_eq_true,Bool.and_eq_true,decide_eq_true_eq,decide_eq_true_eq] at h2
 exact hr (by omega) (by omega)
def jR (k:Key) (t:Root):Root:=Qv (pq t k.bJ) (wz k 362 [mE (fV t)])
theorem BJ (k:Key) (t:Root):dP (jR k t)=dP (pq t k.bJ):=ak2 _ _
theorem ak4 (k:Key) (t:Root):fV (jR k t)=fV t:=(ak0 _ _).trans (ak1 _ _)
theorem ak5 (k:Key) (t:Root):(jR k t).Seal=wz k 362 [mE (fV t)]:=rfl
theorem YT {n:Nat} {k:Key} {t:Root} (hb:t.Marks.length<2^62) (hl:t.Marks.length<n) (hk:rI k.To) (hn:2^23<n) (hv:dP (pq t k.bJ)=true) (hkb:qU k=true) (hp:k.fQ=IntKind.wrap .i64 ((1073741824:Int)+t.bN)):su n (k,t)=some (jR k t,(0:Int)):=by
 have h':=Ky hv
 have e1:=BF (n:=n) (r:=pq t k.bJ) hb hl
 rw[hv] at e1
 have hkk:=YI hkb
 have hm:t.Marks.length<300:=h'.len
 rw[Yj]
 refine bs e1 (uw (Yz hk) (bF ?_ (bs (a:=t.Marks) ?_ (bs (YK h' hn) (bs (YC (b:=[mE (fV (pq t k.bJ))]) (by omega) (YL _) hn) rfl)))))
 ·rw[hkb];exact bne_eq_false_iff_eq.2 hp
 ·exact(aiN n t.Marks).trans (if_pos (by omega))
theorem ak6 {n:Nat} {k:Key} {t:Root} (hb:t.Marks.length<2^62) (hl:t.Marks.length<n) (hk:rI k.To) (hv:dP (pq t k.bJ)=false):su n (k,t)=some (akZ,(1:Int)):=by
 have e1:=BF (n:=n) (r:=pq t k.bJ) hb hl
 rw[hv] at e1
 rw[Yj]
 exact bs e1 (uw (Yz hk) (bT rfl rfl))
def dw (o:Int):Key:=⟨1073741824+o,(1:Int),[(107:UInt8)],(0:Int),(1048577:Int)⟩
theorem ak7 (n:Nat) {o:Int} (h0:0≤o) (h1:o<32):Bf n o=some (dw o):=by
 rw[ajs,show IntKind.wrap .i64 ((1073741824:Int)+o)=1073741824+o by rw[IntKind.wrap_i64];omega];rfl
theorem Qx {o:Int} (h0:0≤o) (h1:o<32):qU (dw o)=true:=by
 unfold qU dw
 refine decide_eq_true ⟨?_, ?_, ?_, ?_, ?_, ?_, ?_, ?_, ?_⟩
 ·show 1≤1073741824+o;omega
 ·show 1073741824+o≤2147483648;omega
 ·show (1:Int)≤1;omega
 ·show (1:Int)≤2147483648;omega
 ·show 1≤1;omega
 ·show 1≤64;omega
 ·show (0:Int)≤0;omega
 ·show (0:Int)<1048577;omega
 ·show (1048577:Int)≤1048577;omega
theorem FD {o:Int} (h0:0≤o) (h1:o<32):qw [dw o]=true:=by
 have h:=Qx h0 h1
 show ((qU (dw o)&& (decide (0=0)||_))&& true&& decide (1≤500))=true
 rw[h];rfl
theorem Kz {o:Int} (h0:0≤o) (h1:o<32) {t:Root} (ho:t.bN=o) (hv:dP (pq t (1:Int))=true):sF [dw o] (jR (dw o) t)=0:=by
 have hn:=Qw hv
 have hvs:dP (jR (dw o) t)=true:=(BJ _ _).trans hv
 have hof:(jR (dw o) t).bN=o:=ho
 have hda:(jR (dw o) t).Day=t.Day:=rfl
 have hse:(jR (dw o) t).bJ=1:=rfl
 have hss:=ak5 (dw o) t
 have hna:=ak4 (dw o) t
 have hw:IntKind.wrap .i64 ((1073741824:Int)+o)=1073741824+o:=by rw[IntKind.wrap_i64];omega
 have hd:0≤t.Day∧t.Day≤1048576:=⟨hn.2.2.2.2.1,hn.2.2.2.2.2.1⟩
 generalize jR (dw o) t=S at*
 have hf:List.find? (isK (1073741824+o) 1) [dw o]=some (dw o):=by
  rw[List.find?_cons,show isK (1073741824+o) 1 (dw o)=true from decide_eq_true ⟨rfl,rfl⟩]
 unfold sF
 rw[if_pos hvs,hof,hw,hse,hda,hss,hna]
 unfold Kw
 rw[hf]
 show (if (0:Int)≤t.Day∧t.Day<1048577 then (if wz (dw o) 362 [mE (fV t)]=wz (dw o) 362 [mE (fV t)] then (0:Int) else 8) else 9)=0
 rw[if_pos ⟨hd.1,by omega⟩,if_pos rfl]
structure Chain (o:Int) (b:List Root):Prop where
 ok:∀a∈b,kN a
 val:∀a∈b,dP a=true
 off:∀a∈b,a.bN=o
 ck:∀a∈b,sF [dw o] a=0
 com:∀j (h:j<b.length),b[j].aY=(j:Int)
 Qy:∀j (h:j+1<b.length),lF (b[j]'(by omega)) b[j+1]=0
theorem chain_nil (o:Int):Chain o []:=⟨fun _ h=>(by cases h),fun _ h=>(by cases h),fun _ h=>(by cases h),fun _ h=>(by cases h),fun j h=>absurd h (Nat.not_lt_zero j),fun j h=>absurd h (Nat.not_lt_zero _)⟩
theorem YU {o:Int} {b:List Root} {s:Root} (h:Chain o b) (hv:dP s=true) (ho:s.bN=o) (hc:s.aY=(b.length:Int)) (hk:sF [dw o] s=0) (hf:∀a,some a=b.getLast? →lF a s=0):Chain o (b++[s]) where
 ok a ha:=by
  rcases List.mem_append.1 ha with ha|ha
  ·exact h.ok a ha
  ·rw[List.mem_singleton.1 ha];exact Ky hv
 val a ha:=by
  rcases List.mem_append.1 ha with ha|ha
  ·exact h.val a ha
  ·rw[List.mem_singleton.1 ha];exact hv
 off a ha:=by
  rcases List.mem_append.1 ha with ha|ha
  ·exact h.off a ha
  ·rw[List.mem_singleton.1 ha];exact ho
 ck a ha:=by
  rcases List.mem_append.1 ha with ha|ha
  ·exact h.ck a ha
  ·rw[List.mem_singleton.1 ha];exact hk
 com j hj:=by
  rw[List.length_append,List.length_singleton] at hj
  by_cases e:j<b.length
  ·rw[List.getElem_append_left e];exact h.com j e
  ·obtain rfl:j=b.length:=by omega
   rw[List.getElem_append_right (Nat.le_refl _)]
   simpa using hc
 Qy j hj:=by
  rw[List.length_append,List.length_singleton] at hj
  by_cases e:j+1<b.length
  ·rw[List.getElem_append_left e,List.getElem_append_left (by omega)];exact h.Qy j e
  ·have e2:j+1=b.length:=by omega
   rw[List.getElem_append_left (show j<b.length by omega)]
   have hx:(b++[s])[j+1]'(by rw[List.length_append,List.length_singleton];omega)=s:=by
    rw[List.getElem_append_right (by omega)];simp[e2]
   rw[hx]
   refine hf _ ?_
   rw[List.getLast?_eq_getElem?,show b.length-1=j by omega,List.getElem?_eq_getElem (by omega)]
theorem ak8 {o:Int} {b:List Root} (h:Chain o b) {i j:Nat} (hi:i<b.length) (hj:j<b.length):wB [dw o] b[i] b[j]=false:=by
 by_cases e:i=j
 ·subst e
  rw[Qu rfl (decide_eq_true ⟨rfl,h.ck _ (List.getElem_mem hi),h.ck _ (List.getElem_mem hi)⟩),decide_eq_true rfl];rfl
 ·refine YN ?_
  rw[h.com i hi,h.com j hj];omega
theorem ak9 {o:Int} {b:List Root} (h:Chain o b) {i j:Nat} (hb:b.length<2^20) (hi:i<b.length) (hj:j<b.length):BI [dw o] b[i] b[j]=false:=by
 unfold BI
 rw[h.com i hi,h.com j hj,show IntKind.wrap .i64 ((i:Int)+(1:Int))=((i+1:Nat):Int) from lC (by omega)]
 by_cases e:j=i+1
 ·subst e
  rw[h.Qy i hj]
  simp
 ·rw[decide_eq_false (by omega),Bool.false_and,Bool.false_and]
end Sh
end
section
open Go Go.Proofs Aq
namespace Sh
theorem Qz {t:Root} (h:t.bJ=1):pq t (1:Int)=t:=by
 cases t;cases h;rfl
theorem QA (o:Int):rI (dw o).To:=by
 show rI 1048577
 unfold rI;omega
theorem YV {o:Int} (h0:0≤o) (h1:o<32):(dw o).fQ=IntKind.wrap .i64 ((1073741824:Int)+o):=by
 show 1073741824+o=_
 rw[IntKind.wrap_i64];omega
theorem ala {a s:Root} (ha:dP a=true) (hs:dP s=true) (ho:a.bN=s.bN) (hc:s.aY=IntKind.wrap .i64 (a.aY+(1:Int))) (hd:a.Day≤s.Day) (hf:a.Floor≤s.Floor) (hsc:a.ak=s.ak) (hp:s.ay=fV a):lF a s=0:=by
 unfold lF
 rw[if_neg,if_neg,if_pos ⟨hsc,hp⟩]
 ·intro h
  rcases h with h|h|h
  ·exact h hc
  ·omega
  ·omega
 ·intro h
  rcases h with h|h|h
  ·rw[ha] at h;cases h
  ·rw[hs] at h;cases h
  ·exact h ho
theorem YW {n:Nat} {o:Int} {b:List Root} {t:Root} {K:cK→Option ((PUnit.{1}×cK)⊕Bool)} (h0:0≤o) (h1:o<32) (hb:b.length<2^10) (hc:Chain o b) (hto:t.bN=o) (htc:t.aY=(b.length:Int)) (hts:t.bJ=1)
 (alb:dP t=true→∀a,some a=b.getLast? →lF a (jR (dw o) t)=0) (hn:2^23<n) {i:Int} (hi:IntKind.wrap .i64 (i+(1:Int))=((b.length+1:Nat):Int)):
 ((uo n t).bind fun (iy:Bool)=>
    (fD (!(!iy)) (vX n t) false).bind fun (fU:Bool)=>
    bif bif !iy then true else !fU then
     (qo n (())).bind fun (qQ:Bool)=>
     some (.inr qQ)
    else
     (su n (dw o,t)).bind fun (nE:Root×Int)=>
     (vZ n ((⟨b⟩:cK),nE.1)).bind fun (r16:cK×Int)=>
     (fD (!(bif bif nE.2 !=((0:Int)) then true else r16.2 !=((0:Int)) then true else (((r16.1.dV.length:Nat):Int)) !=(Go.IntKind.wrap Go.IntKind.i64 (i+((1:Int)))))) (sw n ([dw o],nE.1)) ((0:Int))).bind fun (Qg:Int)=>
     bif bif bif bif nE.2 !=((0:Int)) then true else r16.2 !=((0:Int)) then true else (((r16.1.dV.length:Nat):Int)) !=(Go.IntKind.wrap Go.IntKind.i64 (i+((1:Int)))) then true else Qg !=((0:Int)) then
      some (.inr false)
     else
      K r16.1)=(bif uz t&& dP t then K ⟨b++[jR (dw o) t]⟩ else some (.inr true)):=by
 refine bs (YQ n t) ?_
 cases hf:uz t
 ·exact bs rfl (bs (Px n ()) rfl)
 ·have hlen:=akT hf
  refine uw (akw (by omega) (by omega)) ?_
  cases hv:dP t
  ·exact bs (Px n ()) rfl
  ·have hws:dP (pq t (1:Int))=true:=by rw[Qz hts];exact hv
   have hsv:dP (jR (dw o) t)=true:=(BJ _ _).trans hws
   have hsO:=Ky hsv
   have alc:=YT (n:=n) (k:=dw o) (t:=t) (by omega) (by omega) (QA o) hn hws (Qx h0 h1) (by rw[hto];exact YV h0 h1)
   have hck:=Kz h0 h1 hto hws
   have hfo:=alb hv
   generalize jR (dw o) t=S at*
   have hE:sH b S=0:=by
    by_cases hb0:b=[]
    ·subst hb0;exact YR hsv
    ·cases hg:b.getLast? with
     |none=>rw[List.getLast?_eq_none_iff] at hg;exact absurd hg hb0
     |some a=>rw[YS (by omega) hsv hg.symm];exact hfo a hg.symm
   have happ:=akX (n:=n) (b:=b) (r:=S) hc.ok hsO (by omega) hn
   rw[hE,if_pos rfl] at happ
   have hl2:(b++[S]).length=b.length+1:=by rw[List.length_append,List.length_singleton]
   have e1:((((b++[S]).length:Nat):Int) !=IntKind.wrap .i64 (i+(1:Int)))=false:=by rw[hi,hl2];exact bne_self_eq_false _
   refine bF rfl (bs alc (bs happ (uw ((Qs (r:=S) hsO (FD h0 h1) (by show 1<2^19;decide) hn).trans (congrArg some hck)) ?_)))
   refine bF ?_ rfl
   show (bif ((((b++[S]).length:Nat):Int) !=IntKind.wrap .i64 (i+(1:Int))) then true else ((bif !((((b++[S]).length:Nat):Int) !=IntKind.wrap .i64 (i+(1:Int))) then (0:Int) else 0) !=(0:Int)))=false
   rw[e1];rfl
theorem YX (a b:Int):b≤imax a b:=by unfold imax;split<;>omega
theorem YZ {a b c:Int} (h1:c≤a) (h2:c≤b):c≤jW a b:=by unfold jW;split<;>omega
theorem ald {n:Nat} {o c x3:Int} {x4:Root} {l:List Root} (ho:Int.tmod (IntKind.wrap .i64 c) (32:Int)=o) (h0:0≤o) (h1:o<32) (hl:l.length≤12) (hn:2^23<n):∀(k i m:Nat) (b:List Root),i+k=l.length→k<m→b.length=i→Chain o b→
 ∃v,wm n c l x3 x4 (dw o) m (((i:Nat):Int),⟨b⟩)=some v∧(v= .inr true∨∃b':List Root,v= .inl ((),⟨b'⟩)∧b'.length=l.length∧Chain o b'):=by
 intro k
 induction k with
 |zero=>
  intro i m b he hm hb hc
  obtain⟨m,rfl⟩:∃m',m=m'+1:=⟨m-1,by omega⟩
  refine⟨_, ?_,Or.inr ⟨b,rfl,by omega,hc⟩⟩
  rw[Yk,rV (by omega)];rfl
 |succ k ih=>
  intro i m b he hm hb hc
  obtain⟨m,rfl⟩:∃m',m=m'+1:=⟨m-1,by omega⟩
  have hlt:i<l.length:=by omega
  have hx:l[i]? =some l[i]:=List.getElem?_eq_getElem hlt
  generalize l[i]=r at hx
  have hi1:IntKind.wrap .i64 (((i:Nat):Int)+(1:Int))=((b.length+1:Nat):Int):=by rw[lC (by omega),hb]
  rw[Yk,vU hx,cond_true,ho]
  by_cases hi0:i=0
  ·have hb0:b=[]:=List.eq_nil_of_length_eq_zero (by omega)
   subst hi0
   have hgen:=YW (n:=n) (o:=o) (b:=b) (t:=⟨o,((0:Nat):Int),r.Day,jW r.Floor ((0:Nat):Int),wC,r.ak,r.Marks,r.Gone,r.dS,r.aC,r.dU,(1:Int),r.Seal⟩) (K:=fun d=>wm n c l x3 x4 (dw o) m ((((0+1:Nat):Nat):Int),d)) h0 h1 (by omega) hc rfl (by show ((0:Nat):Int)=_;rw[hb]) rfl (fun _ a ha=>by rw[hb0] at ha;cases ha) hn hi1
   have hw:IntKind.wrap .i64 (((0:Nat):Int)+(1:Int))=((0+1:Nat):Int):=by decide
   rw[hw] at hgen
   rw[hw]
   by_cases hq:(uz ⟨o,((0:Nat):Int),r.Day,jW r.Floor ((0:Nat):Int),wC,r.ak,r.Marks,r.Gone,r.dS,r.aC,r.dU,(1:Int),r.Seal⟩&& dP ⟨o,((0:Nat):Int),r.Day,jW r.Floor ((0:Nat):Int),wC,r.ak,r.Marks,r.Gone,r.dS,r.aC,r.dU,(1:Int),r.Seal⟩)=true
   ·rw[hq,cond_true] at hgen
    rw[Bool.and_eq_true] at hq
    have hws:=hq.2
    obtain⟨v,g1,g2⟩:=ih (0+1) m (b++[jR (dw o) ⟨o,((0:Nat):Int),r.Day,jW r.Floor ((0:Nat):Int),wC,r.ak,r.Marks,r.Gone,r.dS,r.aC,r.dU,(1:Int),r.Seal⟩]) (by omega) (by omega) (by rw[List.length_append,List.length_singleton];omega) (YU hc ((BJ _ _).trans hws) rfl (by rw[hb];rfl) (Kz h0 h1 rfl hws) (fun a ha=>by rw[hb0] at ha;cases ha))
    exact⟨v,bs (gM hx) (bT rfl (bF rfl (hgen.trans g1))),g2⟩
   ·rw[(Bool.not_eq_true _).mp hq] at hgen
    exact⟨_,bs (gM hx) (bT rfl (bF rfl hgen)),Or.inl rfl⟩
  ·have hbx:b[i-1]? =some (b[i-1]'(by omega)):=List.getElem?_eq_getElem (by omega)
   have KC:b[i-1]'(by omega)∈b:=List.getElem_mem _
   have hlast:b.getLast? =some (b[i-1]'(by omega)):=List.getLast?_eq_getElem?.trans ((congrArg (fun q=>b[q]?) (show b.length-1=i-1 by omega)).trans hbx)
   have hcom:=hc.com (i-1) (by omega)
   generalize b[i-1]'(by omega)=a at hbx KC hlast hcom
   have KE:=hc.ok a KC
   have Y0:=hc.val a KC
   have han:=Qw Y0
   have ale:IntKind.wrap .i64 (((i:Nat):Int)-(1:Int))=((i-1:Nat):Int):=Ej (by omega) (by omega)
   have hnm:=yE (n:=n) KE hn
   rw[ale,lC (show i<2^62 by omega)]
   rw[lC (show i<2^62 by omega)] at hi1
   have hT:∃t:Root,t=⟨o,((i:Nat):Int),imax r.Day a.Day,jW (jW (imax r.Floor a.Floor) ((i:Nat):Int)) ((i:Nat):Int),fV a,a.ak,r.Marks,r.Gone,r.dS,r.aC,r.dU,(1:Int),r.Seal⟩:=⟨_,rfl⟩
   obtain⟨t,ht⟩:=hT
   have t1:t.bN=o:=by rw[ht]
   have t2:t.aY=((b.length:Nat):Int):=by rw[ht,hb]
   have t3:t.bJ=1:=by rw[ht]
   have t4:a.Day≤t.Day:=by rw[ht];exact YX _ _
   have t5:a.Floor≤t.Floor:=by
    rw[ht]
    have hai:a.Floor≤((i:Nat):Int):=by omega
    exact YZ (YZ (YX _ _) hai) hai
   have t6:t.ak=a.ak:=by rw[ht]
   have t7:t.ay=fV a:=by rw[ht]
   have hfz:dP t=true→lF a (jR (dw o) t)=0:=fun hv=>by
    refine ala Y0 ((BJ _ _).trans (by rw[show (dw o).bJ=1 from rfl,Qz t3];exact hv)) ?_ ?_ t4 t5 t6.symm t7
    ·rw[hc.off a KC];exact t1.symm
    ·show t.aY=_
     rw[t2,hcom,lC (show i-1<2^62 by omega)];omega
   have hgen:=YW (n:=n) (o:=o) (b:=b) (t:=t) (K:=fun d=>wm n c l x3 x4 (dw o) m ((((i+1:Nat):Nat):Int),d)) h0 h1 (by omega) hc t1 t2 t3 (fun hv a' ha=>by
    rw[hlast] at ha;cases ha;exact hfz hv) hn (i:=((i:Nat):Int)) (by rw[lC (show i<2^62 by omega)];exact hi1)
   rw[lC (show i<2^62 by omega)] at hgen
   have hpos:decide (((i:Nat):Int)> (0:Int))=true:=decide_eq_true (by omega)
   by_cases hq:(uz t&& dP t)=true
   ·rw[hq,cond_true] at hgen
    rw[Bool.and_eq_true] at hq
    have hws:dP (pq t (1:Int))=true:=by rw[Qz t3];exact hq.2
    obtain⟨v,g1,g2⟩:=ih (i+1) m (b++[jR (dw o) t]) (by omega) (by omega) (by rw[List.length_append,List.length_singleton];omega) (YU hc ((BJ _ _).trans hws) t1 t2 (Kz h0 h1 t1 hws) (fun a' ha=>by
     rw[hlast] at ha;cases ha;exact hfz hq.2))
    have hr:=hgen.trans g1
    subst ht
    exact⟨v,bs (gM hx) (bT rfl (bT hpos (bs (gM hbx) (bs hnm hr)))),g2⟩
   ·rw[(Bool.not_eq_true _).mp hq] at hgen
    subst ht
    exact⟨_,bs (gM hx) (bT rfl (bT hpos (bs (gM hbx) (bs hnm hgen)))),Or.inl rfl⟩
end Sh
end
section
open Go Go.Proofs Aq
namespace Sh
theorem alf {n:Nat} {o c x3:Int} {x4:Root} {l b:List Root} {u:PUnit} {i:Nat} (h0:0≤o) (h1:o<32) (hl:l.length≤12) (hbl:b.length=l.length) (hc:Chain o b) (hi:i<b.length) (hn:2^23<n):∀(k j m:Nat),j+k=l.length→k<m→
 Fv n c l x3 x4 (dw o) (u,⟨b⟩) ((i:Nat):Int) m ((j:Nat):Int)=some (.inl ()):=by
 intro k
 induction k with
 |zero=>
  intro j m hj hm
  obtain⟨m,rfl⟩:∃m',m=m'+1:=⟨m-1,by omega⟩
  rw[Ym,rV (by omega)];rfl
 |succ k ih=>
  intro j m hj hm
  obtain⟨m,rfl⟩:∃m',m=m'+1:=⟨m-1,by omega⟩
  have hjl:j<b.length:=by omega
  have hx:b[i]? =some b[i]:=List.getElem?_eq_getElem hi
  have hy:b[j]? =some b[j]:=List.getElem?_eq_getElem hjl
  have hf:=ak8 hc hi hjl
  have hb:=ak9 hc (by omega) hi hjl
  have Y1:=hc.ok _ (List.getElem_mem hi)
  have FE:=hc.ok _ (List.getElem_mem hjl)
  have ih':=ih (j+1) m (by omega) (by omega)
  generalize b[i]=x at*
  generalize b[j]=y at*
  have wf:=(YO (n:=n) Y1 FE (FD h0 h1) (by show 1<2^19;decide) hn).trans (congrArg some hf)
  have wb:=(YP (n:=n) Y1 FE (FD h0 h1) (by show 1<2^19;decide) hn).trans (congrArg some hb)
  have hd:decide (((j:Nat):Int)< ((l.length:Nat):Int))=true:=decide_eq_true (by omega)
  rw[Ym,hd,cond_true,lC (by omega)]
  exact bs (gM hx) (bs (gM hy) (bs wf (bT rfl (bs (gM hx) (bs (gM hy) (bs wb (bF rfl ih')))))))
theorem alg {n:Nat} {o c x3:Int} {x4:Root} {l b:List Root} {u:PUnit} (h0:0≤o) (h1:o<32) (hl:l.length≤12) (hbl:b.length=l.length) (hc:Chain o b) (hn:2^23<n):∀(k i m:Nat),i+k=l.length→k<m→
 Fw n c l x3 x4 (dw o) (u,⟨b⟩) m ((i:Nat):Int)=some (.inl ()):=by
 intro k
 induction k with
 |zero=>
  intro i m hi hm
  obtain⟨m,rfl⟩:∃m',m=m'+1:=⟨m-1,by omega⟩
  rw[Yn,rV (by omega)];rfl
 |succ k ih=>
  intro i m hi hm
  obtain⟨m,rfl⟩:∃m',m=m'+1:=⟨m-1,by omega⟩
  have hd:decide (((i:Nat):Int)< ((l.length:Nat):Int))=true:=decide_eq_true (by omega)
  rw[Yn,hd,cond_true,lC (by omega)]
  exact bs (alf h0 h1 hl hbl hc (by omega) hn l.length 0 n (by omega) (by omega)) (ih (i+1) m (by omega) (by omega))
theorem alh {n:Nat} {c x3:Int} {x4:Root} {l:List Root} (hc0:0≤c) (hc1:c≤255) (Y2:0≤x3) (h31:x3≤255) (hm:x4.Marks.length<2^30) (hmn:x4.Marks.length<n) (hn:2^23<n):Kr n (c,(l,(x3,x4)))=some true:=by
 have hs:qo n ()=some true:=Px n ()
 rw[aj9]
 by_cases hl0:l.length=0
 ·exact bT (by rw[hl0];rfl) (bs hs rfl)
 have hlz:((((l.length:Nat):Int))==(0:Int))=false:=beq_eq_false_iff_ne.2 (by omega)
 by_cases hl:l.length≤12
 ·rw[hlz]
  refine bF (decide_eq_false (by omega)) (bT rfl ?_)
  have hwc:IntKind.wrap .i64 c=c:=by rw[IntKind.wrap_i64];omega
  have hw3:IntKind.wrap .i64 x3=x3:=by rw[IntKind.wrap_i64];omega
  have ho:Int.tmod (IntKind.wrap .i64 c) (32:Int)=c% 32:=by rw[hwc,Int.tmod_eq_emod_of_nonneg hc0]
  have h0:0≤c% 32:=Int.emod_nonneg _ (by decide)
  have h1:c% 32<32:=Int.emod_lt_of_pos _ (by decide)
  obtain⟨at_,hat⟩:∃q:Nat,Int.tmod (IntKind.wrap .i64 x3) ((l.length:Nat):Int)=((q:Nat):Int):=by
   rw[hw3,Int.tmod_eq_emod_of_nonneg Y2]
   exact⟨(x3% (l.length:Int)).toNat,(Int.toNat_of_nonneg (Int.emod_nonneg _ (by omega))).symm⟩
  have al4:at_<l.length:=by
   have:x3% ((l.length:Nat):Int)< ((l.length:Nat):Int):=Int.emod_lt_of_pos _ (by omega)
   rw[hw3,Int.tmod_eq_emod_of_nonneg Y2] at hat
   omega
  rw[ho,hat]
  generalize c% 32=o at*
  obtain⟨v,g1,g2⟩:=ald (n:=n) (x3:=x3) (x4:=x4) (l:=l) ho h0 h1 hl hn l.length 0 n [] (by omega) (by omega) rfl (chain_nil o)
  refine bs (ak7 n h0 h1) (bs g1 ?_)
  rcases g2 with rfl| ⟨b,rfl,hbl,hch⟩
  ·rfl
  ·refine bs (alg h0 h1 hl hbl hch hn l.length 0 n (by omega) (by omega)) (bT (b:=none) rfl (bT (b:=none) rfl ?_))
   have hT:∃t:Root,t=⟨o,((at_:Nat):Int),x4.Day,x4.Floor,x4.ay,x4.ak,x4.Marks,x4.Gone,x4.dS,x4.aC,x4.dU,x4.bJ,x4.Seal⟩:=⟨_,rfl⟩
   obtain⟨t,ht⟩:=hT
   have t1:t.bN=o:=by rw[ht]
   have t2:t.aY=((at_:Nat):Int):=by rw[ht]
   have t3:t.Marks=x4.Marks:=by rw[ht]
   cases hv:dP (pq t (1:Int))
   ·have hsl:=ak6 (n:=n) (k:=dw o) (t:=t) (by rw[t3];omega) (by rw[t3];omega) (QA o) hv
    subst ht
    exact bs hsl (bs rfl (bT rfl (bs hs rfl)))
   ·have hsl:=YT (n:=n) (k:=dw o) (t:=t) (by rw[t3];omega) (by rw[t3];omega) (QA o) hn hv (Qx h0 h1) (by rw[t1];exact YV h0 h1)
    have hck:=Kz h0 h1 t1 hv
    have hsv:dP (jR (dw o) t)=true:=(BJ _ _).trans hv
    have hsO:=Ky hsv
    have s1:(jR (dw o) t).bN=o:=t1
    have s2:(jR (dw o) t).aY=((at_:Nat):Int):=t2
    generalize jR (dw o) t=S at*
    subst ht
    refine bs hsl (uw (YQ n S) ?_)
    cases hf:uz S
    ·exact bT rfl (bs hs rfl)
    ·refine bF rfl ?_
     have hx:b[at_]? =some (b[at_]'(by omega)):=List.getElem?_eq_getElem (by omega)
     have hxm:(b[at_]'(by omega))∈b:=List.getElem_mem _
     have hxc:=hch.com at_ (by omega)
     generalize b[at_]'(by omega)=a at hx hxm hxc
     have KE:=hch.ok a hxm
     have hbo:sG [dw o] a S=true:=decide_eq_true ⟨(hch.off a hxm).trans s1.symm,hch.ck a hxm,hck⟩
     have wf:=(YO (n:=n) KE hsO (FD h0 h1) (by show 1<2^19;decide) hn).trans (congrArg some (Qu (l:=[dw o]) (hxc.trans s2.symm) hbo))
     refine bs (gM hx) (bs wf (bs (yE hsO hn) (bs (gM hx) (bs (yE KE hn) (bF ?_ (bs hs (bT rfl ?_)))))))
     ·rw[Qr,show decide (fV S=fV a)=decide (fV a=fV S) from decide_eq_decide.2 eq_comm]
      show (!((!decide (fV a=fV S))==(!decide (fV a=fV S))))=false
      rw[beq_self_eq_true];rfl
     ·by_cases hz:at_=0
      ·subst hz;exact bF rfl rfl
      ·refine bT (by show (!(((at_:Nat):Int)==(0:Int)))=true;rw[beq_eq_false_iff_ne.2 (by omega)];rfl) ?_
       have hp:IntKind.wrap .i64 (((at_:Nat):Int)-(1:Int))=((at_-1:Nat):Int):=Ej (by omega) (by omega)
       rw[hp]
       have hy:b[at_-1]? =some (b[at_-1]'(by omega)):=List.getElem?_eq_getElem (by omega)
       have hym:(b[at_-1]'(by omega))∈b:=List.getElem_mem _
       have Y3:=hch.com (at_-1) (by omega)
       generalize b[at_-1]'(by omega)=y at hy hym Y3
       have FE:=hch.ok y hym
       have alj:sG [dw o] y S=true:=decide_eq_true ⟨(hch.off y hym).trans s1.symm,hch.ck y hym,hck⟩
       have hbr:BI [dw o] y S=decide (lF y S≠0):=by
        unfold BI
        rw[alj,decide_eq_true (show S.aY=IntKind.wrap .i64 (y.aY+(1:Int)) by rw[s2,Y3,lC (show at_-1<2^62 by omega)];omega),Bool.true_and,Bool.true_and]
       have wb:=(YP (n:=n) FE hsO (FD h0 h1) (by show 1<2^19;decide) hn).trans (congrArg some hbr)
       refine bs (gM hy) (bs wb (bs (gM hy) (bs (Qt FE hsO hn) (congrArg some ?_))))
       show (decide (lF y S≠0)==(lF y S !=0))=true
       by_cases hq:lF y S=0
       ·rw[hq];rfl
       ·rw[decide_eq_true hq,bne_iff_ne.2 hq];rfl
 ·rw[hlz]
  exact bT (decide_eq_true (by omega)) (bs hs rfl)
end Sh
end
section
namespace Go.Proofs.YtdcnajadcbedkaaGreatDoor.daybook
open Go Go.ChangeShapes Go.WideShapes Go.ChangeAt Go.RowKit Aq Sh
set_option maxRecDepth 100000
theorem Y4 {l:List V} {v:V} (h:v∈l):fq v≤jl l:=by
 induction l with
 |nil=>cases h
 |cons x l ih=>
  rcases List.mem_cons.1 h with rfl|h
  ·show fq v≤fq v+jl l;omega
  ·have:=ih h
   show fq v≤fq x+jl l;omega
end Go.Proofs.YtdcnajadcbedkaaGreatDoor.daybook
end
section
namespace Go.Proofs.YtdcnajadcbedkaaGreatDoor.daybook
open Go Go.ChangeShapes Go.WideShapes Go.ChangeAt Go.RowKit Aq Sh
set_option maxRecDepth 100000
theorem byte_of {n:Int} {k:Nat} (h:fq (V.int .u8 n)≤k) (hk:k<2^62):0≤n∧n≤255:=by
 have h1:1+Am .u8 n≤k:=h
 have h2:=afo (k:=.u8) (n:=n) (by omega)
 have e0:IntKind.min .u8=0:=by decide
 have e1:IntKind.max .u8=255:=by decide
 rw[e0,e1] at h2
 exact h2
theorem alk (m:Sh.Mark):0<fq (Sh.Mark.v m):=by
 have h:fq (V.int .i64 m.Count)≤jl m.c:=Y4 (by unfold Sh.Mark.c;simp)
 have h1:1≤fq (V.int .i64 m.Count):=by show 1≤1+_;omega
 show 0<jl m.c
 omega
theorem alm {r:Sh.Root} {k:Nat} (h:fq (Sh.Root.v r)≤k):r.Marks.length≤k:=by
 have hm:∀v∈r.c,fq v≤k:=fun v hv=>Nat.le_trans (Y4 hv) h
 have h2:fq (.aj .sh (r.Marks.map Sh.Mark.v))≤k:=hm _ (by unfold Sh.Root.c;simp[lv])
 have h3:jl (r.Marks.map Sh.Mark.v)+1≤k:=h2
 have h4:=afq (r.Marks.map Sh.Mark.v) (fun v hv=>by
  obtain⟨m,_,rfl⟩:=List.mem_map.1 hv
  exact alk m)
 rw[List.length_map] at h4
 omega
end Go.Proofs.YtdcnajadcbedkaaGreatDoor.daybook
end
