/- Part of the proof of a law. -/
import Derived.ChangeCalls
import Derived.Test.YtdcnajadcbedkaaGreatDoorS817
import Derived.Test.YtdcnajadcbedkaaGreatDoorS820
import Derived.Test.YtdcnajadcbedkaaGreatDoorS824
set_option linter.all false
set_option linter.unusedSimpArgs false
set_option linter.unusedSectionVars false
section
open Go Go.Proofs Aq
namespace Sh
def oZ (d:aJ):List UInt8:=List.map (fun n:Int=>UInt8.ofNat n.toNat) [d.b0,d.b1,d.b2,d.b3,d.b4,d.b5,d.b6,d.b7,d.b8,d.b9,d.b10,d.b11,d.b12,d.b13,d.b14,d.b15]
def um (a b:aJ):Bool:=Op.bytesLess (oZ a) (oZ b)
theorem abv:∀a b:List UInt8,decide (Lib.compareBytes a b≥0)= !Op.bytesLess a b
 | [],[]=>rfl
 | [],_::_=>rfl
 |_::_,[]=>rfl
 |a::x,b::y=>by
  unfold Lib.compareBytes Op.bytesLess
  by_cases h1:a<b
  ·simp[h1]
  ·by_cases h2:b<a
   ·have h3:(a==b)=false:=by
     rw[beq_eq_false_iff_ne];rintro rfl;exact UInt8.lt_irrefl _ h2
    simp[h1,h2,h3]
   ·have h3:a=b:=UInt8.le_antisymm (UInt8.not_lt.1 h2) (UInt8.not_lt.1 h1)
    subst h3
    simp only[h1,if_false,decide_false,Bool.false_or,beq_self_eq_true,Bool.true_and]
    exact abv x y
theorem anC (n:Nat) (a b:aJ):∃c:Int,Ba n (a,b)=some c∧decide (c≥(0:Int))= !um a b:=
 ⟨Lib.compareBytes (oZ a) (oZ b),by rw[anc];exact bs (alB _ _) rfl,abv _ _⟩
theorem anD (n:Nat) (a b:aJ):Bc n (a,b)=some (um a b):=by rw[anj];rfl
def Ma (l:List Mark) (i:Nat):Bool:=match l[i]? with
 |some m=>decide (1≤m.Count)&& decide (m.Count≤4096)&& (decide (i=0)||match l[i-1]? with
  |some p=>um p.aO m.aO
  |none=>true)
 |none=>true
def rX (l:List Mark):Nat→Nat→Bool
 |_,0=>true
 |i,k+1=>Ma l i&& rX l (i+1) k
theorem abw (l:List Mark) (i k:Nat):rX l i (k+1)=(Ma l i&& rX l (i+1) k):=rfl
theorem vT (n:Nat) (a b c:Int):oW n (a,(b,c))=some (decide (b≤a)&& decide (a≤c)):=by
 rw[anb]
 show some (bif decide (b≤a) then decide (a≤c) else false)=some (decide (b≤a)&& decide (a≤c))
 cases decide (b≤a)<;>rfl
theorem abx {l:List Mark} {i:Nat} {m:Mark} (h:l[i]? =some m):Ma l i=(decide (1≤m.Count)&& decide (m.Count≤4096)&& (decide (i=0)||match l[i-1]? with
 |some p=>um p.aO m.aO
 |none=>true)):=by unfold Ma;rw[h]
theorem anE {n:Nat} {r:Root} (hb:r.Marks.length<2^62):∀(k i m:Nat),i+k=r.Marks.length→k<m→Bo n r m (i:Int)=some (bif rX r.Marks i k then .inl () else .inr false):=by
 intro k
 induction k with
 |zero=>
  intro i m hi hm
  obtain⟨m,rfl⟩:∃m',m=m'+1:=⟨m-1,by omega⟩
  rw[abg,qh (by omega)];rfl
 |succ k ih=>
  intro i m hi hm
  obtain⟨m,rfl⟩:∃m',m=m'+1:=⟨m-1,by omega⟩
  have hlt:i<r.Marks.length:=by omega
  have hx:r.Marks[i]? =some r.Marks[i]:=List.getElem?_eq_getElem hlt
  generalize r.Marks[i]=x at hx
  have ih':=ih (i+1) m (by omega) (by omega)
  rw[abg,qg hx,cond_true,oP (by omega),ih',abw,abx hx]
  refine bs (gY hx) (bs (vT n x.Count 1 4096) ?_)
  cases hw:decide (1≤x.Count)&& decide (x.Count≤4096)
  ·rfl
  ·refine bT rfl ?_
   by_cases h0:i=0
   ·subst h0;rfl
   ·have e2:decide ((i:Int)>0)=true:=by simp;omega
    have hp:r.Marks[i-1]? =some r.Marks[i-1]:=List.getElem?_eq_getElem (by omega)
    generalize r.Marks[i-1]=p at hp
    have e3:decide (i=0)=false:=decide_eq_false h0
    obtain⟨c,hc1,hc2⟩:=anC n p.aO x.aO
    rw[e2,hp,e3,En (by omega) (by omega)]
    refine bT rfl (bs (gY hp) (bs hc1 ?_))
    rw[show (decide (c≥(0:Int)))= !um p.aO x.aO from hc2]
    show _=some (bif (true&& (false||um p.aO x.aO))&& rX r.Marks (i+1) k then _ else _)
    cases um p.aO x.aO<;>rfl
theorem anF {n:Nat} {r:Root} (hb:r.Marks.length<2^62):∀(k i m:Nat),i+k=r.Marks.length→k<m→vR n r m (i:Int)=some (bif rX r.Marks i k then .inl () else .inr false):=by
 intro k
 induction k with
 |zero=>
  intro i m hi hm
  obtain⟨m,rfl⟩:∃m',m=m'+1:=⟨m-1,by omega⟩
  rw[abj,qh (by omega)];rfl
 |succ k ih=>
  intro i m hi hm
  obtain⟨m,rfl⟩:∃m',m=m'+1:=⟨m-1,by omega⟩
  have hlt:i<r.Marks.length:=by omega
  have hx:r.Marks[i]? =some r.Marks[i]:=List.getElem?_eq_getElem hlt
  generalize r.Marks[i]=x at hx
  have ih':=ih (i+1) m (by omega) (by omega)
  rw[abj,qg hx,cond_true,oP (by omega),ih',abw,abx hx]
  refine bs (gY hx) ?_
  by_cases h1:(1:Int)≤x.Count
  ·rw[show decide (x.Count< (1:Int))=false from decide_eq_false (by omega),show decide ((1:Int)≤x.Count)=true from decide_eq_true h1]
   refine bT rfl (bs (gY hx) ?_)
   by_cases h2:x.Count≤4096
   ·rw[show decide (x.Count> (4096:Int))=false from decide_eq_false (by omega),show decide (x.Count≤(4096:Int))=true from decide_eq_true h2]
    refine bT rfl ?_
    by_cases h0:i=0
    ·subst h0;rfl
    ·have e2:decide ((i:Int)>0)=true:=by simp;omega
     have hp:r.Marks[i-1]? =some r.Marks[i-1]:=List.getElem?_eq_getElem (by omega)
     generalize r.Marks[i-1]=p at hp
     have e3:decide (i=0)=false:=decide_eq_false h0
     rw[e2,hp,e3,En (by omega) (by omega)]
     refine bT rfl (bs (gY hp) (bs (gY hx) (bs (anD n p.aO x.aO) ?_)))
     show _=some (bif (true&& true&& (false||um p.aO x.aO))&& rX r.Marks (i+1) k then _ else _)
     cases um p.aO x.aO<;>rfl
   ·rw[show decide (x.Count> (4096:Int))=true from decide_eq_true (by omega),show decide (x.Count≤(4096:Int))=false from decide_eq_false h2]
    rfl
  ·rw[show decide (x.Count< (1:Int))=true from decide_eq_true (by omega),show decide ((1:Int)≤x.Count)=false from decide_eq_false h1]
   rfl
def F7 (r:Root):Bool:=decide (0≤r.eT∧r.eT≤31∧0≤r.cZ∧r.cZ≤1073741824∧0≤r.Day∧r.Day≤1048576∧0≤r.Floor∧r.Floor≤r.cZ∧r.Marks.length≤256∧0≤r.iN∧r.iN≤65536∧0≤r.iO∧r.iO≤65536∧0≤r.iJ∧r.iJ≤2147483648)
def l6 (r:Root):Bool:=rX r.Marks 0 r.Marks.length&& F7 r
theorem anG (a b:Bool):(bif a then b else false)=(a&& b):=by cases a<;>rfl
theorem F8 (a b:Bool):(bif a then true else b)=(a||b):=by cases a<;>rfl
theorem aby {α β:Type} {c:Bool} {o:Option α} {d x:α} {f:α→Option β} {r:Option β} (h:o=some x) (k:f (bif c then x else d)=r):(kH c o d).bind f=r:=by
 rw[h,aj4];exact k
theorem anH {oA oB oC oD oF oV oS:Option Bool} {A B C D L F V S:Bool} (hA:oA=some A) (hB:oB=some B) (hC:oC=some C) (hD:oD=some D) (hF:oF=some F) (hV:oV=some V) (hS:oS=some S):
 (oA.bind fun (iA:Bool)=>
   (kH iA oB false).bind fun (gW:Bool)=>
   (kH (bif iA then gW else false) oC false).bind fun (gX:Bool)=>
   (kH (bif bif iA then gW else false then gX else false) oD false).bind fun (dR:Bool)=>
   (kH (bif bif bif bif iA then gW else false then gX else false then dR else false then L else false) oF false).bind fun (kJ:Bool)=>
   (kH (bif bif bif bif bif iA then gW else false then gX else false then dR else false then L else false then kJ else false) oV false).bind fun (tO:Bool)=>
   (kH (bif bif bif bif bif bif iA then gW else false then gX else false then dR else false then L else false then kJ else false then tO else false) oS false).bind fun (r16:Bool)=>
   some (bif bif bif bif bif bif bif iA then gW else false then gX else false then dR else false then L else false then kJ else false then tO else false then r16 else false))=some (A&& B&& C&& D&& L&& F&& V&& S):=by
 subst hA hB hC hD hF hV hS
 cases A<;>cases B<;>cases C<;>cases D<;>cases L<;>cases F<;>cases V<;>cases S<;>rfl
theorem Ti {n:Nat} {r:Root} (hb:r.Marks.length<2^62) (hn:r.Marks.length<n):vO n r=some (l6 r):=by
 rw[ane,show (0:Int)=((0:Nat):Int) from rfl,anE hb r.Marks.length 0 n (by omega) hn]
 refine bs rfl ?_
 unfold l6
 cases rX r.Marks 0 r.Marks.length
 ·rfl
 ·refine(anH (L:=decide ((r.Marks.length:Int)≤256)) (vT ..) (vT ..) (vT ..) (vT ..) (vT ..) (vT ..) (vT ..)).trans (congrArg some ?_)
  show _=(true&& F7 r)
  rw[Bool.eq_iff_iff]
  unfold F7
  simp only[Bool.and_eq_true,decide_eq_true_eq,true_and]
  omega
theorem anI (a0 a1 a2 a3 a4 a5 a6 a7 b0 b1 b2 b3 b4 b5 b6 o:Bool):((!(bif (bif (bif (bif (bif (bif (bif a0 then true else a1) then true else a2) then true else a3) then true else a4) then true else a5) then true else a6) then true else a7))&& (o&& (bif (bif (bif (bif (bif (bif b0 then b1 else false) then b2 else false) then b3 else false) then b4 else false) then b5 else false) then b6 else false)))=(o&& ((!(a0||a1||a2||a3||a4||a5||a6||a7))&& (b0&& b1&& b2&& b3&& b4&& b5&& b6))):=by
 simp only[anG,F8]
 generalize (!(a0||a1||a2||a3||a4||a5||a6||a7))=x
 generalize (b0&& b1&& b2&& b3&& b4&& b5&& b6)=y
 cases x<;>cases y<;>cases o<;>rfl
theorem Tj {n:Nat} {r:Root} (hb:r.Marks.length<2^62) (hn:r.Marks.length<n):vP n r=some (l6 r):=by
 rw[ank,show vR n r n (0:Int)=vR n r n ((0:Nat):Int) from rfl,anF hb r.Marks.length 0 n (by omega) hn]
 unfold l6
 generalize rX r.Marks 0 r.Marks.length=o
 have fin:∀(C B:Bool),(bif C then some false else (some (bif o then (Sum.inl ():PUnit⊕Bool) else Sum.inr false)).bind fun x=>Sum.elim (fun _=>some B) (fun q=>some q) x)=some ((!C)&& (o&& B)):=by
  intro C B;cases C<;>cases o<;>rfl
 refine(fin _ _).trans (congrArg some ?_)
 refine(anI (decide (r.eT< (0:Int))) (decide (r.eT≥(32:Int))) (decide (r.cZ< (0:Int))) (decide (r.cZ> (1073741824:Int))) (decide (r.Day< (0:Int))) (decide (r.Day> (1048576:Int))) (decide (r.Floor< (0:Int))) (decide (r.Floor>r.cZ)) (decide ((r.Marks.length:Int)≤(256:Int))) (decide (r.iN≥(0:Int))) (decide (r.iN≤(65536:Int))) (decide (r.iO≥(0:Int))) (decide (r.iO≤(65536:Int))) (decide (r.iJ≥(0:Int))) (decide (r.iJ≤(2147483648:Int))) o).trans ?_
 refine congrArg (o&& ·) (show (_:Bool)=F7 r from ?_)
 rw[Bool.eq_iff_iff]
 unfold F7
 simp only[Bool.and_eq_true,Bool.or_eq_false_iff,decide_eq_true_eq,Bool.not_eq_true',decide_eq_false_iff_not]
 omega
end Sh
end
section
open Go Go.Proofs Aq
namespace Sh
def numsL (r:Root):List Int:=[r.eT,r.cZ,r.Day,r.Floor,r.iN,r.iO]++r.Marks.map (·.Count)
def vU (r:Root):List (List UInt8):=tY (xM (numsL r))::(qM r).map oZ
def F9 (r:Root):aJ:=lJ 361 (vU r)
theorem anJ (d:aJ):(oZ d).length=16:=rfl
theorem anK {n:Nat} {r:Root} (hb:r.Marks.length<2^20):∀(k i m:Nat) (a:List Int),i+k=r.Marks.length→k<m→a.length+k<2^29→Bp n r m (a,(i:Int))=some (a++(r.Marks.drop i).map (·.Count)):=by
 intro k
 induction k with
 |zero=>
  intro i m a hi hm _
  obtain⟨m,rfl⟩:∃m',m=m'+1:=⟨m-1,by omega⟩
  rw[abh,qh (by omega),List.drop_eq_nil_of_le (by omega),List.map_nil,List.append_nil];rfl
 |succ k ih=>
  intro i m a hi hm hc
  obtain⟨m,rfl⟩:∃m',m=m'+1:=⟨m-1,by omega⟩
  have hlt:i<r.Marks.length:=by omega
  have hx:r.Marks[i]? =some r.Marks[i]:=List.getElem?_eq_getElem hlt
  have hd:r.Marks.drop i=r.Marks[i]::r.Marks.drop (i+1):=List.drop_eq_getElem_cons hlt
  rw[hd]
  generalize r.Marks[i]=x at hx⊢
  have h:=ih (i+1) m (a++[x.Count]) (by omega) (by omega) (by rw[List.length_append,List.length_singleton];omega)
  rw[List.append_assoc] at h
  rw[abh,qg hx,cond_true,oP (by omega)]
  exact bs (gY hx) (gR (jG (by rw[List.length_singleton];omega) (by decide)) h)
theorem abz (n:Nat):∀(xs:List aJ) (a:List (List UInt8)),a.length+xs.length<2^29→Bq n xs ((),a)=some ((),a++xs.map oZ)
 | [],a,_=>by rw[ang,List.map_nil,List.append_nil]
 |x::xs,a,h=>by
  rw[List.length_cons] at h
  rw[anh]
  have h1:=abz n xs (a++[oZ x]) (by rw[List.length_append,List.length_singleton];omega)
  rw[List.append_assoc] at h1
  exact gR (jG (by show a.length+1<2^30;omega) (by decide)) h1
theorem abA:∀l:List Mark,(l.flatMap vL).length=2*l.length
 | []=>rfl
 |m::l=>by rw[List.flatMap_cons,List.length_append,abA l,List.length_cons];show 2+_=_;omega
theorem Tk (r:Root):(qM r).length=4+2*r.Marks.length:=by unfold qM;rw[List.length_append,abA];rfl
structure l7 (r:Root):Prop where
 len:r.Marks.length<300
 off:rI r.eT
 com:rI r.cZ
 day:rI r.Day
 Tm:rI r.Floor
 Tn:rI r.iN
 Tq:rI r.iO
 ser:rI r.iJ
 cnt:∀m∈r.Marks,rI m.Count
theorem abC {r:Root} (h:l7 r):∀x∈numsL r,rI x:=by
 intro x hx
 rcases List.mem_append.1 hx with hx|hx
 ·simp only[List.mem_cons,List.not_mem_nil,or_false] at hx
  rcases hx with rfl|rfl|rfl|rfl|rfl|rfl
  ·exact h.off
  ·exact h.com
  ·exact h.day
  ·exact h.Tm
  ·exact h.Tn
  ·exact h.Tq
 ·obtain⟨m,hm,rfl⟩:=List.mem_map.1 hx
  exact h.cnt m hm
theorem Tt (r:Root):(numsL r).length=6+r.Marks.length:=by unfold numsL;rw[List.length_append,List.length_map];rfl
theorem Ga (r:Root):(vU r).length=5+2*r.Marks.length:=by unfold vU;rw[List.length_cons,List.length_map,Tk];omega
theorem Tv {r:Root} (h:l7 r):∀x∈vU r,x.length<4000:=by
 intro x hx
 rcases List.mem_cons.1 hx with rfl|hx
 ·rw[xL]
  have h1:=akO (l:=numsL r)
  rw[Tt] at h1
  have:=h.len
  omega
 ·obtain⟨d,_,rfl⟩:=List.mem_map.1 hx
  rw[anJ];omega
theorem anL {l:List (List UInt8)} {b:Nat} (h:∀x∈l,x.length<b):jm ig l≤(b+10)*l.length:=
 Et fun x hx=>by have:=akJ x;have:=h x hx;omega
theorem Mc {r:Root} (h:l7 r):jm ig (vU r)<2^22:=by
 have h1:=anL (Tv h)
 have:=h.len
 rw[Ga] at h1
 omega
theorem anM {n:Nat} {r:Root} (h:l7 r) (hn:2^23<n):Bb n r=some (F9 r):=by
 have hl:=h.len
 have hln:=Tt r
 have h1:Bp n r n ([r.eT,r.cZ,r.Day,r.Floor,r.iN,r.iO],(0:Int))=some (numsL r):=by
  refine(anK (n:=n) (r:=r) (by omega) r.Marks.length 0 n _ (by omega) (by omega) ?_).trans ?_
  ·show 6+r.Marks.length<2^29;omega
  ·rw[List.drop_zero];rfl
 rw[ani]
 refine bs h1 (bs (akP (abC h) (by omega) (by omega) (by omega)) (bs (anf n r) ?_))
 refine bs (a:=((),vU r)) (bs (a:=qM r) ?_ (abz n (qM r) [tY (xM (numsL r))] ?_)) (bs (hOf (ls:=vU r) ?_ ?_ ?_ ?_ ?_ ?_) rfl)
 ·show Dx r=_
  unfold Dx
  rw[if_pos (by omega)]
 ·rw[Tk];show 1+_<_;omega
 ·intro x hx;have:=Tv h x hx;omega
 ·have:=Mc h;omega
 ·have:=Mc h;omega
 ·have:=Ga r;omega
 ·omega
 ·have:=Ga r;omega
theorem anN {n:Nat} {r:Root} (hb:r.Marks.length<2^20):∀(k i m:Nat) (a:List Int) (b:List (List UInt8)),i+k=r.Marks.length→k<m→a.length+k<2^28→b.length+2*k<2^28→F4 n r m (a,(b,(i:Int)))=some (a++(r.Marks.drop i).map (·.Count),b++((r.Marks.drop i).flatMap vL).map oZ):=by
 intro k
 induction k with
 |zero=>
  intro i m a b hi hm _ _
  obtain⟨m,rfl⟩:∃m',m=m'+1:=⟨m-1,by omega⟩
  rw[abk,qh (by omega),List.drop_eq_nil_of_le (by omega),List.flatMap_nil,List.map_nil,List.map_nil,List.append_nil,List.append_nil];rfl
 |succ k ih=>
  intro i m a b hi hm hc hd2
  obtain⟨m,rfl⟩:∃m',m=m'+1:=⟨m-1,by omega⟩
  have hlt:i<r.Marks.length:=by omega
  have hx:r.Marks[i]? =some r.Marks[i]:=List.getElem?_eq_getElem hlt
  have hd:r.Marks.drop i=r.Marks[i]::r.Marks.drop (i+1):=List.drop_eq_getElem_cons hlt
  rw[hd]
  generalize r.Marks[i]=x at hx⊢
  have h:=ih (i+1) m (a++[x.Count]) (b++[oZ x.aO,oZ x.aT]) (by omega) (by omega) (by rw[List.length_append,List.length_singleton];omega) (by rw[List.length_append];show b.length+2+_<_;omega)
  rw[List.append_assoc,List.append_assoc] at h
  rw[abk,qg hx,cond_true,oP (by omega)]
  exact bs (gY hx) (gR (jG (by rw[List.length_singleton];omega) (by decide)) (gR (jG (by show b.length+2<2^30;omega) (by decide)) h))
theorem rName {n:Nat} {r:Root} (h:l7 r) (hn:2^23<n):Bd n r=some (F9 r):=by
 have hl:=h.len
 have hln:=Tt r
 rw[anm]
 refine bs (a:=(numsL r,(qM r).map oZ)) ((anN (n:=n) (r:=r) (by omega) r.Marks.length 0 n _ _ (by omega) (by omega) ?_ ?_).trans ?_) ?_
 ·show 6+r.Marks.length<_;omega
 ·show 4+2*r.Marks.length<_;omega
 ·rw[List.drop_zero];unfold qM;rw[List.map_append];rfl
 ·refine bs (akQ (l:=numsL r) (abC h) (by omega) (by omega) (by omega)) (gR (jG ?_ (by decide)) (bs (rOf (ls:=vU r) ?_ ?_ ?_ ?_ ?_ ?_) rfl))
  ·show 1+((qM r).map oZ).length<_
   rw[List.length_map,Tk];omega
  ·intro x hx;have:=Tv h x hx;omega
  ·have:=Mc h;omega
  ·have:=Mc h;omega
  ·have:=Ga r;omega
  ·omega
  ·have:=Ga r;omega
end Sh
end
section
open Go Go.Proofs Aq
namespace Sh
end Sh
end
section
open Go Go.Proofs Aq
namespace Sh
end Sh
end
section
open Go Go.Proofs Aq
namespace Sh
theorem abD (x y:aJ):((x.b0==y.b0)&& ((x.b1==y.b1)&& ((x.b2==y.b2)&& ((x.b3==y.b3)&& ((x.b4==y.b4)&& ((x.b5==y.b5)&& ((x.b6==y.b6)&& ((x.b7==y.b7)&& ((x.b8==y.b8)&& ((x.b9==y.b9)&& ((x.b10==y.b10)&& ((x.b11==y.b11)&& ((x.b12==y.b12)&& ((x.b13==y.b13)&& ((x.b14==y.b14)&& ((x.b15==y.b15)&& true))))))))))))))))=decide (x=y):=by
 rw[Bool.eq_iff_iff]
 simp only[Bool.and_eq_true,beq_iff_eq,decide_eq_true_eq,and_true]
 constructor
 ·intro h
  obtain⟨h0,h1,h2,h3,h4,h5,h6,h7,h8,h9,h10,h11,h12,h13,h14,h15⟩:=h
  cases x;cases y
  simp only at*
  subst h0 h1 h2 h3 h4 h5 h6 h7 h8 h9 h10 h11 h12 h13 h14 h15
  rfl
 ·rintro rfl
  exact⟨rfl,rfl,rfl,rfl,rfl,rfl,rfl,rfl,rfl,rfl,rfl,rfl,rfl,rfl,rfl,rfl⟩
theorem anR {n:Nat} {r:Root} (hb:r.Marks.length<2^62):∀(k i m:Nat),i+k=r.Marks.length→k<m→Br n r r m (i:Int)=some (.inl ()):=by
 intro k
 induction k with
 |zero=>
  intro i m hi hm
  obtain⟨m,rfl⟩:∃m',m=m'+1:=⟨m-1,by omega⟩
  rw[abl,qh (by omega)];rfl
 |succ k ih=>
  intro i m hi hm
  obtain⟨m,rfl⟩:∃m',m=m'+1:=⟨m-1,by omega⟩
  have hlt:i<r.Marks.length:=by omega
  have hx:r.Marks[i]? =some r.Marks[i]:=List.getElem?_eq_getElem hlt
  generalize r.Marks[i]=x at hx
  have ih':=ih (i+1) m (by omega) (by omega)
  rw[abl,qg hx,cond_true,oP (by omega),ih']
  refine bs (gY hx) (bs (gY hx) (bF ?_ rfl))
  simp only[beq_self_eq_true,Bool.and_self,Bool.not_true]
theorem Tw {n:Nat} {r:Root} (hb:r.Marks.length<2^62) (hn:r.Marks.length<n):vQ n (r,r)=some true:=by
 rw[ano]
 refine bF (by simp) (bs ((anR hb r.Marks.length 0 n (by omega) hn:Br n r r n ((0:Nat):Int)=_)) ?_)
 refine bF ?_ (congrArg some ?_)
 ·simp only[bne_self_eq_false,beq_self_eq_true,Bool.and_self,Bool.not_true,cond_false]
 ·simp only[beq_self_eq_true,Bool.and_self,cond_true]
structure Gb (r:Root):Prop where
 off:rI r.eT
 com:rI r.cZ
 day:rI r.Day
 Tm:rI r.Floor
 Tn:rI r.iN
 Tq:rI r.iO
 ser:rI r.iJ
 cnt:∀m∈r.Marks,rI m.Count
theorem Gb.ok {r:Root} (h:Gb r) (hl:r.Marks.length<300):l7 r:=⟨hl,h.off,h.com,h.day,h.Tm,h.Tn,h.Tq,h.ser,h.cnt⟩
def xQ (a b:Root):Int:=
 if l6 a=false∨l6 b=false∨a.eT≠b.eT then 1
 else if b.cZ≠IntKind.wrap .i64 (a.cZ+(1:Int))∨b.Day<a.Day∨b.Floor<a.Floor then 9
 else if a.ak=b.ak∧b.au=F9 a then 0 else 3
theorem abE {a b:Root} {oa ob:Option Bool} {on:Option aJ} (ha:oa=some (l6 a)) (hb:ob=some (l6 b)) (hn:on=some (F9 a)):
 (oa.bind fun (r3:Bool)=>
 (kH (!(!r3)) ob false).bind fun (r4:Bool)=>
 bif bif bif !r3 then true else !r4 then true else a.eT !=b.eT then
  some ((1:Int))
 else
  bif bif bif b.cZ !=(Go.IntKind.wrap Go.IntKind.i64 (a.cZ+((1:Int)))) then true else decide (b.Day<a.Day) then true else decide (b.Floor<a.Floor) then
   some ((9:Int))
  else
   bif !(!decide (a.ak=b.ak)) then
    on.bind fun (r5:aJ)=>
    bif !(decide (b.au=r5)) then
     some ((3:Int))
    else
     some ((0:Int))
   else
    some ((3:Int)))=some (xQ a b):=by
 subst ha hb hn
 unfold xQ
 cases h1:l6 a
 ·rw[if_pos (Or.inl rfl)];rfl
 ·cases h2:l6 b
  ·rw[if_pos (Or.inr (Or.inl rfl))];rfl
  ·by_cases h3:a.eT=b.eT
   ·rw[if_neg (by simp[h3])]
    refine bs rfl (bs rfl (bF (bne_eq_false_iff_eq.2 h3) ?_))
    by_cases h4:b.cZ≠IntKind.wrap .i64 (a.cZ+(1:Int))∨b.Day<a.Day∨b.Floor<a.Floor
    ·rw[if_pos h4]
     refine bT ?_ rfl
     rw[F8,F8]
     simp only[Bool.or_eq_true,bne_iff_ne,decide_eq_true_eq];omega
    ·rw[if_neg h4]
     refine bF ?_ ?_
     ·rw[F8,F8]
      simp only[Bool.or_eq_false_iff,bne_eq_false_iff_eq,decide_eq_false_iff_not];omega
     ·by_cases h5:a.ak=b.ak
      ·refine bT (by rw[decide_eq_true h5];rfl) (bs rfl ?_)
       by_cases h6:b.au=F9 a
       ·rw[if_pos ⟨h5,h6⟩];exact bF (by rw[decide_eq_true h6];rfl) rfl
       ·rw[if_neg (fun h=>h6 h.2)];exact bT (by rw[decide_eq_false h6];rfl) rfl
      ·rw[if_neg (fun h=>h5 h.1)];exact bF (by rw[decide_eq_false h5];rfl) rfl
   ·rw[if_pos (Or.inr (Or.inr h3))]
    exact bs rfl (bs rfl (bT (bne_iff_ne.2 h3) rfl))
theorem anS {n:Nat} {a b:Root} (ha:l7 a) (hb:l7 b) (hn:2^23<n):Bf n (a,b)=some (xQ a b):=by
 have:=ha.len;have:=hb.len
 rw[anp]
 simp only[abD]
 exact abE (Ti (by omega) (by omega)) (Ti (by omega) (by omega)) (anM ha hn)
theorem anT {n:Nat} {a b:Root} (ha:l7 a) (hb:l7 b) (hn:2^23<n):Bg n (a,b)=some (xQ a b):=by
 have:=ha.len;have:=hb.len
 rw[anq]
 simp only[abD]
 exact abE (Tj (by omega) (by omega)) (Tj (by omega) (by omega)) (rName ha hn)
end Sh
end
section
open Go Go.Proofs Aq
namespace Sh
def Gc (r:Root):Bool:=decide (r.Marks.length≤20∨(256<r.Marks.length∧r.Marks.length<300))
theorem Tx (n:Nat) (r:Root):A8 n r=some (Gc r):=by
 rw[ana]
 have fin:∀x y z:Bool,(bif x then true else bif y then z else false)=(x||(y&& z)):=by decide
 refine congrArg some ((fin (decide ((r.Marks.length:Int)≤(20:Int))) (decide ((r.Marks.length:Int)> (256:Int))) (decide ((r.Marks.length:Int)< (300:Int)))).trans ?_)
 rw[Bool.eq_iff_iff]
 unfold Gc
 simp only[Bool.or_eq_true,Bool.and_eq_true,decide_eq_true_eq]
 omega
theorem anU {r:Root} (h:Gc r=true):r.Marks.length<300:=by
 unfold Gc at h;have:=of_decide_eq_true h;omega
end Sh
end
section
namespace Go.Proofs.YtdcnajadcbedkaaGreatDoor.daybook
open Go Go.ChangeShapes Go.WideShapes Go.ChangeAt Go.RowKit Aq Sh
set_option maxRecDepth 100000
theorem Tz {l:List V} {v:V} (h:v∈l):fK v≤j6 l:=by
 induction l with
 |nil=>cases h
 |cons x l ih=>
  rcases List.mem_cons.1 h with rfl|h
  ·show fK v≤fK v+j6 l;omega
  ·have:=ih h
   show fK v≤fK x+j6 l;omega
theorem abF {α:Type} (f:α→V) {l:List α} {x:α} (h:x∈l):fK (f x)≤j6 (l.map f):=Tz (List.mem_map_of_mem h)
theorem vV {n:Int} {k:Nat} (h:fK (V.int .i64 n)≤k) (hk:k<2^62):rI n:=by
 have h1:1+zS .i64 n≤k:=h
 have h2:=ahX (k:=.i64) (n:=n) (by omega)
 exact⟨h2.1,by have:=h2.2;have e:IntKind.max .i64=2^63-1:=by decide
               rw[e] at this;omega⟩
theorem anV {m:Sh.Mark} {k:Nat} (h:fK (Sh.Mark.v m)≤k) (hk:k<2^62):rI m.Count:=by
 refine vV (k:=k) (Nat.le_trans (Tz (l:=m.c) ?_) h) hk
 unfold Sh.Mark.c;simp
theorem anW {r:Sh.Root} {k:Nat} (h:fK (Sh.Root.v r)≤k) (hk:k<2^62):Gb r:=by
 have hm:∀v∈r.c,fK v≤k:=fun v hv=>Nat.le_trans (Tz hv) h
 refine⟨vV (hm _ ?_) hk,vV (hm _ ?_) hk,vV (hm _ ?_) hk,vV (hm _ ?_) hk,vV (hm _ ?_) hk,vV (hm _ ?_) hk,vV (hm _ ?_) hk,fun m hmm=> ?_⟩
 ·unfold Sh.Root.c;simp
 ·unfold Sh.Root.c;simp
 ·unfold Sh.Root.c;simp
 ·unfold Sh.Root.c;simp
 ·unfold Sh.Root.c;simp
 ·unfold Sh.Root.c;simp
 ·unfold Sh.Root.c;simp
 ·have h2:fK (.aj .sh (r.Marks.map Sh.Mark.v))≤k:=hm _ (by unfold Sh.Root.c;simp[lv])
  have h3:j6 (r.Marks.map Sh.Mark.v)+1≤k:=h2
  exact anV (Nat.le_trans (abF (l:=r.Marks) Sh.Mark.v hmm) (by omega)) hk
end Go.Proofs.YtdcnajadcbedkaaGreatDoor.daybook
end
section
open Go Go.Proofs Aq
namespace Sh
def ng (b:List Root) (r:Root):Int:=
 if 65536≤b.length then 2 else if l6 r=false then 1 else match b.getLast? with
  |none=>0
  |some a=>xQ a r
theorem abG {b:List Root} (_:b≠[]):b[b.length-1]? =b.getLast? :=by rw[List.getLast?_eq_getElem?]
theorem abH {b:List Root} {r:Root} (h:65536≤b.length):ng b r=2:=if_pos h
theorem abI {b:List Root} {r:Root} (h:¬65536≤b.length) (hv:l6 r=false):ng b r=1:=by unfold ng;rw[if_neg h,if_pos hv]
theorem abJ {r:Root} (hv:l6 r=true):ng [] r=0:=by
 unfold ng
 rw[if_neg (show¬65536≤([]:List Root).length by show¬65536≤0;decide),if_neg (by rw[hv];decide)];rfl
theorem abK {b:List Root} {r a:Root} (h:¬65536≤b.length) (hv:l6 r=true) (hg:some a=b.getLast?):ng b r=xQ a r:=by
 unfold ng
 rw[if_neg h,if_neg (by rw[hv];decide),←hg]
theorem abL {n:Nat} {b:List Root} {r:Root} (hb:∀a∈b,l7 a) (hr:l7 r) (hl:b.length<2^20) (hn:2^23<n):Bh n (⟨b⟩,r)=some ((⟨if ng b r=0 then b++[r] else b⟩:dK),ng b r):=by
 have hrl:=hr.len
 have hgrow:((bif (fI ((b.length:Nat):Int) b.length)&& ((fI ((b.length:Nat):Int) (Int.toNat ((b.length:Nat):Int)))&& (((b.length:Nat):Int)==((b.length:Nat):Int))) then
            bif dD ((List.take (Int.toNat ((b.length:Nat):Int)) b).length+[r].length) 160 then
             some (((⟨List.take (Int.toNat ((b.length:Nat):Int)) b++[r]⟩:dK),(0:Int)))
            else
             none
       else
        none:Option (dK×Int)))=some ((⟨b++[r]⟩:dK),(0:Int)):=by
  have e1:fI ((b.length:Nat):Int) b.length=true:=by unfold fI;simp
  rw[Int.toNat_natCast,e1,beq_self_eq_true,List.take_length]
  exact bT rfl (bT (jG (by rw[List.length_singleton];omega) (by decide)) rfl)
 rw[anr]
 by_cases h1:65536≤b.length
 ·rw[abH h1,if_neg (by decide)]
  exact bT (decide_eq_true (by show (b.length:Int)≥65536;omega)) rfl
 ·refine bF (decide_eq_false (by show¬(b.length:Int)≥65536;omega)) (bs (Ti (by omega) (by omega)) ?_)
  cases hv:l6 r
  ·rw[abI h1 hv,if_neg (by decide)];rfl
  ·refine bF rfl ?_
   by_cases h2:b=[]
   ·subst h2
    rw[abJ hv,if_pos rfl]
    exact bF rfl hgrow
   ·have hpos:0<b.length:=List.length_pos_iff.2 h2
    have hg:=abG h2
    have hx:b[b.length-1]? =some (b[b.length-1]'(by omega)):=List.getElem?_eq_getElem (by omega)
    rw[hx] at hg
    have ha:=hb _ (List.getElem_mem (show b.length-1<b.length by omega))
    generalize b[b.length-1]'(by omega)=a at hx hg ha
    rw[abK h1 hv hg]
    refine bT (decide_eq_true (by show (b.length:Int)>0;omega)) ?_
    rw[En hpos (by show b.length<_;omega)]
    refine bs (gY hx) (bs (anS ha hr hn) ?_)
    by_cases h3:xQ a r=0
    ·rw[if_pos h3,h3];exact bF rfl hgrow
    ·rw[if_neg h3];exact bT (bne_iff_ne.2 h3) rfl
theorem abM {n:Nat} {b:List Root} {r:Root} (hb:∀a∈b,l7 a) (hr:l7 r) (hl:b.length<2^20) (hn:2^23<n):Bj n (⟨b⟩,r)=some (ng b r):=by
 have hrl:=hr.len
 rw[ant]
 by_cases h1:65536≤b.length
 ·rw[abH h1]
  exact bT (decide_eq_true (by show (b.length:Int)≥65536;omega)) rfl
 ·refine bF (decide_eq_false (by show¬(b.length:Int)≥65536;omega)) (bs (Tj (by omega) (by omega)) ?_)
  cases hv:l6 r
  ·rw[abI h1 hv];rfl
  ·refine bF rfl ?_
   by_cases h2:b=[]
   ·subst h2;rw[abJ hv];rfl
   ·have hpos:0<b.length:=List.length_pos_iff.2 h2
    have hg:=abG h2
    have hx:b[b.length-1]? =some (b[b.length-1]'(by omega)):=List.getElem?_eq_getElem (by omega)
    rw[hx] at hg
    have ha:=hb _ (List.getElem_mem (show b.length-1<b.length by omega))
    generalize b[b.length-1]'(by omega)=a at hx hg ha
    rw[abK h1 hv hg]
    refine bF (beq_eq_false_iff_ne.2 (by show (b.length:Int)≠0;omega)) ?_
    rw[En hpos (by show b.length<_;omega)]
    exact bs (gY hx) (bs (anT ha hr hn) rfl)
def Md:aJ:=⟨(0:Int),(0:Int),(0:Int),(0:Int),(0:Int),(0:Int),(0:Int),(0:Int),(0:Int),(0:Int),(0:Int),(0:Int),(0:Int),(0:Int),(0:Int),(0:Int)⟩
def anX:Seal:=⟨(0:Int),(0:Int),(0:Int),(0:Int),(0:Int),(0:Int),(0:Int),(0:Int),(0:Int),(0:Int),(0:Int),(0:Int),(0:Int),(0:Int),(0:Int),(0:Int)⟩
def TA:Root:=⟨(0:Int),(0:Int),(0:Int),(0:Int),Md,Md,[],Md,(0:Int),Md,(0:Int),(0:Int),anX⟩
def nW (c:Int) (r:Root):Bool:=r.cZ==c
theorem anY {n:Nat} {l:List Root} {c:Int} (hb:l.length<2^62):∀(k i m:Nat),i+k=l.length→k<m→F5 n l c m (i:Int)=some (match (l.drop i).findIdx? (nW c) with|some j=>.inr ((i+j:Nat):Int)|none=>.inl ()):=by
 intro k
 induction k with
 |zero=>
  intro i m hi hm
  obtain⟨m,rfl⟩:∃m',m=m'+1:=⟨m-1,by omega⟩
  rw[abm,qh (by omega),List.drop_eq_nil_of_le (by omega)];rfl
 |succ k ih=>
  intro i m hi hm
  obtain⟨m,rfl⟩:∃m',m=m'+1:=⟨m-1,by omega⟩
  have hlt:i<l.length:=by omega
  have hx:l[i]? =some l[i]:=List.getElem?_eq_getElem hlt
  have hd:l.drop i=l[i]::l.drop (i+1):=List.drop_eq_getElem_cons hlt
  have ih':=ih (i+1) m (by omega) (by omega)
  rw[hd,List.findIdx?_cons]
  generalize l[i]=y at hx⊢
  rw[abm,qg hx,cond_true,oP (by omega),ih']
  refine bs (gY hx) (bs (anu n y c) ?_)
  show (bif nW c y then _ else _)=_
  cases nW c y
  ·simp only[cond_false,Bool.false_eq_true,if_false]
   cases (l.drop (i+1)).findIdx? (nW c) with
   |none=>rfl
   |some j=>simp only[Option.map_some];rw[Nat.add_right_comm,Nat.add_assoc]
  ·rfl
theorem wAt {n:Nat} {b:List Root} {c:Int} (hl:b.length<2^20) (hn:2^23<n):Bl n (⟨b⟩,c)=some (match b.find? (nW c) with|some r=>(r,(0:Int))|none=>(TA,(5:Int))):=by
 rw[anv]
 have h1:=anY (n:=n) (c:=c) (show b.length<2^62 by omega) b.length 0 n (by omega) (by omega)
 rw[List.drop_zero] at h1
 have hf:=ZQ (nW c) b
 cases hi:b.findIdx? (nW c) with
 |none=>
  rw[hi] at h1 hf
  have e:xP n (b,((),c))=some (-1:Int):=by
   rw[abn];exact bs h1 rfl
  rw[←hf]
  exact bs e (bT rfl rfl)
 |some j=>
  rw[hi] at h1 hf
  have e:xP n (b,((),c))=some ((j:Nat):Int):=by
   rw[abn];refine bs h1 ?_
   show some (((0+j:Nat):Int))=_
   rw[Nat.zero_add]
  have hf':b[j]? =b.find? (nW c):=hf
  have hj:j<b.length:=by
   rw[List.findIdx?_eq_some_iff_getElem] at hi
   exact hi.1
  rw[←hf',List.getElem?_eq_getElem hj]
  exact bs e (bF (decide_eq_false (by show¬(j:Int)<0;omega)) (bs (gY (List.getElem?_eq_getElem hj)) rfl))
theorem an0 {n:Nat} {b:List Root} {c:Int} (hb:b.length<2^62):∀(k i m:Nat) (x:dh),i+k=b.length→k<m→F6 n ⟨b⟩ c m ((i:Int),x)=some (match (b.drop i).find? (nW c) with|some r=>.inr ((),⟨r,(0:Int)⟩)|none=>.inl ((),x)):=by
 intro k
 induction k with
 |zero=>
  intro i m x hi hm
  obtain⟨m,rfl⟩:∃m',m=m'+1:=⟨m-1,by omega⟩
  rw[abo,qh (show b.length≤i by omega),List.drop_eq_nil_of_le (by omega)];rfl
 |succ k ih=>
  intro i m x hi hm
  obtain⟨m,rfl⟩:∃m',m=m'+1:=⟨m-1,by omega⟩
  have hlt:i<b.length:=by omega
  have hx:b[i]? =some b[i]:=List.getElem?_eq_getElem hlt
  have hd:b.drop i=b[i]::b.drop (i+1):=List.drop_eq_getElem_cons hlt
  have ih':=ih (i+1) m x (by omega) (by omega)
  rw[hd,List.find?_cons]
  generalize b[i]=y at hx⊢
  rw[abo,qg hx,cond_true,oP (by omega)]
  refine bs (gY hx) ?_
  show (bif nW c y then _ else _)=_
  cases nW c y
  ·exact ih'
  ·exact bs (gY hx) rfl
theorem rAt {n:Nat} {b:List Root} {c:Int} (hl:b.length<2^20) (hn:2^23<n):Bn n (⟨b⟩,c)=some (match b.find? (nW c) with|some r=>(⟨r,(0:Int)⟩:dh)|none=>⟨TA,(5:Int)⟩):=by
 rw[anw]
 refine bs (an0 (by omega) b.length 0 n _ (by omega) (by omega)) ?_
 rw[List.drop_zero]
 cases b.find? (nW c)<;>rfl
end Sh
end
section
open Go Go.Proofs Aq
namespace Sh
theorem an2 {n:Nat} {l:List Root} {c:Int} (hl:l.length≤12) (hi:∀r∈l,Gb r) (hn:2^23<n):∀(k i m:Nat) (b:List Root),i+k=l.length→k<m→b.length≤i→(∀a∈b,l7 a)→
 ∃v,vS n l c m ((((b.length:Nat):Int),((i:Nat):Int)),⟨b⟩)=some v∧(v= .inr true∨∃b':List Root,v= .inl ((),⟨b'⟩)∧b'.length≤12∧∀a∈b',l7 a):=by
 intro k
 induction k with
 |zero=>
  intro i m b he hm hb ho
  obtain⟨m,rfl⟩:∃m',m=m'+1:=⟨m-1,by omega⟩
  refine⟨_, ?_,Or.inr ⟨b,rfl,by omega,ho⟩⟩
  rw[abp,qh (by omega)];rfl
 |succ k ih=>
  intro i m b he hm hb ho
  obtain⟨m,rfl⟩:∃m',m=m'+1:=⟨m-1,by omega⟩
  have hlt:i<l.length:=by omega
  have hx:l[i]? =some l[i]:=List.getElem?_eq_getElem hlt
  have hrI:=hi _ (List.getElem_mem hlt)
  generalize l[i]=r at hx hrI
  rw[abp,qg hx,cond_true]
  cases hf:Gc r
  ·refine⟨_,bs (gY hx) (bs (Tx n r) (bT ?_ (bs (aao n ()) rfl))),Or.inl rfl⟩
   rw[hf];rfl
  ·have xR:=hrI.ok (anU hf)
   have w1:IntKind.wrap .i64 (((b.length:Nat):Int)+(1:Int))=((b.length+1:Nat):Int):=oP (by omega)
   have w2:IntKind.wrap .i64 (((i:Nat):Int)+(1:Int))=((i+1:Nat):Int):=oP (by omega)
   have w3:IntKind.wrap .i64 (((b.length+1:Nat):Int)-(1:Int))=((b.length:Nat):Int):=En (by omega) (by omega)
   rw[w1,w2,w3]
   by_cases h0:ng b r=0
   ·have hw:=abL (n:=n) ho xR (by omega) hn
    rw[if_pos h0] at hw
    have hl2:(b++[r]).length=b.length+1:=by rw[List.length_append,List.length_singleton]
    have hg:(b++[r])[b.length]? =some r:=by simp
    obtain⟨v,g1,g2⟩:=ih (i+1) m (b++[r]) (by omega) (by omega) (by omega) (fun a ha=>by
     rcases List.mem_append.1 ha with ha|ha
     ·exact ho a ha
     ·rw[List.mem_singleton.1 ha];exact xR)
    rw[hl2] at g1
    refine⟨v,bs (gY hx) (bs (Tx n r) (bF ?_ (bs (gY hx) (bs (abM ho xR (by omega) hn) (bs (gY hx) (bs hw (bT ?_ (bT ?_ (bT ?_ (bT ?_ (bs (gY hg) (bs (gY hx) (bs (Tw (r:=r) (by have:=xR.len;omega) (by have:=xR.len;omega)) (bF rfl g1)))))))))))))),g2⟩
    ·rw[hf];rfl
    ·exact beq_iff_eq.2 h0
    ·show (!(ng b r !=ng b r))=true
     rw[bne_self_eq_false];rfl
    ·show (!((((b++[r]).length:Nat):Int) !=((b.length+1:Nat):Int)))=true
     rw[hl2,bne_self_eq_false];rfl
    ·exact beq_iff_eq.2 h0
   ·have hw:=abL (n:=n) ho xR (by omega) hn
    rw[if_neg h0] at hw
    obtain⟨v,g1,g2⟩:=ih (i+1) m b (by omega) (by omega) (by omega) ho
    refine⟨v,bs (gY hx) (bs (Tx n r) (bF ?_ (bs (gY hx) (bs (abM ho xR (by omega) hn) (bs (gY hx) (bs hw (bF ?_ (bT ?_ (bT ?_ (bF ?_ g1)))))))))),g2⟩
    ·rw[hf];rfl
    ·exact beq_eq_false_iff_ne.2 h0
    ·show (!(ng b r !=ng b r))=true
     rw[bne_self_eq_false];rfl
    ·show (!(((b.length:Nat):Int) !=((b.length:Nat):Int)))=true
     rw[bne_self_eq_false];rfl
    ·exact beq_eq_false_iff_ne.2 h0
theorem an3 {n:Nat} {l:List Root} {c:Int} (hi:∀r∈l,Gb r) (hn:2^23<n):L9 n (l,c)=some true:=by
 have hs:uj n ()=some true:=aao n ()
 rw[anz]
 by_cases h1:l.length≤12
 ·refine bF (decide_eq_false (by omega)) ?_
  obtain⟨v,g1,g2⟩:=an2 (n:=n) (c:=c) h1 hi hn l.length 0 n [] (by omega) (by omega) (Nat.le_refl 0) (fun a ha=>by cases ha)
  refine bs g1 ?_
  rcases g2 with rfl| ⟨b,rfl,hb,ho⟩
  ·rfl
  ·refine bs (wAt (b:=b) (by omega) hn) (bs (rAt (b:=b) (by omega) hn) (bs hs ?_))
   cases hf:b.find? (nW c) with
   |none=>
    refine aby (x:=true) (Tw (r:=TA) (by decide) (by show 0<n;omega)) rfl
   |some r=>
    have hr:=(ho r (List.mem_of_find?_eq_some hf)).len
    refine aby (x:=true) (Tw (r:=r) (by omega) (by omega)) rfl
 ·exact bT (decide_eq_true (by omega)) (bs hs rfl)
end Sh
end
