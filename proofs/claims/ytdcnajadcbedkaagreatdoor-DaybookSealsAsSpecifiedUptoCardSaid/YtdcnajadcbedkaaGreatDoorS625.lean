/- Part of the proof of a law. -/
import Derived.ChangeCalls
import Derived.Test.YtdcnajadcbedkaaGreatDoorS617
import Derived.Test.YtdcnajadcbedkaaGreatDoorS620
import Derived.Test.YtdcnajadcbedkaaGreatDoorS624
set_option linter.all false
set_option linter.unusedSimpArgs false
set_option linter.unusedSectionVars false
section
open Go Go.Proofs Aq
namespace Sh
def lD (d:aI):List UInt8:=List.map (fun n:Int=>UInt8.ofNat n.toNat) [d.b0,d.b1,d.b2,d.b3,d.b4,d.b5,d.b6,d.b7,d.b8,d.b9,d.b10,d.b11,d.b12,d.b13,d.b14,d.b15]
def uL (a b:aI):Bool:=Op.bytesLess (lD a) (lD b)
theorem abn:∀a b:List UInt8,decide (Lib.compareBytes a b≥0)= !Op.bytesLess a b
 | [],[]=>rfl
 | [],_::_=>rfl
 |_::_,[]=>rfl
 |a::x,b::y=>by
  unfold Lib.compareBytes Op.bytesLess
  by_cases h1:a<b
  ·simp[h1]
  ·by_cases h2:b<a
   ·have h3:(a==b)=false:=by
     rw[beq_eq_false_iff_ne];rintro rfl;exact UInt8.lt_irrefl _ h2
    simp[h1,h2,h3]
   ·have h3:a=b:=UInt8.le_antisymm (UInt8.not_lt.1 h2) (UInt8.not_lt.1 h1)
    subst h3
    simp only[h1,if_false,decide_false,Bool.false_or,beq_self_eq_true,Bool.true_and]
    exact abn x y
theorem anP (n:Nat) (a b:aI):∃c:Int,BM n (a,b)=some c∧decide (c≥(0:Int))= !uL a b:=
 ⟨Lib.compareBytes (lD a) (lD b),by rw[am0];exact bs (alE _ _) rfl,abn _ _⟩
theorem anQ (n:Nat) (a b:aI):BR n (a,b)=some (uL a b):=by rw[anc];rfl
def M5 (l:List Mark) (i:Nat):Bool:=match l[i]? with
 |some m=>decide (1≤m.Count)&& decide (m.Count≤4096)&& (decide (i=0)||match l[i-1]? with
  |some p=>uL p.aO m.aO
  |none=>true)
 |none=>true
def sM (l:List Mark):Nat→Nat→Bool
 |_,0=>true
 |i,k+1=>M5 l i&& sM l (i+1) k
theorem abo (l:List Mark) (i k:Nat):sM l i (k+1)=(M5 l i&& sM l (i+1) k):=rfl
theorem wE (n:Nat) (a b c:Int):pE n (a,(b,c))=some (decide (b≤a)&& decide (a≤c)):=by
 rw[amZ]
 show some (bif decide (b≤a) then decide (a≤c) else false)=some (decide (b≤a)&& decide (a≤c))
 cases decide (b≤a)<;>rfl
theorem abp {l:List Mark} {i:Nat} {m:Mark} (h:l[i]? =some m):M5 l i=(decide (1≤m.Count)&& decide (m.Count≤4096)&& (decide (i=0)||match l[i-1]? with
 |some p=>uL p.aO m.aO
 |none=>true)):=by unfold M5;rw[h]
theorem anR {n:Nat} {r:Root} (hb:r.Marks.length<2^62):∀(k i m:Nat),i+k=r.Marks.length→k<m→Cn n r m (i:Int)=some (bif sM r.Marks i k then .inl () else .inr false):=by
 intro k
 induction k with
 |zero=>
  intro i m hi hm
  obtain⟨m,rfl⟩:∃m',m=m'+1:=⟨m-1,by omega⟩
  rw[abd,o9 (by omega)];rfl
 |succ k ih=>
  intro i m hi hm
  obtain⟨m,rfl⟩:∃m',m=m'+1:=⟨m-1,by omega⟩
  have hlt:i<r.Marks.length:=by omega
  have hx:r.Marks[i]? =some r.Marks[i]:=List.getElem?_eq_getElem hlt
  generalize r.Marks[i]=x at hx
  have ih':=ih (i+1) m (by omega) (by omega)
  rw[abd,o8 hx,cond_true,oh (by omega),ih',abo,abp hx]
  refine bs (iT hx) (bs (wE n x.Count 1 4096) ?_)
  cases hw:decide (1≤x.Count)&& decide (x.Count≤4096)
  ·rfl
  ·refine bT rfl ?_
   by_cases h0:i=0
   ·subst h0;rfl
   ·have e2:decide ((i:Int)>0)=true:=by simp;omega
    have hp:r.Marks[i-1]? =some r.Marks[i-1]:=List.getElem?_eq_getElem (by omega)
    generalize r.Marks[i-1]=p at hp
    have e3:decide (i=0)=false:=decide_eq_false h0
    obtain⟨c,hc1,hc2⟩:=anP n p.aO x.aO
    rw[e2,hp,e3,RN (by omega) (by omega)]
    refine bT rfl (bs (iT hp) (bs hc1 ?_))
    rw[show (decide (c≥(0:Int)))= !uL p.aO x.aO from hc2]
    show _=some (bif (true&& (false||uL p.aO x.aO))&& sM r.Marks (i+1) k then _ else _)
    cases uL p.aO x.aO<;>rfl
theorem anS {n:Nat} {r:Root} (hb:r.Marks.length<2^62):∀(k i m:Nat),i+k=r.Marks.length→k<m→wD n r m (i:Int)=some (bif sM r.Marks i k then .inl () else .inr false):=by
 intro k
 induction k with
 |zero=>
  intro i m hi hm
  obtain⟨m,rfl⟩:∃m',m=m'+1:=⟨m-1,by omega⟩
  rw[abh,o9 (by omega)];rfl
 |succ k ih=>
  intro i m hi hm
  obtain⟨m,rfl⟩:∃m',m=m'+1:=⟨m-1,by omega⟩
  have hlt:i<r.Marks.length:=by omega
  have hx:r.Marks[i]? =some r.Marks[i]:=List.getElem?_eq_getElem hlt
  generalize r.Marks[i]=x at hx
  have ih':=ih (i+1) m (by omega) (by omega)
  rw[abh,o8 hx,cond_true,oh (by omega),ih',abo,abp hx]
  refine bs (iT hx) ?_
  by_cases h1:(1:Int)≤x.Count
  ·rw[show decide (x.Count< (1:Int))=false from decide_eq_false (by omega),show decide ((1:Int)≤x.Count)=true from decide_eq_true h1]
   refine bT rfl (bs (iT hx) ?_)
   by_cases h2:x.Count≤4096
   ·rw[show decide (x.Count> (4096:Int))=false from decide_eq_false (by omega),show decide (x.Count≤(4096:Int))=true from decide_eq_true h2]
    refine bT rfl ?_
    by_cases h0:i=0
    ·subst h0;rfl
    ·have e2:decide ((i:Int)>0)=true:=by simp;omega
     have hp:r.Marks[i-1]? =some r.Marks[i-1]:=List.getElem?_eq_getElem (by omega)
     generalize r.Marks[i-1]=p at hp
     have e3:decide (i=0)=false:=decide_eq_false h0
     rw[e2,hp,e3,RN (by omega) (by omega)]
     refine bT rfl (bs (iT hp) (bs (iT hx) (bs (anQ n p.aO x.aO) ?_)))
     show _=some (bif (true&& true&& (false||uL p.aO x.aO))&& sM r.Marks (i+1) k then _ else _)
     cases uL p.aO x.aO<;>rfl
   ·rw[show decide (x.Count> (4096:Int))=true from decide_eq_true (by omega),show decide (x.Count≤(4096:Int))=false from decide_eq_false h2]
    rfl
  ·rw[show decide (x.Count< (1:Int))=true from decide_eq_true (by omega),show decide ((1:Int)≤x.Count)=false from decide_eq_false h1]
   rfl
def G5 (r:Root):Bool:=decide (0≤r.bN∧r.bN≤31∧0≤r.aZ∧r.aZ≤1073741824∧0≤r.Day∧r.Day≤1048576∧0≤r.Floor∧r.Floor≤r.aZ∧r.Marks.length≤256∧0≤r.fK∧r.fK≤65536∧0≤r.fM∧r.fM≤65536∧0≤r.bP∧r.bP≤2147483648)
def mq (r:Root):Bool:=sM r.Marks 0 r.Marks.length&& G5 r
theorem Tk (a b:Bool):(bif a then b else false)=(a&& b):=by cases a<;>rfl
theorem Cu (a b:Bool):(bif a then true else b)=(a||b):=by cases a<;>rfl
theorem lU {α β:Type} {c:Bool} {o:Option α} {d x:α} {f:α→Option β} {r:Option β} (h:o=some x) (k:f (bif c then x else d)=r):(eY c o d).bind f=r:=by
 rw[h,aj7];exact k
theorem anT {oA oB oC oD oF oV oS:Option Bool} {A B C D L F V S:Bool} (hA:oA=some A) (hB:oB=some B) (hC:oC=some C) (hD:oD=some D) (hF:oF=some F) (hV:oV=some V) (hS:oS=some S):
 (oA.bind fun (cu:Bool)=>
   (eY cu oB false).bind fun (jc:Bool)=>
   (eY (bif cu then jc else false) oC false).bind fun (iA:Bool)=>
   (eY (bif bif cu then jc else false then iA else false) oD false).bind fun (fF:Bool)=>
   (eY (bif bif bif bif cu then jc else false then iA else false then fF else false then L else false) oF false).bind fun (fG:Bool)=>
   (eY (bif bif bif bif bif cu then jc else false then iA else false then fF else false then L else false then fG else false) oV false).bind fun (jw:Bool)=>
   (eY (bif bif bif bif bif bif cu then jc else false then iA else false then fF else false then L else false then fG else false then jw else false) oS false).bind fun (r16:Bool)=>
   some (bif bif bif bif bif bif bif cu then jc else false then iA else false then fF else false then L else false then fG else false then jw else false then r16 else false))=some (A&& B&& C&& D&& L&& F&& V&& S):=by
 subst hA hB hC hD hF hV hS
 cases A<;>cases B<;>cases C<;>cases D<;>cases L<;>cases F<;>cases V<;>cases S<;>rfl
theorem G6 {n:Nat} {r:Root} (hb:r.Marks.length<2^62) (hn:r.Marks.length<n):sF n r=some (mq r):=by
 rw[am1,show (0:Int)=((0:Nat):Int) from rfl,anR hb r.Marks.length 0 n (by omega) hn]
 refine bs rfl ?_
 unfold mq
 cases sM r.Marks 0 r.Marks.length
 ·rfl
 ·refine(anT (L:=decide ((r.Marks.length:Int)≤256)) (wE ..) (wE ..) (wE ..) (wE ..) (wE ..) (wE ..) (wE ..)).trans (congrArg some ?_)
  show _=(true&& G5 r)
  rw[Bool.eq_iff_iff]
  unfold G5
  simp only[Bool.and_eq_true,decide_eq_true_eq,true_and]
  omega
theorem anU (a0 a1 a2 a3 a4 a5 a6 a7 b0 b1 b2 b3 b4 b5 b6 o:Bool):((!(bif (bif (bif (bif (bif (bif (bif a0 then true else a1) then true else a2) then true else a3) then true else a4) then true else a5) then true else a6) then true else a7))&& (o&& (bif (bif (bif (bif (bif (bif b0 then b1 else false) then b2 else false) then b3 else false) then b4 else false) then b5 else false) then b6 else false)))=(o&& ((!(a0||a1||a2||a3||a4||a5||a6||a7))&& (b0&& b1&& b2&& b3&& b4&& b5&& b6))):=by
 simp only[Tk,Cu]
 generalize (!(a0||a1||a2||a3||a4||a5||a6||a7))=x
 generalize (b0&& b1&& b2&& b3&& b4&& b5&& b6)=y
 cases x<;>cases y<;>cases o<;>rfl
theorem G7 {n:Nat} {r:Root} (hb:r.Marks.length<2^62) (hn:r.Marks.length<n):sI n r=some (mq r):=by
 rw[ane,show wD n r n (0:Int)=wD n r n ((0:Nat):Int) from rfl,anS hb r.Marks.length 0 n (by omega) hn]
 unfold mq
 generalize sM r.Marks 0 r.Marks.length=o
 have fin:∀(C B:Bool),(bif C then some false else (some (bif o then (Sum.inl ():PUnit⊕Bool) else Sum.inr false)).bind fun x=>Sum.elim (fun _=>some B) (fun q=>some q) x)=some ((!C)&& (o&& B)):=by
  intro C B;cases C<;>cases o<;>rfl
 refine(fin _ _).trans (congrArg some ?_)
 refine(anU (decide (r.bN< (0:Int))) (decide (r.bN≥(32:Int))) (decide (r.aZ< (0:Int))) (decide (r.aZ> (1073741824:Int))) (decide (r.Day< (0:Int))) (decide (r.Day> (1048576:Int))) (decide (r.Floor< (0:Int))) (decide (r.Floor>r.aZ)) (decide ((r.Marks.length:Int)≤(256:Int))) (decide (r.fK≥(0:Int))) (decide (r.fK≤(65536:Int))) (decide (r.fM≥(0:Int))) (decide (r.fM≤(65536:Int))) (decide (r.bP≥(0:Int))) (decide (r.bP≤(2147483648:Int))) o).trans ?_
 refine congrArg (o&& ·) (show (_:Bool)=G5 r from ?_)
 rw[Bool.eq_iff_iff]
 unfold G5
 simp only[Bool.and_eq_true,Bool.or_eq_false_iff,decide_eq_true_eq,Bool.not_eq_true',decide_eq_false_iff_not]
 omega
end Sh
end
section
open Go Go.Proofs Aq
namespace Sh
def numsL (r:Root):List Int:=[r.bN,r.aZ,r.Day,r.Floor,r.fK,r.fM]++r.Marks.map (·.Count)
def wF (r:Root):List (List UInt8):=uG (yx (numsL r))::(qR r).map lD
def pF (r:Root):aI:=lC 361 (wF r)
theorem abq (d:aI):(lD d).length=16:=rfl
theorem anV {n:Nat} {r:Root} (hb:r.Marks.length<2^20):∀(k i m:Nat) (a:List Int),i+k=r.Marks.length→k<m→a.length+k<2^29→Co n r m (a,(i:Int))=some (a++(r.Marks.drop i).map (·.Count)):=by
 intro k
 induction k with
 |zero=>
  intro i m a hi hm _
  obtain⟨m,rfl⟩:∃m',m=m'+1:=⟨m-1,by omega⟩
  rw[abe,o9 (by omega),List.drop_eq_nil_of_le (by omega),List.map_nil,List.append_nil];rfl
 |succ k ih=>
  intro i m a hi hm hc
  obtain⟨m,rfl⟩:∃m',m=m'+1:=⟨m-1,by omega⟩
  have hlt:i<r.Marks.length:=by omega
  have hx:r.Marks[i]? =some r.Marks[i]:=List.getElem?_eq_getElem hlt
  have hd:r.Marks.drop i=r.Marks[i]::r.Marks.drop (i+1):=List.drop_eq_getElem_cons hlt
  rw[hd]
  generalize r.Marks[i]=x at hx⊢
  have h:=ih (i+1) m (a++[x.Count]) (by omega) (by omega) (by rw[List.length_append,List.length_singleton];omega)
  rw[List.append_assoc] at h
  rw[abe,o8 hx,cond_true,oh (by omega)]
  exact bs (iT hx) (gR (jy (by rw[List.length_singleton];omega) (by decide)) h)
theorem abr (n:Nat):∀(xs:List aI) (a:List (List UInt8)),a.length+xs.length<2^29→Cq n xs ((),a)=some ((),a++xs.map lD)
 | [],a,_=>by rw[am5,List.map_nil,List.append_nil]
 |x::xs,a,h=>by
  rw[List.length_cons] at h
  rw[am6]
  have h1:=abr n xs (a++[lD x]) (by rw[List.length_append,List.length_singleton];omega)
  rw[List.append_assoc] at h1
  exact gR (jy (by show a.length+1<2^30;omega) (by decide)) h1
theorem abt:∀l:List Mark,(l.flatMap wh).length=2*l.length
 | []=>rfl
 |m::l=>by rw[List.flatMap_cons,List.length_append,abt l,List.length_cons];show 2+_=_;omega
theorem Tm (r:Root):(qR r).length=4+2*r.Marks.length:=by unfold qR;rw[List.length_append,abt];rfl
structure iU (r:Root):Prop where
 len:r.Marks.length<300
 off:rI r.bN
 com:rI r.aZ
 day:rI r.Day
 M6:rI r.Floor
 M7:rI r.fK
 M8:rI r.fM
 ser:rI r.bP
 cnt:∀m∈r.Marks,rI m.Count
theorem abv {r:Root} (h:iU r):∀x∈numsL r,rI x:=by
 intro x hx
 rcases List.mem_append.1 hx with hx|hx
 ·simp only[List.mem_cons,List.not_mem_nil,or_false] at hx
  rcases hx with rfl|rfl|rfl|rfl|rfl|rfl
  ·exact h.off
  ·exact h.com
  ·exact h.day
  ·exact h.M6
  ·exact h.M7
  ·exact h.M8
 ·obtain⟨m,hm,rfl⟩:=List.mem_map.1 hx
  exact h.cnt m hm
theorem Tn (r:Root):(numsL r).length=6+r.Marks.length:=by unfold numsL;rw[List.length_append,List.length_map];rfl
theorem G8 (r:Root):(wF r).length=5+2*r.Marks.length:=by unfold wF;rw[List.length_cons,List.length_map,Tm];omega
theorem Tq {r:Root} (h:iU r):∀x∈wF r,x.length<4000:=by
 intro x hx
 rcases List.mem_cons.1 hx with rfl|hx
 ·rw[yw]
  have h1:=akS (l:=numsL r)
  rw[Tn] at h1
  have:=h.len
  omega
 ·obtain⟨d,_,rfl⟩:=List.mem_map.1 hx
  rw[abq];omega
theorem abw {l:List (List UInt8)} {b:Nat} (h:∀x∈l,x.length<b):jd gP l≤(b+10)*l.length:=
 Fy fun x hx=>by have:=akN x;have:=h x hx;omega
theorem M9 {r:Root} (h:iU r):jd gP (wF r)<2^22:=by
 have h1:=abw (Tq h)
 have:=h.len
 rw[G8] at h1
 omega
theorem G9 {n:Nat} {r:Root} (h:iU r) (hn:2^23<n):sH n r=some (pF r):=by
 have hl:=h.len
 have hln:=Tn r
 have h1:Co n r n ([r.bN,r.aZ,r.Day,r.Floor,r.fK,r.fM],(0:Int))=some (numsL r):=by
  refine(anV (n:=n) (r:=r) (by omega) r.Marks.length 0 n _ (by omega) (by omega) ?_).trans ?_
  ·show 6+r.Marks.length<2^29;omega
  ·rw[List.drop_zero];rfl
 rw[am7]
 refine bs h1 (bs (akT (abv h) (by omega) (by omega) (by omega)) (bs (am4 n r) ?_))
 refine bs (a:=((),wF r)) (bs (a:=qR r) ?_ (abr n (qR r) [uG (yx (numsL r))] ?_)) (bs (Sd (ls:=wF r) ?_ ?_ ?_ ?_ ?_ ?_) rfl)
 ·show EA r=_
  unfold EA
  rw[if_pos (by omega)]
 ·rw[Tm];show 1+_<_;omega
 ·intro x hx;have:=Tq h x hx;omega
 ·have:=M9 h;omega
 ·have:=M9 h;omega
 ·have:=G8 r;omega
 ·omega
 ·have:=G8 r;omega
theorem anW {n:Nat} {r:Root} (hb:r.Marks.length<2^20):∀(k i m:Nat) (a:List Int) (b:List (List UInt8)),i+k=r.Marks.length→k<m→a.length+k<2^28→b.length+2*k<2^28→GX n r m (a,(b,(i:Int)))=some (a++(r.Marks.drop i).map (·.Count),b++((r.Marks.drop i).flatMap wh).map lD):=by
 intro k
 induction k with
 |zero=>
  intro i m a b hi hm _ _
  obtain⟨m,rfl⟩:∃m',m=m'+1:=⟨m-1,by omega⟩
  rw[abj,o9 (by omega),List.drop_eq_nil_of_le (by omega),List.flatMap_nil,List.map_nil,List.map_nil,List.append_nil,List.append_nil];rfl
 |succ k ih=>
  intro i m a b hi hm hc hd2
  obtain⟨m,rfl⟩:∃m',m=m'+1:=⟨m-1,by omega⟩
  have hlt:i<r.Marks.length:=by omega
  have hx:r.Marks[i]? =some r.Marks[i]:=List.getElem?_eq_getElem hlt
  have hd:r.Marks.drop i=r.Marks[i]::r.Marks.drop (i+1):=List.drop_eq_getElem_cons hlt
  rw[hd]
  generalize r.Marks[i]=x at hx⊢
  have h:=ih (i+1) m (a++[x.Count]) (b++[lD x.aO,lD x.aT]) (by omega) (by omega) (by rw[List.length_append,List.length_singleton];omega) (by rw[List.length_append];show b.length+2+_<_;omega)
  rw[List.append_assoc,List.append_assoc] at h
  rw[abj,o8 hx,cond_true,oh (by omega)]
  exact bs (iT hx) (gR (jy (by rw[List.length_singleton];omega) (by decide)) (gR (jy (by show b.length+2<2^30;omega) (by decide)) h))
theorem rName {n:Nat} {r:Root} (h:iU r) (hn:2^23<n):sJ n r=some (pF r):=by
 have hl:=h.len
 have hln:=Tn r
 rw[anf]
 refine bs (a:=(numsL r,(qR r).map lD)) ((anW (n:=n) (r:=r) (by omega) r.Marks.length 0 n _ _ (by omega) (by omega) ?_ ?_).trans ?_) ?_
 ·show 6+r.Marks.length<_;omega
 ·show 4+2*r.Marks.length<_;omega
 ·rw[List.drop_zero];unfold qR;rw[List.map_append];rfl
 ·refine bs (akU (l:=numsL r) (abv h) (by omega) (by omega) (by omega)) (gR (jy ?_ (by decide)) (bs (rOf (ls:=wF r) ?_ ?_ ?_ ?_ ?_ ?_) rfl))
  ·show 1+((qR r).map lD).length<_
   rw[List.length_map,Tm];omega
  ·intro x hx;have:=Tq h x hx;omega
  ·have:=M9 h;omega
  ·have:=M9 h;omega
  ·have:=G8 r;omega
  ·omega
  ·have:=G8 r;omega
end Sh
end
section
open Go Go.Proofs Aq
namespace Sh
def qU (k:Key):Bool:=decide (1≤k.dL∧k.dL≤2147483648∧1≤k.bP∧k.bP≤2147483648∧1≤k.fq.length∧k.fq.length≤64∧0≤k.From∧k.From<k.To∧k.To≤1048577)
theorem He (n:Nat) (a b c:Int):sG n (a,(b,c))=some (decide (b≤a)&& decide (a≤c)):=by
 rw[am2]
 show some (bif decide (b≤a) then decide (a≤c) else false)=some (decide (b≤a)&& decide (a≤c))
 cases decide (b≤a)<;>rfl
theorem anX {oA oB oC oD:Option Bool} {A B C D L M:Bool} (hA:oA=some A) (hB:oB=some B) (hC:oC=some C) (hD:oD=some D):
 (oA.bind fun (r2:Bool)=>
 (eY r2 oB false).bind fun (r3:Bool)=>
 (eY (bif r2 then r3 else false) oC false).bind fun (r4:Bool)=>
 (eY (bif bif r2 then r3 else false then r4 else false) oD false).bind fun (r5:Bool)=>
 some (bif bif bif bif bif r2 then r3 else false then r4 else false then r5 else false then L else false then M else false))=some (A&& B&& C&& D&& L&& M):=by
 subst hA hB hC hD
 cases A<;>cases B<;>cases C<;>cases D<;>cases L<;>cases M<;>rfl
theorem Na {n:Nat} {k:Key} (h:rI k.To):BN n k=some (qU k):=by
 rw[am3]
 refine(anX (L:=decide (k.To≤1048577)) (M:=decide (k.To>0)) (He ..) (He ..) (He ..) (He ..)).trans (congrArg some ?_)
 have ⟨h1,h2⟩:=h
 rw[Bool.eq_iff_iff]
 unfold qU
 simp only[Bool.and_eq_true,decide_eq_true_eq]
 have e:k.To>0→IntKind.wrap .i64 (k.To-1)=k.To-1:=fun h=>by rw[IntKind.wrap_i64];omega
 by_cases hp:k.To>0
 ·rw[show IntKind.wrap .i64 (k.To-(1:Int))=k.To-1 from e hp];omega
 ·constructor
  ·intro h;omega
  ·intro h;omega
theorem Hf (n:Nat) (k:Key):yB n k=some (qU k):=by
 rw[amW]
 have fin:∀(a b c d e f g h i:Bool),(bif (bif bif bif a then true else b then true else c then true else d) then some false else some (bif bif bif bif e then f else false then g else false then h else false then i else false))=some (!(a||b||c||d)&& (e&& f&& g&& h&& i)):=by
  intro a b c d e f g h i
  simp only[Tk,Cu]
  generalize (a||b||c||d)=x
  cases x<;>rfl
 refine(fin (decide (k.dL< (1:Int))) (decide (k.dL> (2147483648:Int))) (decide (k.bP< (1:Int))) (decide (k.bP> (2147483648:Int))) (decide ((k.fq.length:Int)≥(1:Int))) (decide ((k.fq.length:Int)≤(64:Int))) (decide (k.From≥(0:Int))) (decide (k.From<k.To)) (decide (k.To≤(1048577:Int)))).trans (congrArg some ?_)
 rw[Bool.eq_iff_iff]
 unfold qU
 simp only[Bool.and_eq_true,Bool.or_eq_false_iff,decide_eq_true_eq,Bool.not_eq_true',decide_eq_false_iff_not]
 omega
def uM:List (List (List UInt8))→Nat
 | []=>0
 |a::l=>a.length+uM l
theorem anY {n:Nat} {l:List (List (List UInt8))} (hb:l.length<2^20):∀(k i m s:Nat),i+k=l.length→k<m→s+uM (l.drop i)<2^28→GU n l m ((s:Int),(i:Int))=some ((s+uM (l.drop i):Nat):Int):=by
 intro k
 induction k with
 |zero=>
  intro i m s hi hm _
  obtain⟨m,rfl⟩:∃m',m=m'+1:=⟨m-1,by omega⟩
  rw[abf,o9 (by omega),List.drop_eq_nil_of_le (by omega)];rfl
 |succ k ih=>
  intro i m s hi hm hc
  obtain⟨m,rfl⟩:∃m',m=m'+1:=⟨m-1,by omega⟩
  have hlt:i<l.length:=by omega
  have hx:l[i]? =some l[i]:=List.getElem?_eq_getElem hlt
  have hd:l.drop i=l[i]::l.drop (i+1):=List.drop_eq_getElem_cons hlt
  rw[hd] at hc⊢
  generalize l[i]=x at hx hc⊢
  have e:uM (x::l.drop (i+1))=x.length+uM (l.drop (i+1)):=rfl
  have h:=ih (i+1) m (s+x.length) (by omega) (by omega) (by omega)
  rw[abf,o8 hx,cond_true,oh (by omega)]
  refine bs (iT hx) ?_
  rw[aj8 (show s+x.length<2^62 by omega)]
  refine bF (decide_eq_false (by omega)) ?_
  rw[h,e,Nat.add_assoc]
theorem anZ {n:Nat} {l:List (List (List UInt8))} (hb:l.length<2^20):∀(k i m:Nat) (a:List (List UInt8)),i+k=l.length→k<m→a.length+uM (l.drop i)<2^28→GV n l m (a,(i:Int))=some (a++(l.drop i).flatten):=by
 intro k
 induction k with
 |zero=>
  intro i m a hi hm _
  obtain⟨m,rfl⟩:∃m',m=m'+1:=⟨m-1,by omega⟩
  rw[abg,o9 (by omega),List.drop_eq_nil_of_le (by omega),List.flatten_nil,List.append_nil];rfl
 |succ k ih=>
  intro i m a hi hm hc
  obtain⟨m,rfl⟩:∃m',m=m'+1:=⟨m-1,by omega⟩
  have hlt:i<l.length:=by omega
  have hx:l[i]? =some l[i]:=List.getElem?_eq_getElem hlt
  have hd:l.drop i=l[i]::l.drop (i+1):=List.drop_eq_getElem_cons hlt
  rw[hd] at hc⊢
  generalize l[i]=x at hx hc⊢
  have e:uM (x::l.drop (i+1))=x.length+uM (l.drop (i+1)):=rfl
  have h:=ih (i+1) m (a++x) (by omega) (by omega) (by rw[List.length_append];omega)
  rw[abg,o8 hx,cond_true,oh (by omega),List.flatten_cons,←List.append_assoc]
  exact bs (iT hx) (gR (jy (by omega) (by decide)) h)
theorem an0 {k:Nat} (h:k<2^28):AU ((),((k:Nat):Int))=some []:=by
 unfold AU
 exact if_pos ⟨by show (0:Int)≤(k:Nat);omega,by show ((k:Nat):Int)≤2^40;omega⟩
theorem an1 {n:Nat} {l:List (List (List UInt8))} (hb:l.length<n) (hb2:l.length<2^20) (hs:uM l<2^28):BP n l=some l.flatten:=by
 rw[am9]
 have h1:=anY (n:=n) hb2 l.length 0 n 0 (by omega) hb (by rw[List.drop_zero];omega)
 have h2:=anZ (n:=n) hb2 l.length 0 n [] (by omega) hb (by rw[List.drop_zero];show 0+_<_;omega)
 rw[List.drop_zero] at h1 h2
 rw[Nat.zero_add] at h1
 exact bs h1 (bs (an0 hs) (bs h2 rfl))
def uN (k:Key) (b:List (List UInt8)):List (List UInt8):=[k.fq]++b++[k.fq]
def an2 (d:aI):Seal:=⟨d.b0,d.b1,d.b2,d.b3,d.b4,d.b5,d.b6,d.b7,d.b8,d.b9,d.b10,d.b11,d.b12,d.b13,d.b14,d.b15⟩
def yM (k:Key) (t:Int) (b:List (List UInt8)):Seal:=an2 (lC t (uN k b))
def Small (b:List (List UInt8)):Prop:=b.length<1000∧∀x∈b,x.length<1000
theorem Tt {k:Key} {b:List (List UInt8)} (hk:k.fq.length<1000) (hb:Small b):∀x∈uN k b,x.length<1000:=by
 intro x hx
 rcases List.mem_append.1 hx with hx|hx
 ·rcases List.mem_append.1 hx with hx|hx
  ·rw[List.mem_singleton.1 hx];exact hk
  ·exact hb.2 x hx
 ·rw[List.mem_singleton.1 hx];exact hk
theorem Tv (k:Key) (b:List (List UInt8)):(uN k b).length=b.length+2:=by
 unfold uN;rw[List.length_append,List.length_append,List.length_singleton];omega
theorem abx {k:Key} {b:List (List UInt8)} (hk:k.fq.length<1000) (hb:Small b):jd gP (uN k b)<2^22:=by
 have h1:=abw (Tt hk hb)
 have:=hb.1
 rw[Tv] at h1
 omega
theorem aby {n:Nat} {k:Key} {t:Int} {b:List (List UInt8)} (hk:k.fq.length<1000) (hb:Small b) (hn:2^23<n):yF n (k,(t,b))=some (yM k t b):=by
 have h0:=hb.1
 have hl:=Tv k b
 have hz:=abx hk hb
 rw[ana]
 refine bs (a:=uN k b) ((an1 (l:=[[k.fq],b,[k.fq]]) (by show 3<n;omega) (by show 3<2^20;decide) (by show 1+(b.length+(1+0))<_;omega)).trans ?_) (bs (Sd (ls:=uN k b) ?_ ?_ ?_ ?_ ?_ ?_) rfl)
 ·unfold uN;simp;rfl
 ·intro x hx;have:=Tt hk hb x hx;omega
 ·omega
 ·omega
 ·omega
 ·omega
 ·omega
theorem abz {n:Nat} {k:Key} {t:Int} {b:List (List UInt8)} (hk:k.fq.length<1000) (hb:Small b) (hn:2^23<n):yH n (k,(t,b))=some (yM k t b):=by
 have h0:=hb.1
 have hl:=Tv k b
 have hz:=abx hk hb
 rw[anh]
 refine gR (jy (by show 1+b.length<_;omega) (by decide)) (gR (jy (by rw[List.length_append];show 1+b.length+1<_;omega) (by decide)) (bs (rOf (ls:=uN k b) ?_ ?_ ?_ ?_ ?_ ?_) rfl))
 ·intro x hx;have:=Tt hk hb x hx;omega
 ·omega
 ·omega
 ·omega
 ·omega
 ·omega
def jA (a b:Key):Bool:=decide (a.dL<b.dL∨(a.dL=b.dL∧a.bP<b.bP))
def isK (p s:Int) (k:Key):Bool:=decide (k.dL=p∧k.bP=s)
theorem an3 (n:Nat) (a b:Key):BK n (a,b)=some (jA a b):=by
 rw[amX]
 have fin:∀x y z:Bool,(bif x then true else bif y then z else false)=(x||(y&& z)):=by decide
 refine congrArg some ((fin (decide (a.dL<b.dL)) (a.dL==b.dL) (decide (a.bP<b.bP))).trans ?_)
 rw[Bool.eq_iff_iff]
 unfold jA
 simp only[Bool.or_eq_true,Bool.and_eq_true,decide_eq_true_eq,beq_iff_eq]
def Cv (l:List Key) (i:Nat):Bool:=match l[i]? with
 |some k=>qU k&& (decide (i=0)||match l[i-1]? with
  |some p=>jA p k
  |none=>true)
 |none=>true
def wG (l:List Key):Nat→Nat→Bool
 |_,0=>true
 |i,k+1=>Cv l i&& wG l (i+1) k
theorem abA (l:List Key) (i k:Nat):wG l i (k+1)=(Cv l i&& wG l (i+1) k):=rfl
theorem Tw {l:List Key} {i:Nat} {m:Key} (h:l[i]? =some m):Cv l i=(qU m&& (decide (i=0)||match l[i-1]? with
 |some p=>jA p m
 |none=>true)):=by unfold Cv;rw[h]
theorem an4 {n:Nat} {r:List Key} (hb:r.length<2^62):∀(k i m:Nat),i+k=r.length→k<m→wC n r m (i:Int)=some (bif wG r i k then .inl () else .inr false):=by
 intro k
 induction k with
 |zero=>
  intro i m hi hm
  obtain⟨m,rfl⟩:∃m',m=m'+1:=⟨m-1,by omega⟩
  rw[abb,o9 (by omega)];rfl
 |succ k ih=>
  intro i m hi hm
  obtain⟨m,rfl⟩:∃m',m=m'+1:=⟨m-1,by omega⟩
  have hlt:i<r.length:=by omega
  have hx:r[i]? =some r[i]:=List.getElem?_eq_getElem hlt
  generalize r[i]=x at hx
  have ih':=ih (i+1) m (by omega) (by omega)
  rw[abb,o8 hx,cond_true,oh (by omega),ih',abA,Tw hx]
  refine bs (iT hx) (bs (Hf n x) ?_)
  cases hw:qU x
  ·rfl
  ·refine bT rfl ?_
   by_cases h0:i=0
   ·subst h0;rfl
   ·have e2:decide ((i:Int)>0)=true:=by simp;omega
    have hp:r[i-1]? =some r[i-1]:=List.getElem?_eq_getElem (by omega)
    generalize r[i-1]=p at hp
    have e3:decide (i=0)=false:=decide_eq_false h0
    rw[e2,hp,e3,RN (by omega) (by omega)]
    refine bT rfl (bs (iT hp) (bs (iT hx) (bs (an3 n p x) ?_)))
    show _=some (bif (true&& (false||jA p x))&& wG r (i+1) k then _ else _)
    cases jA p x<;>rfl
def lF (l:List Key):Bool:=wG l 0 l.length&& decide (l.length≤500)
theorem an5 {n:Nat} {l:List Key} (hb:l.length<2^62) (hn:l.length<n):wu n l=some (lF l):=by
 rw[amY,show wC n l n (0:Int)=wC n l n ((0:Nat):Int) from rfl,an4 hb l.length 0 n (by omega) hn]
 unfold lF
 cases wG l 0 l.length
 ·rfl
 ·refine congrArg some ((show (_:Bool)=decide (l.length≤500) from ?_).trans (Bool.true_and _).symm)
  rw[Bool.eq_iff_iff];simp;omega
theorem abB {l:List Key}:∀{k i j:Nat},wG l i k=true→i≤j→j<i+k→Cv l j=true
 |0,i,j,_,h1,h2=>by omega
 |k+1,i,j,h,h1,h2=>by
  rw[abA,Bool.and_eq_true] at h
  by_cases e:i=j
  ·rw[←e];exact h.1
  ·exact abB h.2 (by omega) (by omega)
theorem abC {l:List Key} (h:lF l=true) {i:Nat} (hi:i<l.length):Cv l i=true:=by
 unfold lF at h
 rw[Bool.and_eq_true] at h
 exact abB h.1 (Nat.zero_le _) (by omega)
theorem abD {l:List Key} (h:lF l=true) {k:Key} (hk:k∈l):qU k=true:=by
 obtain⟨i,hi,rfl⟩:=List.getElem_of_mem hk
 have:=abC h hi
 rw[Tw (List.getElem?_eq_getElem hi),Bool.and_eq_true] at this
 exact this.1
theorem Tx {a b c:Key} (h1:jA a b=true) (h2:jA b c=true):jA a c=true:=by
 unfold jA at*
 rw[decide_eq_true_eq] at*
 omega
theorem Nb {l:List Key} (h:lF l=true):∀{j i:Nat} (hij:i<j) (hj:j<l.length),jA (l[i]'(by omega)) l[j]=true
 |0,i,hij,_=>by omega
 |j+1,i,hij,hj=>by
  have h1:jA (l[j]'(by omega)) l[j+1]=true:=by
   have:=abC h hj
   rw[Tw (List.getElem?_eq_getElem hj),Bool.and_eq_true] at this
   have h2:=this.2
   rw[show j+1-1=j from rfl,List.getElem?_eq_getElem (show j<l.length by omega),decide_eq_false (show¬j+1=0 by omega),Bool.false_or] at h2
   exact h2
  by_cases e:i=j
  ·subst e;exact h1
  ·exact Tx (Nb h (show i<j by omega) (by omega)) h1
end Sh
end
section
open Go Go.Proofs Aq
namespace Sh
def yN (a b:Int):Int:=if a<b then-1 else if a>b then 1 else 0
theorem abE (n:Nat) (a b:Int):cmp_Compare_int n (a,b)=some (yN a b):=by
 have h:∀x:Int,cmp_isNaN_int n x=some false:=fun x=>by
  rw[ank]
  exact congrArg some (show (x !=x)=false by simp)
 rw[anl]
 refine bs (h a) (bs (h b) (bF rfl (bF rfl ?_)))
 unfold yN
 by_cases h1:a<b
 ·rw[if_pos h1];exact bT (decide_eq_true h1) rfl
 ·rw[if_neg h1]
  refine bF (decide_eq_false h1) ?_
  by_cases h2:a>b
  ·rw[if_pos h2];exact bT (decide_eq_true h2) rfl
  ·rw[if_neg h2];exact bF (decide_eq_false h2) rfl
def Cw (a b:Key):Int:=if yN a.dL b.dL≠0 then yN a.dL b.dL else yN a.bP b.bP
theorem an6 {n:Nat} (hn:3<n) (a b:Int):BX n [a,b]=some (if a≠0 then a else b):=by
 obtain⟨m,rfl⟩:∃m,n=m+1+1+1:=⟨n-3,by omega⟩
 refine(anm _ [a,b]).trans ?_
 generalize hf:m+1+1+1=f
 have h0:GY f [a,b] (m+1+1+1) (0:Int)=some (if a≠0 then .inr a else if b≠0 then .inr b else .inl ()):=by
  rw[Tj]
  refine bT rfl (bs (a:=a) rfl ?_)
  by_cases h:a=0
  ·refine bF (by rw[h];rfl) ?_
   rw[if_neg (by omega)]
   rw[show IntKind.wrap .i64 ((0:Int)+(1:Int))=(1:Int) by decide,Tj]
   refine bT rfl (bs (a:=b) rfl ?_)
   by_cases h2:b=0
   ·refine bF (by rw[h2];rfl) ?_
    rw[if_neg (by omega)]
    rw[show IntKind.wrap .i64 ((1:Int)+(1:Int))=(2:Int) by decide,Tj]
    exact bF rfl rfl
   ·rw[if_pos h2];exact bT (by simpa using h2) rfl
  ·rw[if_pos h];exact bT (by simpa using h) rfl
 rw[hf] at h0
 refine bs h0 ?_
 by_cases h:a=0
 ·subst h
  by_cases h2:b=0
  ·subst h2;rfl
  ·rw[if_neg (c:=(0:Int)≠0) (by omega),if_neg (c:=(0:Int)≠0) (by omega),if_pos h2];rfl
 ·rw[if_pos h,if_pos h];rfl
theorem abF {n:Nat} (hn:3<n) (a b:Key):yI n (a,b)=some (Cw a b):=by
 rw[anp]
 refine bs (a:=Cw a b) ?_ rfl
 rw[ano]
 exact bs (abE ..) (bs (abE ..) (bs (an6 hn ..) rfl))
theorem an7 (a b:Key):decide (Cw a b<0)=jA a b:=by
 rw[Bool.eq_iff_iff]
 unfold Cw jA yN
 simp only[decide_eq_true_eq]
 split<;>(repeat' split)<;>omega
theorem an8 (a b:Key):(Cw a b==0)=isK b.dL b.bP a:=by
 rw[Bool.eq_iff_iff]
 unfold Cw isK yN
 simp only[decide_eq_true_eq,beq_iff_eq]
 split<;>(repeat' split)<;>omega
theorem an9 {i j:Nat} (hij:i<j) (hj:j<2^20):IntKind.wrap .i64 (gH .u64 (IntKind.wrap .u64 (IntKind.wrap .i64 ((i:Int)+(j:Int)))) (1:Int))=(((i+j)/2:Nat):Int):=by
 have e1:IntKind.wrap .i64 ((i:Int)+(j:Int))=((i+j:Nat):Int):=by rw[IntKind.wrap_i64];omega
 have e2:IntKind.wrap .u64 ((i+j:Nat):Int)=((i+j:Nat):Int):=by rw[IntKind.wrap_u64];omega
 rw[e1,e2]
 have e3:gH .u64 ((i+j:Nat):Int) (1:Int)=(((i+j)/2:Nat):Int):=by
  unfold gH
  show Int.fdiv _ 2=_
  rw[Int.fdiv_eq_ediv_of_nonneg _ (by decide)];omega
 rw[e3,IntKind.wrap_i64];omega
theorem aoa {n:Nat} {l:List Key} {t:Key} (hr:lF l=true) (hl:l.length<2^19) (hn:3<n):∀(d i j m:Nat),j-i≤d→d<m→i≤j→j≤l.length→
 (∀k (h:k<l.length),k<i→jA l[k] t=true)→(∀k (h:k<l.length),j≤k→jA l[k] t=false)→
 ∃p,Ct n l t m ((i:Int),(j:Int))=some ((p:Nat):Int)∧p≤l.length∧(∀k (h:k<l.length),k<p→jA l[k] t=true)∧(∀k (h:k<l.length),p≤k→jA l[k] t=false):=by
 intro d
 induction d with
 |zero=>
  intro i j m hd hm hij hj h1 h2
  obtain⟨m,rfl⟩:∃m',m=m'+1:=⟨m-1,by omega⟩
  obtain rfl:i=j:=by omega
  refine⟨i, ?_,hj,h1,h2⟩
  rw[M4]
  exact bF (decide_eq_false (by omega)) rfl
 |succ d ih=>
  intro i j m hd hm hij hj h1 h2
  obtain⟨m,rfl⟩:∃m',m=m'+1:=⟨m-1,by omega⟩
  by_cases e:i=j
  ·subst e
   refine⟨i, ?_,hj,h1,h2⟩
   rw[M4]
   exact bF (decide_eq_false (by omega)) rfl
  ·have hlt:i<j:=by omega
   have hmid:=an9 hlt (show j<2^20 by omega)
   have hk:(i+j)/2<l.length:=by omega
   have hget:=List.getElem?_eq_getElem hk
   have hpl:=abF hn l[(i+j)/2] t
   have ho:=an7 l[(i+j)/2] t
   cases hc:jA l[(i+j)/2] t
   ·obtain⟨p,g1,g2,g3,g4⟩:=ih i ((i+j)/2) m (by omega) (by omega) (by omega) (by omega) h1 (by
     intro k hk2 hle
     by_cases e:k=(i+j)/2
     ·subst e;exact hc
     ·cases hx:jA l[k] t
      ·rfl
      ·rw[Tx (Nb hr (show (i+j)/2<k by omega) hk2) hx] at hc;cases hc)
    refine⟨p, ?_,g2,g3,g4⟩
    rw[M4]
    refine bT (decide_eq_true (by omega)) (bT rfl ?_)
    rw[hmid]
    refine bs (iT hget) (bs hpl (bF (ho.trans hc) g1))
   ·obtain⟨p,g1,g2,g3,g4⟩:=ih ((i+j)/2+1) j m (by omega) (by omega) (by omega) (by omega) (by
     intro k hk2 hle
     by_cases e:k=(i+j)/2
     ·subst e;exact hc
     ·exact Tx (Nb hr (show k< (i+j)/2 by omega) hk) hc) h2
    refine⟨p, ?_,g2,g3,g4⟩
    rw[M4]
    refine bT (decide_eq_true (by omega)) (bT rfl ?_)
    rw[hmid]
    refine bs (iT hget) (bs hpl (bT (ho.trans hc) ?_))
    rw[oh (by omega)];exact g1
def abG:Key:=⟨(0:Int),(0:Int),[],(0:Int),(0:Int)⟩
theorem aob {n:Nat} {l:List Key} {p s:Int} (hr:lF l=true) (hl:l.length<2^19) (hn:l.length+3<n):Ca n (l,(p,s))=some (match l.find? (isK p s) with|some k=>(k,(0:Int))|none=>(abG,(5:Int))):=by
 obtain⟨q,g1,g2,g3,g4⟩:=aoa (n:=n) (t:=⟨p,s,[],(0:Int),(0:Int)⟩) hr hl (by omega) l.length 0 l.length n (by omega) (by omega) (by omega) (by omega) (fun k _ h=>by omega) (fun k h1 h2=>by omega)
 have hle:∀k:Key,isK p s k=true→jA k ⟨p,s,[],(0:Int),(0:Int)⟩=false:=by
  intro k hk
  unfold isK at hk;unfold jA
  rw[decide_eq_true_eq] at hk
  rw[decide_eq_false_iff_not];show¬(k.dL<p∨k.dL=p∧k.bP<s);omega
 have key:∀k (h:k<l.length),isK p s l[k]=true→k=q:=by
  intro k h hk
  rcases Nat.lt_trichotomy k q with hh|hh|hh
  ·have:=g3 k h hh
   rw[hle _ hk] at this;cases this
  ·exact hh
  ·have h5:=g4 q (by omega) (Nat.le_refl q)
   have h6:=Nb hr hh h
   have:jA l[q] ⟨p,s,[],(0:Int),(0:Int)⟩=true:=by
    unfold isK at hk;unfold jA at h6⊢
    rw[decide_eq_true_eq] at hk h6⊢
    show l[q].dL<p∨l[q].dL=p∧l[q].bP<s
    omega
   rw[this] at h5;cases h5
 have hp:∃b,BZ n (l,(p,s))=some ((q:Int),b)∧b=(match l[q]? with|some k=>isK p s k|none=>false):=by
  refine⟨_, ?_,rfl⟩
  rw[anr]
  refine bs (a:=((q:Int),_)) ?_ rfl
  rw[anq]
  refine bs g1 ?_
  by_cases hq:q<l.length
  ·have hx:=List.getElem?_eq_getElem hq
   rw[hx]
   refine bT (decide_eq_true (by omega)) (bs (iT hx) (bs (abF (by omega) ..) (congrArg some (congrArg (Prod.mk (q:Int)) ?_))))
   exact an8 ..
  ·rw[List.getElem?_eq_none (by omega)]
   exact bF (decide_eq_false (by omega)) rfl
 obtain⟨b,hp,hb⟩:=hp
 rw[ant]
 refine bs hp ?_
 cases hf:l.find? (isK p s) with
 |some k=>
  have hk:=List.find?_some hf
  obtain⟨i,hi,rfl⟩:=List.getElem_of_mem (List.mem_of_find?_eq_some hf)
  obtain rfl:=key i hi hk
  have hx:=List.getElem?_eq_getElem hi
  rw[hx] at hb
  have hb':b=true:=hb.trans hk
  subst hb'
  exact bF rfl (bs (iT hx) rfl)
 |none=>
  have hb':b=false:=by
   rw[hb]
   cases hx:l[q]? with
   |none=>rfl
   |some k=>
    have:=List.find?_eq_none.1 hf k (List.mem_of_getElem? hx)
    exact(Bool.not_eq_true _).mp this
  subst hb'
  exact bT rfl rfl
theorem aoc {n:Nat} {l:List Key} {p s:Int} (hb:l.length<2^62):∀(k i m:Nat) (x:dR),i+k=l.length→k<m→GZ n l p s m ((i:Int),x)=some (match (l.drop i).find? (isK p s) with|some k=>.inr ((),⟨k,(0:Int)⟩)|none=>.inl ((),x)):=by
 intro k
 induction k with
 |zero=>
  intro i m x hi hm
  obtain⟨m,rfl⟩:∃m',m=m'+1:=⟨m-1,by omega⟩
  rw[abl,o9 (by omega),List.drop_eq_nil_of_le (by omega)];rfl
 |succ k ih=>
  intro i m x hi hm
  obtain⟨m,rfl⟩:∃m',m=m'+1:=⟨m-1,by omega⟩
  have hlt:i<l.length:=by omega
  have hx:l[i]? =some l[i]:=List.getElem?_eq_getElem hlt
  have hd:l.drop i=l[i]::l.drop (i+1):=List.drop_eq_getElem_cons hlt
  have ih':=ih (i+1) m x (by omega) (by omega)
  rw[hd,List.find?_cons]
  generalize l[i]=y at hx⊢
  rw[abl,o8 hx,cond_true,oh (by omega)]
  refine bs (iT hx) (lU (iT hx) ?_)
  by_cases h1:y.dL=p
  ·by_cases h2:y.bP=s
   ·rw[show isK p s y=true from decide_eq_true ⟨h1,h2⟩]
    refine bT ?_ (bs (iT hx) rfl)
    subst h1;subst h2
    show (bif y.dL==y.dL then _ else false)=true
    rw[beq_self_eq_true,cond_true,cond_true];exact beq_self_eq_true _
   ·rw[show isK p s y=false from decide_eq_false fun h=>h2 h.2]
    refine bF ?_ ih'
    subst h1
    show (bif y.dL==y.dL then _ else false)=false
    rw[beq_self_eq_true,cond_true,cond_true];exact beq_eq_false_iff_ne.2 h2
  ·rw[show isK p s y=false from decide_eq_false fun h=>h1 h.1]
   refine bF ?_ ih'
   show (bif y.dL==p then _ else false)=false
   rw[beq_eq_false_iff_ne.2 h1];rfl
theorem aod {n:Nat} {l:List Key} {p s:Int} (hl:l.length<2^62) (hn:l.length<n):Ce n (l,(p,s))=some (match l.find? (isK p s) with|some k=>(⟨k,(0:Int)⟩:dR)|none=>⟨abG,(5:Int)⟩):=by
 rw[anx]
 refine bs (aoc hl l.length 0 n _ (by omega) hn) ?_
 rw[List.drop_zero]
 cases l.find? (isK p s)<;>rfl
def Hg (l:List Key) (p s t:Int) (b:List (List UInt8)) (x:Seal) (day:Int):Int:=match l.find? (isK p s) with
 |none=>5
 |some k=>if k.From≤day∧day<k.To then (if yM k t b=x then 0 else 8) else 9
theorem abH (x y:Seal):((x.b0==y.b0)&& ((x.b1==y.b1)&& ((x.b2==y.b2)&& ((x.b3==y.b3)&& ((x.b4==y.b4)&& ((x.b5==y.b5)&& ((x.b6==y.b6)&& ((x.b7==y.b7)&& ((x.b8==y.b8)&& ((x.b9==y.b9)&& ((x.b10==y.b10)&& ((x.b11==y.b11)&& ((x.b12==y.b12)&& ((x.b13==y.b13)&& ((x.b14==y.b14)&& ((x.b15==y.b15)&& true))))))))))))))))=decide (x=y):=by
 rw[Bool.eq_iff_iff]
 simp only[Bool.and_eq_true,beq_iff_eq,decide_eq_true_eq,and_true]
 constructor
 ·intro h
  obtain⟨h0,h1,h2,h3,h4,h5,h6,h7,h8,h9,h10,h11,h12,Tz,TA,TB⟩:=h
  cases x;cases y
  simp only at*
  subst h0 h1 h2 h3 h4 h5 h6 h7 h8 h9 h10 h11 h12 Tz TA TB
  rfl
 ·rintro rfl
  exact⟨rfl,rfl,rfl,rfl,rfl,rfl,rfl,rfl,rfl,rfl,rfl,rfl,rfl,rfl,rfl,rfl⟩
theorem TD {k:Key} (h:qU k=true):1≤k.dL∧k.dL≤2147483648∧1≤k.bP∧k.bP≤2147483648∧1≤k.fq.length∧k.fq.length≤64∧0≤k.From∧k.From<k.To∧k.To≤1048577:=by
 unfold qU at h;exact of_decide_eq_true h
theorem aoe {n:Nat} {l:List Key} {p s t day:Int} {b:List (List UInt8)} {x:Seal} (hr:lF l=true) (hl:l.length<2^19) (hb:Small b) (hn:2^23<n):Cc n (l,(p,(s,(t,(b,(x,day))))))=some (Hg l p s t b x day):=by
 rw[anv]
 refine bs (aob hr hl (by omega)) ?_
 unfold Hg
 cases hf:l.find? (isK p s) with
 |none=>rfl
 |some k=>
  have hk:=TD (abD hr (List.mem_of_find?_eq_some hf))
  have hc:Cb n (k,day)=some (decide (k.From≤day∧day<k.To)):=by
   rw[anu]
   refine bs (He ..) (congrArg some ?_)
   rw[show IntKind.wrap .i64 (k.To-(1:Int))=k.To-1 by rw[IntKind.wrap_i64];omega,Bool.eq_iff_iff]
   simp only[Bool.and_eq_true,decide_eq_true_eq];omega
  refine bF rfl (bs hc ?_)
  show _=some (if k.From≤day∧day<k.To then (if yM k t b=x then (0:Int) else 8) else 9)
  by_cases h:k.From≤day∧day<k.To
  ·rw[if_pos h]
   refine bF (by rw[decide_eq_true h];rfl) (bs (aby (by show k.fq.length<1000;omega) hb hn) ?_)
   rw[abH]
   by_cases e:yM k t b=x
   ·rw[if_pos e];exact bF (by rw[decide_eq_true e];rfl) rfl
   ·rw[if_neg e];exact bT (by rw[decide_eq_false e];rfl) rfl
  ·rw[if_neg h];exact bT (by rw[decide_eq_false h];rfl) rfl
theorem aof {n:Nat} {l:List Key} {p s t day:Int} {b:List (List UInt8)} {x:Seal} (hr:lF l=true) (hl:l.length<2^19) (hb:Small b) (hn:2^23<n):Ch n (l,(p,(s,(t,(b,(x,day))))))=some (Hg l p s t b x day):=by
 rw[anA]
 refine bs (aod (by omega) (by omega)) ?_
 unfold Hg
 cases hf:l.find? (isK p s) with
 |none=>rfl
 |some k=>
  have hk:=TD (abD hr (List.mem_of_find?_eq_some hf))
  have hc:Cg n (k,day)=some (decide (k.From≤day∧day<k.To)):=by
   rw[anz]
   refine congrArg some ((Tk (decide (k.From≤day)) (decide (day<k.To))).trans ?_)
   rw[Bool.eq_iff_iff]
   simp only[Bool.and_eq_true,decide_eq_true_eq]
  refine bF rfl (bs hc ?_)
  show _=some (if k.From≤day∧day<k.To then (if yM k t b=x then (0:Int) else 8) else 9)
  by_cases h:k.From≤day∧day<k.To
  ·rw[if_pos h]
   refine bF (by rw[decide_eq_true h];rfl) (bs (abz (by show k.fq.length<1000;omega) hb hn) ?_)
   rw[abH]
   by_cases e:yM k t b=x
   ·rw[if_pos e];exact bF (by rw[decide_eq_true e];rfl) rfl
   ·rw[if_neg e];exact bT (by rw[decide_eq_false e];rfl) rfl
  ·rw[if_neg h];exact bT (by rw[decide_eq_false h];rfl) rfl
end Sh
end
section
open Go Go.Proofs Aq
namespace Sh
theorem Hl (x y:aI):((x.b0==y.b0)&& ((x.b1==y.b1)&& ((x.b2==y.b2)&& ((x.b3==y.b3)&& ((x.b4==y.b4)&& ((x.b5==y.b5)&& ((x.b6==y.b6)&& ((x.b7==y.b7)&& ((x.b8==y.b8)&& ((x.b9==y.b9)&& ((x.b10==y.b10)&& ((x.b11==y.b11)&& ((x.b12==y.b12)&& ((x.b13==y.b13)&& ((x.b14==y.b14)&& ((x.b15==y.b15)&& true))))))))))))))))=decide (x=y):=by
 rw[Bool.eq_iff_iff]
 simp only[Bool.and_eq_true,beq_iff_eq,decide_eq_true_eq,and_true]
 constructor
 ·intro h
  obtain⟨h0,h1,h2,h3,h4,h5,h6,h7,h8,h9,h10,h11,h12,Tz,TA,TB⟩:=h
  cases x;cases y
  simp only at*
  subst h0 h1 h2 h3 h4 h5 h6 h7 h8 h9 h10 h11 h12 Tz TA TB
  rfl
 ·rintro rfl
  exact⟨rfl,rfl,rfl,rfl,rfl,rfl,rfl,rfl,rfl,rfl,rfl,rfl,rfl,rfl,rfl,rfl⟩
theorem aog {n:Nat} {r:Root} (hb:r.Marks.length<2^62):∀(k i m:Nat),i+k=r.Marks.length→k<m→Cr n r r m (i:Int)=some (.inl ()):=by
 intro k
 induction k with
 |zero=>
  intro i m hi hm
  obtain⟨m,rfl⟩:∃m',m=m'+1:=⟨m-1,by omega⟩
  rw[abk,o9 (by omega)];rfl
 |succ k ih=>
  intro i m hi hm
  obtain⟨m,rfl⟩:∃m',m=m'+1:=⟨m-1,by omega⟩
  have hlt:i<r.Marks.length:=by omega
  have hx:r.Marks[i]? =some r.Marks[i]:=List.getElem?_eq_getElem hlt
  generalize r.Marks[i]=x at hx
  have ih':=ih (i+1) m (by omega) (by omega)
  rw[abk,o8 hx,cond_true,oh (by omega),ih']
  refine bs (iT hx) (bs (iT hx) (bF ?_ rfl))
  simp only[beq_self_eq_true,Bool.and_self,Bool.not_true]
theorem aoh {n:Nat} {r:Root} (hb:r.Marks.length<2^62) (hn:r.Marks.length<n):BU n (r,r)=some true:=by
 rw[anj]
 refine bF (by simp) (bs ((aog hb r.Marks.length 0 n (by omega) hn:Cr n r r n ((0:Nat):Int)=_)) ?_)
 refine bF ?_ (congrArg some ?_)
 ·simp only[bne_self_eq_false,beq_self_eq_true,Bool.and_self,Bool.not_true,cond_false]
 ·simp only[beq_self_eq_true,Bool.and_self,cond_true]
structure Ho (r:Root):Prop where
 off:rI r.bN
 com:rI r.aZ
 day:rI r.Day
 M6:rI r.Floor
 M7:rI r.fK
 M8:rI r.fM
 ser:rI r.bP
 cnt:∀m∈r.Marks,rI m.Count
theorem Ho.ok {r:Root} (h:Ho r) (hl:r.Marks.length<300):iU r:=⟨hl,h.off,h.com,h.day,h.M6,h.M7,h.M8,h.ser,h.cnt⟩
def Hq (r:Root) (s:Int):Root:=⟨r.bN,r.aZ,r.Day,r.Floor,r.au,r.ak,r.Marks,r.Gone,r.fK,r.ay,r.fM,s,r.Seal⟩
theorem abI {n:Nat} {r:Root} (h:iU r) (hn:2^23<n):yD n r=some (lD (pF r)):=by
 rw[am8];exact bs (G9 h hn) rfl
theorem abJ {n:Nat} {r:Root} (h:iU r) (hn:2^23<n):yG n r=some [lD (pF r)]:=by
 rw[ang];exact bs (rName h hn) rfl
theorem Nc (d:aI):Small [lD d]:=⟨by show 1<1000;decide,fun x hx=>by rw[List.mem_singleton.1 hx,abq];decide⟩
theorem aoi {n:Nat} {k:Key} {r:Root} (h:iU r) (hk:rI k.To) (hs:rI k.bP) (hn:2^23<n):∃R e,BQ n (k,r)=some (R,e)∧BS n (k,r)=some ⟨R,e⟩∧R.Marks.length<300:=by
 have hl:=h.len
 have h':iU (Hq r k.bP):=⟨h.len,h.off,h.com,h.day,h.M6,h.M7,h.M8,hs,h.cnt⟩
 have e1:=G6 (n:=n) (r:=Hq r k.bP) (by show r.Marks.length<_;omega) (by show r.Marks.length<_;omega)
 have e2:=G7 (n:=n) (r:=Hq r k.bP) (by show r.Marks.length<_;omega) (by show r.Marks.length<_;omega)
 rw[anb,ani]
 cases hv:mq (Hq r k.bP)
 ·rw[hv] at e1 e2
  refine⟨_,_,bs e1 (lU (Na hk) (bT ?_ rfl)),bs e2 (lU (Hf n k) (bT ?_ rfl)),by show 0<300;decide⟩
  ·rfl
  ·rfl
 ·rw[hv] at e1 e2
  cases hkb:qU k
  ·refine⟨_,_,bs e1 (lU (Na hk) (bT ?_ rfl)),bs e2 (lU (Hf n k) (bT ?_ rfl)),by show 0<300;decide⟩
   ·rw[hkb];rfl
   ·rw[hkb];rfl
  ·have hkk:=TD hkb
   by_cases hp:k.dL=IntKind.wrap .i64 ((1073741824:Int)+r.bN)
   ·refine⟨_,_,bs e1 (lU (Na hk) (bF ?_ (bs (a:=r.Marks) ?_ (bs (abI h' hn) (bs (aby (b:=[lD (pF (Hq r k.bP))]) (by omega) (Nc _) hn) rfl))))),bs e2 (lU (Hf n k) (bF ?_ (bs (abJ h' hn) (bs (abz (by omega) (Nc _) hn) rfl)))),by show r.Marks.length<300;omega⟩
    ·rw[hkb];exact bne_eq_false_iff_eq.2 hp
    ·exact(alO n r.Marks).trans (if_pos (by omega))
    ·rw[hkb];exact bne_eq_false_iff_eq.2 hp
   ·refine⟨_,_,bs e1 (lU (Na hk) (bT ?_ rfl)),bs e2 (lU (Hf n k) (bT ?_ rfl)),by show 0<300;decide⟩
    ·rw[hkb];exact bne_iff_ne.2 hp
    ·rw[hkb];exact bne_iff_ne.2 hp
def oo (l:List Key) (r:Root):Int:=if mq r=true then Hg l (IntKind.wrap .i64 ((1073741824:Int)+r.bN)) r.bP 362 [lD (pF r)] r.Seal r.Day else 1
theorem TF {n:Nat} {l:List Key} {r:Root} (h:iU r) (hr:lF l=true) (hl:l.length<2^19) (hn:2^23<n):wB n (l,r)=some (oo l r):=by
 have:=h.len
 rw[anw]
 refine bs (G6 (by omega) (by omega)) ?_
 unfold oo
 cases mq r
 ·rfl
 ·exact bF rfl (bs (abI h hn) (bs (aoe hr hl (Nc _) hn) rfl))
theorem Hr {n:Nat} {l:List Key} {r:Root} (h:iU r) (hr:lF l=true) (hl:l.length<2^19) (hn:2^23<n):sK n (l,r)=some (oo l r):=by
 have:=h.len
 rw[anB]
 refine bs (G7 (by omega) (by omega)) ?_
 unfold oo
 cases mq r
 ·rfl
 ·exact bF rfl (bs (abJ h hn) (bs (aof hr hl (Nc _) hn) rfl))
def yO (a b:Root):Int:=
 if mq a=false∨mq b=false∨a.bN≠b.bN then 1
 else if b.aZ≠IntKind.wrap .i64 (a.aZ+(1:Int))∨b.Day<a.Day∨b.Floor<a.Floor then 9
 else if a.ak=b.ak∧b.au=pF a then 0 else 3
theorem abK {a b:Root} {oa ob:Option Bool} {on:Option aI} (ha:oa=some (mq a)) (hb:ob=some (mq b)) (hn:on=some (pF a)):
 (oa.bind fun (r3:Bool)=>
 (eY (!(!r3)) ob false).bind fun (r4:Bool)=>
 bif bif bif !r3 then true else !r4 then true else a.bN !=b.bN then
  some ((1:Int))
 else
  bif bif bif b.aZ !=(Go.IntKind.wrap Go.IntKind.i64 (a.aZ+((1:Int)))) then true else decide (b.Day<a.Day) then true else decide (b.Floor<a.Floor) then
   some ((9:Int))
  else
   bif !(!decide (a.ak=b.ak)) then
    on.bind fun (r5:aI)=>
    bif !(decide (b.au=r5)) then
     some ((3:Int))
    else
     some ((0:Int))
   else
    some ((3:Int)))=some (yO a b):=by
 subst ha hb hn
 unfold yO
 cases h1:mq a
 ·rw[if_pos (Or.inl rfl)];rfl
 ·cases h2:mq b
  ·rw[if_pos (Or.inr (Or.inl rfl))];rfl
  ·by_cases h3:a.bN=b.bN
   ·rw[if_neg (by simp[h3])]
    refine bs rfl (bs rfl (bF (bne_eq_false_iff_eq.2 h3) ?_))
    by_cases h4:b.aZ≠IntKind.wrap .i64 (a.aZ+(1:Int))∨b.Day<a.Day∨b.Floor<a.Floor
    ·rw[if_pos h4]
     refine bT ?_ rfl
     rw[Cu,Cu]
     simp only[Bool.or_eq_true,bne_iff_ne,decide_eq_true_eq];omega
    ·rw[if_neg h4]
     refine bF ?_ ?_
     ·rw[Cu,Cu]
      simp only[Bool.or_eq_false_iff,bne_eq_false_iff_eq,decide_eq_false_iff_not];omega
     ·by_cases h5:a.ak=b.ak
      ·refine bT (by rw[decide_eq_true h5];rfl) (bs rfl ?_)
       by_cases h6:b.au=pF a
       ·rw[if_pos ⟨h5,h6⟩];exact bF (by rw[decide_eq_true h6];rfl) rfl
       ·rw[if_neg (fun h=>h6 h.2)];exact bT (by rw[decide_eq_false h6];rfl) rfl
      ·rw[if_neg (fun h=>h5 h.1)];exact bF (by rw[decide_eq_false h5];rfl) rfl
   ·rw[if_pos (Or.inr (Or.inr h3))]
    exact bs rfl (bs rfl (bT (bne_iff_ne.2 h3) rfl))
theorem abL {n:Nat} {a b:Root} (ha:iU a) (hb:iU b) (hn:2^23<n):yJ n (a,b)=some (yO a b):=by
 have:=ha.len;have:=hb.len
 rw[anC]
 simp only[Hl]
 exact abK (G6 (by omega) (by omega)) (G6 (by omega) (by omega)) (G9 ha hn)
theorem abM {n:Nat} {a b:Root} (ha:iU a) (hb:iU b) (hn:2^23<n):yK n (a,b)=some (yO a b):=by
 have:=ha.len;have:=hb.len
 rw[anD]
 simp only[Hl]
 exact abK (G7 (by omega) (by omega)) (G7 (by omega) (by omega)) (rName ha hn)
def sN (l:List Key) (a b:Root):Bool:=decide (a.bN=b.bN∧oo l a=0∧oo l b=0)
theorem abN {n:Nat} {l:List Key} {a b:Root} (ha:iU a) (hb:iU b) (hr:lF l=true) (hl:l.length<2^19) (hn:2^23<n):yL n (l,(a,b))=some (sN l a b):=by
 rw[anE]
 refine lU (TF ha hr hl hn) (lU (TF hb hr hl hn) (congrArg some ?_))
 have fin:∀(o:Bool) (x y:Int),(bif bif o then (bif o then x else 0)==0 else false then (bif (bif o then (bif o then x else 0)==0 else false) then y else 0)==0 else false)=(o&& x==0&& y==0):=by
  intro o x y
  cases o
  ·rfl
  ·show (bif x==0 then (bif x==0 then y else 0)==0 else false)=(x==0&& y==0)
   cases x==0<;>rfl
 refine(fin (a.bN==b.bN) (oo l a) (oo l b)).trans ?_
 rw[Bool.eq_iff_iff]
 unfold sN
 simp only[Bool.and_eq_true,beq_iff_eq,decide_eq_true_eq,and_assoc]
def wH (l:List Key) (a b:Root):Bool:=decide (a.aZ=b.aZ)&& sN l a b&& !decide (pF a=pF b)
theorem abO {l:List Key} {a b:Root} (h:a.aZ=b.aZ) (h2:sN l a b=true):wH l a b= !decide (pF a=pF b):=by
 unfold wH;rw[h2,decide_eq_true h,Bool.true_and,Bool.true_and]
theorem Nf {l:List Key} {a b:Root} (h2:sN l a b=false):wH l a b=false:=by
 unfold wH;rw[h2,Bool.and_false,Bool.false_and]
theorem abP {l:List Key} {a b:Root} (h:¬a.aZ=b.aZ):wH l a b=false:=by
 unfold wH;rw[decide_eq_false h,Bool.false_and,Bool.false_and]
theorem TG {l:List Key} {a b:Root} (h:¬(a.bN=b.bN∧oo l a=0∧oo l b=0)):sN l a b=false:=decide_eq_false h
theorem aoj {n:Nat} {l:List Key} {a b:Root} (ha:iU a) (hb:iU b) (hr:lF l=true) (hl:l.length<2^19) (hn:2^23<n):Ci n (l,(a,b))=some (wH l a b):=by
 rw[anF]
 simp only[Hl]
 by_cases h:a.aZ=b.aZ
 ·refine bT (beq_iff_eq.2 h) (bs (abN ha hb hr hl hn) ?_)
  cases h2:sN l a b
  ·rw[Nf h2];rfl
  ·rw[abO h h2]
   exact bT rfl (bs (G9 ha hn) (bs (G9 hb hn) rfl))
 ·rw[abP h]
  exact bF (beq_eq_false_iff_ne.2 h) rfl
theorem aok {n:Nat} {l:List Key} {a b:Root} (ha:iU a) (hb:iU b) (hr:lF l=true) (hl:l.length<2^19) (hn:2^23<n):Cj n (l,(a,b))=some (wH l a b):=by
 rw[anG]
 simp only[Hl]
 refine bs (Hr ha hr hl hn) ?_
 by_cases h1:oo l a=0
 ·refine bT (beq_iff_eq.2 h1) (bs (Hr hb hr hl hn) ?_)
  by_cases h2:oo l b=0
  ·refine bT (beq_iff_eq.2 h2) ?_
   by_cases h3:a.bN=b.bN
   ·refine bT (beq_iff_eq.2 h3) ?_
    by_cases h4:a.aZ=b.aZ
    ·rw[abO h4 (decide_eq_true ⟨h3,h1,h2⟩)]
     exact bT (beq_iff_eq.2 h4) (bs (rName ha hn) (bs (rName hb hn) rfl))
    ·rw[abP h4];exact bF (beq_eq_false_iff_ne.2 h4) rfl
   ·rw[Nf (TG fun h=>h3 h.1)];exact bF (beq_eq_false_iff_ne.2 h3) rfl
  ·rw[Nf (TG fun h=>h2 h.2.2)];exact bF (beq_eq_false_iff_ne.2 h2) rfl
 ·rw[Nf (TG fun h=>h1 h.2.1)];exact bF (beq_eq_false_iff_ne.2 h1) rfl
def Ng (l:List Key) (a b:Root):Bool:=decide (b.aZ=IntKind.wrap .i64 (a.aZ+(1:Int)))&& sN l a b&& decide (yO a b≠0)
theorem aol {n:Nat} {l:List Key} {a b:Root} (ha:iU a) (hb:iU b) (hr:lF l=true) (hl:l.length<2^19) (hn:2^23<n):Ck n (l,(a,b))=some (Ng l a b):=by
 rw[anH]
 refine lU (abN ha hb hr hl hn) (lU (abL ha hb hn) (congrArg some ?_))
 have fin:∀(o x:Bool) (y:Int),(bif bif o then (bif o then x else false) else false then (bif (bif o then (bif o then x else false) else false) then y else 0) !=0 else false)=(o&& x&& y !=0):=by
  intro o x y
  cases o<;>cases x<;>rfl
 refine(fin (b.aZ==IntKind.wrap .i64 (a.aZ+(1:Int))) (sN l a b) (yO a b)).trans ?_
 rw[Bool.eq_iff_iff]
 unfold Ng
 simp only[Bool.and_eq_true,beq_iff_eq,decide_eq_true_eq,bne_iff_ne]
theorem aom {n:Nat} {l:List Key} {a b:Root} (ha:iU a) (hb:iU b) (hr:lF l=true) (hl:l.length<2^19) (hn:2^23<n):Cm n (l,(a,b))=some (Ng l a b):=by
 rw[anI]
 refine bs (Hr ha hr hl hn) (lU (Hr hb hr hl hn) (lU (abM ha hb hn) (congrArg some ?_)))
 have fin:∀(o c x:Bool) (y z:Int),(bif bif bif bif x then (bif x then y else 0)==0 else false then o else false then c else false then (bif (bif bif bif x then (bif x then y else 0)==0 else false then o else false then c else false) then z else 0) !=0 else false)=(x&& y==0&& o&& c&& z !=0):=by
  intro o c x y z
  cases x
  ·rfl
  ·show (bif bif bif y==0 then o else false then c else false then (bif (bif bif y==0 then o else false then c else false) then z else 0) !=0 else false)=(y==0&& o&& c&& z !=0)
   cases y==0<;>cases o<;>cases c<;>rfl
 refine(fin (a.bN==b.bN) (b.aZ==IntKind.wrap .i64 (a.aZ+(1:Int))) (oo l a==0) (oo l b) (yO a b)).trans ?_
 rw[Bool.eq_iff_iff]
 unfold Ng sN
 simp only[Bool.and_eq_true,beq_iff_eq,decide_eq_true_eq,bne_iff_ne]
 constructor
 ·rintro⟨⟨⟨⟨h1,h2⟩,h3⟩,h4⟩,h5⟩;exact⟨⟨h4,h3,h1,h2⟩,h5⟩
 ·rintro⟨⟨h4,h3,h1,h2⟩,h5⟩;exact⟨⟨⟨⟨h1,h2⟩,h3⟩,h4⟩,h5⟩
end Sh
end
section
open Go Go.Proofs Aq
namespace Sh
def Cy (r:Root):Bool:=decide (r.Marks.length≤20∨(256<r.Marks.length∧r.Marks.length<300))
theorem abQ (n:Nat) (r:Root):yA n r=some (Cy r):=by
 rw[amV]
 have fin:∀x y z:Bool,(bif x then true else bif y then z else false)=(x||(y&& z)):=by decide
 refine congrArg some ((fin (decide ((r.Marks.length:Int)≤(20:Int))) (decide ((r.Marks.length:Int)> (256:Int))) (decide ((r.Marks.length:Int)< (300:Int)))).trans ?_)
 rw[Bool.eq_iff_iff]
 unfold Cy
 simp only[Bool.or_eq_true,Bool.and_eq_true,decide_eq_true_eq]
 omega
theorem abR {r:Root} (h:Cy r=true):r.Marks.length<300:=by
 unfold Cy at h;have:=of_decide_eq_true h;omega
theorem aon (x:aI):decide (x=x)=true:=decide_eq_true rfl
theorem aoo {n:Nat} {r x:Root} {k:Key} {l:List Key} (hr:Ho r) (hx:Ho x) (hk1:rI k.To) (hk2:rI k.bP) (hn:2^23<n):MZ n (r,(x,(k,l)))=some true:=by
 rw[anJ]
 simp only[Hl]
 have hs:wz n ()=some true:=alz n ()
 refine bs (abQ n r) ?_
 cases f1:Cy r
 ·exact bs rfl (bs rfl (bT rfl (bs hs rfl)))
 refine lU (abQ n x) ?_
 cases f2:Cy x
 ·exact bs rfl (bT rfl (bs hs rfl))
 have hrL:=abR f1
 have hxL:=abR f2
 have qV:=hr.ok hrL
 have Cz:=hx.ok hxL
 by_cases s1:((k.fq.length:Nat):Int)>300
 ·refine(show Option.bind (eY (!(bif decide (((k.fq.length:Nat):Int)> (300:Int)) then true else decide (((l.length:Nat):Int)> (20:Int)))) (wu n l) false) _=some true from ?_)
  rw[decide_eq_true s1]
  exact bs rfl (bT rfl (bs hs rfl))
 by_cases s2:((l.length:Nat):Int)>20
 ·refine(show Option.bind (eY (!(bif decide (((k.fq.length:Nat):Int)> (300:Int)) then true else decide (((l.length:Nat):Int)> (20:Int)))) (wu n l) false) _=some true from ?_)
  rw[decide_eq_false s1,decide_eq_true s2]
  exact bs rfl (bT rfl (bs hs rfl))
 rw[decide_eq_false s1,decide_eq_false s2]
 refine lU (an5 (by omega) (by omega)) ?_
 cases hR:lF l
 ·exact bT rfl (bs hs rfl)
 have hl:l.length<2^19:=by omega
 obtain⟨R,e,g1,g2,g3⟩:=aoi (n:=n) qV hk1 hk2 hn
 refine bF rfl (bs g1 (bs g2 (bs (aoh (r:=R) (by omega) (by omega)) (bT rfl (bT ?_ (bs (G6 (by omega) (by omega)) (bs (G7 (by omega) (by omega)) (bT ?_ (bs (G9 qV hn) (bs (rName qV hn) (bT ?_ (bs (TF qV hR hl hn) (bs (Hr qV hR hl hn) (bF ?_ (bs hs (bT rfl (bs (abL qV Cz hn) (bs (abM qV Cz hn) (bT ?_ (bs (aoj qV Cz hR hl hn) (bs (aok qV Cz hR hl hn) (bT ?_ (bs (aol qV Cz hR hl hn) (bs (aom qV Cz hR hl hn) (congrArg some ?_)))))))))))))))))))))))))
 ·exact(show∀e:Int,(!(e !=e))=true from fun e=>by rw[bne_self_eq_false];rfl) e
 ·show (!(!(mq r==mq r)))=true
  rw[beq_self_eq_true];rfl
 ·rw[aon];rfl
 ·exact bne_self_eq_false _
 ·exact beq_self_eq_true _
 ·exact beq_self_eq_true _
 ·exact beq_self_eq_true _
end Sh
end
section
namespace Go.Proofs.YtdcnajadcbedkaaGreatDoor.daybook
open Go Go.ChangeShapes Go.WideShapes Go.ChangeAt Go.RowKit Aq Sh
set_option maxRecDepth 100000
theorem Nh {l:List V} {v:V} (h:v∈l):eZ v≤kE l:=by
 induction l with
 |nil=>cases h
 |cons x l ih=>
  rcases List.mem_cons.1 h with rfl|h
  ·show eZ v≤eZ v+kE l;omega
  ·have:=ih h
   show eZ v≤eZ x+kE l;omega
theorem aor {α:Type} (f:α→V) {l:List α} {x:α} (h:x∈l):eZ (f x)≤kE (l.map f):=Nh (List.mem_map_of_mem h)
theorem sO {n:Int} {k:Nat} (h:eZ (V.int .i64 n)≤k) (hk:k<2^62):rI n:=by
 have h1:1+AA .i64 n≤k:=h
 have h2:=ah1 (k:=.i64) (n:=n) (by omega)
 exact⟨h2.1,by have:=h2.2;have e:IntKind.max .i64=2^63-1:=by decide
               rw[e] at this;omega⟩
theorem aos {m:Sh.Mark} {k:Nat} (h:eZ (Sh.Mark.v m)≤k) (hk:k<2^62):rI m.Count:=by
 refine sO (k:=k) (Nat.le_trans (Nh (l:=m.c) ?_) h) hk
 unfold Sh.Mark.c;simp
theorem abS {r:Sh.Root} {k:Nat} (h:eZ (Sh.Root.v r)≤k) (hk:k<2^62):Ho r:=by
 have hm:∀v∈r.c,eZ v≤k:=fun v hv=>Nat.le_trans (Nh hv) h
 refine⟨sO (hm _ ?_) hk,sO (hm _ ?_) hk,sO (hm _ ?_) hk,sO (hm _ ?_) hk,sO (hm _ ?_) hk,sO (hm _ ?_) hk,sO (hm _ ?_) hk,fun m hmm=> ?_⟩
 ·unfold Sh.Root.c;simp
 ·unfold Sh.Root.c;simp
 ·unfold Sh.Root.c;simp
 ·unfold Sh.Root.c;simp
 ·unfold Sh.Root.c;simp
 ·unfold Sh.Root.c;simp
 ·unfold Sh.Root.c;simp
 ·have h2:eZ (.aj .sh (r.Marks.map Sh.Mark.v))≤k:=hm _ (by unfold Sh.Root.c;simp[lv])
  have h3:kE (r.Marks.map Sh.Mark.v)+1≤k:=h2
  exact aos (Nat.le_trans (aor (l:=r.Marks) Sh.Mark.v hmm) (by omega)) hk
theorem aot {x:Sh.Key} {k:Nat} (h:eZ (Sh.Key.v x)≤k) (hk:k<2^62):rI x.To∧rI x.bP:=by
 have hm:∀v∈x.c,eZ v≤k:=fun v hv=>Nat.le_trans (Nh hv) h
 refine⟨sO (hm _ ?_) hk,sO (hm _ ?_) hk⟩
 ·unfold Sh.Key.c;simp
 ·unfold Sh.Key.c;simp
end Go.Proofs.YtdcnajadcbedkaaGreatDoor.daybook
end
