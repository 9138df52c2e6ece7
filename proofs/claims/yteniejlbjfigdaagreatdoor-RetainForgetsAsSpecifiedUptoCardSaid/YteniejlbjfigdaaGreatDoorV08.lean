/- Part of the proof of a law. -/
import Derived.Test.YteniejlbjfigdaaGreatDoorV06
set_option linter.all false
set_option linter.unusedSimpArgs false
set_option linter.unusedSectionVars false
section
namespace Aq
open Go
def vP:Code→List Nat→Option Code
 |c,[]=>some c
 |.seq a b,i::l=>if i=0 then vP a l else vP b l
 |.cond _ a b,i::l=>if i=0 then vP a l else vP b l
 |.block _ a,_::l=>vP a l
 |.loop a,_::l=>vP a l
 |.rangeFunc _ _ a b,i::l=>if i=0 then vP a l else vP b l
 |_,_=>none
def aN (b:Option Code) (l:List Nat):Option Code:=b.bind fun c=>vP c l
section
variable {E:Env} {fr:Fr} {σ:ah}
def vQ (E:Env) (c:Code) (fr:Fr) (σ:ah) (Q:Ex→Fr→ah→Prop):Prop:=CW E (.loop c) fr σ Q
theorem Is.e {α:Type} {a b:α} (h:Is a b):a=b:=h
theorem CW.lp {c:Code} {Q:Ex→Fr→ah→Prop} (h:vQ E c fr σ Q):CW E (.loop c) fr σ Q:=h
theorem vQ.in {b:Option Code} {p:List Nat} {c:Code} {Q:Ex→Fr→ah→Prop} (hs:aN b p=some c) (h:CW E c fr σ (sM E c Q)):vQ E ((aN b p).getD .skip) fr σ Q:=by
 rw[hs];exact CW.loop h
theorem vQ.ih {c:Code} {Q:Ex→Fr→ah→Prop} (h:vQ E c fr σ Q):vQ E c fr σ Q:=h
def Mr:Code→Nat
 |.region i _ _=>i
 |.seq a _=>Mr a
 |.loop a=>Mr a
 |.block _ a=>Mr a
 |_=>0
theorem vQ.at (k:Nat) {c:Code} {Q:Ex→Fr→ah→Prop} (_h:Is (Mr c) k) (h:vQ E c fr σ Q):vQ E c fr σ Q:=h
theorem amw {n:Nat} (c:Cap):aQ (n+2) σ (.aj c [])=some (.aj .sh []):=uw (α:=V) (f:=fun x=>.int .i64 0) c [] (fun _=>by simp[aA])
theorem abq {n:Nat} (cs:List V):aQ (n+2) σ (.agg cs)=(cs.mapM (aQ (n+1) σ)).map .agg:=by
 by_cases hp:aA (.agg cs)=true
 ·rw[jQ hp]
  have:∀cs:List V,bf cs=true→cs.mapM (aQ (n+1) σ)=some cs:=by
   intro cs
   induction cs with
   |nil=>intro _;rfl
   |cons a l ih=>
    intro h
    simp only[bf,Bool.and_eq_true] at h
    rw[List.mapM_cons,jQ h.1,ih h.2];rfl
  rw[this cs (by simpa [aA] using hp)];rfl
 ·conv=>lhs;unfold aQ
  simp only[hp,if_false,Bool.false_eq_true]
theorem Ms {n:Nat} (cs:List V):aQ (n+2) σ (.bJ cs)=(cs.mapM (aQ (n+1) σ)).map .bJ:=by
 by_cases hp:aA (.bJ cs)=true
 ·rw[jQ hp]
  have:∀cs:List V,bf cs=true→cs.mapM (aQ (n+1) σ)=some cs:=by
   intro cs
   induction cs with
   |nil=>intro _;rfl
   |cons a l ih=>
    intro h
    simp only[bf,Bool.and_eq_true] at h
    rw[List.mapM_cons,jQ h.1,ih h.2];rfl
  rw[this cs (by simpa [aA] using hp)];rfl
 ·conv=>lhs;unfold aQ
  simp only[hp,if_false,Bool.false_eq_true]
theorem CW.abr {id:Nat} {l:List Oper} {Q:Ex→Fr→ah→Prop} (h:∀k,k=l.length→bL E (nQ l) l σ.next l fr (σ.bump k) [] (NQ Q)) (he:ni l=true:=by rfl):CW E (.region id l.toArray true) fr σ Q:=CW.draw (ops:=l.toArray) he (h _ rfl)
def xE (sz:Nat) (σ:ah) (c:Cap) (n:Nat):Prop:=c= .nil∨∃s,c= .own sz s∧σ.top s=n∧s<σ.next
theorem xE.n {sz n:Nat}:xE sz σ .nil n:=.inl rfl
theorem xE.o {sz s n:Nat} (h1:Is (σ.top s) n) (h2:s<σ.next):xE sz σ (.own sz s) n:=.inr ⟨s,rfl,h1,h2⟩
theorem own_ne {s n k:Nat} (h:s<n):(s==n+k)=false:=by simp;omega
theorem amx {s n k:Nat} (h:s<n):(n+k==s)=false:=by simp;omega
theorem amy {s n:Nat} (h:s<n):(s==n)=false:=by simp;omega
theorem amA {s n:Nat} (h:s<n):(n==s)=false:=by simp;omega
theorem amB (σ:ah) {s t:Nat} (n:Nat) (h:(t==s)=false):(σ.cO s n).top t=σ.top t:=Ml σ n (by simpa using h)
end
def xG (P:Program) (σ:ah) (st:Nat) (t u:TypeId) (x y:V):Option (V×ah):=
 match P.underlying u with
 |some (.int _)=>iW P false true σ st none t x y
 |some (.slice _)|some .string=>iW P false false σ st none t x y
 |_=>none
theorem amC {P:Program} {z:Bool} {σ:ah} {st:Nat} {loc:Option Loc} {t:TypeId} {c:Cap} {l:List V} {y:V}:iW P false z σ st loc t (.aj c l) y=iW P false z σ st none t (.aj c l) y:=by
 unfold iW
 cases jy P t with
 |none=>rfl
 |some e=>cases c<;>rfl
section
variable {E:Env} {S:je} {fr:Fr} {σ:ah} {st:Nat} {d:Option Tmp} {ty:TypeId} {pos:String} {bK:Array Edge} {gd:Option (Nat×Bool)}
theorem UN {t u:TypeId} {x y:Operand} {c:Cap} {l:List V} (ho:fr.om=false) (hx:fr.ev E x= .aj c l):opC E S fr σ st ⟨d,.call ⟨.builtin .append, #[x,y], #[t,u]⟩,ty,pos,bK,gd⟩=(xG E.P σ st t u (.aj c l) (fr.ev E y)).map fun p=>(p.1,fr,p.2):=by
 show Option.map _ ((((#[t,u]:Array TypeId)[0]?).bind fun t=>(((#[t,u]:Array TypeId)[1]?).bind E.P.underlying).bind fun u=>match u with
  |.int _=>iW E.P fr.om true σ st (d.map fun t=>(fr.d,t)) t (fr.ev E x) (fr.ev E y)
  |.slice _|.string=>iW E.P fr.om false σ st (d.map fun t=>(fr.d,t)) t (fr.ev E x) (fr.ev E y)
  |_=>none))=_
 show Option.map _ ((E.P.underlying u).bind _)=_
 rw[ho,hx]
 unfold xG
 cases E.P.underlying u with
 |none=>rfl
 |some u=>
  cases u<;>try rfl
  all_goals (simp only[Option.bind_some];rw[amC];first|rfl| (generalize iW _ _ _ _ _ _ _ _ _=o;cases o<;>rfl))
end
def zK (P:Program) (t u:TypeId) (sz dP:Nat) (z:V):Prop:=∃e ag,jy P t=some e∧bX P e=some sz∧pX P e=some dP∧iK P e=some ag∧iC P e=some z∧z.cells.length=sz∧0<sz∧(ag||sz==1)=true∧nV P u=true
theorem zK.mk {P:Program} {t u:TypeId} {sz dP:Nat} {z:V} (e:TypeId) (ag:Bool) (h1:jy P t=some e) (h2:bX P e=some sz) (h3:pX P e=some dP) (h4:iK P e=some ag) (h5:iC P e=some z)
 (h6:z.cells.length=sz) (h7:0<sz) (h8:(ag||sz==1)=true) (h9:nV P u=true):zK P t u sz dP z:=⟨e,ag,h1,h2,h3,h4,h5,h6,h7,h8,h9⟩
def qV (sz:Nat) (l:List V):Bool:=l.all fun v=>v.cells.length==sz&& bN v.cells
theorem amD {α:Type} {f:α→V} {sz:Nat} (h:∀x,(f x).cells.length=sz∧bN (f x).cells=true) (l:List α):qV sz (l.map f)=true:=by
 simp[qV,h]
theorem zL {sz:Nat} {l:List V} (h:qV sz l=true):kV sz l=true:=by
 cases l with
 |nil=>rfl
 |cons a l=>simp[qV] at h;simp[kV,h.1.1]
theorem amE {sz:Nat} {l:List V} (h:qV sz l=true):l.all (fun v=>bN v.cells)=true:=by
 simp[qV] at h;simpa using fun x hx=>(h x hx).2
theorem abt {P:Program} {σ:ah} {st t u sz dP:Nat} {z:V} {x:V} {c2:Cap} {ys:List V} (ha:zK P t u sz dP z) (hy:qV sz ys=true):
 xG P σ st t u x (.aj c2 ys)=match x with
 |.aj c l=>if bC (l.length+ys.length) dP=true∧kV sz l=true then
  match c with
  |.own n s=>if n=sz∧σ.top s=l.length then some (.aj (.own n s) (l++ys),σ.cO s (l.length+ys.length)) else none
  |.nil|.full=>some (.aj (.own sz st) (l++ys),σ.cO st (l.length+ys.length))
  |_=>none
  else none
 |_=>xG P σ st t u x (.aj c2 ys):=by
 obtain⟨e,ag,h1,h2,h3,h4,h5,h6,h7,h8,h9⟩:=ha
 cases x<;>try rfl
 rename_i c l
 unfold nV at h9
 split at h9
 ·rename_i e' he
  simp only[xG,he,iW,h1,h2,h3,h4,h5,Option.bind_some,uf,true_and,if_pos (show z.cells.length=sz∧0<sz∧(ag||sz==1)=true from ⟨h6,h7,h8⟩),jU,zL hy,if_true,amE hy]
  cases c<;>rfl
 ·simp at h9
theorem amF {P:Program} {σ:ah} {st t u s sz dP:Nat} {z:V} {l:List V} {c2:Cap} {ys:List V} (ha:zK P t u sz dP z) (hy:qV sz ys=true) (hl:qV sz l=true)
 (hr:bC (l.length+ys.length) dP=true) (ht:σ.top s=l.length):xG P σ st t u (.aj (.own sz s) l) (.aj c2 ys)=some (.aj (.own sz s) (l++ys),σ.cO s (l.length+ys.length)):=by
 rw[abt ha hy];simp only[hr,zL hl,and_self,if_true,ht]
theorem amG {P:Program} {σ:ah} {st t u sz dP:Nat} {z:V} {l:List V} {c2:Cap} {ys:List V} (ha:zK P t u sz dP z) (hy:qV sz ys=true) (hl:qV sz l=true)
 (hr:bC (l.length+ys.length) dP=true):xG P σ st t u (.aj .nil l) (.aj c2 ys)=some (.aj (.own sz st) (l++ys),σ.cO st (l.length+ys.length)):=by
 rw[abt ha hy];simp only[hr,zL hl,and_self,if_true]
def abu (E:Env) (t:TypeId) (ps:List (Nat×V)):Option (List V):=(BS E t).bind fun pl=>(iC E.P t).bind fun z=>oG pl z.cells ps
section
variable {E:Env} {S:je} {fr:Fr} {σ:ah} {st:Nat} {d:Option Tmp} {ty:TypeId} {pos:String} {bK:Array Edge} {gd:Option (Nat×Bool)}
theorem amH (t:TypeId) (l:List (Nat×Operand)):opC E S fr σ st ⟨d,.build t l.toArray,ty,pos,bK,gd⟩=(abu E t (l.map fun p=>(p.1,fr.ev E p.2))).map fun cs=>(.agg cs,fr,σ):=by
 simp only[opC,bE,abu]
 cases BS E t with
 |none=>rfl
 |some pl=>
  simp only[Option.bind_some]
  cases iC E.P t with
  |none=>rfl
  |some z=>
   simp only[Option.bind_some]
   cases oG pl z.cells (l.map fun p=>(p.1,fr.ev E p.2))<;>rfl
theorem amI (t:TypeId) (n:Nat) (l:List (Nat×Operand)):opC E S fr σ st ⟨d,.buildSlice t n l.toArray,ty,pos,bK,gd⟩=(wZ E t n (l.map fun p=>(p.1,fr.ev E p.2))).map fun v=>(v,fr,σ):=by
 simp only[opC,bE]
 cases wZ E t n (l.map fun p=>(p.1,fr.ev E p.2))<;>rfl
end
section
variable {E:Env} {S:je} {fr:Fr} {σ:ah} {st:Nat} {d:Option Tmp} {ty:TypeId} {pos:String} {bK:Array Edge} {gd:Option (Nat×Bool)}
theorem amJ (t:TypeId) (x i:Operand):opC E S fr σ st ⟨d,.index t x i,ty,pos,bK,gd⟩=(vF E.P t (fr.ev E x) (fr.ev E i)).map fun v=>(v,fr,σ):=by
 simp only[opC,bE];cases vF E.P t (fr.ev E x) (fr.ev E i)<;>rfl
theorem abv {P:Program} {t:TypeId} {s:List UInt8} {k:IntKind} {i:Int} (h:GA P t=true):vF P t (.str s) (.int k i)=(aK s i).map fun b=>.int .u8 (b.toNat:Nat):=by
 unfold GA at h;unfold vF
 split at h
 ·rename_i he
  rw[he]
  simp only[idx,kI,Option.bind_some,aK]
  split
  ·simp only[Option.bind_some];rfl
  ·rfl
 ·simp at h
def imax (a b:Int):Int:=if b>a then b else a
def oO (a b:Int):Int:=if b<a then b else a
theorem amK (x y:Operand) (tys:List TypeId):opC E S fr σ st ⟨d,.call ⟨.builtin .max, #[x,y],tys.toArray⟩,ty,pos,bK,gd⟩=(kK true (fr.ev E x) [fr.ev E y]).map fun v=>(v,fr,σ):=by
 show Option.map _ ((kK true (fr.ev E x) [fr.ev E y]).map fun v=>(v,σ))=_
 cases kK true (fr.ev E x) [fr.ev E y]<;>rfl
theorem amL (x y:Operand) (tys:List TypeId):opC E S fr σ st ⟨d,.call ⟨.builtin .min, #[x,y],tys.toArray⟩,ty,pos,bK,gd⟩=(kK false (fr.ev E x) [fr.ev E y]).map fun v=>(v,fr,σ):=by
 show Option.map _ ((kK false (fr.ev E x) [fr.ev E y]).map fun v=>(v,σ))=_
 cases kK false (fr.ev E x) [fr.ev E y]<;>rfl
theorem amM (k:IntKind) (a b:Int):kK true (.int k a) [.int k b]=some (.int k (imax a b)):=by simp[kK,imax]
theorem amN (k:IntKind) (a b:Int):kK false (.int k a) [.int k b]=some (.int k (oO a b)):=by simp[kK,oO]
end
theorem len1 (v:V):[v].length=1:=rfl
attribute [go_sem] amJ abv amK amL amM amN own_ne amx amy amA amw abq Ms amH amI List.map_cons List.map_nil len1 amB UN uw implies_true eq_self
theorem amO:bf []=true:=by simp only[bf]
theorem amP (v:V) (l:List V):bf (v::l)=(aA v&& bf l):=by simp only[bf]
attribute [go_sem] amO amP
end Aq
end
section
namespace Aq
open Go
inductive Ty where
 |int (k:IntKind)
 |bool
 |str
 |slice (t:Ty)
 |st (n:Nat)
 deriving DecidableEq
inductive Cp where
 |any
 |sh
 |nil
 |full
 |own (t:Nat)
structure Vec (n:Nat) where
 l:List Int
 h:l.length=n
def Vec.at' {n:Nat} (v:Vec n) (i:Int):Int:=v.l.getD i.toNat 0
def Vec.nth {n:Nat} (v:Vec n) (j:Nat):Int:=v.l.getD j 0
def Vec.set {n:Nat} (v:Vec n) (i y:Int):Vec n:=⟨v.l.set i.toNat y,by rw[List.length_set,v.h]⟩
def Vec.rep (n:Nat) (y:Int):Vec n:=⟨List.replicate n y,List.length_replicate⟩
def Vec.lit (n:Nat) (l:List Int):Vec n:=if h:l.length=n then ⟨l,h⟩ else Vec.rep n 0
def Vec.slc {n:Nat} (v:Vec n) (i:Int) (m:Nat):Vec m:=Vec.lit m ((v.l.drop i.toNat).take m)
def Vec.oP {n:Nat} (v:Vec n) (lo:Int) (l:List Int):Vec n:=Vec.lit n (v.l.take lo.toNat++l++v.l.drop (lo.toNat+l.length))
inductive jA where
 |i (k:IntKind)
 |a (k:IntKind) (n:Nat)
inductive Sg where
 |i (k:IntKind) (x:Int)
 |a (k:IntKind) (n:Nat) (v:Vec n)
def Sg.w:Sg→Nat
 |.i _ _=>1
 |.a _ n _=>n
def Sg.vs:Sg→List V
 |.i k x=>[.int k x]
 |.a k _ v=>v.l.map (V.int k)
def bW:List Sg→List V
 | []=>[]
 |s::l=>s.vs++bW l
def jm:List Sg→Nat
 | []=>0
 |s::l=>s.w+jm l
def CB:jA→Type
 |.i _=>Int
 |.a _ n=>Vec n
def zM:List jA→Type
 | []=>Unit
 | [k]=>CB k
 |k::h::l=>CB k×zM (h::l)
def GD:(k:jA)→CB k→Sg
 |.i k,x=>.i k x
 |.a k n,x=>.a k n x
def sN:(l:List jA)→zM l→List Sg
 | [],_=>[]
 | [k],x=>[GD k x]
 |k::h::l,p=>GD k p.1::sN (h::l) p.2
def Mt {n m:Nat} (v:Vec n):Option (Vec m):=if h:n=m then some (h▸v) else none
def CF:(k:jA)→Sg→Option (CB k)
 |.i k,.i k' x=>if k'=k then some x else none
 |.a k n,.a k' _ v=>if k'=k then Mt (m:=n) v else none
 |_,_=>none
def vR:(l:List jA)→List Sg→Option (zM l)
 | []=>fun vs=>match vs with
   | []=>some ()
   |_::_=>none
 | [k]=>fun vs=>match vs with
   | [v]=>CF k v
   |_=>none
 |k::h::l=>fun vs=>match vs with
  | []=>none
  |v::vs=>match CF k v with
   |some x=>match vR (h::l) vs with
    |some p=>some (x,p)
    |none=>none
   |none=>none
section
variable (T:Nat→Type)
def Den:Ty→Type
 |.int _=>Int
 |.bool=>Bool
 |.str=>List UInt8
 |.slice t=>List (Den t)
 |.st n=>T n
def mO:List Ty→Type
 | []=>Unit
 | [t]=>Den T t
 |t::u::l=>Den T t×mO (u::l)
inductive TV where
 |int (k:IntKind) (n:Int)
 |bool (b:Bool)
 |iM (b:Bool)
 |str (s:List UInt8)
 |fU
 |fB
 |eY
 |iA
 |dK
 |agg (cs:List TV)
 |bJ (cs:List TV)
 |aj (c:Cp) (t:Ty) (l:List (Den T t))
 |ref (o off:Nat)
 |aM (cs:List TV) (off:Nat)
 |cK (o:Nat)
 |dD (k e:Ty) (m:List (Den T k×Den T e))
 |fn (f:Nat) (a b:List TV)
 |opt (j:Nat) (w:Bool) (v:TV)
 |vw (o:Nat) (t:Ty)
 |kZ (o:Nat) (t:Ty) (i:Int) (off:Nat)
 |sg (ss:List Sg)
 |sv (o off:Nat) (k:IntKind) (n:Nat) (lo hi:Option Int)
 |sel (o off:Nat) (k:IntKind) (n:Nat) (i:Int) (m:Nat)
 |qW (k:IntKind) (n:Nat) (v:Vec n) (i:Int)
 |undef
 |gone
inductive Ob where
 |cells (cs:List (TV T))
 |map (k e:Ty) (m:List (Den T k×Den T e))
 |smap (ks vs:List (TV T))
 |arr (t:Ty) (l:List (Den T t))
 |sg (ss:List Sg)
 |gone
 |ro (b:Ob)
structure MS where
 fr:List (Nat×TV T)
 ob:List (Nat×Ob T)
inductive Sk where
 |d (t:Ty)
 |l (c:Cp) (t:Ty)
 |agg (l:List Sk)
 |ref (o off:Nat)
 |aM (l:List Sk) (off:Nat)
 |cK (o:Nat)
 |dD (k e:Ty)
 |fn (f:Nat) (a b:List Sk)
 |dK
 |vw (o:Nat) (t:Ty)
 |sg (l:List jA)
 |undef
mutual
def qg:Sk→Type
 |.d t=>Den T t
 |.l _ t=>List (Den T t)
 |.agg l=>ak l
 |.ref _ _=>Unit
 |.aM l _=>ak l
 |.cK _=>Unit
 |.dD k e=>List (Den T k×Den T e)
 |.fn _ a b=>ak a×ak b
 |.dK=>Unit
 |.vw _ _=>Unit
 |.sg l=>zM l
 |.undef=>Unit
def ak:List Sk→Type
 | []=>Unit
 | [k]=>qg k
 |k::h::l=>qg k×ak (h::l)
end
inductive oQ where
 |cells (l:List Sk)
 |st (n:Nat)
 |map (k e:Ty)
 |arr (t:Ty)
 |sg (l:List jA)
def zN:oQ→Type
 |.cells l=>ak T l
 |.st n=>T n
 |.map k e=>List (Den T k×Den T e)
 |.arr t=>List (Den T t)
 |.sg l=>zM l
def zO:List (Nat×oQ)→Type
 | []=>Unit
 | [(_,k)]=>zN T k
 | (_,k)::h::l=>zN T k×zO (h::l)
def zP:List (Nat×Sk)→Type
 | []=>Unit
 | [(_,k)]=>qg T k
 | (_,k)::h::l=>qg T k×zP (h::l)
structure Shape where
 sl:List (Nat×Sk)
 ob:List (Nat×oQ)
def oU:Shape→Type
 | ⟨s,[]⟩=>zP T s
 | ⟨s,o::os⟩=>zP T s×zO T (o::os)
def Out:List (Ex×Shape)→Type
 | []=>Empty
 | [(_,s)]=>oU T s
 | (_,s)::h::l=>oU T s⊕Out (h::l)
end
structure jB where
 T:Nat→Type
 d:(n:Nat)→T n
 lf:Nat→List Ty
 to:(n:Nat)→mO T (lf n)→T n
 of:(n:Nat)→T n→mO T (lf n)
 enc:(n:Nat)→T n→V
 ty:TypeId→Option Ty
 gl:Nat→Option ((k:IntKind)×(n:Nat)×Vec n)
structure FR (R:jB) where
 args:List Sk
 res:List Sk
 F:ak R.T args→Option (ak R.T res)
 d:ak R.T res
 own:Bool:=false
structure FI (R:jB) where
 a:List Sk
 b:List Sk
 el:List Sk
 F:ak R.T a→ak R.T b→Option (List (ak R.T el))
structure Note where
 K:List Nat
 O:List Nat
 sh:Shape
 outs:List (Ex×Shape)
structure aW where
 loops:List (Nat×Note)
 joins:List (Nat×Note)
def look {α:Type}:List (Nat×α)→Nat→Option α
 | [],_=>none
 | (j,x)::l,i=>bif Nat.beq j i then some x else look l i
section
variable (R:jB)
def aD:(t:Ty)→Den R.T t→V
 |.int k=>fun n=>.int k n
 |.bool=>fun b=>.bool b
 |.str=>fun s=>.str s
 |.slice t=>fun l=>.aj .sh (l.map (aD t))
 |.st n=>fun x=>R.enc n x
def encs:(l:List Ty)→mO R.T l→List V
 | [],_=>[]
 | [t],x=>[aD R t x]
 |t::u::l,p=>aD R t p.1::encs (u::l) p.2
def dB:Ty→Nat
 |.st n=>(R.lf n).length
 |_=>1
def CG:(t:Ty)→Den R.T t
 |.int _=>(0:Int)
 |.bool=>false
 |.str=>([]:List UInt8)
 |.slice t=>([]:List (Den R.T t))
 |.st n=>R.d n
def xH (c:Cp):(t:Ty)→Den R.T t→TV R.T
 |.int k=>fun n=>.int k n
 |.bool=>fun b=>.bool b
 |.str=>fun s=>.str s
 |.slice t=>fun l=>.aj c t l
 |.st _=>fun _=>.undef
def jM (c:Cp):(l:List Ty)→mO R.T l→List (TV R.T)
 | [],_=>[]
 | [t],x=>[xH R c t x]
 |t::u::l,p=>xH R c t p.1::jM c (u::l) p.2
def gV (c:Cp):(t:Ty)→Den R.T t→TV R.T
 |.st n=>fun x=>.agg (jM R c (R.lf n) (R.of n x))
 |.int k=>fun n=>.int k n
 |.bool=>fun b=>.bool b
 |.str=>fun s=>.str s
 |.slice t=>fun l=>.aj c t l
def qh {t u:Ty} (l:List (Den R.T t)):Option (List (Den R.T u)):=if h:t=u then some (h▸l) else none
def Mv (k:IntKind):TV R.T→Option Int
 |.int k' n=>if k=k' then some n else none
 |_=>none
def Mw:TV R.T→Option Bool
 |.bool b=>some b
 |.iM b=>some b
 |_=>none
def Mx:TV R.T→Option (List UInt8)
 |.str s=>some s
 |_=>none
def zQ (t:Ty):TV R.T→Option (List (Den R.T t))
 |.aj _ _ l=>qh R l
 |.dK=>some []
 |_=>none
def oV:(t:Ty)→TV R.T→Option (Den R.T t)
 |.int k=>fun v=>Mv R k v
 |.bool=>fun v=>Mw R v
 |.str=>fun v=>Mx R v
 |.slice t=>fun v=>zQ R t v
 |.st _=>fun _=>none
def hd1:List (TV R.T)→TV R.T
 | [v]=>v
 |_=>.gone
def xI:(l:List Ty)→List (TV R.T)→Option (mO R.T l)
 | []=>fun vs=>match vs with
   | []=>some ()
   |_::_=>none
 | [t]=>fun vs=>oV R t (hd1 R vs)
 |t::u::l=>fun vs=>match vs with
  | []=>none
  |v::vs=>match oV R t v with
   |some x=>match xI (u::l) vs with
    |some p=>some (x,p)
    |none=>none
   |none=>none
def zR (n:Nat):TV R.T→Option (R.T n)
 |.agg cs=>match xI R (R.lf n) cs with
  |some p=>some (R.to n p)
  |none=>none
 |_=>none
def nW:(t:Ty)→TV R.T→Option (Den R.T t)
 |.st n=>fun v=>zR R n v
 |.int k=>fun v=>Mv R k v
 |.bool=>fun v=>Mw R v
 |.str=>fun v=>Mx R v
 |.slice t=>fun v=>zQ R t v
def TV.cells {T:Nat→Type}:TV T→List (TV T)
 |.agg cs=>cs
 |v=>[v]
mutual
def lg {T:Nat→Type} (o:Nat):TV T→Bool
 |.ref p _=>Nat.beq p o
 |.cK p=>Nat.beq p o
 |.agg cs=>l6 o cs
 |.bJ cs=>l6 o cs
 |.aM cs _=>l6 o cs
 |.fn _ a b=>l6 o a||l6 o b
 |.opt _ _ v=>lg o v
 |.vw p _=>Nat.beq p o
 |.kZ p _ _ _=>Nat.beq p o
 |.sv p _ _ _ _ _=>Nat.beq p o
 |.sel p _ _ _ _ _=>Nat.beq p o
 |_=>false
def l6 {T:Nat→Type} (o:Nat):List (TV T)→Bool
 | []=>false
 |v::l=>lg o v||l6 o l
end
def Ob.lg {T:Nat→Type} (o:Nat):Ob T→Bool
 |.cells cs=>l6 o cs
 |.smap ks vs=>l6 o ks||l6 o vs
 |.ro b=>Ob.lg o b
 |_=>false
mutual
def wk {T:Nat→Type} (t:Nat):TV T→TV T
 |.aj (.own u) ty l=>bif Nat.beq u t then .aj .any ty l else .aj (.own u) ty l
 |.agg cs=>.agg (uy t cs)
 |.bJ cs=>.bJ (uy t cs)
 |.aM cs off=>.aM (uy t cs) off
 |.fn f a b=>.fn f (uy t a) (uy t b)
 |.opt j w v=>.opt j w (wk t v)
 |v=>v
def uy {T:Nat→Type} (t:Nat):List (TV T)→List (TV T)
 | []=>[]
 |v::l=>wk t v::uy t l
end
def Ob.wk {T:Nat→Type} (t:Nat):Ob T→Ob T
 |.cells cs=>.cells (uy t cs)
 |.smap ks vs=>.smap (uy t ks) (uy t vs)
 |.ro b=>.ro (Ob.wk t b)
 |o=>o
def lq {α:Type} (f:α→α):List (Nat×α)→List (Nat×α)
 | []=>[]
 | (i,x)::l=>(i,f x)::lq f l
def iN {α:Type} (i:Nat):List (Nat×α)→List (Nat×α)
 | []=>[]
 | (j,x)::l=>bif Nat.beq j i then iN i l else (j,x)::iN i l
def MS.wk {T:Nat→Type} (t:Nat) (st:MS T):MS T:=⟨lq (Aq.wk t) st.fr,lq (Ob.wk t) st.ob⟩
def UO {T:Nat→Type} (j:Nat):TV T→TV T
 |.opt i w v=>bif Nat.beq i j then .gone else .opt i w v
 |v=>v
def MS.put {T:Nat→Type} (st:MS T) (i:Nat) (v:TV T):MS T:={st with fr:=(i,v)::lq (UO i) (iN i st.fr)}
def MS.fG {T:Nat→Type} (st:MS T) (d:Option Nat) (v:TV T):MS T:=match d with
 |some i=>st.put i v
 |none=>st
def UQ {T:Nat→Type} (j:Nat) (b:Bool):TV T→TV T
 |.opt i w v=>bif Nat.beq i j then (bif (b==w) then v else .undef) else .opt i w v
 |v=>v
def MS.learn {T:Nat→Type} (st:MS T) (j:Nat) (b:Bool):MS T:={st with fr:=(j,.iM b)::lq (UQ j b) (iN j st.fr)}
def MS.CJ {T:Nat→Type} (st:MS T) (c:Operand) (b:Bool):MS T:=match c with
 |.tmp j=>st.learn j b
 |_=>st
def GH {T:Nat→Type} (o:Nat) (v:TV T):TV T:=bif lg o v then .gone else v
def Ob.kill {T:Nat→Type} (o:Nat) (v:Ob T):Ob T:=bif Ob.lg o v then .gone else v
def MS.new {T:Nat→Type} (st:MS T) (o:Nat) (b:Ob T):MS T:=⟨lq (GH o) st.fr,(o,b)::lq (Ob.kill o) (iN o st.ob)⟩
def MS.set {T:Nat→Type} (st:MS T) (o:Nat) (b:Ob T):MS T:={st with ob:=(o,b)::iN o st.ob}
def MS.del {T:Nat→Type} (st:MS T) (o:Nat):MS T:={st with ob:=iN o st.ob}
def UR {T:Nat→Type}:Ob T→Ob T
 |.ro b=>UR b
 |b=>b
def l7 {T:Nat→Type} (st:MS T) (o:Nat):Option (Ob T):=match look st.ob o with
 |some b=>some (UR b)
 |none=>none
def nX {T:Nat→Type}:Ob T→Bool
 |.ro _=>true
 |.gone=>true
 |_=>false
def bn (i:Nat):List Nat→Bool
 | []=>false
 |j::l=>Nat.beq i j||bn i l
mutual
def solid {T:Nat→Type} (W:List Nat):TV T→Bool
 |.aj (.own _) _ _=>false
 |.ref o _=> !(bn o W)
 |.cK o=> !(bn o W)
 |.agg cs=>qj W cs
 |.bJ cs=>qj W cs
 |.aM cs _=>qj W cs
 |.fn _ a b=>qj W a&& qj W b
 |.opt _ _ _=>false
 |.vw o _=> !(bn o W)
 |.kZ o _ _ _=> !(bn o W)
 |.sv o _ _ _ _ _=> !(bn o W)
 |.sel o _ _ _ _ _=> !(bn o W)
 |.gone=>false
 |_=>true
def qj {T:Nat→Type} (W:List Nat):List (TV T)→Bool
 | []=>true
 |v::l=>solid W v&& qj W l
end
def mg {T:Nat→Type} (W:List Nat):Ob T→Bool
 |.cells cs=>qj W cs
 |.map _ _ _=>true
 |.smap ks vs=>qj W ks&& qj W vs
 |.arr _ _=>true
 |.sg _=>true
 |.ro b=>mg W b
 |.gone=>false
def mP {α:Type} (p:Nat→α→Bool) (f:α→α) (l:List (Nat×α)):List Nat→List (Nat×α)
 | []=>[]
 |i::is=>match look l i with
  |some x=>bif p i x then (i,f x)::mP p f l is else mP p f l is
  |none=>mP p f l is
def UU {T:Nat→Type}:TV T→TV T
 |.aj (.own _) t l=>.aj .any t l
 |v=>v
def base {T:Nat→Type} (W K O:List Nat) (mark:Ob T→Ob T) (st:MS T):MS T:=
 ⟨mP (fun i v=> !(bn i W)&& solid W (UU v)) UU st.fr K,mP (fun o b=> !(bn o W)&& mg W b) mark st.ob O⟩
def MS.over {T:Nat→Type} (st b:MS T):MS T:=⟨st.fr++b.fr,st.ob++b.ob⟩
def zS {T:Nat→Type}:Value→Option (TV T)
 |.bool b=>some (.iM b)
 |.int k n=>some (.int k n)
 |.string s=>some (.str s.data.toList)
 |.pointer none=>some .fU
 |.slice none 0 0=>some .dK
 |.map none=>some .eY
 |.nilFunc=>some .fB
 |.nilIface=>some .iA
 |_=>none
def CK {T:Nat→Type}:List Value→Option (List (TV T))
 | []=>some []
 |v::l=>match zS v with
  |some x=>match CK l with
   |some y=>some (x::y)
   |none=>none
  |none=>none
def CO {T:Nat→Type}:Value→Option (TV T)
 |.agg cs=>match CK cs.toList with
  |some l=>some (.agg l)
  |none=>none
 |v=>zS v
def MB {T:Nat→Type} (g:List (Nat×Bool)):TV T→Option (TV T)
 |.opt j w v=>match look g j with
  |some u=>some (bif u==w then v else .undef)
  |none=>none
 |v=>some v
def bO {T:Nat→Type} (g:List (Nat×Bool)) (st:MS T):Operand→Option (TV T)
 |.tmp t=>match look st.fr t with
  |some v=>MB g v
  |none=>none
 |.const v=>CO v
 |.func f=>some (.fn f [] [])
 |.global _=>none
def nD {T:Nat→Type} (g:List (Nat×Bool)) (st:MS T):List Operand→Option (List (TV T))
 | []=>some []
 |x::l=>match bO g st x with
  |some v=>match nD g st l with
   |some vs=>some (v::vs)
   |none=>none
  |none=>none
def CP {T:Nat→Type} (g:List (Nat×Bool)) (st:MS T):List (Nat×Operand)→Option (List (Nat×TV T))
 | []=>some []
 | (i,x)::l=>match bO g st x with
   |some v=>match CP g st l with
    |some vs=>some ((i,v)::vs)
    |none=>none
   |none=>none
def nY:List Sg→Nat→Option (List Sg×List Sg)
 |ss,0=>some ([],ss)
 | [],_+1=>none
 |s::ss,n+1=>bif Nat.ble s.w (n+1) then (match nY ss (n+1-s.w) with
  |some (a,b)=>some (s::a,b)
  |none=>none) else none
def zT {T:Nat→Type} (k:IntKind):List (TV T)→Option (List Int)
 | []=>some []
 |.int k' x::l=>if k'=k then (match zT k l with
  |some xs=>some (x::xs)
  |none=>none) else none
 |_=>none
def CQ {α:Type} (l:List α):Option Int→Option Int→List α
 |none,none=>l
 |some i,none=>l.drop i.toNat
 |none,some j=>l.take j.toNat
 |some i,some j=>(l.take j.toNat).drop i.toNat
def MC {T:Nat→Type} (st:MS T) (o off:Nat) (k:IntKind) (n:Nat) (lo hi:Option Int):Option (List Int):=
 match l7 st o with
 |some (.sg ss)=>match nY ss off with
  |some (_,.a k' n' v::_)=>if k'=k then (bif Nat.beq n' n then some (CQ v.l lo hi) else none) else none
  |_=>none
 |some (.cells cs)=>bif Nat.ble (off+n) cs.length then (match zT k ((cs.drop off).take n) with
  |some l=>some (CQ l lo hi)
  |none=>none) else none
 |_=>none
def uz {T:Nat→Type} (st:MS T):TV T→TV T
 |.ref o off=>match l7 st o with
  |some (.cells cs)=>.aM cs off
  |_=>.ref o off
 |.cK o=>match l7 st o with
  |some (.map k e m)=>.dD k e m
  |_=>.cK o
 |.vw o t=>match l7 st o with
  |some (.arr t' l)=>if t'=t then .aj .sh t' l else .vw o t
  |_=>.vw o t
 |.sv o off k n lo hi=>match MC st o off k n lo hi with
  |some l=>.aj .sh (.int k) l
  |none=>.sv o off k n lo hi
 |v=>v
def GI {T:Nat→Type} (st:MS T):List (TV T)→List (TV T)
 | []=>[]
 |v::l=>uz st v::GI st l
def zU {T:Nat→Type} (st:MS T):TV T→TV T
 |.fn f a b=>.fn f (GI st a) (GI st b)
 |.agg cs=>.agg (GI st cs)
 |v=>uz st v
def nE {T:Nat→Type} (st:MS T):List (TV T)→List (TV T)
 | []=>[]
 |v::l=>zU st v::nE st l
def UW {T:Nat→Type}:TV T→Bool
 |.agg _=>false
 |.sg _=>false
 |.bJ _=>false
 |.gone=>false
 |.undef=>false
 |.opt _ _ _=>false
 |_=>true
def xJ {T:Nat→Type}:List (TV T)→Bool
 | []=>true
 |v::l=>UW v&& xJ l
def zV {T:Nat→Type}:TV T→Bool
 |.gone=>false
 |.sg _=>false
 |.opt _ _ _=>false
 |_=>true
mutual
def kr {T:Nat→Type}:TV T→Bool
 |.int _ _=>true
 |.bool _=>true
 |.iM _=>true
 |.str _=>true
 |.fU=>true
 |.fB=>true
 |.eY=>true
 |.iA=>true
 |.aj .sh _ _=>true
 |.agg cs=>oW cs
 |.bJ cs=>oW cs
 |.dD _ _ _=>true
 |.aM cs _=>oW cs
 |.fn _ a b=>oW a&& oW b
 |.sg _=>true
 |_=>false
def oW {T:Nat→Type}:List (TV T)→Bool
 | []=>true
 |v::l=>kr v&& oW l
end
def GJ {T:Nat→Type}:TV T→Bool
 |.aj _ _ _=>true
 |.dK=>true
 |v=>kr v
def ME {T:Nat→Type}:List (TV T)→Bool
 | []=>true
 |v::l=>GJ v&& ME l
def clV {T:Nat→Type}:TV T→Bool
 |.agg cs=>ME cs
 |v=>GJ v
def xK {T:Nat→Type}:List (TV T)→Bool
 | []=>true
 |v::l=>clV v&& xK l
mutual
def lu:Sk→Bool
 |.d _=>true
 |.l c _=>match c with
  |.any=>true
  |.sh=>true
  |_=>false
 |.agg l=>jg l
 |.aM l _=>jg l
 |.dD _ _=>true
 |.fn _ a b=>jg a&& jg b
 |.sg _=>true
 |_=>false
def jg:List Sk→Bool
 | []=>true
 |k::l=>lu k&& jg l
def dep:Sk→Nat
 |.agg l=>nZ l+3
 |.aM l _=>nZ l+3
 |.fn _ a b=>max (nZ a) (nZ b)+3
 |_=>3
def nZ:List Sk→Nat
 | []=>0
 |k::l=>max (dep k) (nZ l)
end
def UY:Ty→Bool
 |.int _=>true
 |.bool=>true
 |.str=>true
 |_=>false
def CS:List Sk→Bool
 | []=>true
 |.d t::l=>UY t&& CS l
 |.sg _::l=>CS l
 |_=>false
mutual
def encS:(k:Sk)→qg R.T k→V
 |.d t,x=>aD R t x
 |.l _ t,x=>aD R (.slice t) x
 |.agg l,x=>.agg (bG l x)
 |.aM l off,x=>.aM (bG l x) off
 |.dD k e,x=>.dD (List.map (fun p=>aD R k p.1) x) (List.map (fun p=>aD R e p.2) x)
 |.fn f a b,x=>.fn (.func f) (bG a x.1) (bG b x.2)
 |.dK,_=>.aj .sh []
 |.ref _ _,_=>ay
 |.cK _,_=>ay
 |.vw _ _,_=>ay
 |.sg l,x=>.agg (bW (sN l x))
 |.undef,_=>ay
def bG:(l:List Sk)→ak R.T l→List V
 | [],_=>[]
 | [k],x=>[encS k x]
 |k::h::l,p=>encS k p.1::bG (h::l) p.2
end
def ku:List V→V
 | [v]=>v
 |vs=>.bJ vs
def CU:Cp→Cp→Bool
 |_,.any=>true
 |.sh,.sh=>true
 |.nil,.nil=>true
 |.nil,.own _=>true
 |.full,.own _=>true
 |.full,.full=>true
 |.own t,.own u=>Nat.beq t u
 |_,_=>false
def MF (c:Cp) (t:Ty):TV R.T→Option (List (Den R.T t))
 |.aj c' _ l=>bif CU c' c then qh R l else none
 |.dK=>bif CU .nil c then some [] else none
 |_=>none
def CV {k e k' e':Ty} (m:List (Den R.T k'×Den R.T e')):Option (List (Den R.T k×Den R.T e)):=if h:k'=k∧e'=e then some (by rw[←h.1,←h.2];exact m) else none
mutual
def pk:(k:Sk)→TV R.T→Option (qg R.T k)
 |.d t=>fun v=>nW R t v
 |.l c t=>fun v=>MF R c t v
 |.agg l=>fun v=>match v with
  |.agg cs=>iq l cs
  |_=>none
 |.ref o off=>fun v=>match v with
  |.ref p off'=>bif Nat.beq p o&& Nat.beq off' off then some () else none
  |_=>none
 |.aM l off=>fun v=>match v with
  |.aM cs off'=>bif Nat.beq off' off then iq l cs else none
  |_=>none
 |.cK o=>fun v=>match v with
  |.cK p=>bif Nat.beq p o then some () else none
  |_=>none
 |.dD k e=>fun v=>match v with
  |.dD _ _ m=>CV R m
  |_=>none
 |.fn f a b=>fun v=>match v with
  |.fn f' a' b'=>bif Nat.beq f' f then (match iq a a' with
   |some x=>match iq b b' with
    |some y=>some (x,y)
    |none=>none
   |none=>none) else none
  |_=>none
 |.dK=>fun v=>match v with
  |.dK=>some ()
  |_=>none
 |.vw o t=>fun v=>match v with
  |.vw p t'=>bif Nat.beq p o then (if t'=t then some () else none) else none
  |_=>none
 |.sg l=>fun v=>match v with
  |.sg ss=>vR l ss
  |_=>none
 |.undef=>fun v=>match v with
  |.undef=>some ()
  |_=>none
def iq:(l:List Sk)→List (TV R.T)→Option (ak R.T l)
 | []=>fun vs=>match vs with
   | []=>some ()
   |_::_=>none
 | [k]=>fun vs=>match vs with
   | [v]=>pk k v
   |_=>none
 |k::h::l=>fun vs=>match vs with
  | []=>none
  |v::vs=>match pk k v with
   |some x=>match iq (h::l) vs with
    |some p=>some (x,p)
    |none=>none
   |none=>none
end
mutual
def up (c:Cp):(k:Sk)→qg R.T k→TV R.T
 |.d t,x=>gV R c t x
 |.l c t,x=>.aj c t x
 |.agg l,x=>.agg (kM c l x)
 |.ref o off,_=>.ref o off
 |.aM l off,x=>.aM (kM c l x) off
 |.cK o,_=>.cK o
 |.dD k e,x=>.dD k e x
 |.fn f a b,x=>.fn f (kM c a x.1) (kM c b x.2)
 |.dK,_=>.dK
 |.vw o t,_=>.vw o t
 |.sg l,x=>.sg (sN l x)
 |.undef,_=>.undef
def kM (c:Cp):(l:List Sk)→ak R.T l→List (TV R.T)
 | [],_=>[]
 | [k],x=>[up c k x]
 |k::h::l,p=>up c k p.1::kM c (h::l) p.2
end
def CX:(k:oQ)→Ob R.T→Option (zN R.T k)
 |.cells l=>fun o=>match o with
  |.cells cs=>iq R l cs
  |_=>none
 |.st n=>fun o=>match o with
  |.cells cs=>zR R n (.agg cs)
  |_=>none
 |.map k e=>fun o=>match o with
  |.map _ _ m=>CV R m
  |_=>none
 |.arr t=>fun o=>match o with
  |.arr _ l=>qh R l
  |_=>none
 |.sg l=>fun o=>match o with
  |.sg ss=>vR l ss
  |_=>none
def sO:(k:oQ)→zN R.T k→Ob R.T
 |.cells l,x=>.cells (kM R .any l x)
 |.st n,x=>.cells (jM R .any (R.lf n) (R.of n x))
 |.map k e,x=>.map k e x
 |.arr t,x=>.arr t x
 |.sg l,x=>.sg (sN l x)
def qm (st:List (Nat×TV R.T)):(l:List (Nat×Sk))→Option (zP R.T l)
 | []=>some ()
 | [(i,k)]=>match look st i with
   |some v=>pk R k v
   |none=>none
 | (i,k)::h::l=>match look st i with
   |some v=>match pk R k v with
    |some x=>match qm st (h::l) with
     |some p=>some (x,p)
     |none=>none
    |none=>none
   |none=>none
def GK:(l:List (Nat×Sk))→zP R.T l→List (Nat×TV R.T)
 | [],_=>[]
 | [(i,k)],x=>[(i,up R .any k x)]
 | (i,k)::h::l,p=>(i,up R .any k p.1)::GK (h::l) p.2
def qX (st:List (Nat×Ob R.T)):(l:List (Nat×oQ))→Option (zO R.T l)
 | []=>some ()
 | [(i,k)]=>match look st i with
   |some v=>CX R k v
   |none=>none
 | (i,k)::h::l=>match look st i with
   |some v=>match CX R k v with
    |some x=>match qX st (h::l) with
     |some p=>some (x,p)
     |none=>none
    |none=>none
   |none=>none
def xL:(l:List (Nat×oQ))→zO R.T l→List (Nat×Ob R.T)
 | [],_=>[]
 | [(i,k)],x=>[(i,sO R k x)]
 | (i,k)::h::l,p=>(i,sO R k p.1)::xL (h::l) p.2
def pack (st:MS R.T):(s:Shape)→Option (oU R.T s)
 | ⟨s,[]⟩=>qm R st.fr s
 | ⟨s,o::os⟩=>match qm R st.fr s with
   |some x=>match qX R st.ob (o::os) with
    |some y=>some (x,y)
    |none=>none
   |none=>none
def CY {T:Nat→Type}:TV T→Bool
 |.dK=>true
 |.aj .nil _ l=>l.isEmpty
 |.aj .full _ l=>l.isEmpty
 |_=>false
def oZ {T:Nat→Type} (W:List Nat):List (Nat×Sk)→MS T→MS T
 | [],st=>st
 | (i,.vw o t)::l,st=>match look st.fr i with
   |some v=>bif CY v&& bn o W then oZ W l ⟨(i,.vw o t)::(st.new o (.arr t [])).fr,(st.new o (.arr t [])).ob⟩ else oZ W l st
   |none=>oZ W l st
 |_::l,st=>oZ W l st
def kN (W:List Nat) (st:MS R.T) (s:Shape):Option (oU R.T s):=pack R (oZ W s.sl st) s
def unpack:(s:Shape)→oU R.T s→MS R.T
 | ⟨s,[]⟩,x=>⟨GK R s x,[]⟩
 | ⟨s,o::os⟩,x=>⟨GK R s x.1,xL R (o::os) x.2⟩
def zW:Ex→Ex→Bool
 |.normal,.normal=>true
 |.ret,.ret=>true
 |.exit i,.exit j=>Nat.beq i j
 |_,_=>false
def qY (W:List Nat) (e:Ex) (st:MS R.T):(l:List (Ex×Shape))→Option (Out R.T l)
 | []=>none
 | [(x,s)]=>bif zW e x then kN R W st s else none
 | (x,s)::h::l=>bif zW e x then (match kN R W st s with
   |some p=>some (.inl p)
   |none=>none) else (match qY W e st (h::l) with
   |some p=>some (.inr p)
   |none=>none)
def uD {β:Type} (b:MS R.T) (k:Ex→MS R.T→Option β):(l:List (Ex×Shape))→Out R.T l→Option β
 | [],_=>none
 | [(x,s)],p=>k x (b.over (unpack R s p))
 | (x,s)::h::l,p=>Sum.elim (fun q=>k x (b.over (unpack R s q))) (fun q=>uD b k (h::l) q) p
end
end Aq
end
section
namespace Aq
open Go
inductive dX (R:jB) where
 |t (v:TV R.T)
 |c (b:Bool) (v:TV R.T)
 |w (v:TV R.T) (st:MS R.T)
 |wc (b:Bool) (v:TV R.T) (st:MS R.T)
 |p (α:Type) (d:α) (o:Option α) (f:α→TV R.T)
section
variable (E:Env) (R:jB)
def MG {T:Nat→Type} (agg:Bool) (n:Nat) (cs:List (TV T)) (off:Nat):Option (TV T):=
 bif agg then (bif Nat.ble (off+n) cs.length then some (.agg ((cs.drop off).take n)) else none) else cs[off]?
def kC {T:Nat→Type} (t:TypeId) (cs:List (TV T)) (off:Nat):Option (TV T):=
 match iK E.P t with
 |some a=>match bX E.P t with
  |some n=>MG a n cs off
  |none=>none
 |none=>none
def CZ {T:Nat→Type} (cs:List (TV T)) (off:Nat) (vs:List (TV T)):List (TV T):=cs.take off++vs++cs.drop (off+vs.length)
def MH {T:Nat→Type} (place:Nat→Option (Nat×Nat)) (cells:List (TV T)):List (Nat×TV T)→Option (List (TV T))
 | []=>some cells
 | (i,v)::rest=>match place i with
   |none=>none
   |some (off,size)=>bif Nat.beq v.cells.length size&& Nat.ble (off+size) cells.length&& zV v then MH place (CZ cells off v.cells) rest else none
def vS {T:Nat→Type} (t:TypeId):Option (TV T):=match E.P.info? t with
 |some i=>match i.zero with
  |some z=>CO z
  |none=>none
 |none=>none
def bM {T:Nat→Type}:TV T→Option Bool
 |.bool a=>some a
 |.iM a=>some a
 |_=>none
def MI {T:Nat→Type} (x y:TV T):Option Bool:=match bM x,bM y with
 |some a,some b=>some (a==b)
 |_,_=>none
def C8 {T:Nat→Type} (eq:TypeId→TV T→TV T→Option Bool) (xs ys:List (TV T)):List Field→Option Bool
 | []=>some true
 |f::fs=>if f.name= "_" then C8 eq xs ys fs else
  match kC E f.type xs f.offset with
  |none=>none
  |some a=>match kC E f.type ys f.offset with
   |none=>none
   |some b=>match eq f.type a b with
    |none=>none
    |some r=>match C8 eq xs ys fs with
     |none=>none
     |some q=>some (r&& q)
def GL {T:Nat→Type} (eq:TypeId→TV T→TV T→Option Bool) (e:TypeId) (sz:Nat) (xs ys:List (TV T)):List Nat→Option Bool
 | []=>some true
 |i::is=>match kC E e xs (i*sz) with
  |none=>none
  |some a=>match kC E e ys (i*sz) with
   |none=>none
   |some b=>match eq e a b with
    |none=>none
    |some r=>match GL eq e sz xs ys is with
     |none=>none
     |some q=>some (r&& q)
def C9 {T:Nat→Type}:Nat→TypeId→TV T→TV T→Option Bool
 |0,_,_,_=>none
 |d+1,t,x,y=>
  match E.P.underlying t,x,y with
  |some (.struct fs),.agg xs,.agg ys=>if E.P.stoodInHeld t then none else C8 E (C9 d) xs ys fs.toList
  |some (.array n e),.agg xs,.agg ys=>match bX E.P e with
   |some sz=>GL E (C9 d) e sz xs ys (List.range n)
   |none=>none
  |some (.struct _),_,_=>none
  |some (.array _ _),_,_=>none
  |some .bool,x,y=>MI x y
  |some (.int _),.int k a,.int k' b=>if k=k' then some (a==b) else none
  |some .string,.str a,.str b=>some (a==b)
  |_,_,_=>none
def MJ {T:Nat→Type} (t:TypeId) (x y:TV T):Option Bool:=
 match E.P.underlying t,x,y with
 |some (.struct _),.agg a,.agg b=>if E.P.eqGuardType E.P.depth t then none else C9 E 8 t (.agg a) (.agg b)
 |some (.array _ _),.agg a,.agg b=>if E.P.eqGuardType E.P.depth t then none else C9 E 8 t (.agg a) (.agg b)
 |some (.func ..),.fB,.fB=>some true
 |some (.func ..),.fB,.fn _ _ _=>some false
 |some (.func ..),.fn _ _ _,.fB=>some false
 |some .bool,x,y=>MI x y
 |_,_,_=>none
def MK (op:BinOp) (k:IntKind) (x y:Int):Option (dX R):=
 match op with
 |.add=>some (.t (.int k (k.wrap (x+y))))
 |.sub=>some (.t (.int k (k.wrap (x-y))))
 |.mul=>some (.t (.int k (k.wrap (x*y))))
 |.quo=>some (.c (!(y==0)) (.int k (k.wrap (x.tdiv y))))
 |.rem=>some (.c (!(y==0)) (.int k (x.tmod y)))
 |.and=>some (.t (.int k (k.wrap (BitVec.ofInt k.bits x&&& BitVec.ofInt k.bits y).toNat)))
 |.or=>some (.t (.int k (k.wrap (BitVec.ofInt k.bits x|||BitVec.ofInt k.bits y).toNat)))
 |.xor=>some (.t (.int k (k.wrap (BitVec.ofInt k.bits x^^^BitVec.ofInt k.bits y).toNat)))
 |.andNot=>some (.t (.int k (k.wrap (BitVec.ofInt k.bits x&&& ~~~BitVec.ofInt k.bits y).toNat)))
 |.eql=>some (.t (.bool (x==y)))
 |.neq=>some (.t (.bool (x !=y)))
 |.lss=>some (.t (.bool (decide (x<y))))
 |.leq=>some (.t (.bool (decide (x≤y))))
 |.gtr=>some (.t (.bool (decide (x>y))))
 |.geq=>some (.t (.bool (decide (x≥y))))
 |_=>none
def UZ (op:BinOp) (k:IntKind) (x y:Int):Option (dX R):=
 match op with
 |.shl=>some (.c (decide (0≤y)) (.int k (k.wrap (x*2^min y.toNat k.bits))))
 |.shr=>some (.c (decide (0≤y)) (.int k (x.fdiv (2^min y.toNat k.bits))))
 |_=>none
def U0 (op:BinOp) (x y:List UInt8):Option (dX R):=
 match op with
 |.add=>some (.c (decide (((x.length+y.length:Nat):Int)≤IntKind.i64.max)) (.str (x++y)))
 |.eql=>some (.t (.bool (x==y)))
 |.neq=>some (.t (.bool (!(x==y))))
 |.lss=>some (.t (.bool (Op.bytesLess x y)))
 |.leq=>some (.t (.bool (Op.bytesLess x y||x==y)))
 |.gtr=>some (.t (.bool (!(Op.bytesLess x y||x==y))))
 |.geq=>some (.t (.bool (!(Op.bytesLess x y))))
 |_=>none
def Da:BinOp→Bool
 |.shl=>true
 |.shr=>true
 |_=>false
def U1 (op:BinOp) (t:TypeId) (x y:TV R.T):Option (dX R):=
 match x,y with
 |.int k a,.int k' b=>bif Da op then UZ R op k a b else (if k=k' then MK R op k a b else none)
 |.str a,.str b=>U0 R op a b
 |x,y=>match op with
  |.eql=>match MJ E t x y with
   |some b=>some (.t (.bool b))
   |none=>none
  |.neq=>match MJ E t x y with
   |some b=>some (.t (.bool (!b)))
   |none=>none
  |_=>none
def U2 (op:UnOp) (x:TV R.T):Option (dX R):=
 match op,x with
 |.neg,.int k n=>some (.t (.int k (k.wrap (0-n))))
 |.xor,.int k n=>MK R .xor k (if k.signed then-1 else k.max) n
 |.not,.bool b=>some (.t (.bool (!b)))
 |.not,.iM b=>some (.t (.iM (!b)))
 |_,_=>none
def ML (src dst:TypeId) (x:TV R.T):Option (dX R):=
 match E.P.underlying src,E.P.underlying dst,x with
 |some _,some (.int k),.int _ n=>some (.t (.int k (k.wrap n)))
 |some _,some .string,.str s=>some (.t (.str s))
 |some _,some (.slice e),.str s=>match E.P.underlying e with
  |some (.int .u8)=>some (.t (.aj .any (.int .u8) (s.map fun b=>((b.toNat:Nat):Int))))
  |_=>none
 |some (.slice e),some .string,.aj _ (.int .u8) l=>match E.P.underlying e with
  |some (.int .u8)=>some (.t (.str (List.map (fun n:Int=>UInt8.ofNat n.toNat) l)))
  |_=>none
 |some (.slice e),some .string,.dK=>match E.P.underlying e with
  |some (.int .u8)=>some (.t (.str []))
  |_=>none
 |_,_,_=>none
def gW (i:Int) (n:Nat):Bool:=decide (0≤i∧i≤n)
def Db:Option (TV R.T)→Option (Option Int)
 |none=>some none
 |some (.int _ n)=>some (some n)
 |_=>none
def qZ {α:Type} (l:List α):Option Int→Option Int→List α
 |none,none=>l
 |some i,none=>l.drop i.toNat
 |none,some j=>l.take j.toNat
 |some i,some j=>(l.take j.toNat).drop i.toNat
def U3 (n:Nat):Option Int→Option Int→Bool
 |none,none=>true
 |some i,none=>gW i n
 |none,some j=>gW j n
 |some i,some j=>gW j n&& gW i j.toNat
def xM (t:TypeId) (x:TV R.T) (lo hi:Option (TV R.T)):Option (dX R):=
 match Db R lo,Db R hi with
 |some lo,some hi=>match E.P.underlying t,x with
  |some .string,.str s=>some (.c (U3 s.length lo hi) (.str (qZ s lo hi)))
  |some (.slice e),.aj _ u l=>match bX E.P e with
   |some sz=>bif Nat.beq sz (dB R u) then some (.c (U3 l.length lo hi) (.aj .any u (qZ l lo hi))) else none
   |none=>none
  |_,_=>none
 |_,_=>none
def abx {T:Nat→Type} (t:TypeId) (f:Nat) (x:TV T):Option (TV T):=
 match tX E.P t f with
 |some (o,_)=>match x with
  |.ref p off=>some (.ref p (off+o))
  |.aM cs off=>some (.aM cs (off+o))
  |.kZ p t i off=>some (.kZ p t i (off+o))
  |_=>none
 |none=>none
def eH (R:jB):(t:Ty)→Den R.T t→Den R.T t→Bool
 |.int _=>fun (a b:Int)=>a==b
 |.bool=>fun (a b:Bool)=>a==b
 |.str=>fun (a b:List UInt8)=>a==b
 |.slice _=>fun _ _=>false
 |.st _=>fun _ _=>false
def vT (t:TypeId) (k:Ty):Bool:=match E.P.underlying t,k with
 |some (.int _),.int _=>true
 |some .string,.str=>true
 |some .bool,.bool=>true
 |_,_=>false
def iZ {α β:Type} (eq:α→α→Bool) (x:α):List (α×β)→Option β
 | []=>none
 | (a,v)::m=>bif eq x a then some v else iZ eq x m
def kP {α β:Type} (eq:α→α→Bool) (x:α) (v:β):List (α×β)→List (α×β)
 | []=>[(x,v)]
 | (a,w)::m=>bif eq x a then (x,v)::m else (a,w)::kP eq x v m
def nG {α:Type} (d:α):Option α→α
 |some x=>x
 |none=>d
def unE (t:Ty) (v:TV R.T):Option (Den R.T t):=bif kr v then nW R t v else none
def GN (t:TypeId) (k e:Ty) (m:List (Den R.T k×Den R.T e)) (x:TV R.T) (ok:Bool):Option (dX R):=
 match qI E.P t with
 |some (kt,et)=>bif vT E kt k then (match vS (T:=R.T) E et with
  |some z=>match nW R e z,nW R k x with
   |some z,some x=>some (.t (bif ok then .bJ [gV R .any e (nG z (iZ (eH R k) x m)),.bool (iZ (eH R k) x m).isSome] else gV R .any e (nG z (iZ (eH R k) x m))))
   |_,_=>none
  |none=>none) else none
 |none=>none
def MN (t:TypeId) (m x:TV R.T) (ok:Bool) (st:MS R.T):Option (dX R):=
 match m with
 |.cK o=>match l7 st o with
  |some (.map k e m)=>GN E R t k e m x ok
  |_=>none
 |.dD k e m=>GN E R t k e m x ok
 |.eY=>match qI E.P t with
  |some (kt,et)=>match R.ty kt,R.ty et with
   |some k,some e=>GN E R t k e [] x ok
   |_,_=>none
  |none=>none
 |_=>none
def MO {T:Nat→Type}:TV T→TV T→Option Bool
 |.int k a,.int k' b=>if k=k' then some (a==b) else none
 |.str a,.str b=>some (a==b)
 |_,_=>none
def MP {T:Nat→Type} (t:TypeId):TV T→Bool:=fun v=>match E.P.underlying t,v with
 |some (.int _),.int _ _=>true
 |some .string,.str _=>true
 |_,_=>false
def MQ {T:Nat→Type} (x v:TV T):List (TV T)→List (TV T)→Option (List (TV T)×List (TV T))
 | [],[]=>some ([x],[v])
 |a::ks,w::vs=>match MO x a with
  |some b=>bif b then some (x::ks,v::vs) else (match MQ x v ks vs with
   |some (ks,vs)=>some (a::ks,w::vs)
   |none=>none)
  |none=>none
 |_,_=>none
def Dc (t:TypeId) (m x v:TV R.T) (st:MS R.T):Option (dX R):=
 match m with
 |.cK o=>match look st.ob o with
  |some (.map k e m)=>match qI E.P t with
   |some (kt,_)=>bif vT E kt k then (match nW R k x,unE R e v with
    |some x,some v=>some (.w .undef (st.set o (.map k e (kP (eH R k) x v m))))
    |_,_=>none) else none
   |none=>none
  |some (.smap ks vs)=>match qI E.P t with
   |some (kt,_)=>bif MP E kt x then (match MQ x v ks vs with
    |some (ks,vs)=>some (.w .undef (st.set o (.smap ks vs)))
    |none=>none) else none
   |none=>none
  |_=>none
 |_=>none
def iQ:Ty→Bool
 |.st _=>true
 |_=>false
def Df (t:TypeId):Option (TypeId×Ty×Nat×Nat):=
 match jy E.P t with
 |some e=>match R.ty e,bX E.P e,pX E.P e,iK E.P e,iC E.P e with
  |some u,some sz,some dP,some ag,some z=>bif Nat.beq sz (dB R u)&& Nat.blt 0 sz&& (ag||Nat.beq sz 1)&& Nat.beq z.cells.length sz&& (ag==iQ u) then some (e,u,sz,dP) else none
  |_,_,_,_,_=>none
 |none=>none
def xO (t:Ty) (n:Nat):List (Nat×TV R.T)→Option (List (Den R.T t))
 | []=>some []
 | (i,v)::l=>bif Nat.beq i n then (match nW R t v with
   |some x=>match xO t (n+1) l with
    |some y=>some (x::y)
    |none=>none
   |none=>none) else none
def U4 (t:TypeId) (len:Nat) (ps:List (Nat×TV R.T)):Option (dX R):=
 match Df E R t with
 |some (_,u,sz,_)=>bif Nat.ble (len*sz) (2^24)&& Nat.beq ps.length len then (match xO R u 0 ps with
  |some l=>some (.t (.aj .full u l))
  |none=>none) else none
 |none=>none
def GQ (u:Ty):TV R.T→Option (List (Den R.T u))
 |.aj _ _ l=>qh R l
 |.dK=>some []
 |.str s=>qh (t:=.int .u8) (u:=u) R (s.map fun b=>((b.toNat:Nat):Int))
 |_=>none
def abz (u:Ty) (d:Nat):TV R.T→Option (Nat×List (Den R.T u))
 |.aj .nil _ l=>match qh R l with
  |some l=>some (d,l)
  |none=>none
 |.aj .full _ l=>match qh R l with
  |some l=>some (d,l)
  |none=>none
 |.aj (.own t) _ l=>match qh R l with
  |some l=>some (t,l)
  |none=>none
 |.dK=>some (d,[])
 |_=>none
def Dh (t:TypeId):Bool:=match E.P.underlying t with
 |some (.slice _)=>true
 |some .string=>true
 |_=>false
def GR (d:Option Nat) (t u:TypeId) (x y:TV R.T) (st:MS R.T):Option (dX R):=
 match d with
 |some d=>match Df E R t with
  |some (_,τ,_,dP)=>bif Dh E u then (match abz R τ d x,GQ R τ y with
   |some (tk,l),some l'=>some (.wc (bC (l.length+l'.length) dP) (.aj (.own tk) τ (l++l')) (st.wk tk))
   |_,_=>none) else none
  |none=>none
 |none=>none
def GU (d:Option Nat) (t u:TypeId) (x y:TV R.T) (st:MS R.T):Option (dX R):=
 match d with
 |some d=>match Df E R t with
  |some (_,τ,_,dP)=>bif Dh E u then (match GQ R τ y with
   |some l'=>match x with
    |.vw o τ0=>if τ0=τ then (match look st.ob o with
     |some (.arr τ' l)=>match l',qh R (u:=τ) l with
      |a::l',some l=>some (.wc (bC (l.length+(a::l').length) dP) (.vw d τ) ((st.del o).new d (.arr τ (l++a::l'))))
      |_,_=>none
     |_=>none) else none
    |x=>bif CY x then some (.wc (bC l'.length dP) (.vw d τ) (st.new d (.arr τ l'))) else none
   |none=>none) else none
  |none=>none
 |none=>none
def U5 (om:Bool) (d:Option Nat) (t:TypeId) (n m:TV R.T) (st:MS R.T):Option (dX R):=
 match d,Df E R t,n,m with
 |some d,some (e,τ,_,dP),.int _ n,.int _ m=>match vS (T:=R.T) E e with
  |some z=>match nW R τ z with
   |some z=>bif om then some (.wc (decide (0≤n∧n=m∧m≤2^47)&& bC m.toNat dP) (.vw d τ) (st.new d (.arr τ (List.replicate n.toNat z))))
    else some (.wc (decide (n=0∧0≤m∧m≤2^47)&& bC m.toNat dP) (.aj (.own d) τ []) (st.wk d))
   |none=>none
  |none=>none
 |_,_,_,_=>none
def Di {T:Nat→Type} (mx:Bool):TV T→List (TV T)→Option (TV T)
 |x,[]=>some x
 |.int k a,.int k' b::l=>if k=k' then Di mx (.int k (bif mx then imax a b else oO a b)) l else none
 |_,_=>none
def U6 {T:Nat→Type} (t:TypeId) (x:TV T) (st:MS T):Option Nat:=
 match E.P.underlying t,x with
 |some (.slice _),.aj _ _ l=>some l.length
 |some (.slice _),.dK=>some 0
 |some (.slice _),.vw o _=>match l7 st o with
  |some (.arr _ l)=>some l.length
  |_=>none
 |some .string,.str s=>some s.length
 |some (.map _ _),.cK o=>match l7 st o with
  |some (.map _ _ m)=>some m.length
  |_=>none
 |some (.map _ _),.dD _ _ m=>some m.length
 |some (.map _ _),.eY=>some 0
 |some (.array n _),_=>some n
 |_,_=>none
def blt (om:Bool) (d:Option Nat) (b:Builtin) (tys:Array TypeId) (args:List (TV R.T)) (st:MS R.T):Option (dX R):=
 match b,args with
 |.len,[x]=>match tys[0]? with
  |some t=>match U6 E t x st with
   |some n=>some (.t (.int .i64 ((n:Nat):Int)))
   |none=>none
  |none=>none
 |.append,[x,y]=>match tys[0]?,tys[1]? with
  |some t,some u=>bif om then GU E R d t u x y st else GR E R d t u x y st
  |_,_=>none
 |.min,x::l=>match Di false x l with
  |some v=>some (.t v)
  |none=>none
 |.max,x::l=>match Di true x l with
  |some v=>some (.t v)
  |none=>none
 |_,_=>none
def abA:List (TV R.T)→TV R.T
 | [v]=>v
 |vs=>.bJ vs
def findF (args cZ:List (TV R.T)):List (FR R)→Option (dX R)
 | []=>none
 |r::l=>match iq R r.args cZ with
  |some p=>bif jg r.args&& Nat.ble (nZ r.args) 18&& jg r.res&& (xK args||CS r.res) then some (.p (ak R.T r.res) r.d (r.F p) fun x=>abA R (kM R .sh r.res x)) else none
  |none=>findF args cZ l
def U7 (t:TypeId) (x i:TV R.T):Option (dX R):=
 match E.P.underlying t,x,i with
 |some (.slice e),.aj _ u l,.int _ n=>match bX E.P e with
  |some sz=>bif Nat.beq sz (dB R u) then some (.p (Den R.T u) (CG R u) (aK l n) fun y=>.aM (gV R .sh u y).cells 0) else none
  |none=>none
 |some (.array n e),.ref o off,.int _ k=>match bX E.P e with
  |some sz=>some (.c (decide (0≤k∧k<n)) (.ref o (off+k.toNat*sz)))
  |none=>none
 |some (.array n e),.aM cs off,.int _ k=>match bX E.P e with
  |some sz=>some (.c (decide (0≤k∧k<n)) (.aM cs (off+k.toNat*sz)))
  |none=>none
 |_,_,_=>none
def U8 (t:TypeId) (o:Nat) (τ:Ty) (i:TV R.T) (st:MS R.T):Option (dX R):=
 match E.P.underlying t,i with
 |some (.slice e),.int _ n=>match bX E.P e with
  |some sz=>bif Nat.beq sz (dB R τ) then (match l7 st o with
   |some (.arr _ l)=>some (.c (decide (0≤n∧n< ((l.length:Nat):Int))) (.kZ o τ n 0))
   |_=>none) else none
  |none=>none
 |_,_=>none
def amQ {T:Nat→Type}:Option (TV T)→TV T
 |some v=>v
 |none=>.gone
def U9 (t:TypeId) (τ:Ty) (i:Int) (off:Nat) (o:Ob R.T):Option (dX R):=
 match o with
 |.arr τ' l=>match qh R (u:=τ) l with
  |some l=>bif (kC E t (gV R .any τ (CG R τ)).cells off).isSome then some (.p (Den R.T τ) (CG R τ) (aK l i) fun y=>amQ (kC E t (gV R .any τ y).cells off)) else none
  |none=>none
 |_=>none
def Va (τ:Ty) (cs:List (TV R.T)):Option (Den R.T τ):=match τ with
 |.st n=>zR R n (.agg cs)
 |.int k=>oV R (.int k) (hd1 R cs)
 |.bool=>oV R .bool (hd1 R cs)
 |.str=>oV R .str (hd1 R cs)
 |.slice t=>oV R (.slice t) (hd1 R cs)
def Vb (t:TypeId) (x i:TV R.T):Option (dX R):=
 match E.P.underlying t,x,i with
 |some .string,.str s,.int _ n=>some (.p UInt8 0 (aK s n) fun b=>.int .u8 ((b.toNat:Nat):Int))
 |_,_,_=>none
def Dj {T:Nat→Type} (c:Bool):TV T→TV T→Option (TV T)
 |.int k a,.int k' b=>if k=k' then some (.int k (bif c then a else b)) else none
 |.bool a,.bool b=>some (.bool (bif c then a else b))
 |.bool a,.iM b=>some (.bool (bif c then a else b))
 |.iM a,.bool b=>some (.bool (bif c then a else b))
 |.iM a,.iM b=>some (.bool (bif c then a else b))
 |.str a,.str b=>some (.str (bif c then a else b))
 |_,_=>none
def abB (P:Program):Nat→TypeId→Option (List jA)
 |0,_=>none
 |n+1,t=>match P.underlying t with
  |some (.int k)=>some [.i k]
  |some (.array m e)=>match P.underlying e with
   |some (.int k)=>some [.a k m]
   |_=>none
  |some (.struct fs)=>fs.toList.foldr (fun f acc=>match abB P n f.type,acc with
   |some a,some b=>some (a++b)
   |_,_=>none) (some [])
  |_=>none
def abC:List jA→Bool
 | []=>false
 |.a _ _::_=>true
 |_::l=>abC l
def sgT (t:TypeId):Option (List jA):=match R.ty t with
 |some _=>none
 |none=>match abB E.P 4 t with
  |some ks=>bif abC ks then some ks else none
  |none=>none
def Sg.sk:Sg→jA
 |.i k _=>.i k
 |.a k n _=>.a k n
def MR:jA→Sg
 |.i k=>.i k 0
 |.a k n=>.a k n (Vec.rep n 0)
def zX {T:Nat→Type} (k:IntKind):List (TV T)→Bool
 | []=>true
 |.int k' x::l=>(if k'=k then (if x=0 then true else false) else false)&& zX k l
 |_=>false
def Dk {T:Nat→Type}:List jA→List (TV T)→Bool
 | [],[]=>true
 |.i k::l,v::vs=>zX k [v]&& Dk l vs
 |.a k n::l,vs=>Nat.ble n vs.length&& zX k (vs.take n)&& Dk l (vs.drop n)
 |_,_=>false
def xP {T:Nat→Type}:List jA→List (TV T)→Option (List Sg)
 | [],[]=>some []
 |.i k::l,.int k' x::vs=>if k'=k then (match xP l vs with
  |some r=>some (.i k x::r)
  |none=>none) else none
 |.a k n::l,vs=>match zT k (vs.take n) with
  |some xs=>bif Nat.beq xs.length n then (match xP l (vs.drop n) with
   |some r=>some (.a k n (Vec.lit n xs)::r)
   |none=>none) else none
  |none=>none
 |_,_=>none
def GV {T:Nat→Type}:List Sg→List (TV T)
 | []=>[]
 |.i k x::l=>.int k x::GV l
 |.a k n v::l=>(List.range n).map (fun j=>TV.int k (v.nth j))++GV l
def Dl:List jA→List jA→Bool
 | [],[]=>true
 |.i k::l,.i k'::l'=>(if k=k' then true else false)&& Dl l l'
 |.a k n::l,.a k' n'::l'=>(if k=k' then true else false)&& Nat.beq n n'&& Dl l l'
 |_,_=>false
def MU {T:Nat→Type} (ks:List jA):TV T→Option (List Sg)
 |.sg ss=>bif Dl ks (ss.map Sg.sk) then some ss else none
 |.agg cs=>xP ks cs
 |.int k x=>match ks with
  | [.i k']=>if k'=k then some [.i k x] else none
  |_=>none
 |_=>none
def MV (t:TypeId) (ss:List Sg) (off:Nat):Option (TV R.T):=
 match nY ss off,bX E.P t,iK E.P t with
 |some (_,rest),some sz,some ag=>match nY rest sz with
  |some (mid,_)=>bif ag then (match R.ty t with
   |none=>some (.sg mid)
   |some _=>some (.agg (GV mid))) else (match mid with
   | [.i k x]=>some (.int k x)
   |_=>none)
  |none=>none
 |_,_,_=>none
def Vd (t:TypeId) (k:IntKind) (m:Nat) (n:Nat) (v:Vec n) (i:Int):Option (TV R.T):=
 match pY E.P t,bX E.P t,iK E.P t with
 |some (m',e),some sz,some true=>bif Nat.beq m' m&& Nat.beq sz m then (match R.ty t with
  |none=>some (.sg [.a k m (v.slc i m)])
  |some _=>some (.agg ((List.range m).map fun j=>.int k (v.nth (i.toNat+j))))) else none
 |_,_,_=>none
def qo (t:TypeId):Bool:=match bX E.P t,iK E.P t with
 |some sz,some ag=>Nat.beq sz 1&& !ag
 |_,_=>false
def MW (k:IntKind):List V→List Int→Bool
 | [],[]=>true
 |.int k' x::l,y::m=>(if k'=k then (if x=y then true else false) else false)&& MW k l m
 |_,_=>false
def MX (g:Nat) (t:TypeId):Option ((k:IntKind)×(n:Nat)×Vec n):=
 match E.glob g,R.gl g,pY E.P t,bX E.P t,iK E.P t with
 |some cs,some ⟨k,n,v⟩,some (m,e),some sz,some ag=>bif ag&& Nat.beq m n&& Nat.beq sz n&& qo E e&& MW k cs v.l then some ⟨k,n,v⟩ else none
 |_,_,_,_,_=>none
def bP (i:Int) (n:Nat):Bool:=decide (0≤i∧i<n)
def nH (n:Nat):Option Int→Option Int→Bool
 |none,none=>true
 |some i,none=>decide (0≤i∧(i<n∨i=0))
 |none,some j=>decide (0≤j∧j≤n)
 |some i,some j=>decide (0≤i∧i≤j∧j≤n∧(i<j∨i=0))
def dQ:Option Int→Int
 |some i=>i
 |none=>0
def gJ (n:Nat):Option Int→Int
 |some i=>i
 |none=>n
def xQ (t:TypeId) (x:TV R.T) (lo hi:Option (TV R.T)) (st:MS R.T):Option (dX R):=
 match x,Db R lo,Db R hi,pY E.P t with
 |.ref o off,some lo,some hi,some (n,e)=>bif qo E e then (match l7 st o with
  |some (.sg ss)=>match nY ss off with
   |some (_,.a k n' _::_)=>bif Nat.beq n' n then some (.c (nH n lo hi) (.sv o off k n lo hi)) else none
   |_=>none
  |some (.cells cs)=>match (cs.drop off) with
   |.int k _::_=>bif Nat.ble (off+n) cs.length then some (.c (nH n lo hi) (.sv o off k n lo hi)) else none
   |_=>none
  |_=>none) else none
 |_,_,_,_=>none
def o7 (g:List (Nat×Bool)) (d:Option Nat) (o:Op) (st:MS R.T):Option (dX R):=
 match o with
 |.alloc t=>match d,sgT E R t,vS (T:=R.T) E t with
  |some d,some ks,some (.agg cs)=>bif Dk ks cs then some (.w (.ref d 0) (st.new d (.sg (ks.map MR)))) else none
  |_,_,_=>none
 |.box t x=>match d,sgT E R t,bO g st x with
  |some d,some ks,some v=>match MU ks v with
   |some ss=>some (.w (.ref d 0) (st.new d (.sg ss)))
   |none=>none
  |_,_,_=>none
 |.load t a=>match a with
  |.global gl=>match MX E R gl t with
   |some ⟨k,n,v⟩=>some (.t (.sg [.a k n v]))
   |none=>none
  |a=>match bO g st a with
   |some (.ref o off)=>match l7 st o with
    |some (.sg ss)=>match MV E R t ss off with
     |some v=>some (.t v)
     |none=>none
    |_=>none
   |some (.sel o off k n i m)=>match l7 st o with
    |some (.sg ss)=>match nY ss off with
     |some (_,.a k' n' v::_)=>if k'=k then (bif Nat.beq n' n then (bif Nat.beq m 1&& qo E t then some (.t (.int k (v.at' i))) else (match Vd E R t k m n' v i with
      |some v=>some (.t v)
      |none=>none)) else none) else none
     |_=>none
    |_=>none
   |some (.qW k n v i)=>bif qo E t then some (.t (.int k (v.at' i))) else none
   |_=>none
 |.store t a x=>match bO g st a,bO g st x with
  |some (.ref o off),some v=>match look st.ob o,bX E.P t with
   |some (.sg ss),some sz=>match nY ss off with
    |some (pre,rest)=>match nY rest sz with
     |some (mid,post)=>match MU (mid.map Sg.sk) v with
      |some mid'=>some (.w .undef (st.set o (.sg (pre++(mid'++post)))))
      |none=>none
     |none=>none
    |none=>none
   |_,_=>none
  |some (.sel o off k n i m),some (.int k' y)=>match look st.ob o with
   |some (.sg ss)=>match nY ss off with
    |some (pre,.a k2 n' v::post)=>if k2=k then (if k'=k then (bif Nat.beq n' n&& Nat.beq m 1&& qo E t then some (.w .undef (st.set o (.sg (pre++(.a k n' (v.set i y)::post))))) else none) else none) else none
    |_=>none
   |_=>none
  |_,_=>none
 |.indexAddr t x i=>match pY E.P t,bO g st i with
  |some (n,e),some (.int _ i)=>bif qo E e then (match x with
   |.global gl=>match MX E R gl t with
    |some ⟨k,n,v⟩=>some (.c (bP i n) (.qW k n v i))
    |none=>none
   |x=>match bO g st x with
    |some (.ref o off)=>match l7 st o with
     |some (.sg ss)=>match nY ss off with
      |some (_,.a k n' _::_)=>bif Nat.beq n' n then some (.c (bP i n) (.sel o off k n i 1)) else none
      |_=>none
     |_=>none
    |_=>none) else none
  |_,_=>none
 |.index t x i=>match pY E.P t,bO g st x,bO g st i with
  |some (n,e),some (.sg [.a k n' v]),some (.int _ i)=>bif qo E e&& Nat.beq n' n then some (.c (bP i n) (.int k (v.at' i))) else none
  |_,_,_=>none
 |.slice t x lo hi none=>match bO g st x with
  |some x=>match lo,hi with
   |none,none=>xQ E R t x none none st
   |some lo,none=>match bO g st lo with
    |some lo=>xQ E R t x (some lo) none st
    |none=>none
   |none,some hi=>match bO g st hi with
    |some hi=>xQ E R t x none (some hi) st
    |none=>none
   |some lo,some hi=>match bO g st lo,bO g st hi with
    |some lo,some hi=>xQ E R t x (some lo) (some hi) st
    |_,_=>none
  |none=>none
 |.slice t x lo (some hi) (some mx)=>match bO g st x,bO g st hi,bO g st mx,E.P.underlying t with
  |some (.aj _ u l),some (.int _ h),some (.int _ m),some (.slice e)=>match bX E.P e with
   |some sz=>bif Nat.beq sz (dB R u) then (match lo with
    |none=>some (.c (gW m l.length&& gW h m.toNat) (.aj .any u (qZ l none (some h))))
    |some lo=>match bO g st lo with
     |some (.int _ a)=>some (.c (gW m l.length&& (gW h m.toNat&& gW a h.toNat)) (.aj .any u (qZ l (some a) (some h))))
     |_=>none) else none
   |none=>none
  |_,_,_,_=>none
 |.convert a b x=>match bO g st x with
  |some (.sv o off k n lo hi)=>match E.P.underlying a,E.P.underlying b with
   |some (.slice e),some .string=>match E.P.underlying e,k with
    |some (.int .u8),.u8=>match MC st o off .u8 n lo hi with
     |some l=>some (.t (.str (List.map (fun n:Int=>UInt8.ofNat n.toNat) l)))
     |none=>none
    |_,_=>none
   |_,_=>none
  |_=>none
 |.sliceToArrayPointer t x=>match pY E.P t,bO g st x with
  |some (m,e),some (.sv o off k n lo hi)=>some (.c (decide (0<m∧m≤gJ n hi-dQ lo)) (.sel o off k n (dQ lo) m))
  |_,_=>none
 |.call c=>match c.callee,nD g st c.args.toList with
  |.builtin .copy,some [.sv o off k n lo hi,y]=>match c.argTypes[0]? with
   |some t=>match jy E.P t with
    |some e=>bif qo E e then (match GQ R (.int k) y,look st.ob o with
     |some l,some (.sg ss)=>match nY ss off with
      |some (pre,.a k' n' v::post)=>if k'=k then (bif Nat.beq n' n then
        some (.w (.int .i64 (((l.take (gJ n hi-dQ lo).toNat).length:Nat):Int)) (st.set o (.sg (pre++(.a k n' (v.oP (dQ lo) (l.take (gJ n hi-dQ lo).toNat))::post))))) else none) else none
      |_=>none
     |_,_=>none) else none
    |none=>none
   |none=>none
  |_,_=>none
 |_=>none
def qp (om:Bool) (F:Nat→List (FR R)) (g:List (Nat×Bool)) (d:Option Nat) (o:Op) (st:MS R.T):Option (dX R):=
 match o with
 |.move x=>match bO g st x with
  |some v=>some (.t v)
  |none=>none
 |.assign x=>match bO g st x with
  |some v=>some (.t v)
  |none=>none
 |.pick c a b=>match c with
  |.tmp j=>match bO g st c with
   |some (.bool t)=>match bO ((j,true)::g) st a,bO ((j,false)::g) st b with
    |some x,some y=>match Dj t x y with
     |some v=>some (.t v)
     |none=>none
    |_,_=>none
   |some (.iM t)=>match bO g st (bif t then a else b) with
    |some v=>some (.t v)
    |none=>none
   |_=>none
  |_=>none
 |.alloc t=>match d,vS E t with
  |some d,some z=>bif xJ z.cells&& !(l6 d z.cells) then some (.w (.ref d 0) (st.new d (.cells z.cells))) else none
  |_,_=>none
 |.box _ x=>match d,bO g st x with
  |some d,some v=>bif xJ v.cells&& zV v&& !(l6 d v.cells) then some (.w (.ref d 0) (st.new d (.cells v.cells))) else none
  |_,_=>none
 |.build t parts=>match BS E t,vS (T:=R.T) E t,CP g st parts.toList with
  |some pl,some z,some ps=>match MH pl z.cells ps with
   |some cs=>some (.t (.agg cs))
   |none=>none
  |_,_,_=>none
 |.buildSlice t len parts=>match CP g st parts.toList with
  |some ps=>U4 E R t len ps
  |none=>none
 |.load t a=>match bO g st a with
  |some (.ref o off)=>match l7 st o with
   |some (.cells cs)=>match kC E t cs off with
    |some v=>some (.t v)
    |none=>none
   |_=>none
  |some (.aM cs off)=>match kC E t cs off with
   |some v=>some (.t v)
   |none=>none
  |some (.kZ o τ i off)=>match l7 st o with
   |some b=>U9 E R t τ i off b
   |none=>none
  |_=>none
 |.store t a x=>match bO g st a,bO g st x with
  |some (.ref o off),some v=>match look st.ob o,bX E.P t with
   |some (.cells cs),some sz=>bif Nat.beq v.cells.length sz&& Nat.ble (off+v.cells.length) cs.length&& xJ v.cells&& zV v then
     some (.w .undef (st.set o (.cells (CZ cs off v.cells)))) else none
   |_,_=>none
  |_,_=>none
 |.nilCheck x=>match bO g st x with
  |some (.ref o off)=>some (.t (.ref o off))
  |some (.aM cs off)=>some (.t (.aM cs off))
  |some (.kZ o τ i off)=>some (.t (.kZ o τ i off))
  |some (.fn f a b)=>some (.t (.fn f a b))
  |_=>none
 |.binOp op t x y _=>match bO g st x,bO g st y with
  |some x,some y=>U1 E R op t x y
  |_,_=>none
 |.unOp op _ x=>match bO g st x with
  |some x=>U2 R op x
  |none=>none
 |.convert a b x=>match bO g st x with
  |some x=>ML E R a b x
  |none=>none
 |.makeFunc (.func f) a b=>match nD g st a.toList,nD g st b.toList with
  |some a,some b=>some (.t (.fn f a b))
  |_,_=>none
 |.makeMap t none=>match d,qI E.P t with
  |some d,some (k,e)=>match R.ty k,R.ty e with
   |some k,some e=>some (.w (.cK d) (st.new d (.map k e [])))
   |_,_=>some (.w (.cK d) (st.new d (.smap [] [])))
  |_,_=>none
 |.makeSlice t l c=>match bO g st l,bO g st c with
  |some n,some m=>U5 E R om d t n m st
  |_,_=>none
 |.slice t x lo hi none=>match bO g st x with
  |some x=>match lo,hi with
   |none,none=>xM E R t x none none
   |some lo,none=>match bO g st lo with
    |some lo=>xM E R t x (some lo) none
    |none=>none
   |none,some hi=>match bO g st hi with
    |some hi=>xM E R t x none (some hi)
    |none=>none
   |some lo,some hi=>match bO g st lo,bO g st hi with
    |some lo,some hi=>xM E R t x (some lo) (some hi)
    |_,_=>none
  |none=>none
 |.fieldAddr t x f=>match bO g st x with
  |some x=>match abx E t f x with
   |some v=>some (.t v)
   |none=>none
  |none=>none
 |.field t x f=>match tX E.P t f,bO g st x with
  |some (o,u),some (.agg cs)=>match kC E u cs o with
   |some v=>some (.t v)
   |none=>none
  |_,_=>none
 |.indexAddr t x i=>match bO g st x,bO g st i with
  |some (.vw o τ),some i=>U8 E R t o τ i st
  |some x,some i=>U7 E R t x i
  |_,_=>none
 |.index t x i=>match bO g st x,bO g st i with
  |some x,some i=>Vb E R t x i
  |_,_=>none
 |.lookup t x i ok=>match bO g st x,bO g st i with
  |some x,some i=>MN E R t x i ok st
  |_,_=>none
 |.mapUpdate t m k v=>match bO g st m,bO g st k,bO g st v with
  |some m,some k,some v=>Dc E R t m k v st
  |_,_,_=>none
 |.insert t m k v=>match bO g st m,bO g st k,bO g st v with
  |some m,some k,some v=>Dc E R t m k v st
  |_,_,_=>none
 |.extract x i=>match bO g st x with
  |some (.bJ vs)=>match vs[i]? with
   |some v=>some (.t v)
   |none=>none
  |_=>none
 |.call c=>match c.callee with
  |.builtin b=>match nD g st c.args.toList with
   |some vs=>blt E R om d b c.argTypes vs st
   |none=>none
  |.value f=>match bO g st f,nD g st c.args.toList with
   |some (.fn f a b),some vs=>bif E.imp f then none else findF R (a++vs++b) (nE st (a++vs++b)) (F f)
   |_,_=>none
  |_=>none
 |_=>none
def uE (om:Bool) (F:Nat→List (FR R)) (g:List (Nat×Bool)) (d:Option Nat) (o:Op) (st:MS R.T):Option (dX R):=
 match o7 E R g d o st with
 |some r=>some r
 |none=>qp E R om F g d o st
inductive Gd where
 |no
 |run
 |skip
 |dyn (j:Nat) (w:Bool) (c:Bool) (g:List (Nat×Bool))
def Dm (b w:Bool):Bool:=bif w then b else !b
def Ve (a b:Bool):Bool:=bif a then b else false
def mQ {T:Nat→Type} (st:MS T):Nat→Nat→Bool→Option (Bool×List (Nat×Bool))
 |0,_,_=>none
 |n+1,j,w=>match look st.fr j with
  |some (.bool b)=>some (Dm b w,[(j,w)])
  |some (.opt i u (.bool b))=>match mQ st n i u with
   |some (c,g)=>some (Ve c (Dm b w),(j,w)::g)
   |none=>none
  |some (.opt i u (.iM b))=>match mQ st n i u with
   |some (c,g)=>some (Ve c (Dm b w),(j,w)::g)
   |none=>none
  |_=>none
def MZ {T:Nat→Type} (all:List Oper) (st:MS T) (o:Oper):Gd:=
 match o.guard with
 |none=>.run
 |some (j,w)=>match all[j]? with
  |some p=>match p.dst with
   |some t=>match look st.fr t with
    |some (.iM b)=>bif b==w then .run else .skip
    |some .undef=>.skip
    |_=>match mQ st 12 t w with
     |some (c,g)=>.dyn t w c g
     |none=>.no
   |none=>.skip
  |none=>.skip
def MS.ru {T:Nat→Type} (st:MS T):List (Nat×Bool)→MS T
 | []=>st
 | (j,w)::g=>(st.ru g).learn j w
def MS.xR {T:Nat→Type} (st:MS T):List (Nat×Bool)→MS T
 | [(j,w)]=>st.learn j (!w)
 |_=>st
def jc {α:Type} (c:Bool) (o:Option α) (d:α):Option α:=bif c then o else some d
def Vf (st:MS R.T) (t:TypeId) (m x:Operand):Option (List (TV R.T)×List (TV R.T)×TV R.T×TV R.T):=
 match bO [] st m with
 |some (.cK o)=>match l7 st o with
  |some (.smap ks vs)=>match bO [] st x,qI E.P t with
   |some x,some (kt,et)=>match vS (T:=R.T) E et with
    |some z=>bif MP E kt x then some (ks,vs,x,z) else none
    |none=>none
   |_,_=>none
  |_=>none
 |_=>none
def M0 {T:Nat→Type} {β:Type} (x:TV T):List (TV T)→List (TV T)→TV T→(TV T→Bool→Option β)→Option β
 | [],[],z,k=>k z false
 |a::ks,v::vs,z,k=>match MO x a with
  |some b=>bif b then k v true else M0 x ks vs z k
  |none=>none
 |_,_,_,_=>none
section
variable (om:Bool) {β:Type} (F:Nat→List (FR R))
def Vg (t:TypeId) (a x:Operand) (st:MS R.T):Option ((τ:Ty)×Nat×Int×Nat×List (Den R.T τ)×TV R.T):=
 match bO [] st a,bO [] st x with
 |some (.kZ o τ i off),some v=>match look st.ob o,bX E.P t with
  |some (.arr τ' l),some sz=>match qh R (u:=τ) l with
   |some l=>bif Nat.beq v.cells.length sz&& Nat.ble (off+v.cells.length) (dB R τ)&& xJ v.cells&& zV v then some ⟨τ,o,i,off,l,v⟩ else none
   |none=>none
  |_,_=>none
 |_,_=>none
def mh {α:Type} (l:List α) (i:Int) (y:α):List α:=l.set i.toNat y
def runM (o:Oper) (st:MS R.T) (k:MS R.T→Option β):Option β:=
 match o.op with
 |.pick c a b=>match bO [] st c with
  |some (.iM t)=>match bO [] st (bif t then a else b) with
   |some v=>k (st.fG o.dst v)
   |none=>none
  |some (.bool t)=>match c with
   |.tmp j=>match bO [(j,true)] st a,bO [(j,false)] st b with
    |some x,some y=>match Dj t x y with
     |some v=>k (st.fG o.dst v)
     |none=>bif t then k ((st.learn j true).fG o.dst x) else k ((st.learn j false).fG o.dst y)
    |_,_=>none
   |_=>none
  |_=>none
 |.store t a x=>match Vg E R t a x st with
  |some ⟨τ,p,i,off,l,v⟩=>(aK l i).bind fun y=>match Va R τ (CZ (gV R .any τ y).cells off v.cells) with
   |some y'=>k ((st.set p (.arr τ (mh l i y'))).fG o.dst .undef)
   |none=>none
  |none=>match uE E R om F [] o.dst (.store t a x) st with
   |some (.w v st')=>k (st'.fG o.dst v)
   |_=>none
 |.lookup t m x ok=>match Vf E R st t m x with
  |some (ks,vs,x,z)=>M0 x ks vs z fun v b=>k (st.fG o.dst (bif ok then .bJ [v,.iM b] else v))
  |none=>match uE E R om F [] o.dst (.lookup t m x ok) st with
   |some (.t v)=>k (st.fG o.dst v)
   |_=>none
 |op=>match uE E R om F [] o.dst op st with
  |some (.t v)=>k (st.fG o.dst v)
  |some (.c b v)=>bif b then k (st.fG o.dst v) else none
  |some (.w v st')=>k (st'.fG o.dst v)
  |some (.wc b v st')=>bif b then k (st'.fG o.dst v) else none
  |some (.p _ _ x f)=>x.bind fun a=>k (st.fG o.dst (f a))
  |none=>none
def GX (b c:Bool):Bool:=bif b then c else true
def Vh (o:Oper) (j:Nat) (w c:Bool) (g:List (Nat×Bool)) (st:MS R.T) (k:MS R.T→Option β):Option β:=
 match o.dst with
 |some d=>match (bif bn d (g.map (·.1)) then none else uE E R om F g o.dst o.op st) with
  |some (.t v)=>k (st.put d (.opt j w v))
  |some (.c b v)=>bif GX c b then k (st.put d (.opt j w v)) else none
  |some (.p _ z x f)=>(jc c x z).bind fun a=>k (st.put d (.opt j w (f a)))
  |_=>bif c then runM E R om F o (st.ru g) k else k ((st.xR g).fG o.dst .undef)
 |none=>bif c then runM E R om F o (st.ru g) k else k ((st.xR g).fG o.dst .undef)
def sP {T:Nat→Type} (st:MS T) (o:Oper):Bool:=match o.op with
 |.call c=>match c.callee with
  |.value f=>match bO [] st f with
   |some (.fn g _ _)=>match o.dst with
    |some d=>E.own g d
    |none=>false
   |_=>true
  |_=>false
 |_=>false
def amR:List Sk→Bool
 |.dK::k::l=>jg (k::l)
 |_=>false
def Dn (args cZ:List (TV R.T)):List (FR R)→Option ((τ:Ty)×Option (List (Den R.T τ)))
 | []=>none
 | ⟨as,[.d (.slice τ)],G,_,true⟩::l=>match iq R as cZ with
   |some p=>bif (jg as||amR as)&& Nat.ble (nZ as) 18&& xK args then some ⟨τ,G p⟩ else none
   |none=>Dn args cZ l
 |_::l=>Dn args cZ l
def Vi (o:Oper) (st:MS R.T) (k:MS R.T→Option β):Option β:=match o.op,o.dst with
 |.call c,some d=>match c.callee with
  |.value f=>match bO [] st f,nD [] st c.args.toList with
   |some (.fn g a b),some vs=>match Dn R (a++vs++b) (nE st (a++vs++b)) (F g) with
    |some ⟨τ,x⟩=>x.bind fun l=>k ((st.wk d).put d (.aj (.own d) τ l))
    |none=>none
   |_,_=>none
  |_=>none
 |_,_=>none
def xS (all:List Oper):List Oper→MS R.T→(MS R.T→Option β)→Option β
 | [],st,k=>k st
 |o::os,st,k=>match MZ all st o with
  |.run=>bif sP E st o then Vi R F o st (fun st=>xS all os st k) else runM E R om F o st (fun st=>xS all os st k)
  |.skip=>xS all os (st.fG o.dst .undef) k
  |.dyn j w c g=>bif sP E st o||sP E (st.ru g) o then none else Vh E R om F o j w c g st (fun st=>xS all os st k)
  |.no=>none
def abE {T:Nat→Type}:TV T→List Key
 |.ref o _=>[.obj (1,o)]
 |.cK o=>[.obj (1,o)]
 |.kZ o _ _ _=>[.obj (1,o)]
 |.sv o _ _ _ _ _=>[.obj (1,o)]
 |.sel o _ _ _ _ _=>[.obj (1,o)]
 |_=>[]
def vU {T:Nat→Type} (st:MS T) (x:Operand):List Key:=match bO [] st x with
 |some v=>abE v
 |none=>[]
def Dp (o:Oper):List Key:=match o.dst with
 |some t=>[.obj (1,t)]
 |none=>[]
def M4 {T:Nat→Type}:List (TV T)→Bool
 | []=>false
 |.sv _ _ _ _ _ _::_=>true
 |_::l=>M4 l
def Vj (om:Bool) {T:Nat→Type} (st:MS T) (o:Oper):eG:=
 match o.op with
 |.move _|.assign _|.pick .. |.build .. |.buildSlice .. |.nilCheck _|.binOp .. |.unOp .. |.makeInterface .. |.makeFunc .. |.fieldAddr .. |.field .. |.indexAddr .. |.index .. |.extract ..
 |.sliceToArrayPointer .. =>fD []
 |.convert _ _ x|.slice _ x _ _ _|.load _ x|.lookup _ x _ _=>fD (vU st x)
 |.alloc _|.box .. |.makeMap .. =>fM (Dp o)
 |.makeSlice .. =>fM (.top::Dp o)
 |.store _ a _=>fM (vU st a)
 |.mapUpdate _ m _ _|.insert _ m _ _=>fM (vU st m)
 |.call c=>match c.callee with
  |.builtin b=>match b with
   |.len|.cap|.min|.max=>fD (c.args.toList.flatMap fun x=>vU st x)
   |.append=>bif om then iL else ⟨false,false,c.args.toList.flatMap fun x=>vU st x,[.top]⟩
   |_=>iL
  |.value f=>match bO [] st f with
   |some (.fn g a b)=>if E.imp g then iL else (match nD [] st c.args.toList with
    |some vs=>if xK (a++vs++b) then fD [] else ⟨true,false,[],[]⟩
    |none=>iL)
   |_=>iL
  |_=>iL
 |_=>iL
def xU (om:Bool) {T:Nat→Type} (all:List Oper) (st:MS T) (o:Oper) (wanted:Bool):eG:=
 if wanted then let f:=Vj E om st o;⟨f.zx,f.su,gD all o++f.t,eZ o++f.w⟩
 else ⟨false,false,gD all o,eZ o⟩
def Dr {T:Nat→Type}:TV T→Bool
 |.gone=>false
 |.opt _ _ _=>false
 |.vw _ _=>false
 |_=>true
def xV {T:Nat→Type} (st:MS T) (o:Oper):Bool:= !(sP E st o)&&
 match o.op with
 |.call c=>match c.callee with
  |.value f=>match bO [] st f,nD [] st c.args.toList with
   |some (.fn _ a b),some vs=>xK (a++vs++b)||M4 (a++vs++b)
   |_,_=>false
  |.builtin _=>match nD [] st c.args.toList with
   |some vs=>vs.all Dr
   |none=>false
  |_=>true
 |_=>true
def sQ (ms:List Nat) (all:List Oper):List Oper→MS R.T→List eG→(MS R.T→Option β)→Option β
 | [],st,fs,k=>bif BU ms fs then k st else none
 |o::os,st,fs,k=>match MZ all st o with
  |.run=>bif !(xV E st o) then none else runM E R om F o st (fun st'=>sQ ms all os st' (fs++[xU E om all st o true]) k)
  |.skip=>sQ ms all os (st.fG o.dst .undef) (fs++[xU E om all st o false]) k
  |.dyn _ _ c g=>bif c then bif !(xV E (st.ru g) o) then none else runM E R om F o (st.ru g) (fun st'=>sQ ms all os st' (fs++[xU E om all (st.ru g) o true]) k)
   else sQ ms all os ((st.xR g).fG o.dst .undef) (fs++[xU E om all st o false]) k
  |.no=>none
end
def cu {R:jB} (key:Nat) (W:List Nat) (b:MS R.T) (sh:Shape) (outs:List (Ex×Shape)) (body:{β:Type}→MS R.T→(Ex→MS R.T→Option β)→Option β):Nat→oU R.T sh→Option (Out R.T outs)
 |0,_=>none
 |m+1,p=>body (b.over (unpack R sh p)) fun e st=>match e with
  |.normal=>match kN R W st sh with
   |some p=>cu key W b sh outs body m p
   |none=>none
  |e=>qY R W e st outs
def MS.obs {T:Nat→Type} (st:MS T):MS T:=⟨[],st.ob⟩
def GY {R:jB} {β:Type} (body:MS R.T→(Ex→MS R.T→Option β)→Option β):Nat→MS R.T→(Ex→MS R.T→Option β)→Option β
 |0,_,_=>none
 |m+1,st,k=>body st fun e st'=>match e with
  |.normal=>GY body m st' k
  |e=>k e st'
def GZ {R:jB} {X:Type} (key:Nat) (W:List Nat) (b:MS R.T) (sh:Shape) (outs:List (Ex×Shape)) (body:{β:Type}→X→MS R.T→(Ex→MS R.T→Option β)→Option β):List X→oU R.T sh→Option (Out R.T outs)
 | [],p=>qY R W .normal (unpack R sh p).obs outs
 |x::xs,p=>body x (b.over (unpack R sh p)) fun e st=>match e with
  |.normal=>match kN R W st.obs sh with
   |some p=>GZ key W b sh outs body xs p
   |none=>none
  |e=>qY R W e st.obs outs
def G5 {R:jB} (a b:List (TV R.T)):List (FI R)→Option ((el:List Sk)×Option (List (ak R.T el)))
 | []=>none
 |i::l=>match iq R i.a a,iq R i.b b with
  |some pa,some pb=>bif jg i.a&& jg i.b&& jg i.el&& Nat.ble (nZ i.a) 18&& Nat.ble (nZ i.b) 18 then some ⟨i.el,i.F pa pb⟩ else none
  |_,_=>G5 a b l
def zY (O:List Nat):List (Nat×oQ)→Bool
 | []=>true
 | (o,_)::l=> !(bn o O)&& zY O l
def Dt {T:Nat→Type} (st:MS T):List Nat→List (TV T)→Option (MS T)
 | [],[]=>some st
 |i::l,v::vs=>Dt (st.put i v) l vs
 |_,_=>none
def og:List Oper→List Nat
 | []=>[]
 |o::l=>match o.dst with
  |some d=>d::og l
  |none=>og l
def aL:Code→List Nat
 |.region _ ops _=>og ops.toList
 |.seq a b=>aL a++aL b
 |.cond _ a b=>aL a++aL b
 |.block _ c=>aL c
 |.loop c=>aL c
 |.rangeFunc _ ps a b=>ps.toList++aL a++aL b
 |_=>[]
def mR:Code→Nat
 |.region i _ _=>i
 |.seq a _=>mR a
 |.loop a=>mR a
 |.block _ a=>mR a
 |.rangeFunc _ _ _ b=>mR b
 |_=>0
variable (n:Nat) (om:Bool) (F:Nat→List (FR R)) (I:Nat→List (FI R)) (A:aW)
def bA:Code→{β:Type}→MS R.T→(Ex→MS R.T→Option β)→Option β
 |.skip,_,st,k=>k .normal st
 |.region _ ops dr,_,st,k=>bif dr then (bif ni ops.toList then sQ E R om F (nQ ops.toList) ops.toList ops.toList st [] (fun st=>k .normal st) else none) else xS E R om F ops.toList ops.toList st (fun st=>k .normal st)
 |.seq a b,_,st,k=>
  match look A.joins (mR b) with
  |none=>bA a st fun e st=>match e with
   |.normal=>bA b st k
   |e=>k e st
  |some q=>(bA (β:=Out R.T q.outs) a ((base (aL a) q.K q.O .ro st).over st) fun e st=>qY R (aL a) e st q.outs).bind (uD R (base (aL a) q.K q.O (fun b=>b) st) (fun e st=>match e with
   |.normal=>bA b st k
   |e=>k e st) q.outs)
 |.cond c a b,_,st,k=>match bO [] st c with
  |some (.iM t)=>bif t then bA a st k else bA b st k
  |some (.bool t)=>bif t then bA a (st.CJ c true) k else bA b (st.CJ c false) k
  |_=>none
 |.block id c,_,st,k=>bA c st fun e st=>match e with
  |.exit i=>bif Nat.beq i id then k .normal st else k (.exit i) st
  |e=>k e st
 |.loop c,_,st,k=>match look A.loops (mR c) with
  |some q=>match kN R (aL c) st q.sh with
   |some p=>(cu (mR c) (aL c) (base (aL c) q.K q.O .ro st) q.sh q.outs (fun st k=>bA c st k) n p).bind (uD R (base (aL c) q.K q.O (fun b=>b) st) k q.outs)
   |none=>none
  |none=>GY (fun st k=>bA c st k) 130 st k
 |.rangeFunc f ps a c,_,st,k=>match look A.loops (mR c) with
  |some q=>match bO [] st f with
   |some (.fn g u v)=>bif oW u&& oW v&& zY q.O q.sh.ob&& dO a&& dO c then (match G5 u v (I g) with
    |some ⟨el,xs⟩=>match kN R (ps.toList++aL a++aL c) st.obs q.sh with
     |some p=>(xs.bind fun xs=>GZ (mR c) (ps.toList++aL a++aL c) (base (ps.toList++aL a++aL c) q.K q.O .ro st) q.sh q.outs (fun x st k=>match Dt st ps.toList (kM R .sh el x) with
       |some st=>bA a st fun e st=>match e with
        |.normal=>bA c st k
        |_=>none
       |none=>none) xs p).bind (uD R (base (ps.toList++aL a++aL c) q.K q.O (fun b=>b) st) k q.outs)
     |none=>none
    |none=>none) else none
   |_=>none
  |none=>none
 |.exit i,_,st,k=>k (.exit i) st
 |.ret,_,st,k=>k .ret st
 |_,_,_,_=>none
def uG (st:MS R.T):List ResultVar→Option (List (TV R.T))
 | []=>some []
 |.tmp t::l=>match bO [] st (.tmp t) with
  |some v=>match uG st l with
   |some vs=>some (v::vs)
   |none=>none
  |none=>none
 |.cell a t::l=>match bO [] st (.tmp a) with
  |some (.ref o off)=>match l7 st o with
   |some (.cells cs)=>match kC E t cs off with
    |some v=>match uG st l with
     |some vs=>some (v::vs)
     |none=>none
    |none=>none
   |some (.sg ss)=>match MV E R t ss off with
    |some v=>match uG st l with
     |some vs=>some (v::vs)
     |none=>none
    |none=>none
   |_=>none
  |_=>none
def zZ {T:Nat→Type}:Nat→List (TV T)→List (Nat×TV T)
 |_,[]=>[]
 |i,v::l=>(i,v)::zZ (i+1) l
def aZ (fn:Func) (args res:List Sk) (p:ak R.T args):Option (ak R.T res):=
 match fn.body with
 |some c=>bA E R n om F I A c ⟨zZ 0 (kM R .sh args p),[]⟩ fun e st=>match e with
  |.exit _=>none
  |_=>match uG E R st fn.results.toList with
   |some vs=>bif jg res&& Nat.ble (nZ res) 16 then iq R res (nE st vs) else none
   |none=>none
 |none=>none
def Vk {T:Nat→Type}:TV T→Bool
 |.aj (.own _) _ _=>true
 |.aj .full _ _=>true
 |.dK=>true
 |_=>false
def G6 (fn:Func) (args:List Sk) (τ:Ty) (p:ak R.T args):Option (List (Den R.T τ)):=
 match fn.body with
 |some c=>bA E R n om F I A c ⟨zZ 0 (kM R .sh args p),[]⟩ fun e st=>match e with
  |.exit _=>none
  |_=>match uG E R st fn.results.toList with
   |some [v]=>bif Vk v then zQ R τ v else none
   |_=>none
 |none=>none
end
end Aq
end
