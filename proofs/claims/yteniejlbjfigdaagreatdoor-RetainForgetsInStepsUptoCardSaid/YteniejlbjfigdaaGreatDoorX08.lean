/- Part of the proof of a law. -/
import Derived.Test.YteniejlbjfigdaaGreatDoorX06
set_option linter.all false
set_option linter.unusedSimpArgs false
set_option linter.unusedSectionVars false
section
namespace Aq
open Go
def tY:Code→List Nat→Option Code
 |c,[]=>some c
 |.seq a b,i::l=>if i=0 then tY a l else tY b l
 |.cond _ a b,i::l=>if i=0 then tY a l else tY b l
 |.block _ a,_::l=>tY a l
 |.loop a,_::l=>tY a l
 |.rangeFunc _ _ a b,i::l=>if i=0 then tY a l else tY b l
 |_,_=>none
def aQ (b:Option Code) (l:List Nat):Option Code:=b.bind fun c=>tY c l
section
variable {E:Env} {fr:Fr} {σ:ah}
def tZ (E:Env) (c:Code) (fr:Fr) (σ:ah) (Q:Ex→Fr→ah→Prop):Prop:=CW E (.loop c) fr σ Q
theorem Is.e {α:Type} {a b:α} (h:Is a b):a=b:=h
theorem CW.lp {c:Code} {Q:Ex→Fr→ah→Prop} (h:tZ E c fr σ Q):CW E (.loop c) fr σ Q:=h
theorem tZ.in {b:Option Code} {p:List Nat} {c:Code} {Q:Ex→Fr→ah→Prop} (hs:aQ b p=some c) (h:CW E c fr σ (qB E c Q)):tZ E ((aQ b p).getD .skip) fr σ Q:=by
 rw[hs];exact CW.loop h
theorem tZ.ih {c:Code} {Q:Ex→Fr→ah→Prop} (h:tZ E c fr σ Q):tZ E c fr σ Q:=h
def KP:Code→Nat
 |.region i _ _=>i
 |.seq a _=>KP a
 |.loop a=>KP a
 |.block _ a=>KP a
 |_=>0
theorem tZ.at (k:Nat) {c:Code} {Q:Ex→Fr→ah→Prop} (_h:Is (KP c) k) (h:tZ E c fr σ Q):tZ E c fr σ Q:=h
theorem agG {n:Nat} (c:Cap):aP (n+2) σ (.ak c [])=some (.ak .sh []):=uY (α:=V) (f:=fun x=>.int .i64 0) c [] (fun _=>by simp[aC])
theorem Wv {n:Nat} (cs:List V):aP (n+2) σ (.agg cs)=(cs.mapM (aP (n+1) σ)).map .agg:=by
 by_cases hp:aC (.agg cs)=true
 ·rw[jE hp]
  have:∀cs:List V,aX cs=true→cs.mapM (aP (n+1) σ)=some cs:=by
   intro cs
   induction cs with
   |nil=>intro _;rfl
   |cons a l ih=>
    intro h
    simp only[aX,Bool.and_eq_true] at h
    rw[List.mapM_cons,jE h.1,ih h.2];rfl
  rw[this cs (by simpa [aC] using hp)];rfl
 ·conv=>lhs;unfold aP
  simp only[hp,if_false,Bool.false_eq_true]
theorem Qc {n:Nat} (cs:List V):aP (n+2) σ (.bP cs)=(cs.mapM (aP (n+1) σ)).map .bP:=by
 by_cases hp:aC (.bP cs)=true
 ·rw[jE hp]
  have:∀cs:List V,aX cs=true→cs.mapM (aP (n+1) σ)=some cs:=by
   intro cs
   induction cs with
   |nil=>intro _;rfl
   |cons a l ih=>
    intro h
    simp only[aX,Bool.and_eq_true] at h
    rw[List.mapM_cons,jE h.1,ih h.2];rfl
  rw[this cs (by simpa [aC] using hp)];rfl
 ·conv=>lhs;unfold aP
  simp only[hp,if_false,Bool.false_eq_true]
def KQ (sz:Nat) (σ:ah) (c:Cap) (n:Nat):Prop:=c= .nil∨∃s,c= .own sz s∧σ.top s=n∧s<σ.next
theorem KQ.n {sz n:Nat}:KQ sz σ .nil n:=.inl rfl
theorem KQ.o {sz s n:Nat} (h1:Is (σ.top s) n) (h2:s<σ.next):KQ sz σ (.own sz s) n:=.inr ⟨s,rfl,h1,h2⟩
theorem own_ne {s n k:Nat} (h:s<n):(s==n+k)=false:=by simp;omega
theorem agH {s n k:Nat} (h:s<n):(n+k==s)=false:=by simp;omega
theorem agI {s n:Nat} (h:s<n):(s==n)=false:=by simp;omega
theorem agJ {s n:Nat} (h:s<n):(n==s)=false:=by simp;omega
theorem agK (σ:ah) {s t:Nat} (n:Nat) (h:(t==s)=false):(σ.dn s n).top t=σ.top t:=KO σ n (by simpa using h)
end
def Ww (P:Program) (σ:ah) (st:Nat) (t u:TypeId) (x y:V):Option (V×ah):=
 match P.underlying u with
 |some (.int _)=>iB P false true σ st none t x y
 |some (.slice _)|some .string=>iB P false false σ st none t x y
 |_=>none
theorem agL {P:Program} {z:Bool} {σ:ah} {st:Nat} {loc:Option Loc} {t:TypeId} {c:Cap} {l:List V} {y:V}:iB P false z σ st loc t (.ak c l) y=iB P false z σ st none t (.ak c l) y:=by
 unfold iB
 cases iY P t with
 |none=>rfl
 |some e=>cases c<;>rfl
section
variable {E:Env} {S:iJ} {fr:Fr} {σ:ah} {st:Nat} {d:Option Tmp} {ty:TypeId} {pos:String} {bW:Array Edge} {gd:Option (Nat×Bool)}
theorem agM {t u:TypeId} {x y:Operand} {c:Cap} {l:List V} (ho:fr.om=false) (hx:fr.ev E x= .ak c l):opC E S fr σ st ⟨d,.call ⟨.builtin .append, #[x,y], #[t,u]⟩,ty,pos,bW,gd⟩=(Ww E.P σ st t u (.ak c l) (fr.ev E y)).map fun p=>(p.1,fr,p.2):=by
 show Option.map _ ((((#[t,u]:Array TypeId)[0]?).bind fun t=>(((#[t,u]:Array TypeId)[1]?).bind E.P.underlying).bind fun u=>match u with
  |.int _=>iB E.P fr.om true σ st (d.map fun t=>(fr.d,t)) t (fr.ev E x) (fr.ev E y)
  |.slice _|.string=>iB E.P fr.om false σ st (d.map fun t=>(fr.d,t)) t (fr.ev E x) (fr.ev E y)
  |_=>none))=_
 show Option.map _ ((E.P.underlying u).bind _)=_
 rw[ho,hx]
 unfold Ww
 cases E.P.underlying u with
 |none=>rfl
 |some u=>
  cases u<;>try rfl
  all_goals (simp only[Option.bind_some];rw[agL];first|rfl| (generalize iB _ _ _ _ _ _ _ _ _=o;cases o<;>rfl))
end
def Wx (P:Program) (t u:TypeId) (sz d9:Nat) (z:V):Prop:=∃e ag,iY P t=some e∧bX P e=some sz∧og P e=some d9∧gY P e=some ag∧gZ P e=some z∧z.cells.length=sz∧0<sz∧(ag||sz==1)=true∧oF P u=true
theorem Wx.mk {P:Program} {t u:TypeId} {sz d9:Nat} {z:V} (e:TypeId) (ag:Bool) (h1:iY P t=some e) (h2:bX P e=some sz) (h3:og P e=some d9) (h4:gY P e=some ag) (h5:gZ P e=some z)
 (h6:z.cells.length=sz) (h7:0<sz) (h8:(ag||sz==1)=true) (h9:oF P u=true):Wx P t u sz d9 z:=⟨e,ag,h1,h2,h3,h4,h5,h6,h7,h8,h9⟩
def Wy (E:Env) (t:TypeId) (ps:List (Nat×V)):Option (List V):=(zf E t).bind fun pl=>(gZ E.P t).bind fun z=>ny pl z.cells ps
section
variable {E:Env} {S:iJ} {fr:Fr} {σ:ah} {st:Nat} {d:Option Tmp} {ty:TypeId} {pos:String} {bW:Array Edge} {gd:Option (Nat×Bool)}
theorem agN (t:TypeId) (l:List (Nat×Operand)):opC E S fr σ st ⟨d,.build t l.toArray,ty,pos,bW,gd⟩=(Wy E t (l.map fun p=>(p.1,fr.ev E p.2))).map fun cs=>(.agg cs,fr,σ):=by
 simp only[opC,bq,Wy]
 cases zf E t with
 |none=>rfl
 |some pl=>
  simp only[Option.bind_some]
  cases gZ E.P t with
  |none=>rfl
  |some z=>
   simp only[Option.bind_some]
   cases ny pl z.cells (l.map fun p=>(p.1,fr.ev E p.2))<;>rfl
theorem agO (t:TypeId) (n:Nat) (l:List (Nat×Operand)):opC E S fr σ st ⟨d,.buildSlice t n l.toArray,ty,pos,bW,gd⟩=(wO E t n (l.map fun p=>(p.1,fr.ev E p.2))).map fun v=>(v,fr,σ):=by
 simp only[opC,bq]
 cases wO E t n (l.map fun p=>(p.1,fr.ev E p.2))<;>rfl
end
section
variable {E:Env} {S:iJ} {fr:Fr} {σ:ah} {st:Nat} {d:Option Tmp} {ty:TypeId} {pos:String} {bW:Array Edge} {gd:Option (Nat×Bool)}
theorem agP (t:TypeId) (x i:Operand):opC E S fr σ st ⟨d,.index t x i,ty,pos,bW,gd⟩=(tF E.P t (fr.ev E x) (fr.ev E i)).map fun v=>(v,fr,σ):=by
 simp only[opC,bq];cases tF E.P t (fr.ev E x) (fr.ev E i)<;>rfl
theorem Wz {P:Program} {t:TypeId} {s:List UInt8} {k:IntKind} {i:Int} (h:Fx P t=true):tF P t (.str s) (.int k i)=(aL s i).map fun b=>.int .u8 (b.toNat:Nat):=by
 unfold Fx at h;unfold tF
 split at h
 ·rename_i he
  rw[he]
  simp only[idx,kI,Option.bind_some,aL]
  split
  ·simp only[Option.bind_some];rfl
  ·rfl
 ·simp at h
def imax (a b:Int):Int:=if b>a then b else a
def jF (a b:Int):Int:=if b<a then b else a
theorem agQ (x y:Operand) (tys:List TypeId):opC E S fr σ st ⟨d,.call ⟨.builtin .max, #[x,y],tys.toArray⟩,ty,pos,bW,gd⟩=(jT true (fr.ev E x) [fr.ev E y]).map fun v=>(v,fr,σ):=by
 show Option.map _ ((jT true (fr.ev E x) [fr.ev E y]).map fun v=>(v,σ))=_
 cases jT true (fr.ev E x) [fr.ev E y]<;>rfl
theorem agR (x y:Operand) (tys:List TypeId):opC E S fr σ st ⟨d,.call ⟨.builtin .min, #[x,y],tys.toArray⟩,ty,pos,bW,gd⟩=(jT false (fr.ev E x) [fr.ev E y]).map fun v=>(v,fr,σ):=by
 show Option.map _ ((jT false (fr.ev E x) [fr.ev E y]).map fun v=>(v,σ))=_
 cases jT false (fr.ev E x) [fr.ev E y]<;>rfl
theorem agS (k:IntKind) (a b:Int):jT true (.int k a) [.int k b]=some (.int k (imax a b)):=by simp[jT,imax]
theorem agT (k:IntKind) (a b:Int):jT false (.int k a) [.int k b]=some (.int k (jF a b)):=by simp[jT,jF]
end
theorem len1 (v:V):[v].length=1:=rfl
attribute [go_sem] agP Wz agQ agR agS agT own_ne agH agI agJ agG Wv Qc agN agO List.map_cons List.map_nil len1 agK agM uY implies_true eq_self
theorem agU:aX []=true:=by simp only[aX]
theorem agV (v:V) (l:List V):aX (v::l)=(aC v&& aX l):=by simp only[aX]
attribute [go_sem] agU agV
end Aq
end
section
namespace Aq
open Go
inductive Ty where
 |int (k:IntKind)
 |bool
 |str
 |slice (t:Ty)
 |st (n:Nat)
 deriving DecidableEq
inductive Cp where
 |any
 |sh
 |nil
 |full
 |own (t:Nat)
structure Vec (n:Nat) where
 l:List Int
 h:l.length=n
def Vec.at' {n:Nat} (v:Vec n) (i:Int):Int:=v.l.getD i.toNat 0
def Vec.nth {n:Nat} (v:Vec n) (j:Nat):Int:=v.l.getD j 0
def Vec.set {n:Nat} (v:Vec n) (i y:Int):Vec n:=⟨v.l.set i.toNat y,by rw[List.length_set,v.h]⟩
def Vec.rep (n:Nat) (y:Int):Vec n:=⟨List.replicate n y,List.length_replicate⟩
def Vec.lit (n:Nat) (l:List Int):Vec n:=if h:l.length=n then ⟨l,h⟩ else Vec.rep n 0
def Vec.slc {n:Nat} (v:Vec n) (i:Int) (m:Nat):Vec m:=Vec.lit m ((v.l.drop i.toNat).take m)
def Vec.rR {n:Nat} (v:Vec n) (lo:Int) (l:List Int):Vec n:=Vec.lit n (v.l.take lo.toNat++l++v.l.drop (lo.toNat+l.length))
inductive iZ where
 |i (k:IntKind)
 |a (k:IntKind) (n:Nat)
inductive Sg where
 |i (k:IntKind) (x:Int)
 |a (k:IntKind) (n:Nat) (v:Vec n)
def Sg.w:Sg→Nat
 |.i _ _=>1
 |.a _ n _=>n
def Sg.vs:Sg→List V
 |.i k x=>[.int k x]
 |.a k _ v=>v.l.map (V.int k)
def bU:List Sg→List V
 | []=>[]
 |s::l=>s.vs++bU l
def iL:List Sg→Nat
 | []=>0
 |s::l=>s.w+iL l
def zM:iZ→Type
 |.i _=>Int
 |.a _ n=>Vec n
def xg:List iZ→Type
 | []=>Unit
 | [k]=>zM k
 |k::h::l=>zM k×xg (h::l)
def Fz:(k:iZ)→zM k→Sg
 |.i k,x=>.i k x
 |.a k n,x=>.a k n x
def qD:(l:List iZ)→xg l→List Sg
 | [],_=>[]
 | [k],x=>[Fz k x]
 |k::h::l,p=>Fz k p.1::qD (h::l) p.2
def KR {n m:Nat} (v:Vec n):Option (Vec m):=if h:n=m then some (h▸v) else none
def zN:(k:iZ)→Sg→Option (zM k)
 |.i k,.i k' x=>if k'=k then some x else none
 |.a k n,.a k' _ v=>if k'=k then KR (m:=n) v else none
 |_,_=>none
def uf:(l:List iZ)→List Sg→Option (xg l)
 | []=>fun vs=>match vs with
   | []=>some ()
   |_::_=>none
 | [k]=>fun vs=>match vs with
   | [v]=>zN k v
   |_=>none
 |k::h::l=>fun vs=>match vs with
  | []=>none
  |v::vs=>match zN k v with
   |some x=>match uf (h::l) vs with
    |some p=>some (x,p)
    |none=>none
   |none=>none
section
variable (T:Nat→Type)
def Den:Ty→Type
 |.int _=>Int
 |.bool=>Bool
 |.str=>List UInt8
 |.slice t=>List (Den t)
 |.st n=>T n
def lH:List Ty→Type
 | []=>Unit
 | [t]=>Den T t
 |t::u::l=>Den T t×lH (u::l)
inductive TV where
 |int (k:IntKind) (n:Int)
 |bool (b:Bool)
 |gU (b:Bool)
 |str (s:List UInt8)
 |fI
 |fu
 |eY
 |gN
 |dG
 |agg (cs:List TV)
 |bP (cs:List TV)
 |ak (c:Cp) (t:Ty) (l:List (Den T t))
 |ref (o off:Nat)
 |aK (cs:List TV) (off:Nat)
 |cK (o:Nat)
 |dx (k e:Ty) (m:List (Den T k×Den T e))
 |fn (f:Nat) (a b:List TV)
 |opt (j:Nat) (w:Bool) (v:TV)
 |vw (o:Nat) (t:Ty)
 |kg (o:Nat) (t:Ty) (i:Int) (off:Nat)
 |sg (ss:List Sg)
 |sv (o off:Nat) (k:IntKind) (n:Nat) (lo hi:Option Int)
 |sel (o off:Nat) (k:IntKind) (n:Nat) (i:Int) (m:Nat)
 |pJ (k:IntKind) (n:Nat) (v:Vec n) (i:Int)
 |undef
 |gone
inductive Ob where
 |cells (cs:List (TV T))
 |map (k e:Ty) (m:List (Den T k×Den T e))
 |smap (ks vs:List (TV T))
 |arr (t:Ty) (l:List (Den T t))
 |sg (ss:List Sg)
 |gone
 |ro (b:Ob)
structure MS where
 fr:List (Nat×TV T)
 ob:List (Nat×Ob T)
inductive Sk where
 |d (t:Ty)
 |l (c:Cp) (t:Ty)
 |agg (l:List Sk)
 |ref (o off:Nat)
 |aK (l:List Sk) (off:Nat)
 |cK (o:Nat)
 |dx (k e:Ty)
 |fn (f:Nat) (a b:List Sk)
 |dG
 |vw (o:Nat) (t:Ty)
 |sg (l:List iZ)
 |undef
mutual
def oG:Sk→Type
 |.d t=>Den T t
 |.l _ t=>List (Den T t)
 |.agg l=>aj l
 |.ref _ _=>Unit
 |.aK l _=>aj l
 |.cK _=>Unit
 |.dx k e=>List (Den T k×Den T e)
 |.fn _ a b=>aj a×aj b
 |.dG=>Unit
 |.vw _ _=>Unit
 |.sg l=>xg l
 |.undef=>Unit
def aj:List Sk→Type
 | []=>Unit
 | [k]=>oG k
 |k::h::l=>oG k×aj (h::l)
end
inductive nN where
 |cells (l:List Sk)
 |st (n:Nat)
 |map (k e:Ty)
 |arr (t:Ty)
 |sg (l:List iZ)
def xk:nN→Type
 |.cells l=>aj T l
 |.st n=>T n
 |.map k e=>List (Den T k×Den T e)
 |.arr t=>List (Den T t)
 |.sg l=>xg l
def xq:List (Nat×nN)→Type
 | []=>Unit
 | [(_,k)]=>xk T k
 | (_,k)::h::l=>xk T k×xq (h::l)
def xu:List (Nat×Sk)→Type
 | []=>Unit
 | [(_,k)]=>oG T k
 | (_,k)::h::l=>oG T k×xu (h::l)
structure Shape where
 sl:List (Nat×Sk)
 ob:List (Nat×nN)
def nO:Shape→Type
 | ⟨s,[]⟩=>xu T s
 | ⟨s,o::os⟩=>xu T s×xq T (o::os)
def Out:List (Ex×Shape)→Type
 | []=>Empty
 | [(_,s)]=>nO T s
 | (_,s)::h::l=>nO T s⊕Out (h::l)
end
structure iM where
 T:Nat→Type
 d:(n:Nat)→T n
 lf:Nat→List Ty
 to:(n:Nat)→lH T (lf n)→T n
 of:(n:Nat)→T n→lH T (lf n)
 enc:(n:Nat)→T n→V
 ty:TypeId→Option Ty
 gl:Nat→Option ((k:IntKind)×(n:Nat)×Vec n)
structure FR (R:iM) where
 args:List Sk
 res:List Sk
 F:aj R.T args→Option (aj R.T res)
 d:aj R.T res
 own:Bool:=false
structure FI (R:iM) where
 a:List Sk
 b:List Sk
 el:List Sk
 F:aj R.T a→aj R.T b→Option (List (aj R.T el))
structure Note where
 K:List Nat
 O:List Nat
 sh:Shape
 outs:List (Ex×Shape)
structure bH where
 loops:List (Nat×Note)
 joins:List (Nat×Note)
def look {α:Type}:List (Nat×α)→Nat→Option α
 | [],_=>none
 | (j,x)::l,i=>bif Nat.beq j i then some x else look l i
section
variable (R:iM)
def aF:(t:Ty)→Den R.T t→V
 |.int k=>fun n=>.int k n
 |.bool=>fun b=>.bool b
 |.str=>fun s=>.str s
 |.slice t=>fun l=>.ak .sh (l.map (aF t))
 |.st n=>fun x=>R.enc n x
def encs:(l:List Ty)→lH R.T l→List V
 | [],_=>[]
 | [t],x=>[aF R t x]
 |t::u::l,p=>aF R t p.1::encs (u::l) p.2
def cZ:Ty→Nat
 |.st n=>(R.lf n).length
 |_=>1
def zO:(t:Ty)→Den R.T t
 |.int _=>(0:Int)
 |.bool=>false
 |.str=>([]:List UInt8)
 |.slice t=>([]:List (Den R.T t))
 |.st n=>R.d n
def u6 (c:Cp):(t:Ty)→Den R.T t→TV R.T
 |.int k=>fun n=>.int k n
 |.bool=>fun b=>.bool b
 |.str=>fun s=>.str s
 |.slice t=>fun l=>.ak c t l
 |.st _=>fun _=>.undef
def jl (c:Cp):(l:List Ty)→lH R.T l→List (TV R.T)
 | [],_=>[]
 | [t],x=>[u6 R c t x]
 |t::u::l,p=>u6 R c t p.1::jl c (u::l) p.2
def fZ (c:Cp):(t:Ty)→Den R.T t→TV R.T
 |.st n=>fun x=>.agg (jl R c (R.lf n) (R.of n x))
 |.int k=>fun n=>.int k n
 |.bool=>fun b=>.bool b
 |.str=>fun s=>.str s
 |.slice t=>fun l=>.ak c t l
def oH {t u:Ty} (l:List (Den R.T t)):Option (List (Den R.T u)):=if h:t=u then some (h▸l) else none
def KS (k:IntKind):TV R.T→Option Int
 |.int k' n=>if k=k' then some n else none
 |_=>none
def KT:TV R.T→Option Bool
 |.bool b=>some b
 |.gU b=>some b
 |_=>none
def KU:TV R.T→Option (List UInt8)
 |.str s=>some s
 |_=>none
def xw (t:Ty):TV R.T→Option (List (Den R.T t))
 |.ak _ _ l=>oH R l
 |.dG=>some []
 |_=>none
def nP:(t:Ty)→TV R.T→Option (Den R.T t)
 |.int k=>fun v=>KS R k v
 |.bool=>fun v=>KT R v
 |.str=>fun v=>KU R v
 |.slice t=>fun v=>xw R t v
 |.st _=>fun _=>none
def hd1:List (TV R.T)→TV R.T
 | [v]=>v
 |_=>.gone
def u7:(l:List Ty)→List (TV R.T)→Option (lH R.T l)
 | []=>fun vs=>match vs with
   | []=>some ()
   |_::_=>none
 | [t]=>fun vs=>nP R t (hd1 R vs)
 |t::u::l=>fun vs=>match vs with
  | []=>none
  |v::vs=>match nP R t v with
   |some x=>match u7 (u::l) vs with
    |some p=>some (x,p)
    |none=>none
   |none=>none
def xA (n:Nat):TV R.T→Option (R.T n)
 |.agg cs=>match u7 R (R.lf n) cs with
  |some p=>some (R.to n p)
  |none=>none
 |_=>none
def mP:(t:Ty)→TV R.T→Option (Den R.T t)
 |.st n=>fun v=>xA R n v
 |.int k=>fun v=>KS R k v
 |.bool=>fun v=>KT R v
 |.str=>fun v=>KU R v
 |.slice t=>fun v=>xw R t v
def TV.cells {T:Nat→Type}:TV T→List (TV T)
 |.agg cs=>cs
 |v=>[v]
mutual
def ko {T:Nat→Type} (o:Nat):TV T→Bool
 |.ref p _=>Nat.beq p o
 |.cK p=>Nat.beq p o
 |.agg cs=>kV o cs
 |.bP cs=>kV o cs
 |.aK cs _=>kV o cs
 |.fn _ a b=>kV o a||kV o b
 |.opt _ _ v=>ko o v
 |.vw p _=>Nat.beq p o
 |.kg p _ _ _=>Nat.beq p o
 |.sv p _ _ _ _ _=>Nat.beq p o
 |.sel p _ _ _ _ _=>Nat.beq p o
 |_=>false
def kV {T:Nat→Type} (o:Nat):List (TV T)→Bool
 | []=>false
 |v::l=>ko o v||kV o l
end
def Ob.ko {T:Nat→Type} (o:Nat):Ob T→Bool
 |.cells cs=>kV o cs
 |.smap ks vs=>kV o ks||kV o vs
 |.ro b=>Ob.ko o b
 |_=>false
mutual
def wk {T:Nat→Type} (t:Nat):TV T→TV T
 |.ak (.own u) ty l=>bif Nat.beq u t then .ak .any ty l else .ak (.own u) ty l
 |.agg cs=>.agg (rU t cs)
 |.bP cs=>.bP (rU t cs)
 |.aK cs off=>.aK (rU t cs) off
 |.fn f a b=>.fn f (rU t a) (rU t b)
 |.opt j w v=>.opt j w (wk t v)
 |v=>v
def rU {T:Nat→Type} (t:Nat):List (TV T)→List (TV T)
 | []=>[]
 |v::l=>wk t v::rU t l
end
def Ob.wk {T:Nat→Type} (t:Nat):Ob T→Ob T
 |.cells cs=>.cells (rU t cs)
 |.smap ks vs=>.smap (rU t ks) (rU t vs)
 |.ro b=>.ro (Ob.wk t b)
 |o=>o
def kr {α:Type} (f:α→α):List (Nat×α)→List (Nat×α)
 | []=>[]
 | (i,x)::l=>(i,f x)::kr f l
def gV {α:Type} (i:Nat):List (Nat×α)→List (Nat×α)
 | []=>[]
 | (j,x)::l=>bif Nat.beq j i then gV i l else (j,x)::gV i l
def MS.wk {T:Nat→Type} (t:Nat) (st:MS T):MS T:=⟨kr (Aq.wk t) st.fr,kr (Ob.wk t) st.ob⟩
def Qd {T:Nat→Type} (j:Nat):TV T→TV T
 |.opt i w v=>bif Nat.beq i j then .gone else .opt i w v
 |v=>v
def MS.put {T:Nat→Type} (st:MS T) (i:Nat) (v:TV T):MS T:={st with fr:=(i,v)::kr (Qd i) (gV i st.fr)}
def MS.eZ {T:Nat→Type} (st:MS T) (d:Option Nat) (v:TV T):MS T:=match d with
 |some i=>st.put i v
 |none=>st
def Qe {T:Nat→Type} (j:Nat) (b:Bool):TV T→TV T
 |.opt i w v=>bif Nat.beq i j then (bif (b==w) then v else .undef) else .opt i w v
 |v=>v
def MS.learn {T:Nat→Type} (st:MS T) (j:Nat) (b:Bool):MS T:={st with fr:=(j,.gU b)::kr (Qe j b) (gV j st.fr)}
def MS.zP {T:Nat→Type} (st:MS T) (c:Operand) (b:Bool):MS T:=match c with
 |.tmp j=>st.learn j b
 |_=>st
def FB {T:Nat→Type} (o:Nat) (v:TV T):TV T:=bif ko o v then .gone else v
def Ob.kill {T:Nat→Type} (o:Nat) (v:Ob T):Ob T:=bif Ob.ko o v then .gone else v
def MS.new {T:Nat→Type} (st:MS T) (o:Nat) (b:Ob T):MS T:=⟨kr (FB o) st.fr,(o,b)::kr (Ob.kill o) (gV o st.ob)⟩
def MS.set {T:Nat→Type} (st:MS T) (o:Nat) (b:Ob T):MS T:={st with ob:=(o,b)::gV o st.ob}
def MS.del {T:Nat→Type} (st:MS T) (o:Nat):MS T:={st with ob:=gV o st.ob}
def Qf {T:Nat→Type}:Ob T→Ob T
 |.ro b=>Qf b
 |b=>b
def kX {T:Nat→Type} (st:MS T) (o:Nat):Option (Ob T):=match look st.ob o with
 |some b=>some (Qf b)
 |none=>none
def mQ {T:Nat→Type}:Ob T→Bool
 |.ro _=>true
 |.gone=>true
 |_=>false
def aZ (i:Nat):List Nat→Bool
 | []=>false
 |j::l=>Nat.beq i j||aZ i l
mutual
def solid {T:Nat→Type} (W:List Nat):TV T→Bool
 |.ak (.own _) _ _=>false
 |.ref o _=> !(aZ o W)
 |.cK o=> !(aZ o W)
 |.agg cs=>oI W cs
 |.bP cs=>oI W cs
 |.aK cs _=>oI W cs
 |.fn _ a b=>oI W a&& oI W b
 |.opt _ _ _=>false
 |.vw o _=> !(aZ o W)
 |.kg o _ _ _=> !(aZ o W)
 |.sv o _ _ _ _ _=> !(aZ o W)
 |.sel o _ _ _ _ _=> !(aZ o W)
 |.gone=>false
 |_=>true
def oI {T:Nat→Type} (W:List Nat):List (TV T)→Bool
 | []=>true
 |v::l=>solid W v&& oI W l
end
def kY {T:Nat→Type} (W:List Nat):Ob T→Bool
 |.cells cs=>oI W cs
 |.map _ _ _=>true
 |.smap ks vs=>oI W ks&& oI W vs
 |.arr _ _=>true
 |.sg _=>true
 |.ro b=>kY W b
 |.gone=>false
def lI {α:Type} (p:Nat→α→Bool) (f:α→α) (l:List (Nat×α)):List Nat→List (Nat×α)
 | []=>[]
 |i::is=>match look l i with
  |some x=>bif p i x then (i,f x)::lI p f l is else lI p f l is
  |none=>lI p f l is
def Qg {T:Nat→Type}:TV T→TV T
 |.ak (.own _) t l=>.ak .any t l
 |v=>v
def base {T:Nat→Type} (W K O:List Nat) (mark:Ob T→Ob T) (st:MS T):MS T:=
 ⟨lI (fun i v=> !(aZ i W)&& solid W (Qg v)) Qg st.fr K,lI (fun o b=> !(aZ o W)&& kY W b) mark st.ob O⟩
def MS.over {T:Nat→Type} (st b:MS T):MS T:=⟨st.fr++b.fr,st.ob++b.ob⟩
def xB {T:Nat→Type}:Value→Option (TV T)
 |.bool b=>some (.gU b)
 |.int k n=>some (.int k n)
 |.string s=>some (.str s.data.toList)
 |.pointer none=>some .fI
 |.slice none 0 0=>some .dG
 |.map none=>some .eY
 |.nilFunc=>some .fu
 |.nilIface=>some .gN
 |_=>none
def zQ {T:Nat→Type}:List Value→Option (List (TV T))
 | []=>some []
 |v::l=>match xB v with
  |some x=>match zQ l with
   |some y=>some (x::y)
   |none=>none
  |none=>none
def zR {T:Nat→Type}:Value→Option (TV T)
 |.agg cs=>match zQ cs.toList with
  |some l=>some (.agg l)
  |none=>none
 |v=>xB v
def KV {T:Nat→Type} (g:List (Nat×Bool)):TV T→Option (TV T)
 |.opt j w v=>match look g j with
  |some u=>some (bif u==w then v else .undef)
  |none=>none
 |v=>some v
def bI {T:Nat→Type} (g:List (Nat×Bool)) (st:MS T):Operand→Option (TV T)
 |.tmp t=>match look st.fr t with
  |some v=>KV g v
  |none=>none
 |.const v=>zR v
 |.func f=>some (.fn f [] [])
 |.global _=>none
def l6 {T:Nat→Type} (g:List (Nat×Bool)) (st:MS T):List Operand→Option (List (TV T))
 | []=>some []
 |x::l=>match bI g st x with
  |some v=>match l6 g st l with
   |some vs=>some (v::vs)
   |none=>none
  |none=>none
def zS {T:Nat→Type} (g:List (Nat×Bool)) (st:MS T):List (Nat×Operand)→Option (List (Nat×TV T))
 | []=>some []
 | (i,x)::l=>match bI g st x with
   |some v=>match zS g st l with
    |some vs=>some ((i,v)::vs)
    |none=>none
   |none=>none
def mR:List Sg→Nat→Option (List Sg×List Sg)
 |ss,0=>some ([],ss)
 | [],_+1=>none
 |s::ss,n+1=>bif Nat.ble s.w (n+1) then (match mR ss (n+1-s.w) with
  |some (a,b)=>some (s::a,b)
  |none=>none) else none
def xC {T:Nat→Type} (k:IntKind):List (TV T)→Option (List Int)
 | []=>some []
 |.int k' x::l=>if k'=k then (match xC k l with
  |some xs=>some (x::xs)
  |none=>none) else none
 |_=>none
def zT {α:Type} (l:List α):Option Int→Option Int→List α
 |none,none=>l
 |some i,none=>l.drop i.toNat
 |none,some j=>l.take j.toNat
 |some i,some j=>(l.take j.toNat).drop i.toNat
def KW {T:Nat→Type} (st:MS T) (o off:Nat) (k:IntKind) (n:Nat) (lo hi:Option Int):Option (List Int):=
 match kX st o with
 |some (.sg ss)=>match mR ss off with
  |some (_,.a k' n' v::_)=>if k'=k then (bif Nat.beq n' n then some (zT v.l lo hi) else none) else none
  |_=>none
 |some (.cells cs)=>bif Nat.ble (off+n) cs.length then (match xC k ((cs.drop off).take n) with
  |some l=>some (zT l lo hi)
  |none=>none) else none
 |_=>none
def rV {T:Nat→Type} (st:MS T):TV T→TV T
 |.ref o off=>match kX st o with
  |some (.cells cs)=>.aK cs off
  |_=>.ref o off
 |.cK o=>match kX st o with
  |some (.map k e m)=>.dx k e m
  |_=>.cK o
 |.vw o t=>match kX st o with
  |some (.arr t' l)=>if t'=t then .ak .sh t' l else .vw o t
  |_=>.vw o t
 |.sv o off k n lo hi=>match KW st o off k n lo hi with
  |some l=>.ak .sh (.int k) l
  |none=>.sv o off k n lo hi
 |v=>v
def FC {T:Nat→Type} (st:MS T):List (TV T)→List (TV T)
 | []=>[]
 |v::l=>rV st v::FC st l
def xD {T:Nat→Type} (st:MS T):TV T→TV T
 |.fn f a b=>.fn f (FC st a) (FC st b)
 |.agg cs=>.agg (FC st cs)
 |v=>rV st v
def l7 {T:Nat→Type} (st:MS T):List (TV T)→List (TV T)
 | []=>[]
 |v::l=>xD st v::l7 st l
def Qh {T:Nat→Type}:TV T→Bool
 |.agg _=>false
 |.sg _=>false
 |.bP _=>false
 |.gone=>false
 |.undef=>false
 |.opt _ _ _=>false
 |_=>true
def vg {T:Nat→Type}:List (TV T)→Bool
 | []=>true
 |v::l=>Qh v&& vg l
def xE {T:Nat→Type}:TV T→Bool
 |.gone=>false
 |.sg _=>false
 |.opt _ _ _=>false
 |_=>true
mutual
def jJ {T:Nat→Type}:TV T→Bool
 |.int _ _=>true
 |.bool _=>true
 |.gU _=>true
 |.str _=>true
 |.fI=>true
 |.fu=>true
 |.eY=>true
 |.gN=>true
 |.ak .sh _ _=>true
 |.agg cs=>nQ cs
 |.bP cs=>nQ cs
 |.dx _ _ _=>true
 |.aK cs _=>nQ cs
 |.fn _ a b=>nQ a&& nQ b
 |.sg _=>true
 |_=>false
def nQ {T:Nat→Type}:List (TV T)→Bool
 | []=>true
 |v::l=>jJ v&& nQ l
end
def FD {T:Nat→Type}:TV T→Bool
 |.ak _ _ _=>true
 |.dG=>true
 |v=>jJ v
def KX {T:Nat→Type}:List (TV T)→Bool
 | []=>true
 |v::l=>FD v&& KX l
def WA {T:Nat→Type}:TV T→Bool
 |.agg cs=>KX cs
 |v=>FD v
def vk {T:Nat→Type}:List (TV T)→Bool
 | []=>true
 |v::l=>WA v&& vk l
mutual
def ku:Sk→Bool
 |.d _=>true
 |.l c _=>match c with
  |.any=>true
  |.sh=>true
  |_=>false
 |.agg l=>iN l
 |.aK l _=>iN l
 |.dx _ _=>true
 |.fn _ a b=>iN a&& iN b
 |.sg _=>true
 |_=>false
def iN:List Sk→Bool
 | []=>true
 |k::l=>ku k&& iN l
def dep:Sk→Nat
 |.agg l=>mU l+3
 |.aK l _=>mU l+3
 |.fn _ a b=>max (mU a) (mU b)+3
 |_=>3
def mU:List Sk→Nat
 | []=>0
 |k::l=>max (dep k) (mU l)
end
def Qi:Ty→Bool
 |.int _=>true
 |.bool=>true
 |.str=>true
 |_=>false
def zU:List Sk→Bool
 | []=>true
 |.d t::l=>Qi t&& zU l
 |.sg _::l=>zU l
 |_=>false
mutual
def encS:(k:Sk)→oG R.T k→V
 |.d t,x=>aF R t x
 |.l _ t,x=>aF R (.slice t) x
 |.agg l,x=>.agg (au l x)
 |.aK l off,x=>.aK (au l x) off
 |.dx k e,x=>.dx (List.map (fun p=>aF R k p.1) x) (List.map (fun p=>aF R e p.2) x)
 |.fn f a b,x=>.fn (.func f) (au a x.1) (au b x.2)
 |.dG,_=>.ak .sh []
 |.ref _ _,_=>ay
 |.cK _,_=>ay
 |.vw _ _,_=>ay
 |.sg l,x=>.agg (bU (qD l x))
 |.undef,_=>ay
def au:(l:List Sk)→aj R.T l→List V
 | [],_=>[]
 | [k],x=>[encS k x]
 |k::h::l,p=>encS k p.1::au (h::l) p.2
end
def aV:List V→V
 | [v]=>v
 |vs=>.bP vs
def zV:Cp→Cp→Bool
 |_,.any=>true
 |.sh,.sh=>true
 |.nil,.nil=>true
 |.nil,.own _=>true
 |.full,.own _=>true
 |.full,.full=>true
 |.own t,.own u=>Nat.beq t u
 |_,_=>false
def KY (c:Cp) (t:Ty):TV R.T→Option (List (Den R.T t))
 |.ak c' _ l=>bif zV c' c then oH R l else none
 |.dG=>bif zV .nil c then some [] else none
 |_=>none
def zW {k e k' e':Ty} (m:List (Den R.T k'×Den R.T e')):Option (List (Den R.T k×Den R.T e)):=if h:k'=k∧e'=e then some (by rw[←h.1,←h.2];exact m) else none
mutual
def pk:(k:Sk)→TV R.T→Option (oG R.T k)
 |.d t=>fun v=>mP R t v
 |.l c t=>fun v=>KY R c t v
 |.agg l=>fun v=>match v with
  |.agg cs=>gD l cs
  |_=>none
 |.ref o off=>fun v=>match v with
  |.ref p off'=>bif Nat.beq p o&& Nat.beq off' off then some () else none
  |_=>none
 |.aK l off=>fun v=>match v with
  |.aK cs off'=>bif Nat.beq off' off then gD l cs else none
  |_=>none
 |.cK o=>fun v=>match v with
  |.cK p=>bif Nat.beq p o then some () else none
  |_=>none
 |.dx k e=>fun v=>match v with
  |.dx _ _ m=>zW R m
  |_=>none
 |.fn f a b=>fun v=>match v with
  |.fn f' a' b'=>bif Nat.beq f' f then (match gD a a' with
   |some x=>match gD b b' with
    |some y=>some (x,y)
    |none=>none
   |none=>none) else none
  |_=>none
 |.dG=>fun v=>match v with
  |.dG=>some ()
  |_=>none
 |.vw o t=>fun v=>match v with
  |.vw p t'=>bif Nat.beq p o then (if t'=t then some () else none) else none
  |_=>none
 |.sg l=>fun v=>match v with
  |.sg ss=>uf l ss
  |_=>none
 |.undef=>fun v=>match v with
  |.undef=>some ()
  |_=>none
def gD:(l:List Sk)→List (TV R.T)→Option (aj R.T l)
 | []=>fun vs=>match vs with
   | []=>some ()
   |_::_=>none
 | [k]=>fun vs=>match vs with
   | [v]=>pk k v
   |_=>none
 |k::h::l=>fun vs=>match vs with
  | []=>none
  |v::vs=>match pk k v with
   |some x=>match gD (h::l) vs with
    |some p=>some (x,p)
    |none=>none
   |none=>none
end
mutual
def up (c:Cp):(k:Sk)→oG R.T k→TV R.T
 |.d t,x=>fZ R c t x
 |.l c t,x=>.ak c t x
 |.agg l,x=>.agg (jV c l x)
 |.ref o off,_=>.ref o off
 |.aK l off,x=>.aK (jV c l x) off
 |.cK o,_=>.cK o
 |.dx k e,x=>.dx k e x
 |.fn f a b,x=>.fn f (jV c a x.1) (jV c b x.2)
 |.dG,_=>.dG
 |.vw o t,_=>.vw o t
 |.sg l,x=>.sg (qD l x)
 |.undef,_=>.undef
def jV (c:Cp):(l:List Sk)→aj R.T l→List (TV R.T)
 | [],_=>[]
 | [k],x=>[up c k x]
 |k::h::l,p=>up c k p.1::jV c (h::l) p.2
end
def zX:(k:nN)→Ob R.T→Option (xk R.T k)
 |.cells l=>fun o=>match o with
  |.cells cs=>gD R l cs
  |_=>none
 |.st n=>fun o=>match o with
  |.cells cs=>xA R n (.agg cs)
  |_=>none
 |.map k e=>fun o=>match o with
  |.map _ _ m=>zW R m
  |_=>none
 |.arr t=>fun o=>match o with
  |.arr _ l=>oH R l
  |_=>none
 |.sg l=>fun o=>match o with
  |.sg ss=>uf l ss
  |_=>none
def qE:(k:nN)→xk R.T k→Ob R.T
 |.cells l,x=>.cells (jV R .any l x)
 |.st n,x=>.cells (jl R .any (R.lf n) (R.of n x))
 |.map k e,x=>.map k e x
 |.arr t,x=>.arr t x
 |.sg l,x=>.sg (qD l x)
def oJ (st:List (Nat×TV R.T)):(l:List (Nat×Sk))→Option (xu R.T l)
 | []=>some ()
 | [(i,k)]=>match look st i with
   |some v=>pk R k v
   |none=>none
 | (i,k)::h::l=>match look st i with
   |some v=>match pk R k v with
    |some x=>match oJ st (h::l) with
     |some p=>some (x,p)
     |none=>none
    |none=>none
   |none=>none
def FE:(l:List (Nat×Sk))→xu R.T l→List (Nat×TV R.T)
 | [],_=>[]
 | [(i,k)],x=>[(i,up R .any k x)]
 | (i,k)::h::l,p=>(i,up R .any k p.1)::FE (h::l) p.2
def pK (st:List (Nat×Ob R.T)):(l:List (Nat×nN))→Option (xq R.T l)
 | []=>some ()
 | [(i,k)]=>match look st i with
   |some v=>zX R k v
   |none=>none
 | (i,k)::h::l=>match look st i with
   |some v=>match zX R k v with
    |some x=>match pK st (h::l) with
     |some p=>some (x,p)
     |none=>none
    |none=>none
   |none=>none
def vo:(l:List (Nat×nN))→xq R.T l→List (Nat×Ob R.T)
 | [],_=>[]
 | [(i,k)],x=>[(i,qE R k x)]
 | (i,k)::h::l,p=>(i,qE R k p.1)::vo (h::l) p.2
def pack (st:MS R.T):(s:Shape)→Option (nO R.T s)
 | ⟨s,[]⟩=>oJ R st.fr s
 | ⟨s,o::os⟩=>match oJ R st.fr s with
   |some x=>match pK R st.ob (o::os) with
    |some y=>some (x,y)
    |none=>none
   |none=>none
def zY {T:Nat→Type}:TV T→Bool
 |.dG=>true
 |.ak .nil _ l=>l.isEmpty
 |.ak .full _ l=>l.isEmpty
 |_=>false
def nR {T:Nat→Type} (W:List Nat):List (Nat×Sk)→MS T→MS T
 | [],st=>st
 | (i,.vw o t)::l,st=>match look st.fr i with
   |some v=>bif zY v&& aZ o W then nR W l ⟨(i,.vw o t)::(st.new o (.arr t [])).fr,(st.new o (.arr t [])).ob⟩ else nR W l st
   |none=>nR W l st
 |_::l,st=>nR W l st
def jW (W:List Nat) (st:MS R.T) (s:Shape):Option (nO R.T s):=pack R (nR W s.sl st) s
def unpack:(s:Shape)→nO R.T s→MS R.T
 | ⟨s,[]⟩,x=>⟨FE R s x,[]⟩
 | ⟨s,o::os⟩,x=>⟨FE R s x.1,vo R (o::os) x.2⟩
def xG:Ex→Ex→Bool
 |.normal,.normal=>true
 |.ret,.ret=>true
 |.exit i,.exit j=>Nat.beq i j
 |_,_=>false
def pO (W:List Nat) (e:Ex) (st:MS R.T):(l:List (Ex×Shape))→Option (Out R.T l)
 | []=>none
 | [(x,s)]=>bif xG e x then jW R W st s else none
 | (x,s)::h::l=>bif xG e x then (match jW R W st s with
   |some p=>some (.inl p)
   |none=>none) else (match pO W e st (h::l) with
   |some p=>some (.inr p)
   |none=>none)
def rW {β:Type} (b:MS R.T) (k:Ex→MS R.T→Option β):(l:List (Ex×Shape))→Out R.T l→Option β
 | [],_=>none
 | [(x,s)],p=>k x (b.over (unpack R s p))
 | (x,s)::h::l,p=>Sum.elim (fun q=>k x (b.over (unpack R s q))) (fun q=>rW b k (h::l) q) p
end
end Aq
end
section
namespace Aq
open Go
inductive dO (R:iM) where
 |t (v:TV R.T)
 |c (b:Bool) (v:TV R.T)
 |w (v:TV R.T) (st:MS R.T)
 |wc (b:Bool) (v:TV R.T) (st:MS R.T)
 |p (α:Type) (d:α) (o:Option α) (f:α→TV R.T)
section
variable (E:Env) (R:iM)
def KZ {T:Nat→Type} (agg:Bool) (n:Nat) (cs:List (TV T)) (off:Nat):Option (TV T):=
 bif agg then (bif Nat.ble (off+n) cs.length then some (.agg ((cs.drop off).take n)) else none) else cs[off]?
def jK {T:Nat→Type} (t:TypeId) (cs:List (TV T)) (off:Nat):Option (TV T):=
 match gY E.P t with
 |some a=>match bX E.P t with
  |some n=>KZ a n cs off
  |none=>none
 |none=>none
def zZ {T:Nat→Type} (cs:List (TV T)) (off:Nat) (vs:List (TV T)):List (TV T):=cs.take off++vs++cs.drop (off+vs.length)
def K4 {T:Nat→Type} (place:Nat→Option (Nat×Nat)) (cells:List (TV T)):List (Nat×TV T)→Option (List (TV T))
 | []=>some cells
 | (i,v)::rest=>match place i with
   |none=>none
   |some (off,size)=>bif Nat.beq v.cells.length size&& Nat.ble (off+size) cells.length&& xE v then K4 place (zZ cells off v.cells) rest else none
def ug {T:Nat→Type} (t:TypeId):Option (TV T):=match E.P.info? t with
 |some i=>match i.zero with
  |some z=>zR z
  |none=>none
 |none=>none
def bM {T:Nat→Type}:TV T→Option Bool
 |.bool a=>some a
 |.gU a=>some a
 |_=>none
def K5 {T:Nat→Type} (x y:TV T):Option Bool:=match bM x,bM y with
 |some a,some b=>some (a==b)
 |_,_=>none
def z8 {T:Nat→Type} (eq:TypeId→TV T→TV T→Option Bool) (xs ys:List (TV T)):List Field→Option Bool
 | []=>some true
 |f::fs=>if f.name= "_" then z8 eq xs ys fs else
  match jK E f.type xs f.offset with
  |none=>none
  |some a=>match jK E f.type ys f.offset with
   |none=>none
   |some b=>match eq f.type a b with
    |none=>none
    |some r=>match z8 eq xs ys fs with
     |none=>none
     |some q=>some (r&& q)
def FH {T:Nat→Type} (eq:TypeId→TV T→TV T→Option Bool) (e:TypeId) (sz:Nat) (xs ys:List (TV T)):List Nat→Option Bool
 | []=>some true
 |i::is=>match jK E e xs (i*sz) with
  |none=>none
  |some a=>match jK E e ys (i*sz) with
   |none=>none
   |some b=>match eq e a b with
    |none=>none
    |some r=>match FH eq e sz xs ys is with
     |none=>none
     |some q=>some (r&& q)
def Aa {T:Nat→Type}:Nat→TypeId→TV T→TV T→Option Bool
 |0,_,_,_=>none
 |d+1,t,x,y=>
  match E.P.underlying t,x,y with
  |some (.struct fs),.agg xs,.agg ys=>if E.P.stoodInHeld t then none else z8 E (Aa d) xs ys fs.toList
  |some (.array n e),.agg xs,.agg ys=>match bX E.P e with
   |some sz=>FH E (Aa d) e sz xs ys (List.range n)
   |none=>none
  |some (.struct _),_,_=>none
  |some (.array _ _),_,_=>none
  |some .bool,x,y=>K5 x y
  |some (.int _),.int k a,.int k' b=>if k=k' then some (a==b) else none
  |some .string,.str a,.str b=>some (a==b)
  |_,_,_=>none
def K6 {T:Nat→Type} (t:TypeId) (x y:TV T):Option Bool:=
 match E.P.underlying t,x,y with
 |some (.struct _),.agg a,.agg b=>if E.P.eqGuardType E.P.depth t then none else Aa E 8 t (.agg a) (.agg b)
 |some (.array _ _),.agg a,.agg b=>if E.P.eqGuardType E.P.depth t then none else Aa E 8 t (.agg a) (.agg b)
 |some (.func ..),.fu,.fu=>some true
 |some (.func ..),.fu,.fn _ _ _=>some false
 |some (.func ..),.fn _ _ _,.fu=>some false
 |some .bool,x,y=>K5 x y
 |_,_,_=>none
def K7 (op:BinOp) (k:IntKind) (x y:Int):Option (dO R):=
 match op with
 |.add=>some (.t (.int k (k.wrap (x+y))))
 |.sub=>some (.t (.int k (k.wrap (x-y))))
 |.mul=>some (.t (.int k (k.wrap (x*y))))
 |.quo=>some (.c (!(y==0)) (.int k (k.wrap (x.tdiv y))))
 |.rem=>some (.c (!(y==0)) (.int k (x.tmod y)))
 |.and=>some (.t (.int k (k.wrap (BitVec.ofInt k.bits x&&& BitVec.ofInt k.bits y).toNat)))
 |.or=>some (.t (.int k (k.wrap (BitVec.ofInt k.bits x|||BitVec.ofInt k.bits y).toNat)))
 |.xor=>some (.t (.int k (k.wrap (BitVec.ofInt k.bits x^^^BitVec.ofInt k.bits y).toNat)))
 |.andNot=>some (.t (.int k (k.wrap (BitVec.ofInt k.bits x&&& ~~~BitVec.ofInt k.bits y).toNat)))
 |.eql=>some (.t (.bool (x==y)))
 |.neq=>some (.t (.bool (x !=y)))
 |.lss=>some (.t (.bool (decide (x<y))))
 |.leq=>some (.t (.bool (decide (x≤y))))
 |.gtr=>some (.t (.bool (decide (x>y))))
 |.geq=>some (.t (.bool (decide (x≥y))))
 |_=>none
def Qj (op:BinOp) (k:IntKind) (x y:Int):Option (dO R):=
 match op with
 |.shl=>some (.c (decide (0≤y)) (.int k (k.wrap (x*2^min y.toNat k.bits))))
 |.shr=>some (.c (decide (0≤y)) (.int k (x.fdiv (2^min y.toNat k.bits))))
 |_=>none
def Qk (op:BinOp) (x y:List UInt8):Option (dO R):=
 match op with
 |.add=>some (.c (decide (((x.length+y.length:Nat):Int)≤IntKind.i64.max)) (.str (x++y)))
 |.eql=>some (.t (.bool (x==y)))
 |.neq=>some (.t (.bool (!(x==y))))
 |.lss=>some (.t (.bool (Op.bytesLess x y)))
 |.leq=>some (.t (.bool (Op.bytesLess x y||x==y)))
 |.gtr=>some (.t (.bool (!(Op.bytesLess x y||x==y))))
 |.geq=>some (.t (.bool (!(Op.bytesLess x y))))
 |_=>none
def Ab:BinOp→Bool
 |.shl=>true
 |.shr=>true
 |_=>false
def Ql (op:BinOp) (t:TypeId) (x y:TV R.T):Option (dO R):=
 match x,y with
 |.int k a,.int k' b=>bif Ab op then Qj R op k a b else (if k=k' then K7 R op k a b else none)
 |.str a,.str b=>Qk R op a b
 |x,y=>match op with
  |.eql=>match K6 E t x y with
   |some b=>some (.t (.bool b))
   |none=>none
  |.neq=>match K6 E t x y with
   |some b=>some (.t (.bool (!b)))
   |none=>none
  |_=>none
def Qm (op:UnOp) (x:TV R.T):Option (dO R):=
 match op,x with
 |.neg,.int k n=>some (.t (.int k (k.wrap (0-n))))
 |.xor,.int k n=>K7 R .xor k (if k.signed then-1 else k.max) n
 |.not,.bool b=>some (.t (.bool (!b)))
 |.not,.gU b=>some (.t (.gU (!b)))
 |_,_=>none
def K8 (src dst:TypeId) (x:TV R.T):Option (dO R):=
 match E.P.underlying src,E.P.underlying dst,x with
 |some _,some (.int k),.int _ n=>some (.t (.int k (k.wrap n)))
 |some _,some .string,.str s=>some (.t (.str s))
 |some _,some (.slice e),.str s=>match E.P.underlying e with
  |some (.int .u8)=>some (.t (.ak .any (.int .u8) (s.map fun b=>((b.toNat:Nat):Int))))
  |_=>none
 |some (.slice e),some .string,.ak _ (.int .u8) l=>match E.P.underlying e with
  |some (.int .u8)=>some (.t (.str (List.map (fun n:Int=>UInt8.ofNat n.toNat) l)))
  |_=>none
 |some (.slice e),some .string,.dG=>match E.P.underlying e with
  |some (.int .u8)=>some (.t (.str []))
  |_=>none
 |_,_,_=>none
def jL (i:Int) (n:Nat):Bool:=decide (0≤i∧i≤n)
def Ac:Option (TV R.T)→Option (Option Int)
 |none=>some none
 |some (.int _ n)=>some (some n)
 |_=>none
def pQ {α:Type} (l:List α):Option Int→Option Int→List α
 |none,none=>l
 |some i,none=>l.drop i.toNat
 |none,some j=>l.take j.toNat
 |some i,some j=>(l.take j.toNat).drop i.toNat
def Qn (n:Nat):Option Int→Option Int→Bool
 |none,none=>true
 |some i,none=>jL i n
 |none,some j=>jL j n
 |some i,some j=>jL j n&& jL i j.toNat
def vv (t:TypeId) (x:TV R.T) (lo hi:Option (TV R.T)):Option (dO R):=
 match Ac R lo,Ac R hi with
 |some lo,some hi=>match E.P.underlying t,x with
  |some .string,.str s=>some (.c (Qn s.length lo hi) (.str (pQ s lo hi)))
  |some (.slice e),.ak _ u l=>match bX E.P e with
   |some sz=>bif Nat.beq sz (cZ R u) then some (.c (Qn l.length lo hi) (.ak .any u (pQ l lo hi))) else none
   |none=>none
  |_,_=>none
 |_,_=>none
def WB {T:Nat→Type} (t:TypeId) (f:Nat) (x:TV T):Option (TV T):=
 match rC E.P t f with
 |some (o,_)=>match x with
  |.ref p off=>some (.ref p (off+o))
  |.aK cs off=>some (.aK cs (off+o))
  |.kg p t i off=>some (.kg p t i (off+o))
  |_=>none
 |none=>none
def eB (R:iM):(t:Ty)→Den R.T t→Den R.T t→Bool
 |.int _=>fun (a b:Int)=>a==b
 |.bool=>fun (a b:Bool)=>a==b
 |.str=>fun (a b:List UInt8)=>a==b
 |.slice _=>fun _ _=>false
 |.st _=>fun _ _=>false
def uh (t:TypeId) (k:Ty):Bool:=match E.P.underlying t,k with
 |some (.int _),.int _=>true
 |some .string,.str=>true
 |some .bool,.bool=>true
 |_,_=>false
def iy {α β:Type} (eq:α→α→Bool) (x:α):List (α×β)→Option β
 | []=>none
 | (a,v)::m=>bif eq x a then some v else iy eq x m
def jX {α β:Type} (eq:α→α→Bool) (x:α) (v:β):List (α×β)→List (α×β)
 | []=>[(x,v)]
 | (a,w)::m=>bif eq x a then (x,v)::m else (a,w)::jX eq x v m
def mg {α:Type} (d:α):Option α→α
 |some x=>x
 |none=>d
def WC (t:Ty) (v:TV R.T):Option (Den R.T t):=bif jJ v then mP R t v else none
def FJ (t:TypeId) (k e:Ty) (m:List (Den R.T k×Den R.T e)) (x:TV R.T) (ok:Bool):Option (dO R):=
 match oW E.P t with
 |some (kt,et)=>bif uh E kt k then (match ug (T:=R.T) E et with
  |some z=>match mP R e z,mP R k x with
   |some z,some x=>some (.t (bif ok then .bP [fZ R .any e (mg z (iy (eB R k) x m)),.bool (iy (eB R k) x m).isSome] else fZ R .any e (mg z (iy (eB R k) x m))))
   |_,_=>none
  |none=>none) else none
 |none=>none
def K9 (t:TypeId) (m x:TV R.T) (ok:Bool) (st:MS R.T):Option (dO R):=
 match m with
 |.cK o=>match kX st o with
  |some (.map k e m)=>FJ E R t k e m x ok
  |_=>none
 |.dx k e m=>FJ E R t k e m x ok
 |.eY=>match oW E.P t with
  |some (kt,et)=>match R.ty kt,R.ty et with
   |some k,some e=>FJ E R t k e [] x ok
   |_,_=>none
  |none=>none
 |_=>none
def La {T:Nat→Type}:TV T→TV T→Option Bool
 |.int k a,.int k' b=>if k=k' then some (a==b) else none
 |.str a,.str b=>some (a==b)
 |_,_=>none
def Lb {T:Nat→Type} (t:TypeId):TV T→Bool:=fun v=>match E.P.underlying t,v with
 |some (.int _),.int _ _=>true
 |some .string,.str _=>true
 |_,_=>false
def Lc {T:Nat→Type} (x v:TV T):List (TV T)→List (TV T)→Option (List (TV T)×List (TV T))
 | [],[]=>some ([x],[v])
 |a::ks,w::vs=>match La x a with
  |some b=>bif b then some (x::ks,v::vs) else (match Lc x v ks vs with
   |some (ks,vs)=>some (a::ks,w::vs)
   |none=>none)
  |none=>none
 |_,_=>none
def Ad (t:TypeId) (m x v:TV R.T) (st:MS R.T):Option (dO R):=
 match m with
 |.cK o=>match look st.ob o with
  |some (.map k e m)=>match oW E.P t with
   |some (kt,_)=>bif uh E kt k then (match mP R k x,WC R e v with
    |some x,some v=>some (.w .undef (st.set o (.map k e (jX (eB R k) x v m))))
    |_,_=>none) else none
   |none=>none
  |some (.smap ks vs)=>match oW E.P t with
   |some (kt,_)=>bif Lb E kt x then (match Lc x v ks vs with
    |some (ks,vs)=>some (.w .undef (st.set o (.smap ks vs)))
    |none=>none) else none
   |none=>none
  |_=>none
 |_=>none
def gW:Ty→Bool
 |.st _=>true
 |_=>false
def Ae (t:TypeId):Option (TypeId×Ty×Nat×Nat):=
 match iY E.P t with
 |some e=>match R.ty e,bX E.P e,og E.P e,gY E.P e,gZ E.P e with
  |some u,some sz,some d9,some ag,some z=>bif Nat.beq sz (cZ R u)&& Nat.blt 0 sz&& (ag||Nat.beq sz 1)&& Nat.beq z.cells.length sz&& (ag==gW u) then some (e,u,sz,d9) else none
  |_,_,_,_,_=>none
 |none=>none
def vB (t:Ty) (n:Nat):List (Nat×TV R.T)→Option (List (Den R.T t))
 | []=>some []
 | (i,v)::l=>bif Nat.beq i n then (match mP R t v with
   |some x=>match vB t (n+1) l with
    |some y=>some (x::y)
    |none=>none
   |none=>none) else none
def Qo (t:TypeId) (len:Nat) (ps:List (Nat×TV R.T)):Option (dO R):=
 match Ae E R t with
 |some (_,u,sz,_)=>bif Nat.ble (len*sz) (2^24)&& Nat.beq ps.length len then (match vB R u 0 ps with
  |some l=>some (.t (.ak .full u l))
  |none=>none) else none
 |none=>none
def FK (u:Ty):TV R.T→Option (List (Den R.T u))
 |.ak _ _ l=>oH R l
 |.dG=>some []
 |.str s=>oH (t:=.int .u8) (u:=u) R (s.map fun b=>((b.toNat:Nat):Int))
 |_=>none
def WE (u:Ty) (d:Nat):TV R.T→Option (Nat×List (Den R.T u))
 |.ak .nil _ l=>match oH R l with
  |some l=>some (d,l)
  |none=>none
 |.ak .full _ l=>match oH R l with
  |some l=>some (d,l)
  |none=>none
 |.ak (.own t) _ l=>match oH R l with
  |some l=>some (t,l)
  |none=>none
 |.dG=>some (d,[])
 |_=>none
def Af (t:TypeId):Bool:=match E.P.underlying t with
 |some (.slice _)=>true
 |some .string=>true
 |_=>false
def FL (d:Option Nat) (t u:TypeId) (x y:TV R.T) (st:MS R.T):Option (dO R):=
 match d with
 |some d=>match Ae E R t with
  |some (_,τ,_,d9)=>bif Af E u then (match WE R τ d x,FK R τ y with
   |some (tk,l),some l'=>some (.wc (bN (l.length+l'.length) d9) (.ak (.own tk) τ (l++l')) (st.wk tk))
   |_,_=>none) else none
  |none=>none
 |none=>none
def FM (d:Option Nat) (t u:TypeId) (x y:TV R.T) (st:MS R.T):Option (dO R):=
 match d with
 |some d=>match Ae E R t with
  |some (_,τ,_,d9)=>bif Af E u then (match FK R τ y with
   |some l'=>match x with
    |.vw o τ0=>if τ0=τ then (match look st.ob o with
     |some (.arr τ' l)=>match l',oH R (u:=τ) l with
      |a::l',some l=>some (.wc (bN (l.length+(a::l').length) d9) (.vw d τ) ((st.del o).new d (.arr τ (l++a::l'))))
      |_,_=>none
     |_=>none) else none
    |x=>bif zY x then some (.wc (bN l'.length d9) (.vw d τ) (st.new d (.arr τ l'))) else none
   |none=>none) else none
  |none=>none
 |none=>none
def Qp (om:Bool) (d:Option Nat) (t:TypeId) (n m:TV R.T) (st:MS R.T):Option (dO R):=
 match d,Ae E R t,n,m with
 |some d,some (e,τ,_,d9),.int _ n,.int _ m=>match ug (T:=R.T) E e with
  |some z=>match mP R τ z with
   |some z=>bif om then some (.wc (decide (0≤n∧n=m∧m≤2^47)&& bN m.toNat d9) (.vw d τ) (st.new d (.arr τ (List.replicate n.toNat z))))
    else some (.wc (decide (n=0∧0≤m∧m≤2^47)&& bN m.toNat d9) (.ak (.own d) τ []) (st.wk d))
   |none=>none
  |none=>none
 |_,_,_,_=>none
def Ah {T:Nat→Type} (mx:Bool):TV T→List (TV T)→Option (TV T)
 |x,[]=>some x
 |.int k a,.int k' b::l=>if k=k' then Ah mx (.int k (bif mx then imax a b else jF a b)) l else none
 |_,_=>none
def Qq {T:Nat→Type} (t:TypeId) (x:TV T) (st:MS T):Option Nat:=
 match E.P.underlying t,x with
 |some (.slice _),.ak _ _ l=>some l.length
 |some (.slice _),.dG=>some 0
 |some (.slice _),.vw o _=>match kX st o with
  |some (.arr _ l)=>some l.length
  |_=>none
 |some .string,.str s=>some s.length
 |some (.map _ _),.cK o=>match kX st o with
  |some (.map _ _ m)=>some m.length
  |_=>none
 |some (.map _ _),.dx _ _ m=>some m.length
 |some (.map _ _),.eY=>some 0
 |some (.array n _),_=>some n
 |_,_=>none
def blt (om:Bool) (d:Option Nat) (b:Builtin) (tys:Array TypeId) (args:List (TV R.T)) (st:MS R.T):Option (dO R):=
 match b,args with
 |.len,[x]=>match tys[0]? with
  |some t=>match Qq E t x st with
   |some n=>some (.t (.int .i64 ((n:Nat):Int)))
   |none=>none
  |none=>none
 |.append,[x,y]=>match tys[0]?,tys[1]? with
  |some t,some u=>bif om then FM E R d t u x y st else FL E R d t u x y st
  |_,_=>none
 |.min,x::l=>match Ah false x l with
  |some v=>some (.t v)
  |none=>none
 |.max,x::l=>match Ah true x l with
  |some v=>some (.t v)
  |none=>none
 |_,_=>none
def WG:List (TV R.T)→TV R.T
 | [v]=>v
 |vs=>.bP vs
def findF (args cB:List (TV R.T)):List (FR R)→Option (dO R)
 | []=>none
 |r::l=>match gD R r.args cB with
  |some p=>bif iN r.args&& Nat.ble (mU r.args) 18&& iN r.res&& (vk args||zU r.res) then some (.p (aj R.T r.res) r.d (r.F p) fun x=>WG R (jV R .sh r.res x)) else none
  |none=>findF args cB l
def Qr (t:TypeId) (x i:TV R.T):Option (dO R):=
 match E.P.underlying t,x,i with
 |some (.slice e),.ak _ u l,.int _ n=>match bX E.P e with
  |some sz=>bif Nat.beq sz (cZ R u) then some (.p (Den R.T u) (zO R u) (aL l n) fun y=>.aK (fZ R .sh u y).cells 0) else none
  |none=>none
 |some (.array n e),.ref o off,.int _ k=>match bX E.P e with
  |some sz=>some (.c (decide (0≤k∧k<n)) (.ref o (off+k.toNat*sz)))
  |none=>none
 |some (.array n e),.aK cs off,.int _ k=>match bX E.P e with
  |some sz=>some (.c (decide (0≤k∧k<n)) (.aK cs (off+k.toNat*sz)))
  |none=>none
 |_,_,_=>none
def Qs (t:TypeId) (o:Nat) (τ:Ty) (i:TV R.T) (st:MS R.T):Option (dO R):=
 match E.P.underlying t,i with
 |some (.slice e),.int _ n=>match bX E.P e with
  |some sz=>bif Nat.beq sz (cZ R τ) then (match kX st o with
   |some (.arr _ l)=>some (.c (decide (0≤n∧n< ((l.length:Nat):Int))) (.kg o τ n 0))
   |_=>none) else none
  |none=>none
 |_,_=>none
def agW {T:Nat→Type}:Option (TV T)→TV T
 |some v=>v
 |none=>.gone
def Qt (t:TypeId) (τ:Ty) (i:Int) (off:Nat) (o:Ob R.T):Option (dO R):=
 match o with
 |.arr τ' l=>match oH R (u:=τ) l with
  |some l=>bif (jK E t (fZ R .any τ (zO R τ)).cells off).isSome then some (.p (Den R.T τ) (zO R τ) (aL l i) fun y=>agW (jK E t (fZ R .any τ y).cells off)) else none
  |none=>none
 |_=>none
def Qu (τ:Ty) (cs:List (TV R.T)):Option (Den R.T τ):=match τ with
 |.st n=>xA R n (.agg cs)
 |.int k=>nP R (.int k) (hd1 R cs)
 |.bool=>nP R .bool (hd1 R cs)
 |.str=>nP R .str (hd1 R cs)
 |.slice t=>nP R (.slice t) (hd1 R cs)
def Qv (t:TypeId) (x i:TV R.T):Option (dO R):=
 match E.P.underlying t,x,i with
 |some .string,.str s,.int _ n=>some (.p UInt8 0 (aL s n) fun b=>.int .u8 ((b.toNat:Nat):Int))
 |_,_,_=>none
def Ai {T:Nat→Type} (c:Bool):TV T→TV T→Option (TV T)
 |.int k a,.int k' b=>if k=k' then some (.int k (bif c then a else b)) else none
 |.bool a,.bool b=>some (.bool (bif c then a else b))
 |.bool a,.gU b=>some (.bool (bif c then a else b))
 |.gU a,.bool b=>some (.bool (bif c then a else b))
 |.gU a,.gU b=>some (.bool (bif c then a else b))
 |.str a,.str b=>some (.str (bif c then a else b))
 |_,_=>none
def WH (P:Program):Nat→TypeId→Option (List iZ)
 |0,_=>none
 |n+1,t=>match P.underlying t with
  |some (.int k)=>some [.i k]
  |some (.array m e)=>match P.underlying e with
   |some (.int k)=>some [.a k m]
   |_=>none
  |some (.struct fs)=>fs.toList.foldr (fun f acc=>match WH P n f.type,acc with
   |some a,some b=>some (a++b)
   |_,_=>none) (some [])
  |_=>none
def WI:List iZ→Bool
 | []=>false
 |.a _ _::_=>true
 |_::l=>WI l
def WJ (t:TypeId):Option (List iZ):=match R.ty t with
 |some _=>none
 |none=>match WH E.P 4 t with
  |some ks=>bif WI ks then some ks else none
  |none=>none
def Sg.sk:Sg→iZ
 |.i k _=>.i k
 |.a k n _=>.a k n
def Ld:iZ→Sg
 |.i k=>.i k 0
 |.a k n=>.a k n (Vec.rep n 0)
def xH {T:Nat→Type} (k:IntKind):List (TV T)→Bool
 | []=>true
 |.int k' x::l=>(if k'=k then (if x=0 then true else false) else false)&& xH k l
 |_=>false
def Aj {T:Nat→Type}:List iZ→List (TV T)→Bool
 | [],[]=>true
 |.i k::l,v::vs=>xH k [v]&& Aj l vs
 |.a k n::l,vs=>Nat.ble n vs.length&& xH k (vs.take n)&& Aj l (vs.drop n)
 |_,_=>false
def vC {T:Nat→Type}:List iZ→List (TV T)→Option (List Sg)
 | [],[]=>some []
 |.i k::l,.int k' x::vs=>if k'=k then (match vC l vs with
  |some r=>some (.i k x::r)
  |none=>none) else none
 |.a k n::l,vs=>match xC k (vs.take n) with
  |some xs=>bif Nat.beq xs.length n then (match vC l (vs.drop n) with
   |some r=>some (.a k n (Vec.lit n xs)::r)
   |none=>none) else none
  |none=>none
 |_,_=>none
def FN {T:Nat→Type}:List Sg→List (TV T)
 | []=>[]
 |.i k x::l=>.int k x::FN l
 |.a k n v::l=>(List.range n).map (fun j=>TV.int k (v.nth j))++FN l
def Ak:List iZ→List iZ→Bool
 | [],[]=>true
 |.i k::l,.i k'::l'=>(if k=k' then true else false)&& Ak l l'
 |.a k n::l,.a k' n'::l'=>(if k=k' then true else false)&& Nat.beq n n'&& Ak l l'
 |_,_=>false
def Le {T:Nat→Type} (ks:List iZ):TV T→Option (List Sg)
 |.sg ss=>bif Ak ks (ss.map Sg.sk) then some ss else none
 |.agg cs=>vC ks cs
 |.int k x=>match ks with
  | [.i k']=>if k'=k then some [.i k x] else none
  |_=>none
 |_=>none
def Lf (t:TypeId) (ss:List Sg) (off:Nat):Option (TV R.T):=
 match mR ss off,bX E.P t,gY E.P t with
 |some (_,rest),some sz,some ag=>match mR rest sz with
  |some (mid,_)=>bif ag then (match R.ty t with
   |none=>some (.sg mid)
   |some _=>some (.agg (FN mid))) else (match mid with
   | [.i k x]=>some (.int k x)
   |_=>none)
  |none=>none
 |_,_,_=>none
def Qw (t:TypeId) (k:IntKind) (m:Nat) (n:Nat) (v:Vec n) (i:Int):Option (TV R.T):=
 match oh E.P t,bX E.P t,gY E.P t with
 |some (m',e),some sz,some true=>bif Nat.beq m' m&& Nat.beq sz m then (match R.ty t with
  |none=>some (.sg [.a k m (v.slc i m)])
  |some _=>some (.agg ((List.range m).map fun j=>.int k (v.nth (i.toNat+j))))) else none
 |_,_,_=>none
def oK (t:TypeId):Bool:=match bX E.P t,gY E.P t with
 |some sz,some ag=>Nat.beq sz 1&& !ag
 |_,_=>false
def Lg (k:IntKind):List V→List Int→Bool
 | [],[]=>true
 |.int k' x::l,y::m=>(if k'=k then (if x=y then true else false) else false)&& Lg k l m
 |_,_=>false
def Lh (g:Nat) (t:TypeId):Option ((k:IntKind)×(n:Nat)×Vec n):=
 match E.glob g,R.gl g,oh E.P t,bX E.P t,gY E.P t with
 |some cs,some ⟨k,n,v⟩,some (m,e),some sz,some ag=>bif ag&& Nat.beq m n&& Nat.beq sz n&& oK E e&& Lg k cs v.l then some ⟨k,n,v⟩ else none
 |_,_,_,_,_=>none
def eO (i:Int) (n:Nat):Bool:=decide (0≤i∧i<n)
def mV (n:Nat):Option Int→Option Int→Bool
 |none,none=>true
 |some i,none=>decide (0≤i∧(i<n∨i=0))
 |none,some j=>decide (0≤j∧j≤n)
 |some i,some j=>decide (0≤i∧i≤j∧j≤n∧(i<j∨i=0))
def dH:Option Int→Int
 |some i=>i
 |none=>0
def fO (n:Nat):Option Int→Int
 |some i=>i
 |none=>n
def vD (t:TypeId) (x:TV R.T) (lo hi:Option (TV R.T)) (st:MS R.T):Option (dO R):=
 match x,Ac R lo,Ac R hi,oh E.P t with
 |.ref o off,some lo,some hi,some (n,e)=>bif oK E e then (match kX st o with
  |some (.sg ss)=>match mR ss off with
   |some (_,.a k n' _::_)=>bif Nat.beq n' n then some (.c (mV n lo hi) (.sv o off k n lo hi)) else none
   |_=>none
  |some (.cells cs)=>match (cs.drop off) with
   |.int k _::_=>bif Nat.ble (off+n) cs.length then some (.c (mV n lo hi) (.sv o off k n lo hi)) else none
   |_=>none
  |_=>none) else none
 |_,_,_,_=>none
def nS (g:List (Nat×Bool)) (d:Option Nat) (o:Op) (st:MS R.T):Option (dO R):=
 match o with
 |.alloc t=>match d,WJ E R t,ug (T:=R.T) E t with
  |some d,some ks,some (.agg cs)=>bif Aj ks cs then some (.w (.ref d 0) (st.new d (.sg (ks.map Ld)))) else none
  |_,_,_=>none
 |.box t x=>match d,WJ E R t,bI g st x with
  |some d,some ks,some v=>match Le ks v with
   |some ss=>some (.w (.ref d 0) (st.new d (.sg ss)))
   |none=>none
  |_,_,_=>none
 |.load t a=>match a with
  |.global gl=>match Lh E R gl t with
   |some ⟨k,n,v⟩=>some (.t (.sg [.a k n v]))
   |none=>none
  |a=>match bI g st a with
   |some (.ref o off)=>match kX st o with
    |some (.sg ss)=>match Lf E R t ss off with
     |some v=>some (.t v)
     |none=>none
    |_=>none
   |some (.sel o off k n i m)=>match kX st o with
    |some (.sg ss)=>match mR ss off with
     |some (_,.a k' n' v::_)=>if k'=k then (bif Nat.beq n' n then (bif Nat.beq m 1&& oK E t then some (.t (.int k (v.at' i))) else (match Qw E R t k m n' v i with
      |some v=>some (.t v)
      |none=>none)) else none) else none
     |_=>none
    |_=>none
   |some (.pJ k n v i)=>bif oK E t then some (.t (.int k (v.at' i))) else none
   |_=>none
 |.store t a x=>match bI g st a,bI g st x with
  |some (.ref o off),some v=>match look st.ob o,bX E.P t with
   |some (.sg ss),some sz=>match mR ss off with
    |some (pre,rest)=>match mR rest sz with
     |some (mid,post)=>match Le (mid.map Sg.sk) v with
      |some mid'=>some (.w .undef (st.set o (.sg (pre++(mid'++post)))))
      |none=>none
     |none=>none
    |none=>none
   |_,_=>none
  |some (.sel o off k n i m),some (.int k' y)=>match look st.ob o with
   |some (.sg ss)=>match mR ss off with
    |some (pre,.a k2 n' v::post)=>if k2=k then (if k'=k then (bif Nat.beq n' n&& Nat.beq m 1&& oK E t then some (.w .undef (st.set o (.sg (pre++(.a k n' (v.set i y)::post))))) else none) else none) else none
    |_=>none
   |_=>none
  |_,_=>none
 |.indexAddr t x i=>match oh E.P t,bI g st i with
  |some (n,e),some (.int _ i)=>bif oK E e then (match x with
   |.global gl=>match Lh E R gl t with
    |some ⟨k,n,v⟩=>some (.c (eO i n) (.pJ k n v i))
    |none=>none
   |x=>match bI g st x with
    |some (.ref o off)=>match kX st o with
     |some (.sg ss)=>match mR ss off with
      |some (_,.a k n' _::_)=>bif Nat.beq n' n then some (.c (eO i n) (.sel o off k n i 1)) else none
      |_=>none
     |_=>none
    |_=>none) else none
  |_,_=>none
 |.index t x i=>match oh E.P t,bI g st x,bI g st i with
  |some (n,e),some (.sg [.a k n' v]),some (.int _ i)=>bif oK E e&& Nat.beq n' n then some (.c (eO i n) (.int k (v.at' i))) else none
  |_,_,_=>none
 |.slice t x lo hi none=>match bI g st x with
  |some x=>match lo,hi with
   |none,none=>vD E R t x none none st
   |some lo,none=>match bI g st lo with
    |some lo=>vD E R t x (some lo) none st
    |none=>none
   |none,some hi=>match bI g st hi with
    |some hi=>vD E R t x none (some hi) st
    |none=>none
   |some lo,some hi=>match bI g st lo,bI g st hi with
    |some lo,some hi=>vD E R t x (some lo) (some hi) st
    |_,_=>none
  |none=>none
 |.slice t x lo (some hi) (some mx)=>match bI g st x,bI g st hi,bI g st mx,E.P.underlying t with
  |some (.ak _ u l),some (.int _ h),some (.int _ m),some (.slice e)=>match bX E.P e with
   |some sz=>bif Nat.beq sz (cZ R u) then (match lo with
    |none=>some (.c (jL m l.length&& jL h m.toNat) (.ak .any u (pQ l none (some h))))
    |some lo=>match bI g st lo with
     |some (.int _ a)=>some (.c (jL m l.length&& (jL h m.toNat&& jL a h.toNat)) (.ak .any u (pQ l (some a) (some h))))
     |_=>none) else none
   |none=>none
  |_,_,_,_=>none
 |.convert a b x=>match bI g st x with
  |some (.sv o off k n lo hi)=>match E.P.underlying a,E.P.underlying b with
   |some (.slice e),some .string=>match E.P.underlying e,k with
    |some (.int .u8),.u8=>match KW st o off .u8 n lo hi with
     |some l=>some (.t (.str (List.map (fun n:Int=>UInt8.ofNat n.toNat) l)))
     |none=>none
    |_,_=>none
   |_,_=>none
  |_=>none
 |.sliceToArrayPointer t x=>match oh E.P t,bI g st x with
  |some (m,e),some (.sv o off k n lo hi)=>some (.c (decide (0<m∧m≤fO n hi-dH lo)) (.sel o off k n (dH lo) m))
  |_,_=>none
 |.call c=>match c.callee,l6 g st c.args.toList with
  |.builtin .copy,some [.sv o off k n lo hi,y]=>match c.argTypes[0]? with
   |some t=>match iY E.P t with
    |some e=>bif oK E e then (match FK R (.int k) y,look st.ob o with
     |some l,some (.sg ss)=>match mR ss off with
      |some (pre,.a k' n' v::post)=>if k'=k then (bif Nat.beq n' n then
        some (.w (.int .i64 (((l.take (fO n hi-dH lo).toNat).length:Nat):Int)) (st.set o (.sg (pre++(.a k n' (v.rR (dH lo) (l.take (fO n hi-dH lo).toNat))::post))))) else none) else none
      |_=>none
     |_,_=>none) else none
    |none=>none
   |none=>none
  |_,_=>none
 |_=>none
def oL (om:Bool) (F:Nat→List (FR R)) (g:List (Nat×Bool)) (d:Option Nat) (o:Op) (st:MS R.T):Option (dO R):=
 match o with
 |.move x=>match bI g st x with
  |some v=>some (.t v)
  |none=>none
 |.assign x=>match bI g st x with
  |some v=>some (.t v)
  |none=>none
 |.pick c a b=>match c with
  |.tmp j=>match bI g st c with
   |some (.bool t)=>match bI ((j,true)::g) st a,bI ((j,false)::g) st b with
    |some x,some y=>match Ai t x y with
     |some v=>some (.t v)
     |none=>none
    |_,_=>none
   |some (.gU t)=>match bI g st (bif t then a else b) with
    |some v=>some (.t v)
    |none=>none
   |_=>none
  |_=>none
 |.alloc t=>match d,ug E t with
  |some d,some z=>bif vg z.cells&& !(kV d z.cells) then some (.w (.ref d 0) (st.new d (.cells z.cells))) else none
  |_,_=>none
 |.box _ x=>match d,bI g st x with
  |some d,some v=>bif vg v.cells&& xE v&& !(kV d v.cells) then some (.w (.ref d 0) (st.new d (.cells v.cells))) else none
  |_,_=>none
 |.build t parts=>match zf E t,ug (T:=R.T) E t,zS g st parts.toList with
  |some pl,some z,some ps=>match K4 pl z.cells ps with
   |some cs=>some (.t (.agg cs))
   |none=>none
  |_,_,_=>none
 |.buildSlice t len parts=>match zS g st parts.toList with
  |some ps=>Qo E R t len ps
  |none=>none
 |.load t a=>match bI g st a with
  |some (.ref o off)=>match kX st o with
   |some (.cells cs)=>match jK E t cs off with
    |some v=>some (.t v)
    |none=>none
   |_=>none
  |some (.aK cs off)=>match jK E t cs off with
   |some v=>some (.t v)
   |none=>none
  |some (.kg o τ i off)=>match kX st o with
   |some b=>Qt E R t τ i off b
   |none=>none
  |_=>none
 |.store t a x=>match bI g st a,bI g st x with
  |some (.ref o off),some v=>match look st.ob o,bX E.P t with
   |some (.cells cs),some sz=>bif Nat.beq v.cells.length sz&& Nat.ble (off+v.cells.length) cs.length&& vg v.cells&& xE v then
     some (.w .undef (st.set o (.cells (zZ cs off v.cells)))) else none
   |_,_=>none
  |_,_=>none
 |.nilCheck x=>match bI g st x with
  |some (.ref o off)=>some (.t (.ref o off))
  |some (.aK cs off)=>some (.t (.aK cs off))
  |some (.kg o τ i off)=>some (.t (.kg o τ i off))
  |some (.fn f a b)=>some (.t (.fn f a b))
  |_=>none
 |.binOp op t x y _=>match bI g st x,bI g st y with
  |some x,some y=>Ql E R op t x y
  |_,_=>none
 |.unOp op _ x=>match bI g st x with
  |some x=>Qm R op x
  |none=>none
 |.convert a b x=>match bI g st x with
  |some x=>K8 E R a b x
  |none=>none
 |.makeFunc (.func f) a b=>match l6 g st a.toList,l6 g st b.toList with
  |some a,some b=>some (.t (.fn f a b))
  |_,_=>none
 |.makeMap t none=>match d,oW E.P t with
  |some d,some (k,e)=>match R.ty k,R.ty e with
   |some k,some e=>some (.w (.cK d) (st.new d (.map k e [])))
   |_,_=>some (.w (.cK d) (st.new d (.smap [] [])))
  |_,_=>none
 |.makeSlice t l c=>match bI g st l,bI g st c with
  |some n,some m=>Qp E R om d t n m st
  |_,_=>none
 |.slice t x lo hi none=>match bI g st x with
  |some x=>match lo,hi with
   |none,none=>vv E R t x none none
   |some lo,none=>match bI g st lo with
    |some lo=>vv E R t x (some lo) none
    |none=>none
   |none,some hi=>match bI g st hi with
    |some hi=>vv E R t x none (some hi)
    |none=>none
   |some lo,some hi=>match bI g st lo,bI g st hi with
    |some lo,some hi=>vv E R t x (some lo) (some hi)
    |_,_=>none
  |none=>none
 |.fieldAddr t x f=>match bI g st x with
  |some x=>match WB E t f x with
   |some v=>some (.t v)
   |none=>none
  |none=>none
 |.field t x f=>match rC E.P t f,bI g st x with
  |some (o,u),some (.agg cs)=>match jK E u cs o with
   |some v=>some (.t v)
   |none=>none
  |_,_=>none
 |.indexAddr t x i=>match bI g st x,bI g st i with
  |some (.vw o τ),some i=>Qs E R t o τ i st
  |some x,some i=>Qr E R t x i
  |_,_=>none
 |.index t x i=>match bI g st x,bI g st i with
  |some x,some i=>Qv E R t x i
  |_,_=>none
 |.lookup t x i ok=>match bI g st x,bI g st i with
  |some x,some i=>K9 E R t x i ok st
  |_,_=>none
 |.mapUpdate t m k v=>match bI g st m,bI g st k,bI g st v with
  |some m,some k,some v=>Ad E R t m k v st
  |_,_,_=>none
 |.insert t m k v=>match bI g st m,bI g st k,bI g st v with
  |some m,some k,some v=>Ad E R t m k v st
  |_,_,_=>none
 |.extract x i=>match bI g st x with
  |some (.bP vs)=>match vs[i]? with
   |some v=>some (.t v)
   |none=>none
  |_=>none
 |.call c=>match c.callee with
  |.builtin b=>match l6 g st c.args.toList with
   |some vs=>blt E R om d b c.argTypes vs st
   |none=>none
  |.value f=>match bI g st f,l6 g st c.args.toList with
   |some (.fn f a b),some vs=>bif E.imp f then none else findF R (a++vs++b) (l7 st (a++vs++b)) (F f)
   |_,_=>none
  |_=>none
 |_=>none
def rX (om:Bool) (F:Nat→List (FR R)) (g:List (Nat×Bool)) (d:Option Nat) (o:Op) (st:MS R.T):Option (dO R):=
 match nS E R g d o st with
 |some r=>some r
 |none=>oL E R om F g d o st
inductive Gd where
 |no
 |run
 |skip
 |dyn (j:Nat) (w:Bool) (c:Bool) (g:List (Nat×Bool))
def Al (b w:Bool):Bool:=bif w then b else !b
def Qx (a b:Bool):Bool:=bif a then b else false
def lJ {T:Nat→Type} (st:MS T):Nat→Nat→Bool→Option (Bool×List (Nat×Bool))
 |0,_,_=>none
 |n+1,j,w=>match look st.fr j with
  |some (.bool b)=>some (Al b w,[(j,w)])
  |some (.opt i u (.bool b))=>match lJ st n i u with
   |some (c,g)=>some (Qx c (Al b w),(j,w)::g)
   |none=>none
  |some (.opt i u (.gU b))=>match lJ st n i u with
   |some (c,g)=>some (Qx c (Al b w),(j,w)::g)
   |none=>none
  |_=>none
def Li {T:Nat→Type} (all:List Oper) (st:MS T) (o:Oper):Gd:=
 match o.guard with
 |none=>.run
 |some (j,w)=>match all[j]? with
  |some p=>match p.dst with
   |some t=>match look st.fr t with
    |some (.gU b)=>bif b==w then .run else .skip
    |some .undef=>.skip
    |_=>match lJ st 12 t w with
     |some (c,g)=>.dyn t w c g
     |none=>.no
   |none=>.skip
  |none=>.skip
def MS.pR {T:Nat→Type} (st:MS T):List (Nat×Bool)→MS T
 | []=>st
 | (j,w)::g=>(st.pR g).learn j w
def MS.vE {T:Nat→Type} (st:MS T):List (Nat×Bool)→MS T
 | [(j,w)]=>st.learn j (!w)
 |_=>st
def iG {α:Type} (c:Bool) (o:Option α) (d:α):Option α:=bif c then o else some d
def Qy (st:MS R.T) (t:TypeId) (m x:Operand):Option (List (TV R.T)×List (TV R.T)×TV R.T×TV R.T):=
 match bI [] st m with
 |some (.cK o)=>match kX st o with
  |some (.smap ks vs)=>match bI [] st x,oW E.P t with
   |some x,some (kt,et)=>match ug (T:=R.T) E et with
    |some z=>bif Lb E kt x then some (ks,vs,x,z) else none
    |none=>none
   |_,_=>none
  |_=>none
 |_=>none
def Lj {T:Nat→Type} {β:Type} (x:TV T):List (TV T)→List (TV T)→TV T→(TV T→Bool→Option β)→Option β
 | [],[],z,k=>k z false
 |a::ks,v::vs,z,k=>match La x a with
  |some b=>bif b then k v true else Lj x ks vs z k
  |none=>none
 |_,_,_,_=>none
section
variable (om:Bool) {β:Type} (F:Nat→List (FR R))
def Qz (t:TypeId) (a x:Operand) (st:MS R.T):Option ((τ:Ty)×Nat×Int×Nat×List (Den R.T τ)×TV R.T):=
 match bI [] st a,bI [] st x with
 |some (.kg o τ i off),some v=>match look st.ob o,bX E.P t with
  |some (.arr τ' l),some sz=>match oH R (u:=τ) l with
   |some l=>bif Nat.beq v.cells.length sz&& Nat.ble (off+v.cells.length) (cZ R τ)&& vg v.cells&& xE v then some ⟨τ,o,i,off,l,v⟩ else none
   |none=>none
  |_,_=>none
 |_,_=>none
def kZ {α:Type} (l:List α) (i:Int) (y:α):List α:=l.set i.toNat y
def runM (o:Oper) (st:MS R.T) (k:MS R.T→Option β):Option β:=
 match o.op with
 |.pick c a b=>match bI [] st c with
  |some (.gU t)=>match bI [] st (bif t then a else b) with
   |some v=>k (st.eZ o.dst v)
   |none=>none
  |some (.bool t)=>match c with
   |.tmp j=>match bI [(j,true)] st a,bI [(j,false)] st b with
    |some x,some y=>match Ai t x y with
     |some v=>k (st.eZ o.dst v)
     |none=>bif t then k ((st.learn j true).eZ o.dst x) else k ((st.learn j false).eZ o.dst y)
    |_,_=>none
   |_=>none
  |_=>none
 |.store t a x=>match Qz E R t a x st with
  |some ⟨τ,p,i,off,l,v⟩=>(aL l i).bind fun y=>match Qu R τ (zZ (fZ R .any τ y).cells off v.cells) with
   |some y'=>k ((st.set p (.arr τ (kZ l i y'))).eZ o.dst .undef)
   |none=>none
  |none=>match rX E R om F [] o.dst (.store t a x) st with
   |some (.w v st')=>k (st'.eZ o.dst v)
   |_=>none
 |.lookup t m x ok=>match Qy E R st t m x with
  |some (ks,vs,x,z)=>Lj x ks vs z fun v b=>k (st.eZ o.dst (bif ok then .bP [v,.gU b] else v))
  |none=>match rX E R om F [] o.dst (.lookup t m x ok) st with
   |some (.t v)=>k (st.eZ o.dst v)
   |_=>none
 |op=>match rX E R om F [] o.dst op st with
  |some (.t v)=>k (st.eZ o.dst v)
  |some (.c b v)=>bif b then k (st.eZ o.dst v) else none
  |some (.w v st')=>k (st'.eZ o.dst v)
  |some (.wc b v st')=>bif b then k (st'.eZ o.dst v) else none
  |some (.p _ _ x f)=>x.bind fun a=>k (st.eZ o.dst (f a))
  |none=>none
def FP (b c:Bool):Bool:=bif b then c else true
def QA (o:Oper) (j:Nat) (w c:Bool) (g:List (Nat×Bool)) (st:MS R.T) (k:MS R.T→Option β):Option β:=
 match o.dst with
 |some d=>match (bif aZ d (g.map (·.1)) then none else rX E R om F g o.dst o.op st) with
  |some (.t v)=>k (st.put d (.opt j w v))
  |some (.c b v)=>bif FP c b then k (st.put d (.opt j w v)) else none
  |some (.p _ z x f)=>(iG c x z).bind fun a=>k (st.put d (.opt j w (f a)))
  |_=>bif c then runM E R om F o (st.pR g) k else k ((st.vE g).eZ o.dst .undef)
 |none=>bif c then runM E R om F o (st.pR g) k else k ((st.vE g).eZ o.dst .undef)
def qF {T:Nat→Type} (st:MS T) (o:Oper):Bool:=match o.op with
 |.call c=>match c.callee with
  |.value f=>match bI [] st f with
   |some (.fn g _ _)=>match o.dst with
    |some d=>E.own g d
    |none=>false
   |_=>true
  |_=>false
 |_=>false
def agX:List Sk→Bool
 |.dG::k::l=>iN (k::l)
 |_=>false
def Am (args cB:List (TV R.T)):List (FR R)→Option ((τ:Ty)×Option (List (Den R.T τ)))
 | []=>none
 | ⟨as,[.d (.slice τ)],G,_,true⟩::l=>match gD R as cB with
   |some p=>bif (iN as||agX as)&& Nat.ble (mU as) 18&& vk args then some ⟨τ,G p⟩ else none
   |none=>Am args cB l
 |_::l=>Am args cB l
def QB (o:Oper) (st:MS R.T) (k:MS R.T→Option β):Option β:=match o.op,o.dst with
 |.call c,some d=>match c.callee with
  |.value f=>match bI [] st f,l6 [] st c.args.toList with
   |some (.fn g a b),some vs=>match Am R (a++vs++b) (l7 st (a++vs++b)) (F g) with
    |some ⟨τ,x⟩=>x.bind fun l=>k ((st.wk d).put d (.ak (.own d) τ l))
    |none=>none
   |_,_=>none
  |_=>none
 |_,_=>none
def vF (all:List Oper):List Oper→MS R.T→(MS R.T→Option β)→Option β
 | [],st,k=>k st
 |o::os,st,k=>match Li all st o with
  |.run=>bif qF E st o then QB R F o st (fun st=>vF all os st k) else runM E R om F o st (fun st=>vF all os st k)
  |.skip=>vF all os (st.eZ o.dst .undef) k
  |.dyn j w c g=>bif qF E st o||qF E (st.pR g) o then none else QA E R om F o j w c g st (fun st=>vF all os st k)
  |.no=>none
def WK {T:Nat→Type}:TV T→List Key
 |.ref o _=>[.obj (1,o)]
 |.cK o=>[.obj (1,o)]
 |.kg o _ _ _=>[.obj (1,o)]
 |.sv o _ _ _ _ _=>[.obj (1,o)]
 |.sel o _ _ _ _ _=>[.obj (1,o)]
 |_=>[]
def uj {T:Nat→Type} (st:MS T) (x:Operand):List Key:=match bI [] st x with
 |some v=>WK v
 |none=>[]
def Ao (o:Oper):List Key:=match o.dst with
 |some t=>[.obj (1,t)]
 |none=>[]
def Ll {T:Nat→Type}:List (TV T)→Bool
 | []=>false
 |.sv _ _ _ _ _ _::_=>true
 |_::l=>Ll l
def QC (om:Bool) {T:Nat→Type} (st:MS T) (o:Oper):eT:=
 match o.op with
 |.move _|.assign _|.pick .. |.build .. |.buildSlice .. |.nilCheck _|.binOp .. |.unOp .. |.makeInterface .. |.makeFunc .. |.fieldAddr .. |.field .. |.indexAddr .. |.index .. |.extract ..
 |.sliceToArrayPointer .. =>rH []
 |.convert _ _ x|.slice _ x _ _ _|.load _ x|.lookup _ x _ _=>rH (uj st x)
 |.alloc _|.box .. |.makeMap .. =>rJ (Ao o)
 |.makeSlice .. =>rJ (.top::Ao o)
 |.store _ a _=>rJ (uj st a)
 |.mapUpdate _ m _ _|.insert _ m _ _=>rJ (uj st m)
 |.call c=>match c.callee with
  |.builtin b=>match b with
   |.len|.cap|.min|.max=>rH (c.args.toList.flatMap fun x=>uj st x)
   |.append=>bif om then gP else ⟨false,false,c.args.toList.flatMap fun x=>uj st x,[.top]⟩
   |_=>gP
  |.value f=>match bI [] st f with
   |some (.fn g a b)=>if E.imp g then gP else (match l6 [] st c.args.toList with
    |some vs=>if vk (a++vs++b) then rH [] else ⟨true,false,[],[]⟩
    |none=>gP)
   |_=>gP
  |_=>gP
 |_=>gP
def vG (om:Bool) {T:Nat→Type} (all:List Oper) (st:MS T) (o:Oper) (wanted:Bool):eT:=
 if wanted then let f:=QC E om st o;⟨f.zh,f.rG,uP all o++f.t,nD o++f.w⟩
 else ⟨false,false,uP all o,nD o⟩
def Ap {T:Nat→Type}:TV T→Bool
 |.gone=>false
 |.opt _ _ _=>false
 |.vw _ _=>false
 |_=>true
def vH {T:Nat→Type} (st:MS T) (o:Oper):Bool:= !(qF E st o)&&
 match o.op with
 |.call c=>match c.callee with
  |.value f=>match bI [] st f,l6 [] st c.args.toList with
   |some (.fn _ a b),some vs=>vk (a++vs++b)||Ll (a++vs++b)
   |_,_=>false
  |.builtin _=>match l6 [] st c.args.toList with
   |some vs=>vs.all Ap
   |none=>false
  |_=>true
 |_=>true
def qG (ms:List Nat) (all:List Oper):List Oper→MS R.T→List eT→(MS R.T→Option β)→Option β
 | [],st,fs,k=>bif zi ms fs then k st else none
 |o::os,st,fs,k=>match Li all st o with
  |.run=>bif !(vH E st o) then none else runM E R om F o st (fun st'=>qG ms all os st' (fs++[vG E om all st o true]) k)
  |.skip=>qG ms all os (st.eZ o.dst .undef) (fs++[vG E om all st o false]) k
  |.dyn _ _ c g=>bif c then bif !(vH E (st.pR g) o) then none else runM E R om F o (st.pR g) (fun st'=>qG ms all os st' (fs++[vG E om all (st.pR g) o true]) k)
   else qG ms all os ((st.vE g).eZ o.dst .undef) (fs++[vG E om all st o false]) k
  |.no=>none
end
def dw {R:iM} (key:Nat) (W:List Nat) (b:MS R.T) (sh:Shape) (outs:List (Ex×Shape)) (body:{β:Type}→MS R.T→(Ex→MS R.T→Option β)→Option β):Nat→nO R.T sh→Option (Out R.T outs)
 |0,_=>none
 |m+1,p=>body (b.over (unpack R sh p)) fun e st=>match e with
  |.normal=>match jW R W st sh with
   |some p=>dw key W b sh outs body m p
   |none=>none
  |e=>pO R W e st outs
def MS.obs {T:Nat→Type} (st:MS T):MS T:=⟨[],st.ob⟩
def FQ {R:iM} {β:Type} (body:MS R.T→(Ex→MS R.T→Option β)→Option β):Nat→MS R.T→(Ex→MS R.T→Option β)→Option β
 |0,_,_=>none
 |m+1,st,k=>body st fun e st'=>match e with
  |.normal=>FQ body m st' k
  |e=>k e st'
def FT {R:iM} {X:Type} (key:Nat) (W:List Nat) (b:MS R.T) (sh:Shape) (outs:List (Ex×Shape)) (body:{β:Type}→X→MS R.T→(Ex→MS R.T→Option β)→Option β):List X→nO R.T sh→Option (Out R.T outs)
 | [],p=>pO R W .normal (unpack R sh p).obs outs
 |x::xs,p=>body x (b.over (unpack R sh p)) fun e st=>match e with
  |.normal=>match jW R W st.obs sh with
   |some p=>FT key W b sh outs body xs p
   |none=>none
  |e=>pO R W e st.obs outs
def FU {R:iM} (a b:List (TV R.T)):List (FI R)→Option ((el:List Sk)×Option (List (aj R.T el)))
 | []=>none
 |i::l=>match gD R i.a a,gD R i.b b with
  |some pa,some pb=>bif iN i.a&& iN i.b&& iN i.el&& Nat.ble (mU i.a) 18&& Nat.ble (mU i.b) 18 then some ⟨i.el,i.F pa pb⟩ else none
  |_,_=>FU a b l
def xI (O:List Nat):List (Nat×nN)→Bool
 | []=>true
 | (o,_)::l=> !(aZ o O)&& xI O l
def Ar {T:Nat→Type} (st:MS T):List Nat→List (TV T)→Option (MS T)
 | [],[]=>some st
 |i::l,v::vs=>Ar (st.put i v) l vs
 |_,_=>none
def mW:List Oper→List Nat
 | []=>[]
 |o::l=>match o.dst with
  |some d=>d::mW l
  |none=>mW l
def aI:Code→List Nat
 |.region _ ops _=>mW ops.toList
 |.seq a b=>aI a++aI b
 |.cond _ a b=>aI a++aI b
 |.block _ c=>aI c
 |.loop c=>aI c
 |.rangeFunc _ ps a b=>ps.toList++aI a++aI b
 |_=>[]
def lK:Code→Nat
 |.region i _ _=>i
 |.seq a _=>lK a
 |.loop a=>lK a
 |.block _ a=>lK a
 |.rangeFunc _ _ _ b=>lK b
 |_=>0
variable (n:Nat) (om:Bool) (F:Nat→List (FR R)) (I:Nat→List (FI R)) (A:bH)
def bD:Code→{β:Type}→MS R.T→(Ex→MS R.T→Option β)→Option β
 |.skip,_,st,k=>k .normal st
 |.region _ ops dr,_,st,k=>bif dr then (bif nE ops.toList then qG E R om F (ou ops.toList) ops.toList ops.toList st [] (fun st=>k .normal st) else none) else vF E R om F ops.toList ops.toList st (fun st=>k .normal st)
 |.seq a b,_,st,k=>
  match look A.joins (lK b) with
  |none=>bD a st fun e st=>match e with
   |.normal=>bD b st k
   |e=>k e st
  |some q=>(bD (β:=Out R.T q.outs) a ((base (aI a) q.K q.O .ro st).over st) fun e st=>pO R (aI a) e st q.outs).bind (rW R (base (aI a) q.K q.O (fun b=>b) st) (fun e st=>match e with
   |.normal=>bD b st k
   |e=>k e st) q.outs)
 |.cond c a b,_,st,k=>match bI [] st c with
  |some (.gU t)=>bif t then bD a st k else bD b st k
  |some (.bool t)=>bif t then bD a (st.zP c true) k else bD b (st.zP c false) k
  |_=>none
 |.block id c,_,st,k=>bD c st fun e st=>match e with
  |.exit i=>bif Nat.beq i id then k .normal st else k (.exit i) st
  |e=>k e st
 |.loop c,_,st,k=>match look A.loops (lK c) with
  |some q=>match jW R (aI c) st q.sh with
   |some p=>(dw (lK c) (aI c) (base (aI c) q.K q.O .ro st) q.sh q.outs (fun st k=>bD c st k) n p).bind (rW R (base (aI c) q.K q.O (fun b=>b) st) k q.outs)
   |none=>none
  |none=>FQ (fun st k=>bD c st k) 130 st k
 |.rangeFunc f ps a c,_,st,k=>match look A.loops (lK c) with
  |some q=>match bI [] st f with
   |some (.fn g u v)=>bif nQ u&& nQ v&& xI q.O q.sh.ob&& dD a&& dD c then (match FU u v (I g) with
    |some ⟨el,xs⟩=>match jW R (ps.toList++aI a++aI c) st.obs q.sh with
     |some p=>(xs.bind fun xs=>FT (lK c) (ps.toList++aI a++aI c) (base (ps.toList++aI a++aI c) q.K q.O .ro st) q.sh q.outs (fun x st k=>match Ar st ps.toList (jV R .sh el x) with
       |some st=>bD a st fun e st=>match e with
        |.normal=>bD c st k
        |_=>none
       |none=>none) xs p).bind (rW R (base (ps.toList++aI a++aI c) q.K q.O (fun b=>b) st) k q.outs)
     |none=>none
    |none=>none) else none
   |_=>none
  |none=>none
 |.exit i,_,st,k=>k (.exit i) st
 |.ret,_,st,k=>k .ret st
 |_,_,_,_=>none
def rY (st:MS R.T):List ResultVar→Option (List (TV R.T))
 | []=>some []
 |.tmp t::l=>match bI [] st (.tmp t) with
  |some v=>match rY st l with
   |some vs=>some (v::vs)
   |none=>none
  |none=>none
 |.cell a t::l=>match bI [] st (.tmp a) with
  |some (.ref o off)=>match kX st o with
   |some (.cells cs)=>match jK E t cs off with
    |some v=>match rY st l with
     |some vs=>some (v::vs)
     |none=>none
    |none=>none
   |some (.sg ss)=>match Lf E R t ss off with
    |some v=>match rY st l with
     |some vs=>some (v::vs)
     |none=>none
    |none=>none
   |_=>none
  |_=>none
def xJ {T:Nat→Type}:Nat→List (TV T)→List (Nat×TV T)
 |_,[]=>[]
 |i,v::l=>(i,v)::xJ (i+1) l
def bO (fn:Func) (args res:List Sk) (p:aj R.T args):Option (aj R.T res):=
 match fn.body with
 |some c=>bD E R n om F I A c ⟨xJ 0 (jV R .sh args p),[]⟩ fun e st=>match e with
  |.exit _=>none
  |_=>match rY E R st fn.results.toList with
   |some vs=>bif iN res&& Nat.ble (mU res) 16 then gD R res (l7 st vs) else none
   |none=>none
 |none=>none
def QD {T:Nat→Type}:TV T→Bool
 |.ak (.own _) _ _=>true
 |.ak .full _ _=>true
 |.dG=>true
 |_=>false
def FV (fn:Func) (args:List Sk) (τ:Ty) (p:aj R.T args):Option (List (Den R.T τ)):=
 match fn.body with
 |some c=>bD E R n om F I A c ⟨xJ 0 (jV R .sh args p),[]⟩ fun e st=>match e with
  |.exit _=>none
  |_=>match rY E R st fn.results.toList with
   |some [v]=>bif QD v then xw R τ v else none
   |_=>none
 |none=>none
end
end Aq
end
