import Derived.Test.YtdcnajadcbedkaaGreatDoorF905
set_option linter.all false
section
namespace aR
open Go
inductive Ty where
 |int (k:IntKind)
 |bool
 |str
 |slice (t:Ty)
 |st (n:Nat)
 deriving DecidableEq
inductive Cp where
 |any
 |sh
 |nil
 |full
 |own (t:Nat)
structure Vec (n:Nat) where
 l:List Int
 h:l.length=n
def Vec.at' {n:Nat}(v:Vec n)(i:Int):Int:=v.l.getD i.toNat 0
def Vec.nth {n:Nat}(v:Vec n)(j:Nat):Int:=v.l.getD j 0
def Vec.set {n:Nat}(v:Vec n)(i y:Int):Vec n:=⟨v.l.set i.toNat y,by rw[List.length_set,v.h]⟩
def Vec.rep (n:Nat)(y:Int):Vec n:=⟨List.replicate n y,List.length_replicate⟩
def Vec.lit (n:Nat)(l:List Int):Vec n:=if h:l.length=n then ⟨l,h⟩ else Vec.rep n 0
def Vec.slc {n:Nat}(v:Vec n)(i:Int)(m:Nat):Vec m:=Vec.lit m ((v.l.drop i.toNat).take m)
def Vec.wY {n:Nat}(v:Vec n)(lo:Int)(l:List Int):Vec n:=Vec.lit n (v.l.take lo.toNat++l++v.l.drop (lo.toNat+l.length))
inductive lV where
 |i (k:IntKind)
 |a (k:IntKind) (n:Nat)
inductive bX where
 |i (k:IntKind) (x:Int)
 |a (k:IntKind) (n:Nat) (v:Vec n)
def bX.w:bX->Nat
 |.i _ _=>1|.a _ n _=>n
def bX.vs:bX->List V
 |.i k x=>[.int k x]|.a k _ v=>v.l.map (V.int k)
def dW:List bX->List V
 | []=>[]|s::l=>s.vs++dW l
def lD:List bX->Nat
 | []=>0|s::l=>s.w+lD l
def Ir:lV->Type
 |.i _=>Int|.a _ n=>Vec n
def Fe:List lV->Type
 | []=>Unit| [k]=>Ir k|k::h::l=>Ir k×Fe (h::l)
def MW:(k:lV)->Ir k->bX
 |.i k,x=>.i k x|.a k n,x=>.a k n x
def yE:(l:List lV)->Fe l->List bX
 | [],_=>[]| [k],x=>[MW k x]|k::h::l,p=>MW k p.1::yE (h::l) p.2
def R8 {n m:Nat}(v:Vec n):Option (Vec m):=if h:n=m then some (h▸v) else none
def Iu:(k:lV)->bX->Option (Ir k)
 |.i k,.i k' x=>if k'=k then some x else none|.a k n,.a k' _ v=>if k'=k then R8 (m:=n) v else none|_,_=>none
def bO:(l:List lV)->List bX->Option (Fe l)
 | []=>fun vs=>match vs with
   | []=>some ()|_::_=>none
 | [k]=>fun vs=>match vs with
   | [v]=>Iu k v|_=>none
 |k::h::l=>fun vs=>match vs with
  | []=>none|v::vs=>match Iu k v with
   |some x=>match bO (h::l) vs with
    |some p=>some (x,p)|none=>none
   |none=>none
section
variable (T:Nat->Type)
def Den:Ty->Type
 |.int _=>Int|.bool=>Bool|.str=>List UInt8|.slice t=>List (Den t)|.st n=>T n
def qw:List Ty->Type
 | []=>Unit| [t]=>Den T t|t::u::l=>Den T t×qw (u::l)
inductive aA where
 |int (k:IntKind) (n:Int)
 |bool (b:Bool)
 |jK (b:Bool)
 |str (s:List UInt8)
 |gY
 |gL
 |iq
 |iN
 |fU
 |agg (cs:List aA)
 |bW (cs:List aA)
 |ak (c:Cp) (t:Ty) (l:List (Den T t))
 |ref (o off:Nat)
 |aY (cs:List aA) (off:Nat)
 |fu (o:Nat)
 |fH (k e:Ty) (m:List (Den T k×Den T e))
 |fn (f:Nat) (a b:List aA)
 |opt (j:Nat) (w:Bool) (v:aA)
 |aS (o:Nat) (t:Ty)
 |sub (o:Nat) (t:Ty) (a b:Int)
 |mU (o:Nat) (t:Ty) (i:Int) (off:Nat)
 |sg (ss:List bX)
 |sv (o off:Nat) (k:IntKind) (n:Nat) (lo hi:Option Int)
 |sel (o off:Nat) (k:IntKind) (n:Nat) (i:Int) (m:Nat)
 |vE (k:IntKind) (n:Nat) (v:Vec n) (i:Int)
 |undef
 |gone
inductive bP where
 |cells (cs:List (aA T))
 |map (k e:Ty) (m:List (Den T k×Den T e))
 |smap (ks vs:List (aA T))
 |arr (t:Ty) (l:List (Den T t))
 |sg (ss:List bX)
 |gone
 |ro (b:bP)
structure aO where
 fr:List (Nat×aA T)
 ob:List (Nat×bP T)
inductive bQ where
 |d (t:Ty)
 |l (c:Cp) (t:Ty)
 |agg (l:List bQ)
 |ref (o off:Nat)
 |aY (l:List bQ) (off:Nat)
 |fu (o:Nat)
 |fH (k e:Ty)
 |fn (f:Nat) (a b:List bQ)
 |fU
 |aS (o:Nat) (t:Ty)
 |sub (o:Nat) (t:Ty)
 |sg (l:List lV)
 |undef
mutual
def sM:bQ->Type
 |.d t=>Den T t|.l _ t=>List (Den T t)|.agg l=>aT l|.ref _ _=>Unit|.aY l _=>aT l|.fu _=>Unit|.fH k e=>List (Den T k×Den T e)|.fn _ a b=>aT a×aT b|.fU=>Unit|.aS _ _=>Unit|.sub _ _=>Int×Int|.sg l=>Fe l|.undef=>Unit
def aT:List bQ->Type
 | []=>Unit| [k]=>sM k|k::h::l=>sM k×aT (h::l)
end
inductive iD where
 |cells (l:List bQ)
 |st (n:Nat)
 |map (k e:Ty)
 |arr (t:Ty)
 |sg (l:List lV)
def Fg:iD->Type
 |.cells l=>aT T l|.st n=>T n|.map k e=>List (Den T k×Den T e)|.arr t=>List (Den T t)|.sg l=>Fe l
def lW:List (Nat×iD)->Type
 | []=>Unit| [(_,k)]=>Fg T k| (_,k)::h::l=>Fg T k×lW (h::l)
def Fh:List (Nat×bQ)->Type
 | []=>Unit| [(_,k)]=>sM T k| (_,k)::h::l=>sM T k×Fh (h::l)
structure Shape where
 sl:List (Nat×bQ)
 ob:List (Nat×iD)
def wZ:Shape->Type
 | ⟨s,[]⟩=>Fh T s| ⟨s,o::os⟩=>Fh T s×lW T (o::os)
def Out:List (Ex×Shape)->Type
 | []=>Empty| [(_,s)]=>wZ T s| (_,s)::h::l=>wZ T s⊕Out (h::l)
end
structure jY where
 T:Nat->Type
 d:(n:Nat)->T n
 lf:Nat->List Ty
 to:(n:Nat)->qw T (lf n)->T n
 of:(n:Nat)->T n->qw T (lf n)
 enc:(n:Nat)->T n->V
 ty:TypeId->Option Ty
 gl:Nat->Option ((k:IntKind)×(n:Nat)×Vec n)
structure ig (R:jY) where
 args:List bQ
 res:List bQ
 F:aT R.T args->Option (aT R.T res)
 d:aT R.T res
 own:Bool:=false
structure auo (R:jY) where
 a:List bQ
 b:List bQ
 el:List bQ
 F:aT R.T a->aT R.T b->Option (List (aT R.T el))
def F0:Nat:=1000000
structure qO (R:jY) where
 args:List bQ
 obs:List (Nat×iD)
 res:List bQ
 F:aT R.T args->lW R.T obs->Option (aT R.T res×lW R.T obs)
structure IR (R:jY) where
 it:Nat->List (auo R)
 im:Nat->List (qO R)
structure Note where
 K:List Nat
 O:List Nat
 sh:Shape
 outs:List (Ex×Shape)
structure bq where
 loops:List (Nat×Note)
 joins:List (Nat×Note)
def look {U:Type}:List (Nat×U)->Nat->Option U
 | [],_=>none| (j,x)::l,i=>bif Nat.beq j i then some x else look l i
section
variable (R:jY)
def aV:(t:Ty)->Den R.T t->V
 |.int k=>fun n=>.int k n
 |.bool=>fun b=>.bool b
 |.str=>fun s=>.str s
 |.slice t=>fun l=>.ak .sh (l.map (aV t))
 |.st n=>fun x=>R.enc n x
def encs:(l:List Ty)->qw R.T l->List V
 | [],_=>[]| [t],x=>[aV R t x]|t::u::l,p=>aV R t p.1::encs (u::l) p.2
def dN:Ty->Nat
 |.st n=>(R.lf n).length|_=>1
def Iw:(t:Ty)->Den R.T t
 |.int _=>(0:Int)|.bool=>false|.str=>([]:List UInt8)|.slice t=>([]:List (Den R.T t))|.st n=>R.d n
def AZ (c:Cp):(t:Ty)->Den R.T t->aA R.T
 |.int k=>fun n=>.int k n
 |.bool=>fun b=>.bool b
 |.str=>fun s=>.str s
 |.slice t=>fun l=>.ak c t l
 |.st _=>fun _=>.undef
def mV (c:Cp):(l:List Ty)->qw R.T l->List (aA R.T)
 | [],_=>[]| [t],x=>[AZ R c t x]|t::u::l,p=>AZ R c t p.1::mV c (u::l) p.2
def jg (c:Cp):(t:Ty)->Den R.T t->aA R.T
 |.st n=>fun x=>.agg (mV R c (R.lf n) (R.of n x))
 |.int k=>fun n=>.int k n
 |.bool=>fun b=>.bool b
 |.str=>fun s=>.str s
 |.slice t=>fun l=>.ak c t l
def ug {t u:Ty}(l:List (Den R.T t)):Option (List (Den R.T u)):=if h:t=u then some (h▸l) else none
def R9 (k:IntKind):aA R.T->Option Int
 |.int k' n=>if k=k' then some n else none|_=>none
def Sb:aA R.T->Option Bool
 |.bool b=>some b|.jK b=>some b|_=>none
def Sc:aA R.T->Option (List UInt8)
 |.str s=>some s|_=>none
def Fj (t:Ty):aA R.T->Option (List (Den R.T t))
 |.ak _ _ l=>ug R l|.fU=>some []|_=>none
def uh:(t:Ty)->aA R.T->Option (Den R.T t)
 |.int k=>fun v=>R9 R k v
 |.bool=>fun v=>Sb R v
 |.str=>fun v=>Sc R v
 |.slice t=>fun v=>Fj R t v
 |.st _=>fun _=>none
def hd1:List (aA R.T)->aA R.T
 | [v]=>v|_=>.gone
def CK:(l:List Ty)->List (aA R.T)->Option (qw R.T l)
 | []=>fun vs=>match vs with
   | []=>some ()|_::_=>none
 | [t]=>fun vs=>uh R t (hd1 R vs)
 |t::u::l=>fun vs=>match vs with
  | []=>none|v::vs=>match uh R t v with
   |some x=>match CK (u::l) vs with
    |some p=>some (x,p)|none=>none
   |none=>none
def Fp (n:Nat):aA R.T->Option (R.T n)
 |.agg cs=>match CK R (R.lf n) cs with
  |some p=>some (R.to n p)|none=>none
 |_=>none
def A8:(t:Ty)->aA R.T->Option (Den R.T t)
 |.st n=>fun v=>Fp R n v
 |.int k=>fun v=>R9 R k v
 |.bool=>fun v=>Sb R v
 |.str=>fun v=>Sc R v
 |.slice t=>fun v=>Fj R t v
def aA.cells {T:Nat->Type}:aA T->List (aA T)
 |.agg cs=>cs|v=>[v]
mutual
def oz {T:Nat->Type}(o:Nat):aA T->Bool
 |.ref p _=>Nat.beq p o|.fu p=>Nat.beq p o|.agg cs=>qx o cs|.bW cs=>qx o cs|.aY cs _=>qx o cs|.fn _ a b=>qx o a||qx o b|.opt _ _ v=>oz o v|.aS p _=>Nat.beq p o|.sub p _ _ _=>Nat.beq p o|.mU p _ _ _=>Nat.beq p o|.sv p _ _ _ _ _=>Nat.beq p o|.sel p _ _ _ _ _=>Nat.beq p o|_=>false
def qx {T:Nat->Type}(o:Nat):List (aA T)->Bool
 | []=>false|v::l=>oz o v||qx o l
end
def bP.oz {T:Nat->Type}(o:Nat):bP T->Bool
 |.cells cs=>qx o cs|.smap ks vs=>qx o ks||qx o vs|.ro b=>bP.oz o b|_=>false
mutual
def wk {T:Nat->Type}(t:Nat):aA T->aA T
 |.ak (.own u) ty l=>bif Nat.beq u t then .ak .any ty l else .ak (.own u) ty l|.agg cs=>.agg (zH t cs)|.bW cs=>.bW (zH t cs)|.aY cs off=>.aY (zH t cs) off|.fn f a b=>.fn f (zH t a) (zH t b)|.opt j w v=>.opt j w (wk t v)|v=>v
def zH {T:Nat->Type}(t:Nat):List (aA T)->List (aA T)
 | []=>[]|v::l=>wk t v::zH t l
end
def bP.wk {T:Nat->Type}(t:Nat):bP T->bP T
 |.cells cs=>.cells (zH t cs)|.smap ks vs=>.smap (zH t ks) (zH t vs)|.ro b=>.ro (bP.wk t b)|o=>o
def o9 {U:Type}(f:U->U):List (Nat×U)->List (Nat×U)
 | []=>[]| (i,x)::l=>(i,f x)::o9 f l
def ku {U:Type}(i:Nat):List (Nat×U)->List (Nat×U)
 | []=>[]| (j,x)::l=>bif Nat.beq j i then ku i l else (j,x)::ku i l
def aO.wk {T:Nat->Type}(t:Nat)(st:aO T):aO T:=⟨o9 (aR.wk t) st.fr,o9 (bP.wk t) st.ob⟩
def XL {T:Nat->Type}(j:Nat):aA T->aA T
 |.opt i w v=>bif Nat.beq i j then .gone else .opt i w v|v=>v
def aO.put {T:Nat->Type}(st:aO T)(i:Nat)(v:aA T):aO T:={st with fr:=(i,v)::o9 (XL i) (ku i st.fr)}
def aO.iF {T:Nat->Type}(st:aO T)(d:Option Nat)(v:aA T):aO T:=match d with
 |some i=>st.put i v|none=>st
def XM {T:Nat->Type}(j:Nat)(b:Bool):aA T->aA T
 |.opt i w v=>bif Nat.beq i j then (bif (b==w) then v else .undef) else .opt i w v|v=>v
def aO.learn {T:Nat->Type}(st:aO T)(j:Nat)(b:Bool):aO T:={st with fr:=(j,.jK b)::o9 (XM j b) (ku j st.fr)}
def aO.Iy {T:Nat->Type}(st:aO T)(c:Operand)(b:Bool):aO T:=match c with
 |.tmp j=>st.learn j b|_=>st
def Fq {T:Nat->Type}(o:Nat)(v:aA T):aA T:=bif oz o v then .gone else v
def Fu {T:Nat->Type}(o:Nat):List (aA T)->List (aA T)
 | []=>[]|v::l=>Fq o v::Fu o l
def bP.kill {T:Nat->Type}(o:Nat):bP T->bP T
 |.cells cs=>.cells (Fu o cs)|v=>bif bP.oz o v then .gone else v
def aO.new {T:Nat->Type}(st:aO T)(o:Nat)(b:bP T):aO T:=⟨o9 (Fq o) st.fr,(o,b)::o9 (bP.kill o) (ku o st.ob)⟩
def aO.set {T:Nat->Type}(st:aO T)(o:Nat)(b:bP T):aO T:={st with ob:=(o,b)::ku o st.ob}
def aO.del {T:Nat->Type}(st:aO T)(o:Nat):aO T:={st with ob:=ku o st.ob}
def XO {T:Nat->Type}:bP T->bP T
 |.ro b=>XO b|b=>b
def qy {T:Nat->Type}(st:aO T)(o:Nat):Option (bP T):=match look st.ob o with
 |some b=>some (XO b)|none=>none
def vF {T:Nat->Type}:bP T->Bool
 |.ro _=>true|.gone=>true|_=>false
def bR (i:Nat):List Nat->Bool
 | []=>false|j::l=>Nat.beq i j||bR i l
mutual
def solid {T:Nat->Type}(W:List Nat):aA T->Bool
 |.ak (.own _) _ _=>false|.ref o _=>!(bR o W)|.fu o=>!(bR o W)|.agg cs=>vG W cs|.bW cs=>vG W cs|.aY cs _=>vG W cs|.fn _ a b=>vG W a&& vG W b|.opt _ _ _=>false|.aS o _=>!(bR o W)|.sub o _ _ _=>!(bR o W)|.mU o _ _ _=>!(bR o W)|.sv o _ _ _ _ _=>!(bR o W)|.sel o _ _ _ _ _=>!(bR o W)|.gone=>false|_=>true
def vG {T:Nat->Type}(W:List Nat):List (aA T)->Bool
 | []=>true|v::l=>solid W v&& vG W l
end
def sN {T:Nat->Type}(W:List Nat):bP T->Bool
 |.cells cs=>vG W cs|.map _ _ _=>true|.smap ks vs=>vG W ks&& vG W vs|.arr _ _=>true|.sg _=>true|.ro b=>sN W b|.gone=>false
def sO {U:Type}(p:Nat->U->Bool)(f:U->U)(l:List (Nat×U)):List Nat->List (Nat×U)
 | []=>[]|i::is=>match look l i with
  |some x=>bif p i x then (i,f x)::sO p f l is else sO p f l is|none=>sO p f l is
def XP {T:Nat->Type}:aA T->aA T
 |.ak (.own _) t l=>.ak .any t l|v=>v
def base {T:Nat->Type}(W K O:List Nat)(mark:bP T->bP T)(st:aO T):aO T:=
 ⟨sO (fun i v=>!(bR i W)&& solid W (XP v)) XP st.fr K,sO (fun o b=>!(bR o W)&& sN W b) mark st.ob O⟩
def aO.over {T:Nat->Type}(st b:aO T):aO T:=⟨st.fr++b.fr,st.ob++b.ob⟩
def Fv {T:Nat->Type}:Value->Option (aA T)
 |.bool b=>some (.jK b)|.int k n=>some (.int k n)|.string s=>some (.str s.data.toList)|.pointer none=>some .gY|.slice none 0 0=>some .fU|.map none=>some .iq|.nilFunc=>some .gL|.nilIface=>some .iN|_=>none
def Iz {T:Nat->Type}:List Value->Option (List (aA T))
 | []=>some []|v::l=>match Fv v with
  |some x=>match Iz l with
   |some y=>some (x::y)|none=>none
  |none=>none
def IB {T:Nat->Type}:Value->Option (aA T)
 |.agg cs=>match Iz cs.toList with
  |some l=>some (.agg l)|none=>none
 |v=>Fv v
def Sd {T:Nat->Type}(g:List (Nat×Bool)):aA T->Option (aA T)
 |.opt j w v=>match look g j with
  |some u=>some (bif u==w then v else .undef)|none=>none
 |v=>some v
def dG {T:Nat->Type}(g:List (Nat×Bool))(st:aO T):Operand->Option (aA T)
 |.tmp t=>match look st.fr t with
  |some v=>Sd g v|none=>none
 |.const v=>IB v|.func f=>some (.fn f [] [])|.global _=>none
def qP {T:Nat->Type}(g:List (Nat×Bool))(st:aO T):List Operand->Option (List (aA T))
 | []=>some []|x::l=>match dG g st x with
  |some v=>match qP g st l with
   |some vs=>some (v::vs)|none=>none
  |none=>none
def IC {T:Nat->Type}(g:List (Nat×Bool))(st:aO T):List (Nat×Operand)->Option (List (Nat×aA T))
 | []=>some []| (i,x)::l=>match dG g st x with
   |some v=>match IC g st l with
    |some vs=>some ((i,v)::vs)|none=>none
   |none=>none
def sP:List bX->Nat->Option (List bX×List bX)
 |ss,0=>some ([],ss)| [],_+1=>none|s::ss,n+1=>bif Nat.ble s.w (n+1) then (match sP ss (n+1-s.w) with
  |some (a,b)=>some (s::a,b)|none=>none) else none
def CO {T:Nat->Type}(k:IntKind):List (aA T)->Option (List Int)
 | []=>some []|.int k' x::l=>if k'=k then (match CO k l with
  |some xs=>some (x::xs)|none=>none) else none
 |_=>none
def IE {U:Type}(l:List U):Option Int->Option Int->List U
 |none,none=>l|some i,none=>l.drop i.toNat|none,some j=>l.take j.toNat|some i,some j=>(l.take j.toNat).drop i.toNat
def Sg {T:Nat->Type}(st:aO T)(o off:Nat)(k:IntKind)(n:Nat)(lo hi:Option Int):Option (List Int):=
 match qy st o with
 |some (.sg ss)=>match sP ss off with
  |some (_,.a k' n' v::_)=>if k'=k then (bif Nat.beq n' n then some (IE v.l lo hi) else none) else none|_=>none
 |some (.cells cs)=>bif Nat.ble (off+n) cs.length then (match CO k ((cs.drop off).take n) with
  |some l=>some (IE l lo hi)|none=>none) else none
 |_=>none
def Fw {U:Type}(l:List U)(a b:Int):List U:=(l.take b.toNat).drop a.toNat
def yF {T:Nat->Type}(st:aO T):aA T->aA T
 |.ref o off=>match qy st o with
  |some (.cells cs)=>.aY cs off|_=>.ref o off
 |.fu o=>match qy st o with
  |some (.map k e m)=>.fH k e m|_=>.fu o
 |.aS o t=>match qy st o with
  |some (.arr t' l)=>if t'=t then .ak .sh t' l else .aS o t|_=>.aS o t
 |.sub o t a b=>match qy st o with
  |some (.arr t' l)=>if t'=t then .ak .sh t' (Fw l a b) else .sub o t a b|_=>.sub o t a b
 |.sv o off k n lo hi=>match Sg st o off k n lo hi with
  |some l=>.ak .sh (.int k) l|none=>.sv o off k n lo hi
 |v=>v
def MX {T:Nat->Type}(st:aO T):List (aA T)->List (aA T)
 | []=>[]|v::l=>yF st v::MX st l
def Fx {T:Nat->Type}(st:aO T):aA T->aA T
 |.fn f a b=>.fn f (MX st a) (MX st b)|.agg cs=>.agg (MX st cs)|v=>yF st v
def rP {T:Nat->Type}(st:aO T):List (aA T)->List (aA T)
 | []=>[]|v::l=>Fx st v::rP st l
def XQ {T:Nat->Type}:aA T->Bool
 |.agg _=>false|.sg _=>false|.bW _=>false|.gone=>false|.undef=>false|.opt _ _ _=>false|_=>true
def CP {T:Nat->Type}:List (aA T)->Bool
 | []=>true|v::l=>XQ v&& CP l
def w9 {T:Nat->Type}:aA T->Bool
 |.gone=>false|.sg _=>false|.opt _ _ _=>false|_=>true
mutual
def qc {T:Nat->Type}:aA T->Bool
 |.int _ _=>true|.bool _=>true|.jK _=>true|.str _=>true|.gY=>true|.gL=>true|.iq=>true|.iN=>true|.ak .sh _ _=>true|.agg cs=>zI cs|.bW cs=>zI cs|.fH _ _ _=>true|.aY cs _=>zI cs|.fn _ a b=>zI a&& zI b|.sg _=>true|_=>false
def zI {T:Nat->Type}:List (aA T)->Bool
 | []=>true|v::l=>qc v&& zI l
end
def xg {T:Nat->Type}:aA T->aA T
 |.ak _ t l=>.ak .sh t l|v=>v
def MZ {T:Nat->Type}:List (aA T)->List (aA T)
 | []=>[]|v::l=>xg v::MZ l
def CQ {T:Nat->Type}:aA T->aA T
 |.ak _ t l=>.ak .sh t l|.agg cs=>.agg (MZ cs)|v=>v
def M0 {T:Nat->Type}:aA T->Bool
 |.ak _ _ _=>true|.fU=>true|v=>qc v
def Si {T:Nat->Type}:List (aA T)->Bool
 | []=>true|v::l=>M0 v&& Si l
def aiL {T:Nat->Type}:aA T->Bool
 |.agg cs=>Si cs|v=>M0 v
def CS {T:Nat->Type}:List (aA T)->Bool
 | []=>true|v::l=>aiL v&& CS l
mutual
def xY:bQ->Bool
 |.d _=>true|.l c _=>match c with
  |.any=>true|.sh=>true|_=>false
 |.agg l=>mD l|.aY l _=>mD l|.fH _ _=>true|.fn _ a b=>mD a&& mD b|.sg _=>true|_=>false
def mD:List bQ->Bool
 | []=>true|k::l=>xY k&& mD l
def dep:bQ->Nat
 |.agg l=>vH l+3|.aY l _=>vH l+3|.fn _ a b=>max (vH a) (vH b)+3|_=>3
def vH:List bQ->Nat
 | []=>0|k::l=>max (dep k) (vH l)
end
def XR:Ty->Bool
 |.int _=>true|.bool=>true|.str=>true|_=>false
def IG:List bQ->Bool
 | []=>true|.d t::l=>XR t&& IG l|.sg _::l=>IG l|_=>false
mutual
def encS:(k:bQ)->sM R.T k->V
 |.d t,x=>aV R t x|.l _ t,x=>aV R (.slice t) x|.agg l,x=>.agg (bM l x)|.aY l off,x=>.aY (bM l x) off|.fH k e,x=>.fH (List.map (fun p=>aV R k p.1) x) (List.map (fun p=>aV R e p.2) x)
 |.fn f a b,x=>.fn (.func f) (bM a x.1) (bM b x.2)|.fU,_=>.ak .sh []|.ref _ _,_=>aP|.fu _,_=>aP|.aS _ _,_=>aP|.sub _ _,_=>aP|.sg l,x=>.agg (dW (yE l x))|.undef,_=>aP
def bM:(l:List bQ)->aT R.T l->List V
 | [],_=>[]| [k],x=>[encS k x]|k::h::l,p=>encS k p.1::bM (h::l) p.2
end
def jy:List V->V
 | [v]=>v|vs=>.bW vs
def II:Cp->Cp->Bool
 |_,.any=>true|.sh,.sh=>true|.nil,.nil=>true|.nil,.own _=>true|.full,.own _=>true|.full,.full=>true|.own t,.own u=>Nat.beq t u|_,_=>false
def Sj (c:Cp)(t:Ty):aA R.T->Option (List (Den R.T t))
 |.ak c' _ l=>bif II c' c then ug R l else none|.fU=>bif II .nil c then some [] else none|_=>none
def IJ {k e k' e':Ty}(m:List (Den R.T k'×Den R.T e')):Option (List (Den R.T k×Den R.T e)):=if h:k'=k/\e'=e then some (by rw[<-h.1,<-h.2];exact m) else none
mutual
def pk:(k:bQ)->aA R.T->Option (sM R.T k)
 |.d t=>fun v=>A8 R t v
 |.l c t=>fun v=>Sj R c t v
 |.agg l=>fun v=>match v with
  |.agg cs=>jA l cs|_=>none
 |.ref o off=>fun v=>match v with
  |.ref p off'=>bif Nat.beq p o&& Nat.beq off' off then some () else none|_=>none
 |.aY l off=>fun v=>match v with
  |.aY cs off'=>bif Nat.beq off' off then jA l cs else none|_=>none
 |.fu o=>fun v=>match v with
  |.fu p=>bif Nat.beq p o then some () else none|_=>none
 |.fH k e=>fun v=>match v with
  |.fH _ _ m=>IJ R m|_=>none
 |.fn f a b=>fun v=>match v with
  |.fn f' a' b'=>bif Nat.beq f' f then (match jA a a' with
   |some x=>match jA b b' with
    |some y=>some (x,y)|none=>none
   |none=>none) else none
  |_=>none
 |.fU=>fun v=>match v with
  |.fU=>some ()|_=>none
 |.aS o t=>fun v=>match v with
  |.aS p t'=>bif Nat.beq p o then (if t'=t then some () else none) else none|_=>none
 |.sub o t=>fun v=>match v with
  |.sub p t' a b=>bif Nat.beq p o then (if t'=t then some (a,b) else none) else none|_=>none
 |.sg l=>fun v=>match v with
  |.sg ss=>bO l ss|_=>none
 |.undef=>fun v=>match v with
  |.undef=>some ()|_=>none
def jA:(l:List bQ)->List (aA R.T)->Option (aT R.T l)
 | []=>fun vs=>match vs with
   | []=>some ()|_::_=>none
 | [k]=>fun vs=>match vs with
   | [v]=>pk k v|_=>none
 |k::h::l=>fun vs=>match vs with
  | []=>none|v::vs=>match pk k v with
   |some x=>match jA (h::l) vs with
    |some p=>some (x,p)|none=>none
   |none=>none
end
mutual
def up (c:Cp):(k:bQ)->sM R.T k->aA R.T
 |.d t,x=>jg R c t x|.l c t,x=>.ak c t x|.agg l,x=>.agg (jL c l x)|.ref o off,_=>.ref o off|.aY l off,x=>.aY (jL c l x) off|.fu o,_=>.fu o|.fH k e,x=>.fH k e x|.fn f a b,x=>.fn f (jL c a x.1) (jL c b x.2)|.fU,_=>.fU|.aS o t,_=>.aS o t|.sub o t,x=>.sub o t x.1 x.2|.sg l,x=>.sg (yE l x)|.undef,_=>.undef
def jL (c:Cp):(l:List bQ)->aT R.T l->List (aA R.T)
 | [],_=>[]| [k],x=>[up c k x]|k::h::l,p=>up c k p.1::jL c (h::l) p.2
end
def CU:(k:iD)->bP R.T->Option (Fg R.T k)
 |.cells l=>fun o=>match o with
  |.cells cs=>jA R l cs|_=>none
 |.st n=>fun o=>match o with
  |.cells cs=>Fp R n (.agg cs)|_=>none
 |.map k e=>fun o=>match o with
  |.map _ _ m=>IJ R m|_=>none
 |.arr t=>fun o=>match o with
  |.arr _ l=>ug R l|_=>none
 |.sg l=>fun o=>match o with
  |.sg ss=>bO l ss|_=>none
def pq:(k:iD)->Fg R.T k->bP R.T
 |.cells l,x=>.cells (jL R .any l x)|.st n,x=>.cells (mV R .any (R.lf n) (R.of n x))|.map k e,x=>.map k e x|.arr t,x=>.arr t x|.sg l,x=>.sg (yE l x)
def vI (st:List (Nat×aA R.T)):(l:List (Nat×bQ))->Option (Fh R.T l)
 | []=>some ()| [(i,k)]=>match look st i with
   |some v=>pk R k v|none=>none
 | (i,k)::h::l=>match look st i with
   |some v=>match pk R k v with
    |some x=>match vI st (h::l) with
     |some p=>some (x,p)|none=>none
    |none=>none
   |none=>none
def M4:(l:List (Nat×bQ))->Fh R.T l->List (Nat×aA R.T)
 | [],_=>[]| [(i,k)],x=>[(i,up R .any k x)]| (i,k)::h::l,p=>(i,up R .any k p.1)::M4 (h::l) p.2
def pz (st:List (Nat×bP R.T)):(l:List (Nat×iD))->Option (lW R.T l)
 | []=>some ()| [(i,k)]=>match look st i with
   |some v=>CU R k v|none=>none
 | (i,k)::h::l=>match look st i with
   |some v=>match CU R k v with
    |some x=>match pz st (h::l) with
     |some p=>some (x,p)|none=>none
    |none=>none
   |none=>none
def mE:(l:List (Nat×iD))->lW R.T l->List (Nat×bP R.T)
 | [],_=>[]| [(i,k)],x=>[(i,pq R k x)]| (i,k)::h::l,p=>(i,pq R k p.1)::mE (h::l) p.2
def pack (st:aO R.T):(s:Shape)->Option (wZ R.T s)
 | ⟨s,[]⟩=>vI R st.fr s| ⟨s,o::os⟩=>match vI R st.fr s with
   |some x=>match pz R st.ob (o::os) with
    |some y=>some (x,y)|none=>none
   |none=>none
def IK {T:Nat->Type}:aA T->Bool
 |.fU=>true|.ak .nil _ l=>l.isEmpty|.ak .full _ l=>l.isEmpty|_=>false
def uj {T:Nat->Type}(W:List Nat):List (Nat×bQ)->aO T->aO T
 | [],st=>st| (i,.aS o t)::l,st=>match look st.fr i with
   |some v=>bif IK v&& bR o W then uj W l ⟨(i,.aS o t)::(st.new o (.arr t [])).fr,(st.new o (.arr t [])).ob⟩ else uj W l st|none=>uj W l st
 |_::l,st=>uj W l st
def sQ (W:List Nat)(st:aO R.T)(s:Shape):Option (wZ R.T s):=pack R (uj W s.sl st) s
def unpack:(s:Shape)->wZ R.T s->aO R.T
 | ⟨s,[]⟩,x=>⟨M4 R s x,[]⟩| ⟨s,o::os⟩,x=>⟨M4 R s x.1,mE R (o::os) x.2⟩
def Fy:Ex->Ex->Bool
 |.normal,.normal=>true|.ret,.ret=>true|.exit i,.exit j=>Nat.beq i j|_,_=>false
def Fz (W:List Nat)(e:Ex)(st:aO R.T):(l:List (Ex×Shape))->Option (Out R.T l)
 | []=>none| [(x,s)]=>bif Fy e x then sQ R W st s else none| (x,s)::h::l=>bif Fy e x then (match sQ R W st s with
   |some p=>some (.inl p)|none=>none) else (match Fz W e st (h::l) with
   |some p=>some (.inr p)|none=>none)
def FB {β:Type}(b:aO R.T)(k:Ex->aO R.T->Option β):(l:List (Ex×Shape))->Out R.T l->Option β
 | [],_=>none| [(x,s)],p=>k x (b.over (unpack R s p))| (x,s)::h::l,p=>Sum.elim (fun q=>k x (b.over (unpack R s q))) (fun q=>FB b k (h::l) q) p
end
end aR
end
section
namespace aR
open Go
inductive fE (R:jY) where
 |t (v:aA R.T)
 |c (b:Bool) (v:aA R.T)
 |w (v:aA R.T) (st:aO R.T)
 |wc (b:Bool) (v:aA R.T) (st:aO R.T)
 |p (U:Type) (d:U) (o:Option U) (f:U->aA R.T)
section
variable (E:Env)(R:jY)
def Sk {T:Nat->Type}(agg:Bool)(n:Nat)(cs:List (aA T))(off:Nat):Option (aA T):=bif agg then (bif Nat.ble (off+n) cs.length then some (.agg ((cs.drop off).take n)) else none) else cs[off]?
def om {T:Nat->Type}(t:TypeId)(cs:List (aA T))(off:Nat):Option (aA T):=
 match jX E.P t with
 |some a=>match dO E.P t with
  |some n=>Sk a n cs off|none=>none
 |none=>none
def IL {T:Nat->Type}(cs:List (aA T))(off:Nat)(vs:List (aA T)):List (aA T):=cs.take off++vs++cs.drop (off+vs.length)
def Sl {T:Nat->Type}(place:Nat->Option (Nat×Nat))(cells:List (aA T)):List (Nat×aA T)->Option (List (aA T))
 | []=>some cells| (i,v)::rest=>match place i with
   |none=>none|some (off,size)=>bif Nat.beq v.cells.length size&& Nat.ble (off+size) cells.length&& w9 v then Sl place (IL cells off v.cells) rest else none
def IQ {T:Nat->Type}(t:TypeId):Option (aA T):=match E.P.info? t with
 |some i=>match i.zero with
  |some z=>IB z|none=>none
 |none=>none
def M5 {T:Nat->Type}:aA T->Option Bool
 |.bool a=>some a|.jK a=>some a|_=>none
def Sm {T:Nat->Type}(x y:aA T):Option Bool:=match M5 x,M5 y with
 |some a,some b=>some (a==b)|_,_=>none
def IU {T:Nat->Type}(eq:TypeId->aA T->aA T->Option Bool)(xs ys:List (aA T)):List Field->Option Bool
 | []=>some true|f::fs=>if f.name= "_" then IU eq xs ys fs else match om E f.type xs f.offset with
  |none=>none|some a=>match om E f.type ys f.offset with
   |none=>none|some b=>match eq f.type a b with
    |none=>none|some r=>match IU eq xs ys fs with
     |none=>none|some q=>some (r&& q)
def M6 {T:Nat->Type}(eq:TypeId->aA T->aA T->Option Bool)(e:TypeId)(sz:Nat)(xs ys:List (aA T)):List Nat->Option Bool
 | []=>some true|i::is=>match om E e xs (i*sz) with
  |none=>none|some a=>match om E e ys (i*sz) with
   |none=>none|some b=>match eq e a b with
    |none=>none|some r=>match M6 eq e sz xs ys is with
     |none=>none|some q=>some (r&& q)
def IV {T:Nat->Type}:Nat->TypeId->aA T->aA T->Option Bool
 |0,_,_,_=>none|d+1,t,x,y=>
  match E.P.underlying t,x,y with
  |some (.struct fs),.agg xs,.agg ys=>if E.P.stoodInHeld t then none else IU E (IV d) xs ys fs.toList|some (.array n e),.agg xs,.agg ys=>match dO E.P e with
   |some sz=>M6 E (IV d) e sz xs ys (List.range n)|none=>none
  |some (.struct _),_,_=>none|some (.array _ _),_,_=>none|some .bool,x,y=>Sm x y|some (.int _),.int k a,.int k' b=>if k=k' then some (a==b) else none|some .string,.str a,.str b=>some (a==b)|_,_,_=>none
def Sn {T:Nat->Type}(t:TypeId)(x y:aA T):Option Bool:=
 match E.P.underlying t,x,y with
 |some (.struct _),.agg a,.agg b=>if E.P.eqGuardType E.P.depth t then none else IV E 8 t (.agg a) (.agg b)|some (.array _ _),.agg a,.agg b=>if E.P.eqGuardType E.P.depth t then none else IV E 8 t (.agg a) (.agg b)|some (.func ..),.gL,.gL=>some true|some (.func ..),.gL,.fn _ _ _=>some false|some (.func ..),.fn _ _ _,.gL=>some false|some .bool,x,y=>Sm x y|_,_,_=>none
def Sq (op:BinOp)(k:IntKind)(x y:Int):Option (fE R):=
 match op with
 |.add=>some (.t (.int k (k.wrap (x+y))))|.sub=>some (.t (.int k (k.wrap (x-y))))|.mul=>some (.t (.int k (k.wrap (x*y))))|.quo=>some (.c (!(y==0)) (.int k (k.wrap (x.tdiv y))))|.rem=>some (.c (!(y==0)) (.int k (x.tmod y)))|.and=>some (.t (.int k (k.wrap (BitVec.ofInt k.bits x&&& BitVec.ofInt k.bits y).toNat)))|.or=>some (.t (.int k (k.wrap (BitVec.ofInt k.bits x|||BitVec.ofInt k.bits y).toNat)))|.xor=>some (.t (.int k (k.wrap (BitVec.ofInt k.bits x^^^BitVec.ofInt k.bits y).toNat)))
 |.andNot=>some (.t (.int k (k.wrap (BitVec.ofInt k.bits x&&& ~~~BitVec.ofInt k.bits y).toNat)))|.eql=>some (.t (.bool (x==y)))|.neq=>some (.t (.bool (x !=y)))|.lss=>some (.t (.bool (decide (x<y))))|.leq=>some (.t (.bool (decide (x<=y))))|.gtr=>some (.t (.bool (decide (x>y))))|.geq=>some (.t (.bool (decide (x>=y))))|_=>none
def XT (op:BinOp)(k:IntKind)(x y:Int):Option (fE R):=
 match op with
 |.shl=>some (.c (decide (0<=y)) (.int k (k.wrap (x*2^min y.toNat k.bits))))|.shr=>some (.c (decide (0<=y)) (.int k (x.fdiv (2^min y.toNat k.bits))))|_=>none
def XU (op:BinOp)(x y:List UInt8):Option (fE R):=
 match op with
 |.add=>some (.c (decide (((x.length+y.length:Nat):Int)<=IntKind.i64.max)) (.str (x++y)))|.eql=>some (.t (.bool (x==y)))|.neq=>some (.t (.bool (!(x==y))))|.lss=>some (.t (.bool (Op.bytesLess x y)))|.leq=>some (.t (.bool (Op.bytesLess x y||x==y)))|.gtr=>some (.t (.bool (!(Op.bytesLess x y||x==y))))|.geq=>some (.t (.bool (!(Op.bytesLess x y))))|_=>none
def IW:BinOp->Bool
 |.shl=>true|.shr=>true|_=>false
def XV (op:BinOp)(t:TypeId)(x y:aA R.T):Option (fE R):=
 match x,y with
 |.int k a,.int k' b=>bif IW op then XT R op k a b else (if k=k' then Sq R op k a b else none)|.str a,.str b=>XU R op a b|x,y=>match op with
  |.eql=>match Sn E t x y with
   |some b=>some (.t (.bool b))|none=>none
  |.neq=>match Sn E t x y with
   |some b=>some (.t (.bool (!b)))|none=>none
  |_=>none
def XW (op:UnOp)(x:aA R.T):Option (fE R):=
 match op,x with
 |.neg,.int k n=>some (.t (.int k (k.wrap (0-n))))|.xor,.int k n=>Sq R .xor k (if k.signed then-1 else k.max) n|.not,.bool b=>some (.t (.bool (!b)))|.not,.jK b=>some (.t (.jK (!b)))|_,_=>none
def Sr (src dst:TypeId)(x:aA R.T):Option (fE R):=
 match E.P.underlying src,E.P.underlying dst,x with
 |some _,some (.int k),.int _ n=>some (.t (.int k (k.wrap n)))|some _,some .string,.str s=>some (.t (.str s))|some (.slice e),some .string,.ak _ (.int .u8) l=>match E.P.underlying e with
  |some (.int .u8)=>some (.t (.str (List.map (fun n:Int=>UInt8.ofNat n.toNat) l)))
  |_=>none
 |some (.slice e),some .string,.fU=>match E.P.underlying e with
  |some (.int .u8)=>some (.t (.str []))|_=>none
 |_,_,_=>none
def iQ (i:Int)(n:Nat):Bool:=decide (0<=i/\i<=n)
def CV:Option (aA R.T)->Option (Option Int)
 |none=>some none|some (.int _ n)=>some (some n)|_=>none
def um {U:Type}(l:List U):Option Int->Option Int->List U
 |none,none=>l|some i,none=>l.drop i.toNat|none,some j=>l.take j.toNat|some i,some j=>(l.take j.toNat).drop i.toNat
def XY (n:Nat):Option Int->Option Int->Bool
 |none,none=>true|some i,none=>iQ i n|none,some j=>iQ j n|some i,some j=>iQ j n&& iQ i j.toNat
def Sv (t:TypeId)(x:aA R.T)(lo hi:Option (aA R.T)):Option (fE R):=
 match CV R lo,CV R hi with
 |some lo,some hi=>match E.P.underlying t,x with
  |some .string,.str s=>some (.c (XY s.length lo hi) (.str (um s lo hi)))|some (.slice e),.ak _ u l=>match dO E.P e with
   |some sz=>bif Nat.beq sz (dN R u) then some (.c (XY l.length lo hi) (.ak .any u (um l lo hi))) else none|none=>none
  |_,_=>none
 |_,_=>none
def IX {T:Nat->Type}(st:aO T):aA T->Option (Nat×Ty×Int×Int)
 |.aS o t=>match qy st o with
  |some (.arr _ l)=>some (o,t,0,(l.length:Int))|_=>none
 |.sub o t a b=>some (o,t,a,b)|_=>none
def aiM (a b c:Int):Bool:=decide (0<=a/\a<=b/\b<=c)
def aup (i n:Int):Bool:=decide (0<=i/\i<n)
def sS (n:Int):Option Int->Int
 |some i=>i|none=>n
def pU:Option Int->Int
 |some i=>i|none=>0
def Sw (t:TypeId)(x:aA R.T)(lo hi:Option (aA R.T))(st:aO R.T):Option (fE R):=
 match IX st x,CV R lo,CV R hi,E.P.underlying t with
 |some (o,τ,a,b),some lo,some hi,some (.slice e)=>match dO E.P e with
  |some sz=>bif Nat.beq sz (dN R τ) then some (.c (aiM (pU lo) (sS (b-a) hi) (b-a)) (.sub o τ (a+pU lo) (a+sS (b-a) hi))) else none|none=>none
 |_,_,_,_=>none
def CW (t:TypeId)(x:aA R.T)(lo hi:Option (aA R.T))(st:aO R.T):Option (fE R):=
 match Sw E R t x lo hi st with
 |some r=>some r|none=>Sv E R t x lo hi
def aiN {T:Nat->Type}(t:TypeId)(f:Nat)(x:aA T):Option (aA T):=
 match x9 E.P t f with
 |some (o,_)=>match x with
  |.ref p off=>some (.ref p (off+o))|.aY cs off=>some (.aY cs (off+o))|.mU p t i off=>some (.mU p t i (off+o))|_=>none
 |none=>none
def Sy (t:TypeId)(m x:aA R.T)(ok:Bool)(st:aO R.T):Option (fE R):=
 (fun (_:Env) (_:jY) (_:TypeId) (_ _:aA R.T) (_:Bool) (_:aO R.T)=>none) E R t m x ok st
def auq {T:Nat->Type}:aA T->aA T->Option Bool
 |.int k a,.int k' b=>if k=k' then some (a==b) else none|.str a,.str b=>some (a==b)|_,_=>none
def IY (t:TypeId)(m x v:aA R.T)(st:aO R.T):Option (fE R):=
 (fun (_:Env) (_:jY) (_:TypeId) (_ _ _:aA R.T) (_:aO R.T)=>none) E R t m x v st
def jM:Ty->Bool
 |.st _=>true|_=>false
def IZ (t:TypeId):Option (TypeId×Ty×Nat×Nat):=
 match lS E.P t with
 |some e=>match R.ty e,dO E.P e,uY E.P e,jX E.P e,je E.P e with
  |some u,some sz,some gI,some ag,some z=>bif Nat.beq sz (dN R u)&& Nat.blt 0 sz&& (ag||Nat.beq sz 1)&& Nat.beq z.cells.length sz&& (ag==jM u) then some (e,u,sz,gI) else none|_,_,_,_,_=>none
 |none=>none
def A9 (t:Ty)(n:Nat):List (Nat×aA R.T)->Option (List (Den R.T t))
 | []=>some []| (i,v)::l=>bif Nat.beq i n then (match A8 R t v with
   |some x=>match A9 t (n+1) l with
    |some y=>some (x::y)|none=>none
   |none=>none) else none
def XZ (t:TypeId)(len:Nat)(ps:List (Nat×aA R.T)):Option (fE R):=
 match IZ E R t with
 |some (_,u,sz,_)=>bif Nat.ble (len*sz) (2^24)&& Nat.beq ps.length len then (match A9 R u 0 ps with
  |some l=>some (.t (.ak .full u l))|none=>none) else none
 |none=>none
def X0 (d:Option Nat)(t:TypeId)(len:Nat)(ps:List (Nat×aA R.T))(st:aO R.T):Option (fE R):=
 match d,IZ E R t with
 |some d,some (_,u,sz,_)=>bif Nat.ble (len*sz) (2^24)&& Nat.beq ps.length len then (match A9 R u 0 ps with
  |some l=>bif Nat.ble F0 (E.cn d) then none else some (.w (.aS (E.cn d) u) (st.new (E.cn d) (.arr u l)))|none=>none) else none
 |_,_=>none
def M7 (u:Ty):aA R.T->Option (List (Den R.T u))
 |.ak _ _ l=>ug R l|.fU=>some []|.str s=>ug (t:=.int .u8) (u:=u) R (s.map fun b=>(b.toNat:Int))
 |_=>none
def aiO (u:Ty)(d:Nat):aA R.T->Option (Nat×List (Den R.T u))
 |.ak .nil _ l=>match ug R l with
  |some l=>some (d,l)|none=>none
 |.ak .full _ l=>match ug R l with
  |some l=>some (d,l)|none=>none
 |.ak (.own t) _ l=>match ug R l with
  |some l=>some (t,l)|none=>none
 |.fU=>some (d,[])|_=>none
def I4 (t:TypeId):Bool:=match E.P.underlying t with
 |some (.slice _)=>true|some .string=>true|_=>false
def M8 (d:Option Nat)(t u:TypeId)(x y:aA R.T)(st:aO R.T):Option (fE R):=
 match d with
 |some d=>match IZ E R t with
  |some (_,τ,_,gI)=>bif I4 E u then (match aiO R τ d x,M7 R τ y with
   |some (tk,l),some l'=>some (.wc (cB (l.length+l'.length) gI) (.ak (.own tk) τ (l++l')) (st.wk tk))|_,_=>none) else none
  |none=>none
 |none=>none
def M9 (d:Option Nat)(t u:TypeId)(x y:aA R.T)(st:aO R.T):Option (fE R):=
 match d with
 |some d=>bif Nat.ble F0 (E.cn d) then none else match IZ E R t with
  |some (_,τ,_,gI)=>bif I4 E u then (match M7 R τ y with
   |some l'=>match x with
    |.aS o aiP=>if aiP=τ then (match look st.ob o with
     |some (.arr gW l)=>match ug R (u:=τ) l with
      |some l=>bif Nat.beq o (E.cn d) then some (.wc (cB (l.length+l'.length) gI) (.aS (E.cn d) τ) ((st.del o).new (E.cn d) (.arr τ (l++l')))) else (match l' with
       |a::l'=>some (.wc (cB (l.length+(a::l').length) gI) (.aS (E.cn d) τ) ((st.del o).new (E.cn d) (.arr τ (l++a::l'))))| []=>none)
      |none=>none
     |_=>none) else none
    |x=>bif IK x then some (.wc (cB l'.length gI) (.aS (E.cn d) τ) (st.new (E.cn d) (.arr τ l'))) else none
   |none=>none) else none
  |none=>none
 |none=>none
def X3 (aj:Bool)(d:Option Nat)(t:TypeId)(n m:aA R.T)(st:aO R.T):Option (fE R):=(fun (_:Env) (_:jY) (_:Bool) (_:Option Nat) (_:TypeId) (_ _:aA R.T) (_:aO R.T)=>none) E R aj d t n m st
def I5 {T:Nat->Type}(mx:Bool):aA T->List (aA T)->Option (aA T)
 |x,[]=>some x|.int k a,.int k' b::l=>if k=k' then I5 mx (.int k (bif mx then imax a b else wX a b)) l else none|_,_=>none
def X4 {T:Nat->Type}(t:TypeId)(x:aA T)(st:aO T):Option Nat:=
 match E.P.underlying t,x with
 |some (.slice _),.ak _ _ l=>some l.length|some (.slice _),.fU=>some 0|some (.slice _),.aS o _=>match qy st o with
  |some (.arr _ l)=>some l.length|_=>none
 |some (.slice _),.sub _ _ a b=>some (b-a).toNat|some .string,.str s=>some s.length|some (.map _ _),.fu o=>match qy st o with
  |some (.map _ _ m)=>some m.length|_=>none
 |some (.map _ _),.fH _ _ m=>some m.length|some (.map _ _),.iq=>some 0|some (.array n _),_=>some n|_,_=>none
def X5 (t:TypeId)(x:aA R.T)(st:aO R.T):Option (fE R):=
 (fun (_:Env) (_:jY) (_:TypeId) (_:aA R.T) (_:aO R.T)=>none) E R t x st
def blt (aj:Bool)(d:Option Nat)(b:Builtin)(tys:Array TypeId)(args:List (aA R.T))(st:aO R.T):Option (fE R):=
 match b,args with
 |.len,[x]=>match tys[0]? with
  |some t=>match X4 E t x st with
   |some n=>some (.t (.int .i64 ((n:Nat):Int)))|none=>none
  |none=>none
 |.append,[x,y]=>match tys[0]?,tys[1]? with
  |some t,some u=>bif aj then M9 E R d t u x y st else M8 E R d t u x y st|_,_=>none
 |.clear,[x]=>match tys[0]? with
  |some t=>X5 E R t x st|none=>none
 |.min,x::l=>match I5 false x l with
  |some v=>some (.t v)|none=>none
 |.max,x::l=>match I5 true x l with
  |some v=>some (.t v)|none=>none
 |_,_=>none
def aiQ:List (aA R.T)->aA R.T
 | [v]=>v|vs=>.bW vs
def findF (args dQ:List (aA R.T)):List (ig R)->Option (fE R)
 | []=>none|r::l=>match jA R r.args dQ with
  |some p=>bif mD r.args&& Nat.ble (vH r.args) 18&& mD r.res&& (CS args||IG r.res) then some (.p (aT R.T r.res) r.d (r.F p) fun x=>aiQ R (jL R .sh r.res x)) else none
  |none=>findF args dQ l
def X6 (t:TypeId)(x i:aA R.T):Option (fE R):=
 match E.P.underlying t,x,i with
 |some (.slice e),.ak _ u l,.int _ n=>match dO E.P e with
  |some sz=>bif Nat.beq sz (dN R u) then some (.p (Den R.T u) (Iw R u) (aH l n) fun y=>.aY (jg R .sh u y).cells 0) else none
  |none=>none
 |some (.array n e),.ref o off,.int _ k=>match dO E.P e with
  |some sz=>some (.c (decide (0<=k/\k<n)) (.ref o (off+k.toNat*sz)))|none=>none
 |some (.array n e),.aY cs off,.int _ k=>match dO E.P e with
  |some sz=>some (.c (decide (0<=k/\k<n)) (.aY cs (off+k.toNat*sz)))|none=>none
 |_,_,_=>none
def X7 (t:TypeId)(o:Nat)(τ:Ty)(i:aA R.T)(st:aO R.T):Option (fE R):=
 match E.P.underlying t,i with
 |some (.slice e),.int _ n=>match dO E.P e with
  |some sz=>bif Nat.beq sz (dN R τ) then (match qy st o with
   |some (.arr _ l)=>some (.c (decide (0<=n/\n< (l.length:Int))) (.mU o τ n 0))|_=>none) else none
  |none=>none
 |_,_=>none
def X8 (t:TypeId)(o:Nat)(τ:Ty)(a b:Int)(i:aA R.T):Option (fE R):=
 match E.P.underlying t,i with
 |some (.slice e),.int _ n=>match dO E.P e with
  |some sz=>bif Nat.beq sz (dN R τ) then some (.c (aup n (b-a)) (.mU o τ (a+n) 0)) else none|none=>none
 |_,_=>none
def aur {T:Nat->Type}:Option (aA T)->aA T
 |some v=>v|none=>.gone
def X9 (t:TypeId)(τ:Ty)(i:Int)(off:Nat)(o:bP R.T):Option (fE R):=
 match o with
 |.arr gW l=>match ug R (u:=τ) l with
  |some l=>bif (om E t (jg R .any τ (Iw R τ)).cells off).isSome then some (.p (Den R.T τ) (Iw R τ) (aH l i) fun y=>aur (om E t (jg R .any τ y).cells off)) else none
  |none=>none
 |_=>none
def Ya (τ:Ty)(cs:List (aA R.T)):Option (Den R.T τ):=match τ with
 |.st n=>Fp R n (.agg cs)|.int k=>uh R (.int k) (hd1 R cs)|.bool=>uh R .bool (hd1 R cs)|.str=>uh R .str (hd1 R cs)|.slice t=>uh R (.slice t) (hd1 R cs)
def Yb (t:TypeId)(x i:aA R.T):Option (fE R):=
 match E.P.underlying t,x,i with
 |some .string,.str s,.int _ n=>some (.p UInt8 0 (aH s n) fun b=>.int .u8 (b.toNat:Int))
 |_,_,_=>none
def I6 {T:Nat->Type}(c:Bool):aA T->aA T->Option (aA T)
 |.int k a,.int k' b=>if k=k' then some (.int k (bif c then a else b)) else none|.bool a,.bool b=>some (.bool (bif c then a else b))|.bool a,.jK b=>some (.bool (bif c then a else b))|.jK a,.bool b=>some (.bool (bif c then a else b))|.jK a,.jK b=>some (.bool (bif c then a else b))|.str a,.str b=>some (.str (bif c then a else b))|_,_=>none
def aiR (P:Program):Nat->TypeId->Option (List lV)
 |0,_=>none|n+1,t=>match P.underlying t with
  |some (.int k)=>some [.i k]|some (.array m e)=>match P.underlying e with
   |some (.int k)=>some [.a k m]|_=>none
  |some (.struct fs)=>fs.toList.foldr (fun f acc=>match aiR P n f.type,acc with
   |some a,some b=>some (a++b)|_,_=>none) (some [])
  |_=>none
def aiS:List lV->Bool
 | []=>false|.a _ _::_=>true|_::l=>aiS l
def aiT (t:TypeId):Option (List lV):=match R.ty t with
 |some _=>none|none=>match aiR E.P 4 t with
  |some ks=>bif aiS ks then some ks else none|none=>none
def bX.sk:bX->lV
 |.i k _=>.i k|.a k n _=>.a k n
def Sz:lV->bX
 |.i k=>.i k 0|.a k n=>.a k n (Vec.rep n 0)
def FC {T:Nat->Type}(k:IntKind):List (aA T)->Bool
 | []=>true|.int k' x::l=>(if k'=k then (if x=0 then true else false) else false)&& FC k l|_=>false
def I7 {T:Nat->Type}:List lV->List (aA T)->Bool
 | [],[]=>true|.i k::l,v::vs=>FC k [v]&& I7 l vs|.a k n::l,vs=>Nat.ble n vs.length&& FC k (vs.take n)&& I7 l (vs.drop n)|_,_=>false
def CX {T:Nat->Type}:List lV->List (aA T)->Option (List bX)
 | [],[]=>some []|.i k::l,.int k' x::vs=>if k'=k then (match CX l vs with
  |some r=>some (.i k x::r)|none=>none) else none
 |.a k n::l,vs=>match CO k (vs.take n) with
  |some xs=>bif Nat.beq xs.length n then (match CX l (vs.drop n) with
   |some r=>some (.a k n (Vec.lit n xs)::r)|none=>none) else none
  |none=>none
 |_,_=>none
def Na {T:Nat->Type}:List bX->List (aA T)
 | []=>[]|.i k x::l=>.int k x::Na l|.a k n v::l=>(List.range n).map (fun j=>aA.int k (v.nth j))++Na l
def I8:List lV->List lV->Bool
 | [],[]=>true|.i k::l,.i k'::l'=>(if k=k' then true else false)&& I8 l l'|.a k n::l,.a k' n'::l'=>(if k=k' then true else false)&& Nat.beq n n'&& I8 l l'|_,_=>false
def SA {T:Nat->Type}(ks:List lV):aA T->Option (List bX)
 |.sg ss=>bif I8 ks (ss.map bX.sk) then some ss else none|.agg cs=>CX ks cs|.int k x=>match ks with
  | [.i k']=>if k'=k then some [.i k x] else none|_=>none
 |_=>none
def SB (t:TypeId)(ss:List bX)(off:Nat):Option (aA R.T):=
 match sP ss off,dO E.P t,jX E.P t with
 |some (_,rest),some sz,some ag=>match sP rest sz with
  |some (mid,_)=>bif ag then (match R.ty t with
   |none=>some (.sg mid)|some _=>some (.agg (Na mid))) else (match mid with
   | [.i k x]=>some (.int k x)|_=>none)
  |none=>none
 |_,_,_=>none
def Yc (t:TypeId)(k:IntKind)(m n:Nat)(v:Vec n)(i:Int):Option (aA R.T):=
 match uZ E.P t,dO E.P t,jX E.P t with
 |some (m',e),some sz,some true=>bif Nat.beq m' m&& Nat.beq sz m then (match R.ty t with
  |none=>some (.sg [.a k m (v.slc i m)])|some _=>some (.agg ((List.range m).map fun j=>.int k (v.nth (i.toNat+j))))) else none
 |_,_,_=>none
def uo (t:TypeId):Bool:=match dO E.P t,jX E.P t with
 |some sz,some ag=>Nat.beq sz 1&& !ag|_,_=>false
def SC (k:IntKind):List V->List Int->Bool
 | [],[]=>true|.int k' x::l,y::m=>(if k'=k then (if x=y then true else false) else false)&& SC k l m|_,_=>false
def SE (g:Nat)(t:TypeId):Option ((k:IntKind)×(n:Nat)×Vec n):=
 match E.glob g,R.gl g,uZ E.P t,dO E.P t,jX E.P t with
 |some cs,some ⟨k,n,v⟩,some (m,e),some sz,some ag=>bif ag&& Nat.beq m n&& Nat.beq sz n&& uo E e&& SC k cs v.l then some ⟨k,n,v⟩ else none|_,_,_,_,_=>none
def dJ (i:Int)(n:Nat):Bool:=decide (0<=i/\i<n)
def qQ (n:Nat):Option Int->Option Int->Bool
 |none,none=>true|some i,none=>decide (0<=i/\(i<n\/i=0))|none,some j=>decide (0<=j/\j<=n)|some i,some j=>decide (0<=i/\i<=j/\j<=n/\(i<j\/i=0))
def fO:Option Int->Int
 |some i=>i|none=>0
def jh (n:Nat):Option Int->Int
 |some i=>i|none=>n
def CY (t:TypeId)(x:aA R.T)(lo hi:Option (aA R.T))(st:aO R.T):Option (fE R):=
 match x,CV R lo,CV R hi,uZ E.P t with
 |.ref o off,some lo,some hi,some (n,e)=>bif uo E e then (match qy st o with
  |some (.sg ss)=>match sP ss off with
   |some (_,.a k n' _::_)=>bif Nat.beq n' n then some (.c (qQ n lo hi) (.sv o off k n lo hi)) else none|_=>none
  |some (.cells cs)=>match (cs.drop off) with
   |.int k _::_=>bif Nat.ble (off+n) cs.length then some (.c (qQ n lo hi) (.sv o off k n lo hi)) else none|_=>none
  |_=>none) else none
 |.aY cs off,some none,some none,some (n,e)=>bif uo E e&& Nat.ble (off+n) cs.length then (match cs with
  |.int k _::_=>match CO k cs with
   |some l=>some (.t (.ak .any (.int k) ((l.drop off).take n)))|none=>none
  |_=>none) else none
 |_,_,_,_=>none
def aiU (d:Option Nat):Bool:=match d with
 |some d=>E.own F0 d|none=>false
def aiV (k:IntKind)(m:Nat)(l:List Int):List (aA R.T):=(List.range m).map fun j=>.int k (l.getD j 0)
def uq (g:List (Nat×Bool))(d:Option Nat)(o:Op)(st:aO R.T):Option (fE R):=
 match o with
 |.alloc t=>match d,aiT E R t,IQ (T:=R.T) E t with
  |some d,some ks,some (.agg cs)=>bif I7 ks cs then some (.w (.ref d 0) (st.new d (.sg (ks.map Sz)))) else none|_,_,_=>none
 |.box t x=>bif tN E t d then none else match d,aiT E R t,dG g st x with
  |some d,some ks,some v=>match SA ks v with
   |some ss=>some (.w (.ref d 0) (st.new d (.sg ss)))|none=>none
  |_,_,_=>none
 |.load t a=>match a with
  |.global gl=>match SE E R gl t with
   |some ⟨k,n,v⟩=>some (.t (.sg [.a k n v]))|none=>none
  |a=>match dG g st a with
   |some (.ref o off)=>match qy st o with
    |some (.sg ss)=>match SB E R t ss off with
     |some v=>some (.t v)|none=>none
    |_=>none
   |some (.sel o off k n i m)=>match qy st o with
    |some (.sg ss)=>match sP ss off with
     |some (_,.a k' n' v::_)=>if k'=k then (bif Nat.beq n' n then (bif Nat.beq m 1&& uo E t then some (.t (.int k (v.at' i))) else (match Yc E R t k m n' v i with
      |some v=>some (.t v)|none=>none)) else none) else none
     |_=>none
    |_=>none
   |some (.vE k n v i)=>bif uo E t then some (.t (.int k (v.at' i))) else none|_=>none
 |.store t a x=>match dG g st a,dG g st x with
  |some (.ref o off),some v=>match look st.ob o,dO E.P t with
   |some (.sg ss),some sz=>match sP ss off with
    |some (pre,rest)=>match sP rest sz with
     |some (mid,post)=>match SA (mid.map bX.sk) v with
      |some mid'=>some (.w .undef (st.set o (.sg (pre++(mid'++post)))))|none=>none
     |none=>none
    |none=>none
   |_,_=>none
  |some (.sel o off k n i m),some (.int k' y)=>match look st.ob o with
   |some (.sg ss)=>match sP ss off with
    |some (pre,.a k2 n' v::post)=>if k2=k then (if k'=k then (bif Nat.beq n' n&& Nat.beq m 1&& uo E t then some (.w .undef (st.set o (.sg (pre++(.a k n' (v.set i y)::post))))) else none) else none) else none|_=>none
   |_=>none
  |_,_=>none
 |.indexAddr t x i=>match uZ E.P t,dG g st i with
  |some (n,e),some (.int _ i)=>bif uo E e then (match x with
   |.global gl=>match SE E R gl t with
    |some ⟨k,n,v⟩=>some (.c (dJ i n) (.vE k n v i))|none=>none
   |x=>match dG g st x with
    |some (.ref o off)=>match qy st o with
     |some (.sg ss)=>match sP ss off with
      |some (_,.a k n' _::_)=>bif Nat.beq n' n then some (.c (dJ i n) (.sel o off k n i 1)) else none|_=>none
     |_=>none
    |_=>none) else none
  |_,_=>none
 |.index t x i=>match uZ E.P t,dG g st x,dG g st i with
  |some (n,e),some (.sg [.a k n' v]),some (.int _ i)=>bif uo E e&& Nat.beq n' n then some (.c (dJ i n) (.int k (v.at' i))) else none|_,_,_=>none
 |.slice t x lo hi none=>match dG g st x with
  |some x=>match lo,hi with
   |none,none=>CY E R t x none none st|some lo,none=>match dG g st lo with
    |some lo=>CY E R t x (some lo) none st|none=>none
   |none,some hi=>match dG g st hi with
    |some hi=>CY E R t x none (some hi) st|none=>none
   |some lo,some hi=>match dG g st lo,dG g st hi with
    |some lo,some hi=>CY E R t x (some lo) (some hi) st|_,_=>none
  |none=>none
 |.slice t x lo (some hi) (some mx)=>match dG g st x,dG g st hi,dG g st mx,E.P.underlying t with
  |some (.ak _ u l),some (.int _ h),some (.int _ m),some (.slice e)=>match dO E.P e with
   |some sz=>bif Nat.beq sz (dN R u) then (match lo with
    |none=>bif aiU E d then some (.c (iQ m l.length&& (iQ h m.toNat&& (h==m))) (.ak .full u (um l none (some h)))) else some (.c (iQ m l.length&& iQ h m.toNat) (.ak .any u (um l none (some h))))|some lo=>match dG g st lo with
     |some (.int _ a)=>some (.c (iQ m l.length&& (iQ h m.toNat&& iQ a h.toNat)) (.ak .any u (um l (some a) (some h))))|_=>none) else none
   |none=>none
  |_,_,_,_=>none
 |.convert a b x=>match dG g st x with
  |some (.sv o off k n lo hi)=>match E.P.underlying a,E.P.underlying b with
   |some (.slice e),some .string=>match E.P.underlying e,k with
    |some (.int .u8),.u8=>match Sg st o off .u8 n lo hi with
     |some l=>some (.t (.str (List.map (fun n:Int=>UInt8.ofNat n.toNat) l)))
     |none=>none
    |_,_=>none
   |_,_=>none
  |_=>none
 |.sliceToArrayPointer t x=>match uZ E.P t,dG g st x with
  |some (m,e),some (.sv o off k n lo hi)=>some (.c (decide (0<m/\m<=jh n hi-fO lo)) (.sel o off k n (fO lo) m))|some (m,_),some (.ak _ (.int k) l)=>some (.c (decide (0<m/\m<=l.length)) (.aY (aiV R k m l) 0))|_,_=>none
 |.call c=>match c.callee,qP g st c.args.toList with
  |.builtin .copy,some [.sv o off k n lo hi,y]=>match c.argTypes[0]? with
   |some t=>match lS E.P t with
    |some e=>bif uo E e then (match M7 R (.int k) y,look st.ob o with
     |some l,some (.sg ss)=>match sP ss off with
      |some (pre,.a k' n' v::post)=>if k'=k then (bif Nat.beq n' n then some (.w (.int .i64 (((l.take (jh n hi-fO lo).toNat).length:Nat):Int)) (st.set o (.sg (pre++(.a k n' (v.wY (fO lo) (l.take (jh n hi-fO lo).toNat))::post))))) else none) else none
      |_=>none
     |_,_=>none) else none
    |none=>none
   |none=>none
  |_,_=>none
 |_=>none
def vJ (aj:Bool)(F:Nat->List (ig R))(g:List (Nat×Bool))(d:Option Nat)(o:Op)(st:aO R.T):Option (fE R):=
 match o with
 |.move x=>bif yh E d then (match dG g st x with
  |some (.aS p t)=>match look st.ob p with
   |some (.arr t' l)=>match ug R (u:=t) l with
    |some l=>some (.w (.ak .any t l) (st.del p))|none=>none
   |_=>none
  |some (.int k n)=>some (.t (.int k n))|_=>none) else (match dG g st x with
  |some v=>some (.t v)|none=>none)
 |.assign x=>match dG g st x with
  |some v=>some (.t v)|none=>none
 |.pick c a b=>match c with
  |.tmp j=>match dG g st c with
   |some (.bool t)=>match dG ((j,true)::g) st a,dG ((j,false)::g) st b with
    |some x,some y=>match I6 t x y with
     |some v=>some (.t v)|none=>none
    |_,_=>none
   |some (.jK t)=>match dG g st (bif t then a else b) with
    |some v=>some (.t v)|none=>none
   |_=>none
  |_=>none
 |.alloc t=>match d,IQ E t with
  |some d,some z=>bif CP z.cells&& !(qx d z.cells) then some (.w (.ref d 0) (st.new d (.cells z.cells))) else none|_,_=>none
 |.box t x=>bif tN E t d then (match dG g st x with
  |some v=>bif qc (CQ v)&& w9 v then some (.t (.aY (CQ v).cells 0)) else none|none=>none) else match d,dG g st x with
  |some d,some v=>bif CP v.cells&& w9 v&& !(qx d v.cells) then some (.w (.ref d 0) (st.new d (.cells v.cells))) else none|_,_=>none
 |.build t parts=>match Ho E t,IQ (T:=R.T) E t,IC g st parts.toList with
  |some pl,some z,some ps=>match Sl pl z.cells ps with
   |some cs=>some (.t (.agg cs))|none=>none
  |_,_,_=>none
 |.buildSlice t len parts=>match IC g st parts.toList with
  |some ps=>bif zx E d then X0 E R d t len ps st else XZ E R t len ps|none=>none
 |.load t a=>match dG g st a with
  |some (.ref o off)=>match qy st o with
   |some (.cells cs)=>match om E t cs off with
    |some v=>some (.t v)|none=>none
   |_=>none
  |some (.aY cs off)=>match om E t cs off with
   |some v=>some (.t v)|none=>none
  |some (.mU o τ i off)=>match qy st o with
   |some b=>X9 E R t τ i off b|none=>none
  |_=>none
 |.store t a x=>match dG g st a,dG g st x with
  |some (.ref o off),some v=>match look st.ob o,dO E.P t with
   |some (.cells cs),some sz=>bif Nat.beq v.cells.length sz&& Nat.ble (off+v.cells.length) cs.length&& CP v.cells&& w9 v then some (.w .undef (st.set o (.cells (IL cs off v.cells)))) else none
   |_,_=>none
  |_,_=>none
 |.nilCheck x=>match dG g st x with
  |some (.ref o off)=>some (.t (.ref o off))|some (.aY cs off)=>some (.t (.aY cs off))|some (.mU o τ i off)=>some (.t (.mU o τ i off))|some (.fn f a b)=>some (.t (.fn f a b))|_=>none
 |.binOp op t x y _=>match dG g st x,dG g st y with
  |some x,some y=>XV E R op t x y|_,_=>none
 |.unOp op _ x=>match dG g st x with
  |some x=>XW R op x|none=>none
 |.convert a b x=>match dG g st x with
  |some x=>Sr E R a b x|none=>none
 |.makeFunc (.func f) a b=>match qP g st a.toList,qP g st b.toList with
  |some a,some b=>some (.t (.fn f a b))|_,_=>none
 |.makeMap t none=>match d,ap8 E.P t with
  |some d,some (k,e)=>match R.ty k,R.ty e with
   |some k,some e=>some (.w (.fu d) (st.new d (.map k e [])))|_,_=>some (.w (.fu d) (st.new d (.smap [] [])))
  |_,_=>none
 |.makeSlice t l c=>match dG g st l,dG g st c with
  |some n,some m=>X3 E R aj d t n m st|_,_=>none
 |.slice t x lo hi none=>match dG g st x with
  |some x=>match lo,hi with
   |none,none=>CW E R t x none none st|some lo,none=>match dG g st lo with
    |some lo=>CW E R t x (some lo) none st|none=>none
   |none,some hi=>match dG g st hi with
    |some hi=>CW E R t x none (some hi) st|none=>none
   |some lo,some hi=>match dG g st lo,dG g st hi with
    |some lo,some hi=>CW E R t x (some lo) (some hi) st|_,_=>none
  |none=>none
 |.fieldAddr t x f=>match dG g st x with
  |some x=>match aiN E t f x with
   |some v=>some (.t v)|none=>none
  |none=>none
 |.field t x f=>match x9 E.P t f,dG g st x with
  |some (o,u),some (.agg cs)=>match om E u cs o with
   |some v=>some (.t v)|none=>none
  |_,_=>none
 |.indexAddr t x i=>match dG g st x,dG g st i with
  |some (.aS o τ),some i=>X7 E R t o τ i st|some (.sub o τ a b),some i=>X8 E R t o τ a b i|some x,some i=>X6 E R t x i|_,_=>none
 |.index t x i=>match dG g st x,dG g st i with
  |some x,some i=>Yb E R t x i|_,_=>none
 |.lookup t x i ok=>match dG g st x,dG g st i with
  |some x,some i=>Sy E R t x i ok st|_,_=>none
 |.mapUpdate t m k v=>match dG g st m,dG g st k,dG g st v with
  |some m,some k,some v=>IY E R t m k v st|_,_,_=>none
 |.insert t m k v=>match dG g st m,dG g st k,dG g st v with
  |some m,some k,some v=>IY E R t m k v st|_,_,_=>none
 |.extract x i=>match dG g st x with
  |some (.bW vs)=>match vs[i]? with
   |some v=>some (.t v)|none=>none
  |_=>none
 |.call c=>match c.callee with
  |.builtin b=>match qP g st c.args.toList with
   |some vs=>blt E R aj d b c.argTypes vs st|none=>none
  |.value f=>match dG g st f,qP g st c.args.toList with
   |some (.fn f a b),some vs=>bif E.imp f then none else findF R (a++vs++b) (rP st (a++vs++b)) (F f)|_,_=>none
  |_=>none
 |_=>none
def zJ (aj:Bool)(F:Nat->List (ig R))(g:List (Nat×Bool))(d:Option Nat)(o:Op)(st:aO R.T):Option (fE R):=
 match uq E R g d o st with
 |some r=>some r|none=>vJ E R aj F g d o st
inductive aus where
 |no
 |run
 |skip
 |dyn (j:Nat) (w:Bool) (c:Bool) (g:List (Nat×Bool))
def I9 (b w:Bool):Bool:=bif w then b else !b
def Yd (a b:Bool):Bool:=bif a then b else false
def qR {T:Nat->Type}(st:aO T):Nat->Nat->Bool->Option (Bool×List (Nat×Bool))
 |0,_,_=>none|n+1,j,w=>match look st.fr j with
  |some (.bool b)=>some (I9 b w,[(j,w)])|some (.opt i u (.bool b))=>match qR st n i u with
   |some (c,g)=>some (Yd c (I9 b w),(j,w)::g)|none=>none
  |some (.opt i u (.jK b))=>match qR st n i u with
   |some (c,g)=>some (Yd c (I9 b w),(j,w)::g)|none=>none
  |_=>none
def SF {T:Nat->Type}(all:List Oper)(st:aO T)(o:Oper):aus:=
 match o.guard with
 |none=>.run|some (j,w)=>match all[j]? with
  |some p=>match p.dst with
   |some t=>match look st.fr t with
    |some (.jK b)=>bif b==w then .run else .skip|some .undef=>.skip|_=>match qR st 12 t w with
     |some (c,g)=>.dyn t w c g|none=>.no
   |none=>.skip
  |none=>.skip
def aO.oJ {T:Nat->Type}(st:aO T):List (Nat×Bool)->aO T
 | []=>st| (j,w)::g=>(st.oJ g).learn j w
def aO.Ba {T:Nat->Type}(st:aO T):List (Nat×Bool)->aO T
 | [(j,w)]=>st.learn j (!w)|_=>st
def kC {U:Type}(c:Bool)(o:Option U)(d:U):Option U:=bif c then o else some d
def Ye (st:aO R.T)(t:TypeId)(m x:Operand):Option (List (aA R.T)×List (aA R.T)×aA R.T×aA R.T):=
 (fun (_:Env) (_:jY) (_:aO R.T) (_:TypeId) (_ _:Operand)=>none) E R st t m x
def aiW {T:Nat->Type}{β:Type}(x:aA T):List (aA T)->List (aA T)->aA T->(aA T->Bool->Option β)->Option β
 | [],[],z,k=>k z false|a::ks,v::vs,z,k=>match auq x a with
  |some b=>bif b then k v true else aiW x ks vs z k|none=>none
 |_,_,_,_=>none
section
variable (aj:Bool){β:Type}(F:Nat->List (ig R))
def Yf (t:TypeId)(a x:Operand)(st:aO R.T):Option ((τ:Ty)×Nat×Int×Nat×List (Den R.T τ)×aA R.T):=
 match dG [] st a,dG [] st x with
 |some (.mU o τ i off),some v=>match look st.ob o,dO E.P t with
  |some (.arr gW l),some sz=>match ug R (u:=τ) l with
   |some l=>bif Nat.beq v.cells.length sz&& Nat.ble (off+v.cells.length) (dN R τ)&& CP v.cells&& w9 v then some ⟨τ,o,i,off,l,v⟩ else none|none=>none
  |_,_=>none
 |_,_=>none
def bn {U:Type}(l:List U)(i:Int)(y:U):List U:=l.set i.toNat y
def runM (o:Oper)(st:aO R.T)(k:aO R.T->Option β):Option β:=
 match o.op with
 |.pick c a b=>match dG [] st c with
  |some (.jK t)=>match dG [] st (bif t then a else b) with
   |some v=>k (st.iF o.dst v)|none=>none
  |some (.bool t)=>match c with
   |.tmp j=>match dG [(j,true)] st a,dG [(j,false)] st b with
    |some x,some y=>match I6 t x y with
     |some v=>k (st.iF o.dst v)|none=>bif t then k ((st.learn j true).iF o.dst x) else k ((st.learn j false).iF o.dst y)
    |_,_=>none
   |_=>none
  |_=>none
 |.store t a x=>match Yf E R t a x st with
  |some ⟨τ,p,i,off,l,v⟩=>(aH l i).bind fun y=>match Ya R τ (IL (jg R .any τ y).cells off v.cells) with
   |some y'=>k ((st.set p (.arr τ (bn l i y'))).iF o.dst .undef)|none=>none
  |none=>match zJ E R aj F [] o.dst (.store t a x) st with
   |some (.w v st')=>k (st'.iF o.dst v)|_=>none
 |.lookup t m x ok=>match Ye E R st t m x with
  |some (ks,vs,x,z)=>aiW x ks vs z fun v b=>k (st.iF o.dst (bif ok then .bW [v,.jK b] else v))
  |none=>match zJ E R aj F [] o.dst (.lookup t m x ok) st with
   |some (.t v)=>k (st.iF o.dst v)|_=>none
 |op=>match zJ E R aj F [] o.dst op st with
  |some (.t v)=>k (st.iF o.dst v)|some (.c b v)=>bif b then k (st.iF o.dst v) else none|some (.w v st')=>k (st'.iF o.dst v)|some (.wc b v st')=>bif b then k (st'.iF o.dst v) else none|some (.p _ _ x f)=>x.bind fun a=>k (st.iF o.dst (f a))
  |none=>none
def Nb (b c:Bool):Bool:=bif b then c else true
def Yg (o:Oper)(j:Nat)(w c:Bool)(g:List (Nat×Bool))(st:aO R.T)(k:aO R.T->Option β):Option β:=
 match o.dst with
 |some d=>match (bif bR d (g.map (·.1)) then none else zJ E R aj F g o.dst o.op st) with
  |some (.t v)=>k (st.put d (.opt j w v))|some (.c b v)=>bif Nb c b then k (st.put d (.opt j w v)) else none|some (.p _ z x f)=>(kC c x z).bind fun a=>k (st.put d (.opt j w (f a)))
  |_=>bif c then runM E R aj F o (st.oJ g) k else k ((st.Ba g).iF o.dst .undef)
 |none=>bif c then runM E R aj F o (st.oJ g) k else k ((st.Ba g).iF o.dst .undef)
def nR {T:Nat->Type}(st:aO T)(o:Oper):Bool:=match o.op with
 |.call c=>match c.callee with
  |.value f=>match dG [] st f with
   |some (.fn g _ _)=>match o.dst with
    |some d=>E.own g d|none=>false
   |_=>true
  |_=>false
 |_=>false
def aut:List bQ->Bool
 |.fU::k::l=>mD (k::l)|_=>false
def Ja (args dQ:List (aA R.T)):List (ig R)->Option ((τ:Ty)×Option (List (Den R.T τ)))
 | []=>none| ⟨dP,[.d (.slice τ)],G,_,true⟩::l=>match jA R dP dQ with
   |some p=>bif (mD dP||aut dP)&& Nat.ble (vH dP) 18&& CS args then some ⟨τ,G p⟩ else none|none=>Ja args dQ l
 |_::l=>Ja args dQ l
def zK (o:Oper)(st:aO R.T)(k:aO R.T->Option β):Option β:=match o.op,o.dst with
 |.call c,some d=>match c.callee with
  |.value f=>match dG [] st f,qP [] st c.args.toList with
   |some (.fn g a b),some vs=>match Ja R (a++vs++b) (rP st (a++vs++b)) (F g) with
    |some ⟨τ,x⟩=>x.bind fun l=>k ((st.wk d).put d (.ak (.own d) τ l))
    |none=>none
   |_,_=>none
  |_=>none
 |_,_=>none
def FD (o:Nat)(l:List Nat):List Nat:=bif bR o l then l else l++[o]
mutual
def auu {T:Nat->Type}:aA T->List Nat->List Nat
 |.ref o _,l=>FD o l|.fu o,l=>FD o l|.aS o _,l=>FD o l|.sub o _ _ _,l=>FD o l|.mU o _ _ _,l=>FD o l|.sv o _ _ _ _ _,l=>FD o l|.sel o _ _ _ _ _,l=>FD o l|.agg cs,l=>vK cs l|.bW cs,l=>vK cs l|.aY cs _,l=>vK cs l|.fn _ a b,l=>vK b (vK a l)|_,l=>l
def vK {T:Nat->Type}:List (aA T)->List Nat->List Nat
 | [],l=>l|v::vs,l=>vK vs (auu v l)
end
mutual
def zL {T:Nat->Type}(m:List (Nat×Nat)):aA T->aA T
 |.ref o off=>match look m o with
  |some p=>.ref p off|none=>.gone
 |.fu o=>match look m o with
  |some p=>.fu p|none=>.gone
 |.aS o t=>match look m o with
  |some p=>.aS p t|none=>.gone
 |.sub o t a b=>match look m o with
  |some p=>.sub p t a b|none=>.gone
 |.mU o t i off=>match look m o with
  |some p=>.mU p t i off|none=>.gone
 |.sv o off k n lo hi=>match look m o with
  |some p=>.sv p off k n lo hi|none=>.gone
 |.sel o off k n i j=>match look m o with
  |some p=>.sel p off k n i j|none=>.gone
 |.ak c t l=>match c with
  |.own _=>.ak .any t l|c=>.ak c t l
 |.agg cs=>.agg (Bb m cs)|.bW cs=>.bW (Bb m cs)|.aY cs off=>.aY (Bb m cs) off|.fn f a b=>.fn f (Bb m a) (Bb m b)|v=>v
def Bb {T:Nat->Type}(m:List (Nat×Nat)):List (aA T)->List (aA T)
 | []=>[]|v::vs=>zL m v::Bb m vs
end
def mG:List Nat->Nat->List (Nat×Nat)
 | [],_=>[]|o::l,n=>(o,n)::mG l (n+1)
def FE:List Nat->Bool
 | []=>true|o::l=>!(bR o l)&& FE l
def Jb {T:Nat->Type}(st:aO T):List (Nat×Nat)->List (Nat×bP T)
 | []=>[]| (o,p)::m=>match look st.ob o with
   |some x=>(p,x)::Jb st m|none=>Jb st m
def xk {T:Nat->Type}:List (Nat×Nat)->List (Nat×bP T)->List (Nat×bP T)
 | [],_=>[]| (o,p)::m,l=>match look l p with
   |some y=>(o,y)::xk m l|none=>xk m l
def Jc:List (Nat×Nat)->List (Nat×iD)->Bool
 | [],[]=>true| (_,p)::m,(q,_)::l=>Nat.beq p q&& Jc m l|_,_=>false
def uw:List bQ->Bool
 | []=>true|.d (.int _)::l=>uw l|.d .bool::l=>uw l|.d .str::l=>uw l|.sub p _::l=>Nat.ble F0 p&& uw l|_=>false
mutual
def SG:bQ->Bool
 |.d _=>true|.aY l _=>CZ l|.fn _ a b=>CZ a&& CZ b|_=>false
def CZ:List bQ->Bool
 | []=>true|k::l=>SG k&& CZ l
end
def okO:iD->Bool
 |.cells l=>CZ l|_=>true
def xq:List (Nat×iD)->Bool
 | []=>true| (_,k)::l=>okO k&& xq l
def SH (m:List (Nat×Nat))(A:List (aA R.T))(B:List (Nat×bP R.T)):List (qO R)->Option ((r:qO R)×Option (aT R.T r.res×lW R.T r.obs))
 | []=>none|r::l=>match jA R r.args A,pz R B r.obs with
  |some p,some q=>bif Jc m r.obs&& (uw r.res&& xq r.obs) then some ⟨r,r.F p q⟩ else none|_,_=>SH m A B l
def SI:List (Nat×Nat)->List (Nat×Nat)
 | []=>[]| (o,p)::l=>(p,o)::SI l
def aiX {T:Nat->Type}:List (aA T)->aA T
 | [v]=>v|vs=>.bW vs
def xu {T:Nat->Type}(st:aO T)(o:Oper):Bool:=match o.op with
 |.call c=>match c.callee with
  |.value f=>match dG [] st f with
   |some (.fn g _ _)=>E.imp g|_=>false
  |_=>false
 |_=>false
def yG (o:Oper):Bool:=match o.op with
 |.call c=>match c.callee with
  |.value (.func g)=>!(E.imp g)|.value _=>false|_=>true
 |_=>true
def FH (M:Nat->List (qO R))(o:Oper)(st:aO R.T)(k:aO R.T->Option β):Option β:=match o.op with
 |.call c=>match c.callee with
  |.value f=>match dG [] st f,qP [] st c.args.toList with
   |some (.fn g a b),some vs=>bif FE (vK (a++vs++b) []) then (match SH R (mG (vK (a++vs++b) []) F0) (Bb (mG (vK (a++vs++b) []) F0) (a++vs++b)) (Jb st (mG (vK (a++vs++b) []) F0)) (M g) with
    |some ⟨r,x⟩=>x.bind fun y=>k (aO.iF ⟨st.fr,xk (mG (vK (a++vs++b) []) F0) (mE R r.obs y.2)++st.ob⟩ o.dst (aiX (Bb (SI (mG (vK (a++vs++b) []) F0)) (jL R .any r.res y.1))))
    |none=>none) else none
   |_,_=>none
  |_=>none
 |_=>none
variable (M:Nat->List (qO R))
def yH (all:List Oper):List Oper->aO R.T->(aO R.T->Option β)->Option β
 | [],st,k=>k st|o::os,st,k=>match SF all st o with
  |.run=>bif nR E st o then zK R F o st (fun st=>yH all os st k) else (bif xu E st o then FH R M o st (fun st=>yH all os st k) else runM E R aj F o st (fun st=>yH all os st k))
  |.skip=>yH all os (st.iF o.dst .undef) k|.dyn j w c g=>bif nR E st o||nR E (st.oJ g) o then none else (bif xu E (st.oJ g) o then (bif c then FH R M o (st.oJ g) (fun st=>yH all os st k) else yH all os ((st.Ba g).iF o.dst .undef) k) else Yg E R aj F o j w c g st (fun st=>yH all os st k))
  |.no=>none
def aiY {T:Nat->Type}:aA T->List Key
 |.ref o _=>[.obj (1,o)]|.fu o=>[.obj (1,o)]|.mU o _ _ _=>[.obj (1,o)]|.sv o _ _ _ _ _=>[.obj (1,o)]|.sel o _ _ _ _ _=>[.obj (1,o)]|_=>[]
def Bc {T:Nat->Type}(st:aO T)(x:Operand):List Key:=match dG [] st x with
 |some v=>aiY v|none=>[]
def SK (o:Oper):List Key:=match o.dst with
 |some t=>[.obj (1,t)]|none=>[]
def SL {T:Nat->Type}:List (aA T)->Bool
 | []=>false|.sv _ _ _ _ _ _::_=>true|.ref _ _::_=>true|_::l=>SL l
def Nc (aj:Bool){T:Nat->Type}(st:aO T)(o:Oper):dR:=
 match o.op with
 |.buildSlice .. =>bif zx E o.dst then gJ else nu []
 |.move _|.assign _|.pick .. |.build .. |.nilCheck _|.binOp .. |.unOp .. |.makeInterface .. |.typeAssert .. |.makeFunc .. |.fieldAddr .. |.field .. |.indexAddr .. |.index .. |.extract ..
 |.sliceToArrayPointer .. =>nu []|.convert _ _ x|.slice _ x _ _ _|.load _ x|.lookup _ x _ _=>nu (Bc st x)|.alloc _|.box .. |.makeMap .. =>ny (SK o)|.makeSlice .. =>ny (.top::SK o)|.store _ a _=>ny (Bc st a)|.mapUpdate _ m _ _|.insert _ m _ _=>ny (Bc st m)|.call c=>match c.callee with
  |.builtin b=>match b with
   |.len|.cap|.min|.max=>nu (c.args.toList.flatMap fun x=>Bc st x)
   |.append=>bif aj then gJ else ⟨false,false,c.args.toList.flatMap fun x=>Bc st x,[.top]⟩
   |_=>gJ
  |.value f=>match dG [] st f with
   |some (.fn g a b)=>if E.imp g then gJ else (match qP [] st c.args.toList with
    |some vs=>if CS (a++vs++b) then nu [] else ⟨true,false,[],[]⟩|none=>gJ)
   |_=>gJ
  |_=>gJ
 |_=>gJ
def sU (aj:Bool){T:Nat->Type}(all:List Oper)(st:aO T)(o:Oper)(wanted:Bool):dR:=
 if wanted then let f:=Nc E aj st o;⟨f.qj,f.mh,r9 all o++f.t,nV o++f.w⟩else ⟨false,false,r9 all o,nV o⟩
def Jd {T:Nat->Type}:aA T->Bool
 |.gone=>false|.opt _ _ _=>false|.aS _ _=>false|.sub _ _ _ _=>false|_=>true
def zM (aj:Bool){T:Nat->Type}(st:aO T)(o:Oper):Bool:= !(nR E st o)&&
 match o.op with
 |.call c=>match c.callee with
  |.value f=>match dG [] st f,qP [] st c.args.toList with
   |some (.fn _ a b),some vs=>CS (a++vs++b)||SL (a++vs++b)|_,_=>false
  |.builtin b=>(match b with
   |.append=>aj|_=>false)||match qP [] st c.args.toList with
   |some vs=>vs.all Jd|none=>false
  |_=>true
 |.move _=>!(yh E o.dst)|.slice _ x _ _ _=>match dG [] st x with
  |some v=>(IX st v).isNone|none=>false
 |_=>true
def Key.nm:Key->Key
 |.obj l=>.obj (1,l.2)|k=>k
def dR.nm (f:dR):dR:=⟨f.qj,f.mh,f.t.map Key.nm,f.w.map Key.nm⟩
def Nf (all:List Oper)(o:Oper):dR:=⟨false,false,r9 all o++[],nV o++[.top]⟩
def qU (ms:List Nat)(all:List Oper):List Oper->aO R.T->List dR->(aO R.T->Option β)->Option β
 | [],st,fs,k=>bif AP ms (fs.map dR.nm) then k st else none|o::os,st,fs,k=>match SF all st o with
  |.run=>bif xu E st o then (bif nR E st o then none else FH R M o st (fun st'=>qU ms all os st' (fs++[sU E aj all st o true]) k)) else bif nR E st o then zK R F o st (fun st'=>qU ms all os st' (fs++[Nf all o]) k) else bif !(zM E aj st o) then none else runM E R aj F o st (fun st'=>qU ms all os st' (fs++[sU E aj all st o true]) k)
  |.skip=>qU ms all os (st.iF o.dst .undef) (fs++[sU E aj all st o false]) k|.dyn _ _ c g=>bif c then (bif xu E (st.oJ g) o then (bif nR E (st.oJ g) o then none else FH R M o (st.oJ g) (fun st'=>qU ms all os st' (fs++[sU E aj all (st.oJ g) o true]) k)) else bif nR E (st.oJ g) o then zK R F o (st.oJ g) (fun st'=>qU ms all os st' (fs++[Nf all o]) k) else bif !(zM E aj (st.oJ g) o) then none else runM E R aj F o (st.oJ g) (fun st'=>qU ms all os st' (fs++[sU E aj all (st.oJ g) o true]) k))else qU ms all os ((st.Ba g).iF o.dst .undef) (fs++[sU E aj all st o false]) k
  |.no=>none
end
def FI {R:jY}(key:Nat)(W:List Nat)(b:aO R.T)(sh:Shape)(outs:List (Ex×Shape))(body:{β:Type}->aO R.T->(Ex->aO R.T->Option β)->Option β):Nat->wZ R.T sh->Option (Out R.T outs)
 |0,_=>none|m+1,p=>body (b.over (unpack R sh p)) fun e st=>match e with
  |.normal=>match sQ R W st sh with
   |some p=>FI key W b sh outs body m p|none=>none
  |e=>Fz R W e st outs
def aO.obs {T:Nat->Type}(st:aO T):aO T:=⟨[],st.ob⟩
def Ng {R:jY}{β:Type}(body:aO R.T->(Ex->aO R.T->Option β)->Option β):Nat->aO R.T->(Ex->aO R.T->Option β)->Option β
 |0,_,_=>none|m+1,st,k=>body st fun e st'=>match e with
  |.normal=>Ng body m st' k|e=>k e st'
def mW:List Oper->List Nat
 | []=>[]|o::l=>match o.dst with
  |some d=>d::E.cn d::mW l|none=>mW l
def dU:Code->List Nat
 |.region _ ops _=>mW E ops.toList|.seq a b=>dU a++dU b|.cond _ a b=>dU a++dU b|.block _ c=>dU c|.loop c=>dU c|.scope c=>dU c|.rangeFunc _ ps a b=>ps.toList++dU a++dU b|_=>[]
def yI:Code->Nat
 |.region i _ _=>i|.seq a _=>yI a|.loop a=>yI a+500|.scope a=>yI a|.block _ a=>yI a|.rangeFunc _ _ _ b=>yI b|_=>0
def mH:Code->Bool
 |.region _ ops _=>ops.toList.all (yG E)|.seq a b=>mH a&& mH b|.cond _ a b=>mH a&& mH b|.block _ c=>mH c|.loop c=>mH c|.scope c=>mH c|.rangeFunc _ _ _ _=>false|_=>true
variable (n:Nat)(aj:Bool)(F:Nat->List (ig R))(I:IR R)(A:bq)
def jZ:Code->{β:Type}->aO R.T->(Ex->aO R.T->Option β)->Option β
 |.skip,_,st,k=>k .normal st|.region _ ops dr,_,st,k=>bif dr then (bif ql ops.toList then qU E R aj F I.im (nZ ops.toList) ops.toList ops.toList st [] (fun st=>k .normal st) else none) else yH E R aj F I.im ops.toList ops.toList st (fun st=>k .normal st)
 |.seq a b,_,st,k=>
  match look A.joins (yI b) with
  |none=>jZ a st fun e st=>match e with
   |.normal=>jZ b st k|e=>k e st
  |some q=>(jZ (β:=Out R.T q.outs) a ((base (dU E a) q.K q.O .ro st).over st) fun e st=>Fz R (dU E a) e st q.outs).bind (FB R (base (dU E a) q.K q.O (fun b=>b) st) (fun e st=>match e with
   |.normal=>jZ b st k|e=>k e st) q.outs)
 |.cond c a b,_,st,k=>match dG [] st c with
  |some (.jK t)=>bif t then jZ a st k else jZ b st k|some (.bool t)=>bif t then jZ a (st.Iy c true) k else jZ b (st.Iy c false) k|_=>none
 |.block id c,_,st,k=>jZ c st fun e st=>match e with
  |.exit i=>bif Nat.beq i id then k .normal st else k (.exit i) st|e=>k e st
 |.loop c,_,st,k=>match look A.loops (yI c) with
  |some q=>match sQ R (dU E c) st q.sh with
   |some p=>(FI (yI c) (dU E c) (base (dU E c) q.K q.O .ro st) q.sh q.outs (fun st k=>jZ c st k) n p).bind (FB R (base (dU E c) q.K q.O (fun b=>b) st) k q.outs)
   |none=>none
  |none=>Ng (fun st k=>jZ c st k) 130 st k
 |.rangeFunc _ _ _ _,_,_,_=>none|.scope c,_,st,k=>jZ c st k|.label _,_,st,k=>k .normal st|.exit i,_,st,k=>k (.exit i) st|.ret,_,st,k=>k .ret st|_,_,_,_=>none
def xw (st:aO R.T):List ResultVar->Option (List (aA R.T))
 | []=>some []|.tmp t::l=>match dG [] st (.tmp t) with
  |some v=>match xw st l with
   |some vs=>some (v::vs)|none=>none
  |none=>none
 |.cell a t::l=>match dG [] st (.tmp a) with
  |some (.ref o off)=>match qy st o with
   |some (.cells cs)=>match om E t cs off with
    |some v=>match xw st l with
     |some vs=>some (v::vs)|none=>none
    |none=>none
   |some (.sg ss)=>match SB E R t ss off with
    |some v=>match xw st l with
     |some vs=>some (v::vs)|none=>none
    |none=>none
   |_=>none
  |_=>none
def Bd {T:Nat->Type}:Nat->List (aA T)->List (Nat×aA T)
 |_,[]=>[]|i,v::l=>(i,v)::Bd (i+1) l
def bI (fn:Func)(args res:List bQ)(p:aT R.T args):Option (aT R.T res):=
 match fn.body with
 |some c=>jZ E R n aj F I A c ⟨Bd 0 (jL R .sh args p),[]⟩ fun e st=>match e with
  |.exit _=>none|_=>match xw E R st fn.results.toList with
   |some vs=>bif mD res&& Nat.ble (vH res) 16 then jA R res (rP st vs) else none|none=>none
 |none=>none
def Yh {T:Nat->Type}:aA T->Bool
 |.ak (.own _) _ _=>true|.ak .full _ _=>true|.fU=>true|_=>false
def wv1 {T:Nat->Type}(st:aO T)(k:bQ)(v:aA T):aA T:=match k with
 |.sub _ _=>match IX st v with
  |some (o,t,a,b)=>.sub o t a b|none=>v
 |_=>v
def SN {T:Nat->Type}(st:aO T):List bQ->List (aA T)->List (aA T)
 |k::l,v::vs=>wv1 st k v::SN st l vs|_,vs=>vs
def qz (fn:Func)(args:List bQ)(obs:List (Nat×iD))(res:List bQ)(p:aT R.T args)(q:lW R.T obs):Option (aT R.T res×lW R.T obs):=
 match fn.body with
 |some c=>jZ E R n aj F I A c ⟨Bd 0 (jL R .any args p),mE R obs q⟩ fun e st=>match e with
  |.exit _=>none|_=>match xw E R st fn.results.toList with
   |some vs=>match jA R res (SN st res vs) with
    |some y=>match pz R st.ob obs with
     |some q'=>some (y,q')|none=>none
    |none=>none
   |none=>none
 |none=>none
def C8 (fn:Func)(args:List bQ)(τ:Ty)(p:aT R.T args):Option (List (Den R.T τ)):=
 match fn.body with
 |some c=>jZ E R n aj F I A c ⟨Bd 0 (jL R .sh args p),[]⟩ fun e st=>match e with
  |.exit _=>none|_=>match xw E R st fn.results.toList with
   |some [v]=>bif Yh v then Fj R τ v else none|_=>none
 |none=>none
end
end aR
end
