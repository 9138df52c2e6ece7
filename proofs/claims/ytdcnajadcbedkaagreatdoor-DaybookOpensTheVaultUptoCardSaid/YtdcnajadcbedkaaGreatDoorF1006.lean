import Derived.Test.YtdcnajadcbedkaaGreatDoorF1005
set_option linter.all false
section
namespace aQ
open Go
inductive Ty where
 |int (k:IntKind)
 |bool
 |str
 |slice (t:Ty)
 |st (n:Nat)
 deriving DecidableEq
inductive Cp where
 |any
 |sh
 |nil
 |full
 |own (t:Nat)
structure Vec (n:Nat) where
 l:List Int
 h:l.length=n
def Vec.at' {n:Nat}(v:Vec n)(i:Int):Int:=v.l.getD i.toNat 0
def Vec.nth {n:Nat}(v:Vec n)(j:Nat):Int:=v.l.getD j 0
def Vec.set {n:Nat}(v:Vec n)(i y:Int):Vec n:=⟨v.l.set i.toNat y,by rw[List.length_set,v.h]⟩
def Vec.rep (n:Nat)(y:Int):Vec n:=⟨List.replicate n y,List.length_replicate⟩
def Vec.lit (n:Nat)(l:List Int):Vec n:=if h:l.length=n then ⟨l,h⟩ else Vec.rep n 0
def Vec.slc {n:Nat}(v:Vec n)(i:Int)(m:Nat):Vec m:=Vec.lit m ((v.l.drop i.toNat).take m)
def Vec.wU {n:Nat}(v:Vec n)(lo:Int)(l:List Int):Vec n:=Vec.lit n (v.l.take lo.toNat++l++v.l.drop (lo.toNat+l.length))
inductive lW where
 |i (k:IntKind)
 |a (k:IntKind) (n:Nat)
inductive bW where
 |i (k:IntKind) (x:Int)
 |a (k:IntKind) (n:Nat) (v:Vec n)
def bW.w:bW->Nat
 |.i _ _=>1|.a _ n _=>n
def bW.vs:bW->List V
 |.i k x=>[.int k x]|.a k _ v=>v.l.map (V.int k)
def dU:List bW->List V
 | []=>[]|s::l=>s.vs++dU l
def lG:List bW->Nat
 | []=>0|s::l=>s.w+lG l
def H7:lW->Type
 |.i _=>Int|.a _ n=>Vec n
def ES:List lW->Type
 | []=>Unit| [k]=>H7 k|k::h::l=>H7 k×ES (h::l)
def MB:(k:lW)->H7 k->bW
 |.i k,x=>.i k x|.a k n,x=>.a k n x
def yE:(l:List lW)->ES l->List bW
 | [],_=>[]| [k],x=>[MB k x]|k::h::l,p=>MB k p.1::yE (h::l) p.2
def RL {n m:Nat}(v:Vec n):Option (Vec m):=if h:n=m then some (h▸v) else none
def H8:(k:lW)->bW->Option (H7 k)
 |.i k,.i k' x=>if k'=k then some x else none|.a k n,.a k' _ v=>if k'=k then RL (m:=n) v else none|_,_=>none
def bX:(l:List lW)->List bW->Option (ES l)
 | []=>fun vs=>match vs with
   | []=>some ()|_::_=>none
 | [k]=>fun vs=>match vs with
   | [v]=>H8 k v|_=>none
 |k::h::l=>fun vs=>match vs with
  | []=>none|v::vs=>match H8 k v with
   |some x=>match bX (h::l) vs with
    |some p=>some (x,p)|none=>none
   |none=>none
section
variable (T:Nat->Type)
def Den:Ty->Type
 |.int _=>Int|.bool=>Bool|.str=>List UInt8|.slice t=>List (Den t)|.st n=>T n
def qB:List Ty->Type
 | []=>Unit| [t]=>Den T t|t::u::l=>Den T t×qB (u::l)
inductive aA where
 |int (k:IntKind) (n:Int)
 |bool (b:Bool)
 |jH (b:Bool)
 |str (s:List UInt8)
 |gZ
 |gL
 |iq
 |iO
 |fQ
 |agg (cs:List aA)
 |bV (cs:List aA)
 |ak (c:Cp) (t:Ty) (l:List (Den T t))
 |ref (o off:Nat)
 |aW (cs:List aA) (off:Nat)
 |fq (o:Nat)
 |fD (k e:Ty) (m:List (Den T k×Den T e))
 |fn (f:Nat) (a b:List aA)
 |opt (j:Nat) (w:Bool) (v:aA)
 |aS (o:Nat) (t:Ty)
 |sub (o:Nat) (t:Ty) (a b:Int)
 |mV (o:Nat) (t:Ty) (i:Int) (off:Nat)
 |sg (ss:List bW)
 |sv (o off:Nat) (k:IntKind) (n:Nat) (lo hi:Option Int)
 |sel (o off:Nat) (k:IntKind) (n:Nat) (i:Int) (m:Nat)
 |vH (k:IntKind) (n:Nat) (v:Vec n) (i:Int)
 |undef
 |gone
inductive bL where
 |cells (cs:List (aA T))
 |map (k e:Ty) (m:List (Den T k×Den T e))
 |smap (ks vs:List (aA T))
 |arr (t:Ty) (l:List (Den T t))
 |sg (ss:List bW)
 |gone
 |ro (b:bL)
structure aO where
 fr:List (Nat×aA T)
 ob:List (Nat×bL T)
inductive bO where
 |d (t:Ty)
 |l (c:Cp) (t:Ty)
 |agg (l:List bO)
 |ref (o off:Nat)
 |aW (l:List bO) (off:Nat)
 |fq (o:Nat)
 |fD (k e:Ty)
 |fn (f:Nat) (a b:List bO)
 |fQ
 |aS (o:Nat) (t:Ty)
 |sub (o:Nat) (t:Ty)
 |sg (l:List lW)
 |undef
mutual
def sQ:bO->Type
 |.d t=>Den T t|.l _ t=>List (Den T t)|.agg l=>aV l|.ref _ _=>Unit|.aW l _=>aV l|.fq _=>Unit|.fD k e=>List (Den T k×Den T e)|.fn _ a b=>aV a×aV b|.fQ=>Unit|.aS _ _=>Unit|.sub _ _=>Int×Int|.sg l=>ES l|.undef=>Unit
def aV:List bO->Type
 | []=>Unit| [k]=>sQ k|k::h::l=>sQ k×aV (h::l)
end
inductive iC where
 |cells (l:List bO)
 |st (n:Nat)
 |map (k e:Ty)
 |arr (t:Ty)
 |sg (l:List lW)
def ET:iC->Type
 |.cells l=>aV T l|.st n=>T n|.map k e=>List (Den T k×Den T e)|.arr t=>List (Den T t)|.sg l=>ES l
def lX:List (Nat×iC)->Type
 | []=>Unit| [(_,k)]=>ET T k| (_,k)::h::l=>ET T k×lX (h::l)
def EU:List (Nat×bO)->Type
 | []=>Unit| [(_,k)]=>sQ T k| (_,k)::h::l=>sQ T k×EU (h::l)
structure Shape where
 sl:List (Nat×bO)
 ob:List (Nat×iC)
def wV:Shape->Type
 | ⟨s,[]⟩=>EU T s| ⟨s,o::os⟩=>EU T s×lX T (o::os)
def Out:List (Ex×Shape)->Type
 | []=>Empty| [(_,s)]=>wV T s| (_,s)::h::l=>wV T s⊕Out (h::l)
end
structure jV where
 T:Nat->Type
 d:(n:Nat)->T n
 lf:Nat->List Ty
 to:(n:Nat)->qB T (lf n)->T n
 of:(n:Nat)->T n->qB T (lf n)
 enc:(n:Nat)->T n->V
 ty:TypeId->Option Ty
 gl:Nat->Option ((k:IntKind)×(n:Nat)×Vec n)
structure iy (R:jV) where
 args:List bO
 res:List bO
 F:aV R.T args->Option (aV R.T res)
 d:aV R.T res
 own:Bool:=false
structure att (R:jV) where
 a:List bO
 b:List bO
 el:List bO
 F:aV R.T a->aV R.T b->Option (List (aV R.T el))
def F0:Nat:=1000000
structure qV (R:jV) where
 args:List bO
 obs:List (Nat×iC)
 res:List bO
 F:aV R.T args->lX R.T obs->Option (aV R.T res×lX R.T obs)
structure IR (R:jV) where
 it:Nat->List (att R)
 im:Nat->List (qV R)
structure Note where
 K:List Nat
 O:List Nat
 sh:Shape
 outs:List (Ex×Shape)
structure bB where
 loops:List (Nat×Note)
 joins:List (Nat×Note)
def look {U:Type}:List (Nat×U)->Nat->Option U
 | [],_=>none| (j,x)::l,i=>bif Nat.beq j i then some x else look l i
section
variable (R:jV)
def aU:(t:Ty)->Den R.T t->V
 |.int k=>fun n=>.int k n
 |.bool=>fun b=>.bool b
 |.str=>fun s=>.str s
 |.slice t=>fun l=>.ak .sh (l.map (aU t))
 |.st n=>fun x=>R.enc n x
def encs:(l:List Ty)->qB R.T l->List V
 | [],_=>[]| [t],x=>[aU R t x]|t::u::l,p=>aU R t p.1::encs (u::l) p.2
def dL:Ty->Nat
 |.st n=>(R.lf n).length|_=>1
def H9:(t:Ty)->Den R.T t
 |.int _=>(0:Int)|.bool=>false|.str=>([]:List UInt8)|.slice t=>([]:List (Den R.T t))|.st n=>R.d n
def AL (c:Cp):(t:Ty)->Den R.T t->aA R.T
 |.int k=>fun n=>.int k n
 |.bool=>fun b=>.bool b
 |.str=>fun s=>.str s
 |.slice t=>fun l=>.ak c t l
 |.st _=>fun _=>.undef
def mW (c:Cp):(l:List Ty)->qB R.T l->List (aA R.T)
 | [],_=>[]| [t],x=>[AL R c t x]|t::u::l,p=>AL R c t p.1::mW c (u::l) p.2
def je (c:Cp):(t:Ty)->Den R.T t->aA R.T
 |.st n=>fun x=>.agg (mW R c (R.lf n) (R.of n x))
 |.int k=>fun n=>.int k n
 |.bool=>fun b=>.bool b
 |.str=>fun s=>.str s
 |.slice t=>fun l=>.ak c t l
def uy {t u:Ty}(l:List (Den R.T t)):Option (List (Den R.T u)):=if h:t=u then some (h▸l) else none
def RN (k:IntKind):aA R.T->Option Int
 |.int k' n=>if k=k' then some n else none|_=>none
def RO:aA R.T->Option Bool
 |.bool b=>some b|.jH b=>some b|_=>none
def RP:aA R.T->Option (List UInt8)
 |.str s=>some s|_=>none
def EW (t:Ty):aA R.T->Option (List (Den R.T t))
 |.ak _ _ l=>uy R l|.fQ=>some []|_=>none
def uz:(t:Ty)->aA R.T->Option (Den R.T t)
 |.int k=>fun v=>RN R k v
 |.bool=>fun v=>RO R v
 |.str=>fun v=>RP R v
 |.slice t=>fun v=>EW R t v
 |.st _=>fun _=>none
def hd1:List (aA R.T)->aA R.T
 | [v]=>v|_=>.gone
def Cv:(l:List Ty)->List (aA R.T)->Option (qB R.T l)
 | []=>fun vs=>match vs with
   | []=>some ()|_::_=>none
 | [t]=>fun vs=>uz R t (hd1 R vs)
 |t::u::l=>fun vs=>match vs with
  | []=>none|v::vs=>match uz R t v with
   |some x=>match Cv (u::l) vs with
    |some p=>some (x,p)|none=>none
   |none=>none
def EX (n:Nat):aA R.T->Option (R.T n)
 |.agg cs=>match Cv R (R.lf n) cs with
  |some p=>some (R.to n p)|none=>none
 |_=>none
def AO:(t:Ty)->aA R.T->Option (Den R.T t)
 |.st n=>fun v=>EX R n v
 |.int k=>fun v=>RN R k v
 |.bool=>fun v=>RO R v
 |.str=>fun v=>RP R v
 |.slice t=>fun v=>EW R t v
def aA.cells {T:Nat->Type}:aA T->List (aA T)
 |.agg cs=>cs|v=>[v]
mutual
def oH {T:Nat->Type}(o:Nat):aA T->Bool
 |.ref p _=>Nat.beq p o|.fq p=>Nat.beq p o|.agg cs=>qC o cs|.bV cs=>qC o cs|.aW cs _=>qC o cs|.fn _ a b=>qC o a||qC o b|.opt _ _ v=>oH o v|.aS p _=>Nat.beq p o|.sub p _ _ _=>Nat.beq p o|.mV p _ _ _=>Nat.beq p o|.sv p _ _ _ _ _=>Nat.beq p o|.sel p _ _ _ _ _=>Nat.beq p o|_=>false
def qC {T:Nat->Type}(o:Nat):List (aA T)->Bool
 | []=>false|v::l=>oH o v||qC o l
end
def bL.oH {T:Nat->Type}(o:Nat):bL T->Bool
 |.cells cs=>qC o cs|.smap ks vs=>qC o ks||qC o vs|.ro b=>bL.oH o b|_=>false
mutual
def wk {T:Nat->Type}(t:Nat):aA T->aA T
 |.ak (.own u) ty l=>bif Nat.beq u t then .ak .any ty l else .ak (.own u) ty l|.agg cs=>.agg (zA t cs)|.bV cs=>.bV (zA t cs)|.aW cs off=>.aW (zA t cs) off|.fn f a b=>.fn f (zA t a) (zA t b)|.opt j w v=>.opt j w (wk t v)|v=>v
def zA {T:Nat->Type}(t:Nat):List (aA T)->List (aA T)
 | []=>[]|v::l=>wk t v::zA t l
end
def bL.wk {T:Nat->Type}(t:Nat):bL T->bL T
 |.cells cs=>.cells (zA t cs)|.smap ks vs=>.smap (zA t ks) (zA t vs)|.ro b=>.ro (bL.wk t b)|o=>o
def pq {U:Type}(f:U->U):List (Nat×U)->List (Nat×U)
 | []=>[]| (i,x)::l=>(i,f x)::pq f l
def ku {U:Type}(i:Nat):List (Nat×U)->List (Nat×U)
 | []=>[]| (j,x)::l=>bif Nat.beq j i then ku i l else (j,x)::ku i l
def aO.wk {T:Nat->Type}(t:Nat)(st:aO T):aO T:=⟨pq (aQ.wk t) st.fr,pq (bL.wk t) st.ob⟩
def Xo {T:Nat->Type}(j:Nat):aA T->aA T
 |.opt i w v=>bif Nat.beq i j then .gone else .opt i w v|v=>v
def aO.put {T:Nat->Type}(st:aO T)(i:Nat)(v:aA T):aO T:={st with fr:=(i,v)::pq (Xo i) (ku i st.fr)}
def aO.iD {T:Nat->Type}(st:aO T)(d:Option Nat)(v:aA T):aO T:=match d with
 |some i=>st.put i v|none=>st
def Xp {T:Nat->Type}(j:Nat)(b:Bool):aA T->aA T
 |.opt i w v=>bif Nat.beq i j then (bif (b==w) then v else .undef) else .opt i w v|v=>v
def aO.learn {T:Nat->Type}(st:aO T)(j:Nat)(b:Bool):aO T:={st with fr:=(j,.jH b)::pq (Xp j b) (ku j st.fr)}
def aO.Ia {T:Nat->Type}(st:aO T)(c:Operand)(b:Bool):aO T:=match c with
 |.tmp j=>st.learn j b|_=>st
def EY {T:Nat->Type}(o:Nat)(v:aA T):aA T:=bif oH o v then .gone else v
def EZ {T:Nat->Type}(o:Nat):List (aA T)->List (aA T)
 | []=>[]|v::l=>EY o v::EZ o l
def bL.kill {T:Nat->Type}(o:Nat):bL T->bL T
 |.cells cs=>.cells (EZ o cs)|v=>bif bL.oH o v then .gone else v
def aO.new {T:Nat->Type}(st:aO T)(o:Nat)(b:bL T):aO T:=⟨pq (EY o) st.fr,(o,b)::pq (bL.kill o) (ku o st.ob)⟩
def aO.set {T:Nat->Type}(st:aO T)(o:Nat)(b:bL T):aO T:={st with ob:=(o,b)::ku o st.ob}
def aO.del {T:Nat->Type}(st:aO T)(o:Nat):aO T:={st with ob:=ku o st.ob}
def Xq {T:Nat->Type}:bL T->bL T
 |.ro b=>Xq b|b=>b
def qD {T:Nat->Type}(st:aO T)(o:Nat):Option (bL T):=match look st.ob o with
 |some b=>some (Xq b)|none=>none
def vI {T:Nat->Type}:bL T->Bool
 |.ro _=>true|.gone=>true|_=>false
def bM (i:Nat):List Nat->Bool
 | []=>false|j::l=>Nat.beq i j||bM i l
mutual
def solid {T:Nat->Type}(W:List Nat):aA T->Bool
 |.ak (.own _) _ _=>false|.ref o _=>!(bM o W)|.fq o=>!(bM o W)|.agg cs=>vJ W cs|.bV cs=>vJ W cs|.aW cs _=>vJ W cs|.fn _ a b=>vJ W a&& vJ W b|.opt _ _ _=>false|.aS o _=>!(bM o W)|.sub o _ _ _=>!(bM o W)|.mV o _ _ _=>!(bM o W)|.sv o _ _ _ _ _=>!(bM o W)|.sel o _ _ _ _ _=>!(bM o W)|.gone=>false|_=>true
def vJ {T:Nat->Type}(W:List Nat):List (aA T)->Bool
 | []=>true|v::l=>solid W v&& vJ W l
end
def sS {T:Nat->Type}(W:List Nat):bL T->Bool
 |.cells cs=>vJ W cs|.map _ _ _=>true|.smap ks vs=>vJ W ks&& vJ W vs|.arr _ _=>true|.sg _=>true|.ro b=>sS W b|.gone=>false
def sU {U:Type}(p:Nat->U->Bool)(f:U->U)(l:List (Nat×U)):List Nat->List (Nat×U)
 | []=>[]|i::is=>match look l i with
  |some x=>bif p i x then (i,f x)::sU p f l is else sU p f l is|none=>sU p f l is
def Xr {T:Nat->Type}:aA T->aA T
 |.ak (.own _) t l=>.ak .any t l|v=>v
def base {T:Nat->Type}(W K O:List Nat)(mark:bL T->bL T)(st:aO T):aO T:=
 ⟨sU (fun i v=>!(bM i W)&& solid W (Xr v)) Xr st.fr K,sU (fun o b=>!(bM o W)&& sS W b) mark st.ob O⟩
def aO.over {T:Nat->Type}(st b:aO T):aO T:=⟨st.fr++b.fr,st.ob++b.ob⟩
def E5 {T:Nat->Type}:Value->Option (aA T)
 |.bool b=>some (.jH b)|.int k n=>some (.int k n)|.string s=>some (.str s.data.toList)|.pointer none=>some .gZ|.slice none 0 0=>some .fQ|.map none=>some .iq|.nilFunc=>some .gL|.nilIface=>some .iO|_=>none
def Ib {T:Nat->Type}:List Value->Option (List (aA T))
 | []=>some []|v::l=>match E5 v with
  |some x=>match Ib l with
   |some y=>some (x::y)|none=>none
  |none=>none
def Ic {T:Nat->Type}:Value->Option (aA T)
 |.agg cs=>match Ib cs.toList with
  |some l=>some (.agg l)|none=>none
 |v=>E5 v
def RQ {T:Nat->Type}(g:List (Nat×Bool)):aA T->Option (aA T)
 |.opt j w v=>match look g j with
  |some u=>some (bif u==w then v else .undef)|none=>none
 |v=>some v
def dF {T:Nat->Type}(g:List (Nat×Bool))(st:aO T):Operand->Option (aA T)
 |.tmp t=>match look st.fr t with
  |some v=>RQ g v|none=>none
 |.const v=>Ic v|.func f=>some (.fn f [] [])|.global _=>none
def qW {T:Nat->Type}(g:List (Nat×Bool))(st:aO T):List Operand->Option (List (aA T))
 | []=>some []|x::l=>match dF g st x with
  |some v=>match qW g st l with
   |some vs=>some (v::vs)|none=>none
  |none=>none
def Ie {T:Nat->Type}(g:List (Nat×Bool))(st:aO T):List (Nat×Operand)->Option (List (Nat×aA T))
 | []=>some []| (i,x)::l=>match dF g st x with
   |some v=>match Ie g st l with
    |some vs=>some ((i,v)::vs)|none=>none
   |none=>none
def sV:List bW->Nat->Option (List bW×List bW)
 |ss,0=>some ([],ss)| [],_+1=>none|s::ss,n+1=>bif Nat.ble s.w (n+1) then (match sV ss (n+1-s.w) with
  |some (a,b)=>some (s::a,b)|none=>none) else none
def Cw {T:Nat->Type}(k:IntKind):List (aA T)->Option (List Int)
 | []=>some []|.int k' x::l=>if k'=k then (match Cw k l with
  |some xs=>some (x::xs)|none=>none) else none
 |_=>none
def Ig {U:Type}(l:List U):Option Int->Option Int->List U
 |none,none=>l|some i,none=>l.drop i.toNat|none,some j=>l.take j.toNat|some i,some j=>(l.take j.toNat).drop i.toNat
def RU {T:Nat->Type}(st:aO T)(o off:Nat)(k:IntKind)(n:Nat)(lo hi:Option Int):Option (List Int):=
 match qD st o with
 |some (.sg ss)=>match sV ss off with
  |some (_,.a k' n' v::_)=>if k'=k then (bif Nat.beq n' n then some (Ig v.l lo hi) else none) else none|_=>none
 |some (.cells cs)=>bif Nat.ble (off+n) cs.length then (match Cw k ((cs.drop off).take n) with
  |some l=>some (Ig l lo hi)|none=>none) else none
 |_=>none
def E8 {U:Type}(l:List U)(a b:Int):List U:=(l.take b.toNat).drop a.toNat
def yF {T:Nat->Type}(st:aO T):aA T->aA T
 |.ref o off=>match qD st o with
  |some (.cells cs)=>.aW cs off|_=>.ref o off
 |.fq o=>match qD st o with
  |some (.map k e m)=>.fD k e m|_=>.fq o
 |.aS o t=>match qD st o with
  |some (.arr t' l)=>if t'=t then .ak .sh t' l else .aS o t|_=>.aS o t
 |.sub o t a b=>match qD st o with
  |some (.arr t' l)=>if t'=t then .ak .sh t' (E8 l a b) else .sub o t a b|_=>.sub o t a b
 |.sv o off k n lo hi=>match RU st o off k n lo hi with
  |some l=>.ak .sh (.int k) l|none=>.sv o off k n lo hi
 |v=>v
def MC {T:Nat->Type}(st:aO T):List (aA T)->List (aA T)
 | []=>[]|v::l=>yF st v::MC st l
def E9 {T:Nat->Type}(st:aO T):aA T->aA T
 |.fn f a b=>.fn f (MC st a) (MC st b)|.agg cs=>.agg (MC st cs)|v=>yF st v
def rW {T:Nat->Type}(st:aO T):List (aA T)->List (aA T)
 | []=>[]|v::l=>E9 st v::rW st l
def Xt {T:Nat->Type}:aA T->Bool
 |.agg _=>false|.sg _=>false|.bV _=>false|.gone=>false|.undef=>false|.opt _ _ _=>false|_=>true
def Cx {T:Nat->Type}:List (aA T)->Bool
 | []=>true|v::l=>Xt v&& Cx l
def wW {T:Nat->Type}:aA T->Bool
 |.gone=>false|.sg _=>false|.opt _ _ _=>false|_=>true
mutual
def ql {T:Nat->Type}:aA T->Bool
 |.int _ _=>true|.bool _=>true|.jH _=>true|.str _=>true|.gZ=>true|.gL=>true|.iq=>true|.iO=>true|.ak .sh _ _=>true|.agg cs=>zB cs|.bV cs=>zB cs|.fD _ _ _=>true|.aW cs _=>zB cs|.fn _ a b=>zB a&& zB b|.sg _=>true|_=>false
def zB {T:Nat->Type}:List (aA T)->Bool
 | []=>true|v::l=>ql v&& zB l
end
def wX {T:Nat->Type}:aA T->aA T
 |.ak _ t l=>.ak .sh t l|v=>v
def ME {T:Nat->Type}:List (aA T)->List (aA T)
 | []=>[]|v::l=>wX v::ME l
def Cy {T:Nat->Type}:aA T->aA T
 |.ak _ t l=>.ak .sh t l|.agg cs=>.agg (ME cs)|v=>v
def MF {T:Nat->Type}:aA T->Bool
 |.ak _ _ _=>true|.fQ=>true|v=>ql v
def RV {T:Nat->Type}:List (aA T)->Bool
 | []=>true|v::l=>MF v&& RV l
def ahS {T:Nat->Type}:aA T->Bool
 |.agg cs=>RV cs|v=>MF v
def Cz {T:Nat->Type}:List (aA T)->Bool
 | []=>true|v::l=>ahS v&& Cz l
mutual
def xW:bO->Bool
 |.d _=>true|.l c _=>match c with
  |.any=>true|.sh=>true|_=>false
 |.agg l=>mD l|.aW l _=>mD l|.fD _ _=>true|.fn _ a b=>mD a&& mD b|.sg _=>true|_=>false
def mD:List bO->Bool
 | []=>true|k::l=>xW k&& mD l
def dep:bO->Nat
 |.agg l=>vK l+3|.aW l _=>vK l+3|.fn _ a b=>max (vK a) (vK b)+3|_=>3
def vK:List bO->Nat
 | []=>0|k::l=>max (dep k) (vK l)
end
def Xu:Ty->Bool
 |.int _=>true|.bool=>true|.str=>true|_=>false
def Ih:List bO->Bool
 | []=>true|.d t::l=>Xu t&& Ih l|.sg _::l=>Ih l|_=>false
mutual
def encS:(k:bO)->sQ R.T k->V
 |.d t,x=>aU R t x|.l _ t,x=>aU R (.slice t) x|.agg l,x=>.agg (bR l x)|.aW l off,x=>.aW (bR l x) off|.fD k e,x=>.fD (List.map (fun p=>aU R k p.1) x) (List.map (fun p=>aU R e p.2) x)
 |.fn f a b,x=>.fn (.func f) (bR a x.1) (bR b x.2)|.fQ,_=>.ak .sh []|.ref _ _,_=>aP|.fq _,_=>aP|.aS _ _,_=>aP|.sub _ _,_=>aP|.sg l,x=>.agg (dU (yE l x))|.undef,_=>aP
def bR:(l:List bO)->aV R.T l->List V
 | [],_=>[]| [k],x=>[encS k x]|k::h::l,p=>encS k p.1::bR (h::l) p.2
end
def jW:List V->V
 | [v]=>v|vs=>.bV vs
def Ii:Cp->Cp->Bool
 |_,.any=>true|.sh,.sh=>true|.nil,.nil=>true|.nil,.own _=>true|.full,.own _=>true|.full,.full=>true|.own t,.own u=>Nat.beq t u|_,_=>false
def RX (c:Cp)(t:Ty):aA R.T->Option (List (Den R.T t))
 |.ak c' _ l=>bif Ii c' c then uy R l else none|.fQ=>bif Ii .nil c then some [] else none|_=>none
def Ij {k e k' e':Ty}(m:List (Den R.T k'×Den R.T e')):Option (List (Den R.T k×Den R.T e)):=if h:k'=k/\e'=e then some (by rw[<-h.1,<-h.2];exact m) else none
mutual
def pk:(k:bO)->aA R.T->Option (sQ R.T k)
 |.d t=>fun v=>AO R t v
 |.l c t=>fun v=>RX R c t v
 |.agg l=>fun v=>match v with
  |.agg cs=>jw l cs|_=>none
 |.ref o off=>fun v=>match v with
  |.ref p off'=>bif Nat.beq p o&& Nat.beq off' off then some () else none|_=>none
 |.aW l off=>fun v=>match v with
  |.aW cs off'=>bif Nat.beq off' off then jw l cs else none|_=>none
 |.fq o=>fun v=>match v with
  |.fq p=>bif Nat.beq p o then some () else none|_=>none
 |.fD k e=>fun v=>match v with
  |.fD _ _ m=>Ij R m|_=>none
 |.fn f a b=>fun v=>match v with
  |.fn f' a' b'=>bif Nat.beq f' f then (match jw a a' with
   |some x=>match jw b b' with
    |some y=>some (x,y)|none=>none
   |none=>none) else none
  |_=>none
 |.fQ=>fun v=>match v with
  |.fQ=>some ()|_=>none
 |.aS o t=>fun v=>match v with
  |.aS p t'=>bif Nat.beq p o then (if t'=t then some () else none) else none|_=>none
 |.sub o t=>fun v=>match v with
  |.sub p t' a b=>bif Nat.beq p o then (if t'=t then some (a,b) else none) else none|_=>none
 |.sg l=>fun v=>match v with
  |.sg ss=>bX l ss|_=>none
 |.undef=>fun v=>match v with
  |.undef=>some ()|_=>none
def jw:(l:List bO)->List (aA R.T)->Option (aV R.T l)
 | []=>fun vs=>match vs with
   | []=>some ()|_::_=>none
 | [k]=>fun vs=>match vs with
   | [v]=>pk k v|_=>none
 |k::h::l=>fun vs=>match vs with
  | []=>none|v::vs=>match pk k v with
   |some x=>match jw (h::l) vs with
    |some p=>some (x,p)|none=>none
   |none=>none
end
mutual
def up (c:Cp):(k:bO)->sQ R.T k->aA R.T
 |.d t,x=>je R c t x|.l c t,x=>.ak c t x|.agg l,x=>.agg (jI c l x)|.ref o off,_=>.ref o off|.aW l off,x=>.aW (jI c l x) off|.fq o,_=>.fq o|.fD k e,x=>.fD k e x|.fn f a b,x=>.fn f (jI c a x.1) (jI c b x.2)|.fQ,_=>.fQ|.aS o t,_=>.aS o t|.sub o t,x=>.sub o t x.1 x.2|.sg l,x=>.sg (yE l x)|.undef,_=>.undef
def jI (c:Cp):(l:List bO)->aV R.T l->List (aA R.T)
 | [],_=>[]| [k],x=>[up c k x]|k::h::l,p=>up c k p.1::jI c (h::l) p.2
end
def CB:(k:iC)->bL R.T->Option (ET R.T k)
 |.cells l=>fun o=>match o with
  |.cells cs=>jw R l cs|_=>none
 |.st n=>fun o=>match o with
  |.cells cs=>EX R n (.agg cs)|_=>none
 |.map k e=>fun o=>match o with
  |.map _ _ m=>Ij R m|_=>none
 |.arr t=>fun o=>match o with
  |.arr _ l=>uy R l|_=>none
 |.sg l=>fun o=>match o with
  |.sg ss=>bX l ss|_=>none
def pz:(k:iC)->ET R.T k->bL R.T
 |.cells l,x=>.cells (jI R .any l x)|.st n,x=>.cells (mW R .any (R.lf n) (R.of n x))|.map k e,x=>.map k e x|.arr t,x=>.arr t x|.sg l,x=>.sg (yE l x)
def vL (st:List (Nat×aA R.T)):(l:List (Nat×bO))->Option (EU R.T l)
 | []=>some ()| [(i,k)]=>match look st i with
   |some v=>pk R k v|none=>none
 | (i,k)::h::l=>match look st i with
   |some v=>match pk R k v with
    |some x=>match vL st (h::l) with
     |some p=>some (x,p)|none=>none
    |none=>none
   |none=>none
def MG:(l:List (Nat×bO))->EU R.T l->List (Nat×aA R.T)
 | [],_=>[]| [(i,k)],x=>[(i,up R .any k x)]| (i,k)::h::l,p=>(i,up R .any k p.1)::MG (h::l) p.2
def pE (st:List (Nat×bL R.T)):(l:List (Nat×iC))->Option (lX R.T l)
 | []=>some ()| [(i,k)]=>match look st i with
   |some v=>CB R k v|none=>none
 | (i,k)::h::l=>match look st i with
   |some v=>match CB R k v with
    |some x=>match pE st (h::l) with
     |some p=>some (x,p)|none=>none
    |none=>none
   |none=>none
def mE:(l:List (Nat×iC))->lX R.T l->List (Nat×bL R.T)
 | [],_=>[]| [(i,k)],x=>[(i,pz R k x)]| (i,k)::h::l,p=>(i,pz R k p.1)::mE (h::l) p.2
def pack (st:aO R.T):(s:Shape)->Option (wV R.T s)
 | ⟨s,[]⟩=>vL R st.fr s| ⟨s,o::os⟩=>match vL R st.fr s with
   |some x=>match pE R st.ob (o::os) with
    |some y=>some (x,y)|none=>none
   |none=>none
def Ik {T:Nat->Type}:aA T->Bool
 |.fQ=>true|.ak .nil _ l=>l.isEmpty|.ak .full _ l=>l.isEmpty|_=>false
def uD {T:Nat->Type}(W:List Nat):List (Nat×bO)->aO T->aO T
 | [],st=>st| (i,.aS o t)::l,st=>match look st.fr i with
   |some v=>bif Ik v&& bM o W then uD W l ⟨(i,.aS o t)::(st.new o (.arr t [])).fr,(st.new o (.arr t [])).ob⟩ else uD W l st|none=>uD W l st
 |_::l,st=>uD W l st
def sW (W:List Nat)(st:aO R.T)(s:Shape):Option (wV R.T s):=pack R (uD W s.sl st) s
def unpack:(s:Shape)->wV R.T s->aO R.T
 | ⟨s,[]⟩,x=>⟨MG R s x,[]⟩| ⟨s,o::os⟩,x=>⟨MG R s x.1,mE R (o::os) x.2⟩
def Fa:Ex->Ex->Bool
 |.normal,.normal=>true|.ret,.ret=>true|.exit i,.exit j=>Nat.beq i j|_,_=>false
def Fb (W:List Nat)(e:Ex)(st:aO R.T):(l:List (Ex×Shape))->Option (Out R.T l)
 | []=>none| [(x,s)]=>bif Fa e x then sW R W st s else none| (x,s)::h::l=>bif Fa e x then (match sW R W st s with
   |some p=>some (.inl p)|none=>none) else (match Fb W e st (h::l) with
   |some p=>some (.inr p)|none=>none)
def Fe {β:Type}(b:aO R.T)(k:Ex->aO R.T->Option β):(l:List (Ex×Shape))->Out R.T l->Option β
 | [],_=>none| [(x,s)],p=>k x (b.over (unpack R s p))| (x,s)::h::l,p=>Sum.elim (fun q=>k x (b.over (unpack R s q))) (fun q=>Fe b k (h::l) q) p
end
end aQ
end
section
namespace aQ
open Go
inductive fC (R:jV) where
 |t (v:aA R.T)
 |c (b:Bool) (v:aA R.T)
 |w (v:aA R.T) (st:aO R.T)
 |wc (b:Bool) (v:aA R.T) (st:aO R.T)
 |p (U:Type) (d:U) (o:Option U) (f:U->aA R.T)
section
variable (E:Env)(R:jV)
def RY {T:Nat->Type}(agg:Bool)(n:Nat)(cs:List (aA T))(off:Nat):Option (aA T):=bif agg then (bif Nat.ble (off+n) cs.length then some (.agg ((cs.drop off).take n)) else none) else cs[off]?
def ow {T:Nat->Type}(t:TypeId)(cs:List (aA T))(off:Nat):Option (aA T):=
 match jU E.P t with
 |some a=>match dM E.P t with
  |some n=>RY a n cs off|none=>none
 |none=>none
def Il {T:Nat->Type}(cs:List (aA T))(off:Nat)(vs:List (aA T)):List (aA T):=cs.take off++vs++cs.drop (off+vs.length)
def RZ {T:Nat->Type}(place:Nat->Option (Nat×Nat))(cells:List (aA T)):List (Nat×aA T)->Option (List (aA T))
 | []=>some cells| (i,v)::rest=>match place i with
   |none=>none|some (off,size)=>bif Nat.beq v.cells.length size&& Nat.ble (off+size) cells.length&& wW v then RZ place (Il cells off v.cells) rest else none
def Im {T:Nat->Type}(t:TypeId):Option (aA T):=match E.P.info? t with
 |some i=>match i.zero with
  |some z=>Ic z|none=>none
 |none=>none
def MH {T:Nat->Type}:aA T->Option Bool
 |.bool a=>some a|.jH a=>some a|_=>none
def R3 {T:Nat->Type}(x y:aA T):Option Bool:=match MH x,MH y with
 |some a,some b=>some (a==b)|_,_=>none
def Io {T:Nat->Type}(eq:TypeId->aA T->aA T->Option Bool)(xs ys:List (aA T)):List Field->Option Bool
 | []=>some true|f::fs=>if f.name= "_" then Io eq xs ys fs else match ow E f.type xs f.offset with
  |none=>none|some a=>match ow E f.type ys f.offset with
   |none=>none|some b=>match eq f.type a b with
    |none=>none|some r=>match Io eq xs ys fs with
     |none=>none|some q=>some (r&& q)
def MI {T:Nat->Type}(eq:TypeId->aA T->aA T->Option Bool)(e:TypeId)(sz:Nat)(xs ys:List (aA T)):List Nat->Option Bool
 | []=>some true|i::is=>match ow E e xs (i*sz) with
  |none=>none|some a=>match ow E e ys (i*sz) with
   |none=>none|some b=>match eq e a b with
    |none=>none|some r=>match MI eq e sz xs ys is with
     |none=>none|some q=>some (r&& q)
def Ip {T:Nat->Type}:Nat->TypeId->aA T->aA T->Option Bool
 |0,_,_,_=>none|d+1,t,x,y=>
  match E.P.underlying t,x,y with
  |some (.struct fs),.agg xs,.agg ys=>if E.P.stoodInHeld t then none else Io E (Ip d) xs ys fs.toList|some (.array n e),.agg xs,.agg ys=>match dM E.P e with
   |some sz=>MI E (Ip d) e sz xs ys (List.range n)|none=>none
  |some (.struct _),_,_=>none|some (.array _ _),_,_=>none|some .bool,x,y=>R3 x y|some (.int _),.int k a,.int k' b=>if k=k' then some (a==b) else none|some .string,.str a,.str b=>some (a==b)|_,_,_=>none
def R4 {T:Nat->Type}(t:TypeId)(x y:aA T):Option Bool:=
 match E.P.underlying t,x,y with
 |some (.struct _),.agg a,.agg b=>if E.P.eqGuardType E.P.depth t then none else Ip E 8 t (.agg a) (.agg b)|some (.array _ _),.agg a,.agg b=>if E.P.eqGuardType E.P.depth t then none else Ip E 8 t (.agg a) (.agg b)|some (.func ..),.gL,.gL=>some true|some (.func ..),.gL,.fn _ _ _=>some false|some (.func ..),.fn _ _ _,.gL=>some false|some .bool,x,y=>R3 x y|_,_,_=>none
def R5 (op:BinOp)(k:IntKind)(x y:Int):Option (fC R):=
 match op with
 |.add=>some (.t (.int k (k.wrap (x+y))))|.sub=>some (.t (.int k (k.wrap (x-y))))|.mul=>some (.t (.int k (k.wrap (x*y))))|.quo=>some (.c (!(y==0)) (.int k (k.wrap (x.tdiv y))))|.rem=>some (.c (!(y==0)) (.int k (x.tmod y)))|.and=>some (.t (.int k (k.wrap (BitVec.ofInt k.bits x&&& BitVec.ofInt k.bits y).toNat)))|.or=>some (.t (.int k (k.wrap (BitVec.ofInt k.bits x|||BitVec.ofInt k.bits y).toNat)))|.xor=>some (.t (.int k (k.wrap (BitVec.ofInt k.bits x^^^BitVec.ofInt k.bits y).toNat)))
 |.andNot=>some (.t (.int k (k.wrap (BitVec.ofInt k.bits x&&& ~~~BitVec.ofInt k.bits y).toNat)))|.eql=>some (.t (.bool (x==y)))|.neq=>some (.t (.bool (x !=y)))|.lss=>some (.t (.bool (decide (x<y))))|.leq=>some (.t (.bool (decide (x<=y))))|.gtr=>some (.t (.bool (decide (x>y))))|.geq=>some (.t (.bool (decide (x>=y))))|_=>none
def Xv (op:BinOp)(k:IntKind)(x y:Int):Option (fC R):=
 match op with
 |.shl=>some (.c (decide (0<=y)) (.int k (k.wrap (x*2^min y.toNat k.bits))))|.shr=>some (.c (decide (0<=y)) (.int k (x.fdiv (2^min y.toNat k.bits))))|_=>none
def Xw (op:BinOp)(x y:List UInt8):Option (fC R):=
 match op with
 |.add=>some (.c (decide (((x.length+y.length:Nat):Int)<=IntKind.i64.max)) (.str (x++y)))|.eql=>some (.t (.bool (x==y)))|.neq=>some (.t (.bool (!(x==y))))|.lss=>some (.t (.bool (Op.bytesLess x y)))|.leq=>some (.t (.bool (Op.bytesLess x y||x==y)))|.gtr=>some (.t (.bool (!(Op.bytesLess x y||x==y))))|.geq=>some (.t (.bool (!(Op.bytesLess x y))))|_=>none
def Iq:BinOp->Bool
 |.shl=>true|.shr=>true|_=>false
def Xx (op:BinOp)(t:TypeId)(x y:aA R.T):Option (fC R):=
 match x,y with
 |.int k a,.int k' b=>bif Iq op then Xv R op k a b else (if k=k' then R5 R op k a b else none)|.str a,.str b=>Xw R op a b|x,y=>match op with
  |.eql=>match R4 E t x y with
   |some b=>some (.t (.bool b))|none=>none
  |.neq=>match R4 E t x y with
   |some b=>some (.t (.bool (!b)))|none=>none
  |_=>none
def Xy (op:UnOp)(x:aA R.T):Option (fC R):=
 match op,x with
 |.neg,.int k n=>some (.t (.int k (k.wrap (0-n))))|.xor,.int k n=>R5 R .xor k (if k.signed then-1 else k.max) n|.not,.bool b=>some (.t (.bool (!b)))|.not,.jH b=>some (.t (.jH (!b)))|_,_=>none
def R6 (src dst:TypeId)(x:aA R.T):Option (fC R):=
 match E.P.underlying src,E.P.underlying dst,x with
 |some _,some (.int k),.int _ n=>some (.t (.int k (k.wrap n)))|some _,some .string,.str s=>some (.t (.str s))|some (.slice e),some .string,.ak _ (.int .u8) l=>match E.P.underlying e with
  |some (.int .u8)=>some (.t (.str (List.map (fun n:Int=>UInt8.ofNat n.toNat) l)))
  |_=>none
 |some (.slice e),some .string,.fQ=>match E.P.underlying e with
  |some (.int .u8)=>some (.t (.str []))|_=>none
 |_,_,_=>none
def jl (i:Int)(n:Nat):Bool:=decide (0<=i/\i<=n)
def CF:Option (aA R.T)->Option (Option Int)
 |none=>some none|some (.int _ n)=>some (some n)|_=>none
def uE {U:Type}(l:List U):Option Int->Option Int->List U
 |none,none=>l|some i,none=>l.drop i.toNat|none,some j=>l.take j.toNat|some i,some j=>(l.take j.toNat).drop i.toNat
def Xz (n:Nat):Option Int->Option Int->Bool
 |none,none=>true|some i,none=>jl i n|none,some j=>jl j n|some i,some j=>jl j n&& jl i j.toNat
def R7 (t:TypeId)(x:aA R.T)(lo hi:Option (aA R.T)):Option (fC R):=
 match CF R lo,CF R hi with
 |some lo,some hi=>match E.P.underlying t,x with
  |some .string,.str s=>some (.c (Xz s.length lo hi) (.str (uE s lo hi)))|some (.slice e),.ak _ u l=>match dM E.P e with
   |some sz=>bif Nat.beq sz (dL R u) then some (.c (Xz l.length lo hi) (.ak .any u (uE l lo hi))) else none|none=>none
  |_,_=>none
 |_,_=>none
def Ir {T:Nat->Type}(st:aO T):aA T->Option (Nat×Ty×Int×Int)
 |.aS o t=>match qD st o with
  |some (.arr _ l)=>some (o,t,0,(l.length:Int))|_=>none
 |.sub o t a b=>some (o,t,a,b)|_=>none
def ahT (a b c:Int):Bool:=decide (0<=a/\a<=b/\b<=c)
def atu (i n:Int):Bool:=decide (0<=i/\i<n)
def sZ (n:Int):Option Int->Int
 |some i=>i|none=>n
def pW:Option Int->Int
 |some i=>i|none=>0
def R8 (t:TypeId)(x:aA R.T)(lo hi:Option (aA R.T))(st:aO R.T):Option (fC R):=
 match Ir st x,CF R lo,CF R hi,E.P.underlying t with
 |some (o,τ,a,b),some lo,some hi,some (.slice e)=>match dM E.P e with
  |some sz=>bif Nat.beq sz (dL R τ) then some (.c (ahT (pW lo) (sZ (b-a) hi) (b-a)) (.sub o τ (a+pW lo) (a+sZ (b-a) hi))) else none|none=>none
 |_,_,_,_=>none
def CG (t:TypeId)(x:aA R.T)(lo hi:Option (aA R.T))(st:aO R.T):Option (fC R):=
 match R8 E R t x lo hi st with
 |some r=>some r|none=>R7 E R t x lo hi
def ahU {T:Nat->Type}(t:TypeId)(f:Nat)(x:aA T):Option (aA T):=
 match x9 E.P t f with
 |some (o,_)=>match x with
  |.ref p off=>some (.ref p (off+o))|.aW cs off=>some (.aW cs (off+o))|.mV p t i off=>some (.mV p t i (off+o))|_=>none
 |none=>none
def R9 (t:TypeId)(m x:aA R.T)(ok:Bool)(st:aO R.T):Option (fC R):=
 (fun (_:Env) (_:jV) (_:TypeId) (_ _:aA R.T) (_:Bool) (_:aO R.T)=>none) E R t m x ok st
def atv {T:Nat->Type}:aA T->aA T->Option Bool
 |.int k a,.int k' b=>if k=k' then some (a==b) else none|.str a,.str b=>some (a==b)|_,_=>none
def Iu (t:TypeId)(m x v:aA R.T)(st:aO R.T):Option (fC R):=
 (fun (_:Env) (_:jV) (_:TypeId) (_ _ _:aA R.T) (_:aO R.T)=>none) E R t m x v st
def jJ:Ty->Bool
 |.st _=>true|_=>false
def Iw (t:TypeId):Option (TypeId×Ty×Nat×Nat):=
 match lT E.P t with
 |some e=>match R.ty e,dM E.P e,u7 E.P e,jU E.P e,jc E.P e with
  |some u,some sz,some gI,some ag,some z=>bif Nat.beq sz (dL R u)&& Nat.blt 0 sz&& (ag||Nat.beq sz 1)&& Nat.beq z.cells.length sz&& (ag==jJ u) then some (e,u,sz,gI) else none|_,_,_,_,_=>none
 |none=>none
def AP (t:Ty)(n:Nat):List (Nat×aA R.T)->Option (List (Den R.T t))
 | []=>some []| (i,v)::l=>bif Nat.beq i n then (match AO R t v with
   |some x=>match AP t (n+1) l with
    |some y=>some (x::y)|none=>none
   |none=>none) else none
def XA (t:TypeId)(len:Nat)(ps:List (Nat×aA R.T)):Option (fC R):=
 match Iw E R t with
 |some (_,u,sz,_)=>bif Nat.ble (len*sz) (2^24)&& Nat.beq ps.length len then (match AP R u 0 ps with
  |some l=>some (.t (.ak .full u l))|none=>none) else none
 |none=>none
def XB (d:Option Nat)(t:TypeId)(len:Nat)(ps:List (Nat×aA R.T))(st:aO R.T):Option (fC R):=
 match d,Iw E R t with
 |some d,some (_,u,sz,_)=>bif Nat.ble (len*sz) (2^24)&& Nat.beq ps.length len then (match AP R u 0 ps with
  |some l=>bif Nat.ble F0 (E.cn d) then none else some (.w (.aS (E.cn d) u) (st.new (E.cn d) (.arr u l)))|none=>none) else none
 |_,_=>none
def MJ (u:Ty):aA R.T->Option (List (Den R.T u))
 |.ak _ _ l=>uy R l|.fQ=>some []|.str s=>uy (t:=.int .u8) (u:=u) R (s.map fun b=>(b.toNat:Int))
 |_=>none
def ahV (u:Ty)(d:Nat):aA R.T->Option (Nat×List (Den R.T u))
 |.ak .nil _ l=>match uy R l with
  |some l=>some (d,l)|none=>none
 |.ak .full _ l=>match uy R l with
  |some l=>some (d,l)|none=>none
 |.ak (.own t) _ l=>match uy R l with
  |some l=>some (t,l)|none=>none
 |.fQ=>some (d,[])|_=>none
def Iy (t:TypeId):Bool:=match E.P.underlying t with
 |some (.slice _)=>true|some .string=>true|_=>false
def MK (d:Option Nat)(t u:TypeId)(x y:aA R.T)(st:aO R.T):Option (fC R):=
 match d with
 |some d=>match Iw E R t with
  |some (_,τ,_,gI)=>bif Iy E u then (match ahV R τ d x,MJ R τ y with
   |some (tk,l),some l'=>some (.wc (bZ (l.length+l'.length) gI) (.ak (.own tk) τ (l++l')) (st.wk tk))|_,_=>none) else none
  |none=>none
 |none=>none
def ML (d:Option Nat)(t u:TypeId)(x y:aA R.T)(st:aO R.T):Option (fC R):=
 match d with
 |some d=>bif Nat.ble F0 (E.cn d) then none else match Iw E R t with
  |some (_,τ,_,gI)=>bif Iy E u then (match MJ R τ y with
   |some l'=>match x with
    |.aS o ahW=>if ahW=τ then (match look st.ob o with
     |some (.arr gW l)=>match uy R (u:=τ) l with
      |some l=>bif Nat.beq o (E.cn d) then some (.wc (bZ (l.length+l'.length) gI) (.aS (E.cn d) τ) ((st.del o).new (E.cn d) (.arr τ (l++l')))) else (match l' with
       |a::l'=>some (.wc (bZ (l.length+(a::l').length) gI) (.aS (E.cn d) τ) ((st.del o).new (E.cn d) (.arr τ (l++a::l'))))| []=>none)
      |none=>none
     |_=>none) else none
    |x=>bif Ik x then some (.wc (bZ l'.length gI) (.aS (E.cn d) τ) (st.new (E.cn d) (.arr τ l'))) else none
   |none=>none) else none
  |none=>none
 |none=>none
def XC (aj:Bool)(d:Option Nat)(t:TypeId)(n m:aA R.T)(st:aO R.T):Option (fC R):=(fun (_:Env) (_:jV) (_:Bool) (_:Option Nat) (_:TypeId) (_ _:aA R.T) (_:aO R.T)=>none) E R aj d t n m st
def Iz {T:Nat->Type}(mx:Bool):aA T->List (aA T)->Option (aA T)
 |x,[]=>some x|.int k a,.int k' b::l=>if k=k' then Iz mx (.int k (bif mx then imax a b else wT a b)) l else none|_,_=>none
def XD {T:Nat->Type}(t:TypeId)(x:aA T)(st:aO T):Option Nat:=
 match E.P.underlying t,x with
 |some (.slice _),.ak _ _ l=>some l.length|some (.slice _),.fQ=>some 0|some (.slice _),.aS o _=>match qD st o with
  |some (.arr _ l)=>some l.length|_=>none
 |some (.slice _),.sub _ _ a b=>some (b-a).toNat|some .string,.str s=>some s.length|some (.map _ _),.fq o=>match qD st o with
  |some (.map _ _ m)=>some m.length|_=>none
 |some (.map _ _),.fD _ _ m=>some m.length|some (.map _ _),.iq=>some 0|some (.array n _),_=>some n|_,_=>none
def XE (t:TypeId)(x:aA R.T)(st:aO R.T):Option (fC R):=
 (fun (_:Env) (_:jV) (_:TypeId) (_:aA R.T) (_:aO R.T)=>none) E R t x st
def blt (aj:Bool)(d:Option Nat)(b:Builtin)(tys:Array TypeId)(args:List (aA R.T))(st:aO R.T):Option (fC R):=
 match b,args with
 |.len,[x]=>match tys[0]? with
  |some t=>match XD E t x st with
   |some n=>some (.t (.int .i64 ((n:Nat):Int)))|none=>none
  |none=>none
 |.append,[x,y]=>match tys[0]?,tys[1]? with
  |some t,some u=>bif aj then ML E R d t u x y st else MK E R d t u x y st|_,_=>none
 |.clear,[x]=>match tys[0]? with
  |some t=>XE E R t x st|none=>none
 |.min,x::l=>match Iz false x l with
  |some v=>some (.t v)|none=>none
 |.max,x::l=>match Iz true x l with
  |some v=>some (.t v)|none=>none
 |_,_=>none
def ahX:List (aA R.T)->aA R.T
 | [v]=>v|vs=>.bV vs
def findF (args dO:List (aA R.T)):List (iy R)->Option (fC R)
 | []=>none|r::l=>match jw R r.args dO with
  |some p=>bif mD r.args&& Nat.ble (vK r.args) 18&& mD r.res&& (Cz args||Ih r.res) then some (.p (aV R.T r.res) r.d (r.F p) fun x=>ahX R (jI R .sh r.res x)) else none
  |none=>findF args dO l
def XF (t:TypeId)(x i:aA R.T):Option (fC R):=
 match E.P.underlying t,x,i with
 |some (.slice e),.ak _ u l,.int _ n=>match dM E.P e with
  |some sz=>bif Nat.beq sz (dL R u) then some (.p (Den R.T u) (H9 R u) (aG l n) fun y=>.aW (je R .sh u y).cells 0) else none
  |none=>none
 |some (.array n e),.ref o off,.int _ k=>match dM E.P e with
  |some sz=>some (.c (decide (0<=k/\k<n)) (.ref o (off+k.toNat*sz)))|none=>none
 |some (.array n e),.aW cs off,.int _ k=>match dM E.P e with
  |some sz=>some (.c (decide (0<=k/\k<n)) (.aW cs (off+k.toNat*sz)))|none=>none
 |_,_,_=>none
def XG (t:TypeId)(o:Nat)(τ:Ty)(i:aA R.T)(st:aO R.T):Option (fC R):=
 match E.P.underlying t,i with
 |some (.slice e),.int _ n=>match dM E.P e with
  |some sz=>bif Nat.beq sz (dL R τ) then (match qD st o with
   |some (.arr _ l)=>some (.c (decide (0<=n/\n< (l.length:Int))) (.mV o τ n 0))|_=>none) else none
  |none=>none
 |_,_=>none
def XH (t:TypeId)(o:Nat)(τ:Ty)(a b:Int)(i:aA R.T):Option (fC R):=
 match E.P.underlying t,i with
 |some (.slice e),.int _ n=>match dM E.P e with
  |some sz=>bif Nat.beq sz (dL R τ) then some (.c (atu n (b-a)) (.mV o τ (a+n) 0)) else none|none=>none
 |_,_=>none
def atw {T:Nat->Type}:Option (aA T)->aA T
 |some v=>v|none=>.gone
def XI (t:TypeId)(τ:Ty)(i:Int)(off:Nat)(o:bL R.T):Option (fC R):=
 match o with
 |.arr gW l=>match uy R (u:=τ) l with
  |some l=>bif (ow E t (je R .any τ (H9 R τ)).cells off).isSome then some (.p (Den R.T τ) (H9 R τ) (aG l i) fun y=>atw (ow E t (je R .any τ y).cells off)) else none
  |none=>none
 |_=>none
def XJ (τ:Ty)(cs:List (aA R.T)):Option (Den R.T τ):=match τ with
 |.st n=>EX R n (.agg cs)|.int k=>uz R (.int k) (hd1 R cs)|.bool=>uz R .bool (hd1 R cs)|.str=>uz R .str (hd1 R cs)|.slice t=>uz R (.slice t) (hd1 R cs)
def XK (t:TypeId)(x i:aA R.T):Option (fC R):=
 match E.P.underlying t,x,i with
 |some .string,.str s,.int _ n=>some (.p UInt8 0 (aG s n) fun b=>.int .u8 (b.toNat:Int))
 |_,_,_=>none
def IB {T:Nat->Type}(c:Bool):aA T->aA T->Option (aA T)
 |.int k a,.int k' b=>if k=k' then some (.int k (bif c then a else b)) else none|.bool a,.bool b=>some (.bool (bif c then a else b))|.bool a,.jH b=>some (.bool (bif c then a else b))|.jH a,.bool b=>some (.bool (bif c then a else b))|.jH a,.jH b=>some (.bool (bif c then a else b))|.str a,.str b=>some (.str (bif c then a else b))|_,_=>none
def ahY (P:Program):Nat->TypeId->Option (List lW)
 |0,_=>none|n+1,t=>match P.underlying t with
  |some (.int k)=>some [.i k]|some (.array m e)=>match P.underlying e with
   |some (.int k)=>some [.a k m]|_=>none
  |some (.struct fs)=>fs.toList.foldr (fun f acc=>match ahY P n f.type,acc with
   |some a,some b=>some (a++b)|_,_=>none) (some [])
  |_=>none
def ahZ:List lW->Bool
 | []=>false|.a _ _::_=>true|_::l=>ahZ l
def ah0 (t:TypeId):Option (List lW):=match R.ty t with
 |some _=>none|none=>match ahY E.P 4 t with
  |some ks=>bif ahZ ks then some ks else none|none=>none
def bW.sk:bW->lW
 |.i k _=>.i k|.a k n _=>.a k n
def Sb:lW->bW
 |.i k=>.i k 0|.a k n=>.a k n (Vec.rep n 0)
def Fg {T:Nat->Type}(k:IntKind):List (aA T)->Bool
 | []=>true|.int k' x::l=>(if k'=k then (if x=0 then true else false) else false)&& Fg k l|_=>false
def IC {T:Nat->Type}:List lW->List (aA T)->Bool
 | [],[]=>true|.i k::l,v::vs=>Fg k [v]&& IC l vs|.a k n::l,vs=>Nat.ble n vs.length&& Fg k (vs.take n)&& IC l (vs.drop n)|_,_=>false
def CJ {T:Nat->Type}:List lW->List (aA T)->Option (List bW)
 | [],[]=>some []|.i k::l,.int k' x::vs=>if k'=k then (match CJ l vs with
  |some r=>some (.i k x::r)|none=>none) else none
 |.a k n::l,vs=>match Cw k (vs.take n) with
  |some xs=>bif Nat.beq xs.length n then (match CJ l (vs.drop n) with
   |some r=>some (.a k n (Vec.lit n xs)::r)|none=>none) else none
  |none=>none
 |_,_=>none
def MN {T:Nat->Type}:List bW->List (aA T)
 | []=>[]|.i k x::l=>.int k x::MN l|.a k n v::l=>(List.range n).map (fun j=>aA.int k (v.nth j))++MN l
def IE:List lW->List lW->Bool
 | [],[]=>true|.i k::l,.i k'::l'=>(if k=k' then true else false)&& IE l l'|.a k n::l,.a k' n'::l'=>(if k=k' then true else false)&& Nat.beq n n'&& IE l l'|_,_=>false
def Sc {T:Nat->Type}(ks:List lW):aA T->Option (List bW)
 |.sg ss=>bif IE ks (ss.map bW.sk) then some ss else none|.agg cs=>CJ ks cs|.int k x=>match ks with
  | [.i k']=>if k'=k then some [.i k x] else none|_=>none
 |_=>none
def Sd (t:TypeId)(ss:List bW)(off:Nat):Option (aA R.T):=
 match sV ss off,dM E.P t,jU E.P t with
 |some (_,rest),some sz,some ag=>match sV rest sz with
  |some (mid,_)=>bif ag then (match R.ty t with
   |none=>some (.sg mid)|some _=>some (.agg (MN mid))) else (match mid with
   | [.i k x]=>some (.int k x)|_=>none)
  |none=>none
 |_,_,_=>none
def XL (t:TypeId)(k:IntKind)(m n:Nat)(v:Vec n)(i:Int):Option (aA R.T):=
 match vg E.P t,dM E.P t,jU E.P t with
 |some (m',e),some sz,some true=>bif Nat.beq m' m&& Nat.beq sz m then (match R.ty t with
  |none=>some (.sg [.a k m (v.slc i m)])|some _=>some (.agg ((List.range m).map fun j=>.int k (v.nth (i.toNat+j))))) else none
 |_,_,_=>none
def uF (t:TypeId):Bool:=match dM E.P t,jU E.P t with
 |some sz,some ag=>Nat.beq sz 1&& !ag|_,_=>false
def Sg (k:IntKind):List V->List Int->Bool
 | [],[]=>true|.int k' x::l,y::m=>(if k'=k then (if x=y then true else false) else false)&& Sg k l m|_,_=>false
def Si (g:Nat)(t:TypeId):Option ((k:IntKind)×(n:Nat)×Vec n):=
 match E.glob g,R.gl g,vg E.P t,dM E.P t,jU E.P t with
 |some cs,some ⟨k,n,v⟩,some (m,e),some sz,some ag=>bif ag&& Nat.beq m n&& Nat.beq sz n&& uF E e&& Sg k cs v.l then some ⟨k,n,v⟩ else none|_,_,_,_,_=>none
def dH (i:Int)(n:Nat):Bool:=decide (0<=i/\i<n)
def qX (n:Nat):Option Int->Option Int->Bool
 |none,none=>true|some i,none=>decide (0<=i/\(i<n\/i=0))|none,some j=>decide (0<=j/\j<=n)|some i,some j=>decide (0<=i/\i<=j/\j<=n/\(i<j\/i=0))
def fK:Option Int->Int
 |some i=>i|none=>0
def jf (n:Nat):Option Int->Int
 |some i=>i|none=>n
def CK (t:TypeId)(x:aA R.T)(lo hi:Option (aA R.T))(st:aO R.T):Option (fC R):=
 match x,CF R lo,CF R hi,vg E.P t with
 |.ref o off,some lo,some hi,some (n,e)=>bif uF E e then (match qD st o with
  |some (.sg ss)=>match sV ss off with
   |some (_,.a k n' _::_)=>bif Nat.beq n' n then some (.c (qX n lo hi) (.sv o off k n lo hi)) else none|_=>none
  |some (.cells cs)=>match (cs.drop off) with
   |.int k _::_=>bif Nat.ble (off+n) cs.length then some (.c (qX n lo hi) (.sv o off k n lo hi)) else none|_=>none
  |_=>none) else none
 |.aW cs off,some none,some none,some (n,e)=>bif uF E e&& Nat.ble (off+n) cs.length then (match cs with
  |.int k _::_=>match Cw k cs with
   |some l=>some (.t (.ak .any (.int k) ((l.drop off).take n)))|none=>none
  |_=>none) else none
 |_,_,_,_=>none
def ah1 (d:Option Nat):Bool:=match d with
 |some d=>E.own F0 d|none=>false
def ah2 (k:IntKind)(m:Nat)(l:List Int):List (aA R.T):=(List.range m).map fun j=>.int k (l.getD j 0)
def uG (g:List (Nat×Bool))(d:Option Nat)(o:Op)(st:aO R.T):Option (fC R):=
 match o with
 |.alloc t=>match d,ah0 E R t,Im (T:=R.T) E t with
  |some d,some ks,some (.agg cs)=>bif IC ks cs then some (.w (.ref d 0) (st.new d (.sg (ks.map Sb)))) else none|_,_,_=>none
 |.box t x=>bif tZ E t d then none else match d,ah0 E R t,dF g st x with
  |some d,some ks,some v=>match Sc ks v with
   |some ss=>some (.w (.ref d 0) (st.new d (.sg ss)))|none=>none
  |_,_,_=>none
 |.load t a=>match a with
  |.global gl=>match Si E R gl t with
   |some ⟨k,n,v⟩=>some (.t (.sg [.a k n v]))|none=>none
  |a=>match dF g st a with
   |some (.ref o off)=>match qD st o with
    |some (.sg ss)=>match Sd E R t ss off with
     |some v=>some (.t v)|none=>none
    |_=>none
   |some (.sel o off k n i m)=>match qD st o with
    |some (.sg ss)=>match sV ss off with
     |some (_,.a k' n' v::_)=>if k'=k then (bif Nat.beq n' n then (bif Nat.beq m 1&& uF E t then some (.t (.int k (v.at' i))) else (match XL E R t k m n' v i with
      |some v=>some (.t v)|none=>none)) else none) else none
     |_=>none
    |_=>none
   |some (.vH k n v i)=>bif uF E t then some (.t (.int k (v.at' i))) else none|_=>none
 |.store t a x=>match dF g st a,dF g st x with
  |some (.ref o off),some v=>match look st.ob o,dM E.P t with
   |some (.sg ss),some sz=>match sV ss off with
    |some (pre,rest)=>match sV rest sz with
     |some (mid,post)=>match Sc (mid.map bW.sk) v with
      |some mid'=>some (.w .undef (st.set o (.sg (pre++(mid'++post)))))|none=>none
     |none=>none
    |none=>none
   |_,_=>none
  |some (.sel o off k n i m),some (.int k' y)=>match look st.ob o with
   |some (.sg ss)=>match sV ss off with
    |some (pre,.a k2 n' v::post)=>if k2=k then (if k'=k then (bif Nat.beq n' n&& Nat.beq m 1&& uF E t then some (.w .undef (st.set o (.sg (pre++(.a k n' (v.set i y)::post))))) else none) else none) else none|_=>none
   |_=>none
  |_,_=>none
 |.indexAddr t x i=>match vg E.P t,dF g st i with
  |some (n,e),some (.int _ i)=>bif uF E e then (match x with
   |.global gl=>match Si E R gl t with
    |some ⟨k,n,v⟩=>some (.c (dH i n) (.vH k n v i))|none=>none
   |x=>match dF g st x with
    |some (.ref o off)=>match qD st o with
     |some (.sg ss)=>match sV ss off with
      |some (_,.a k n' _::_)=>bif Nat.beq n' n then some (.c (dH i n) (.sel o off k n i 1)) else none|_=>none
     |_=>none
    |_=>none) else none
  |_,_=>none
 |.index t x i=>match vg E.P t,dF g st x,dF g st i with
  |some (n,e),some (.sg [.a k n' v]),some (.int _ i)=>bif uF E e&& Nat.beq n' n then some (.c (dH i n) (.int k (v.at' i))) else none|_,_,_=>none
 |.slice t x lo hi none=>match dF g st x with
  |some x=>match lo,hi with
   |none,none=>CK E R t x none none st|some lo,none=>match dF g st lo with
    |some lo=>CK E R t x (some lo) none st|none=>none
   |none,some hi=>match dF g st hi with
    |some hi=>CK E R t x none (some hi) st|none=>none
   |some lo,some hi=>match dF g st lo,dF g st hi with
    |some lo,some hi=>CK E R t x (some lo) (some hi) st|_,_=>none
  |none=>none
 |.slice t x lo (some hi) (some mx)=>match dF g st x,dF g st hi,dF g st mx,E.P.underlying t with
  |some (.ak _ u l),some (.int _ h),some (.int _ m),some (.slice e)=>match dM E.P e with
   |some sz=>bif Nat.beq sz (dL R u) then (match lo with
    |none=>bif ah1 E d then some (.c (jl m l.length&& (jl h m.toNat&& (h==m))) (.ak .full u (uE l none (some h)))) else some (.c (jl m l.length&& jl h m.toNat) (.ak .any u (uE l none (some h))))|some lo=>match dF g st lo with
     |some (.int _ a)=>some (.c (jl m l.length&& (jl h m.toNat&& jl a h.toNat)) (.ak .any u (uE l (some a) (some h))))|_=>none) else none
   |none=>none
  |_,_,_,_=>none
 |.convert a b x=>match dF g st x with
  |some (.sv o off k n lo hi)=>match E.P.underlying a,E.P.underlying b with
   |some (.slice e),some .string=>match E.P.underlying e,k with
    |some (.int .u8),.u8=>match RU st o off .u8 n lo hi with
     |some l=>some (.t (.str (List.map (fun n:Int=>UInt8.ofNat n.toNat) l)))
     |none=>none
    |_,_=>none
   |_,_=>none
  |_=>none
 |.sliceToArrayPointer t x=>match vg E.P t,dF g st x with
  |some (m,e),some (.sv o off k n lo hi)=>some (.c (decide (0<m/\m<=jf n hi-fK lo)) (.sel o off k n (fK lo) m))|some (m,_),some (.ak _ (.int k) l)=>some (.c (decide (0<m/\m<=l.length)) (.aW (ah2 R k m l) 0))|_,_=>none
 |.call c=>match c.callee,qW g st c.args.toList with
  |.builtin .copy,some [.sv o off k n lo hi,y]=>match c.argTypes[0]? with
   |some t=>match lT E.P t with
    |some e=>bif uF E e then (match MJ R (.int k) y,look st.ob o with
     |some l,some (.sg ss)=>match sV ss off with
      |some (pre,.a k' n' v::post)=>if k'=k then (bif Nat.beq n' n then some (.w (.int .i64 (((l.take (jf n hi-fK lo).toNat).length:Nat):Int)) (st.set o (.sg (pre++(.a k n' (v.wU (fK lo) (l.take (jf n hi-fK lo).toNat))::post))))) else none) else none
      |_=>none
     |_,_=>none) else none
    |none=>none
   |none=>none
  |_,_=>none
 |_=>none
def vM (aj:Bool)(F:Nat->List (iy R))(g:List (Nat×Bool))(d:Option Nat)(o:Op)(st:aO R.T):Option (fC R):=
 match o with
 |.move x=>bif yh E d then (match dF g st x with
  |some (.aS p t)=>match look st.ob p with
   |some (.arr t' l)=>match uy R (u:=t) l with
    |some l=>some (.w (.ak .any t l) (st.del p))|none=>none
   |_=>none
  |some (.int k n)=>some (.t (.int k n))|_=>none) else (match dF g st x with
  |some v=>some (.t v)|none=>none)
 |.assign x=>match dF g st x with
  |some v=>some (.t v)|none=>none
 |.pick c a b=>match c with
  |.tmp j=>match dF g st c with
   |some (.bool t)=>match dF ((j,true)::g) st a,dF ((j,false)::g) st b with
    |some x,some y=>match IB t x y with
     |some v=>some (.t v)|none=>none
    |_,_=>none
   |some (.jH t)=>match dF g st (bif t then a else b) with
    |some v=>some (.t v)|none=>none
   |_=>none
  |_=>none
 |.alloc t=>match d,Im E t with
  |some d,some z=>bif Cx z.cells&& !(qC d z.cells) then some (.w (.ref d 0) (st.new d (.cells z.cells))) else none|_,_=>none
 |.box t x=>bif tZ E t d then (match dF g st x with
  |some v=>bif ql (Cy v)&& wW v then some (.t (.aW (Cy v).cells 0)) else none|none=>none) else match d,dF g st x with
  |some d,some v=>bif Cx v.cells&& wW v&& !(qC d v.cells) then some (.w (.ref d 0) (st.new d (.cells v.cells))) else none|_,_=>none
 |.build t parts=>match GN E t,Im (T:=R.T) E t,Ie g st parts.toList with
  |some pl,some z,some ps=>match RZ pl z.cells ps with
   |some cs=>some (.t (.agg cs))|none=>none
  |_,_,_=>none
 |.buildSlice t len parts=>match Ie g st parts.toList with
  |some ps=>bif zm E d then XB E R d t len ps st else XA E R t len ps|none=>none
 |.load t a=>match dF g st a with
  |some (.ref o off)=>match qD st o with
   |some (.cells cs)=>match ow E t cs off with
    |some v=>some (.t v)|none=>none
   |_=>none
  |some (.aW cs off)=>match ow E t cs off with
   |some v=>some (.t v)|none=>none
  |some (.mV o τ i off)=>match qD st o with
   |some b=>XI E R t τ i off b|none=>none
  |_=>none
 |.store t a x=>match dF g st a,dF g st x with
  |some (.ref o off),some v=>match look st.ob o,dM E.P t with
   |some (.cells cs),some sz=>bif Nat.beq v.cells.length sz&& Nat.ble (off+v.cells.length) cs.length&& Cx v.cells&& wW v then some (.w .undef (st.set o (.cells (Il cs off v.cells)))) else none
   |_,_=>none
  |_,_=>none
 |.nilCheck x=>match dF g st x with
  |some (.ref o off)=>some (.t (.ref o off))|some (.aW cs off)=>some (.t (.aW cs off))|some (.mV o τ i off)=>some (.t (.mV o τ i off))|some (.fn f a b)=>some (.t (.fn f a b))|_=>none
 |.binOp op t x y _=>match dF g st x,dF g st y with
  |some x,some y=>Xx E R op t x y|_,_=>none
 |.unOp op _ x=>match dF g st x with
  |some x=>Xy R op x|none=>none
 |.convert a b x=>match dF g st x with
  |some x=>R6 E R a b x|none=>none
 |.makeFunc (.func f) a b=>match qW g st a.toList,qW g st b.toList with
  |some a,some b=>some (.t (.fn f a b))|_,_=>none
 |.makeMap t none=>match d,aph E.P t with
  |some d,some (k,e)=>match R.ty k,R.ty e with
   |some k,some e=>some (.w (.fq d) (st.new d (.map k e [])))|_,_=>some (.w (.fq d) (st.new d (.smap [] [])))
  |_,_=>none
 |.makeSlice t l c=>match dF g st l,dF g st c with
  |some n,some m=>XC E R aj d t n m st|_,_=>none
 |.slice t x lo hi none=>match dF g st x with
  |some x=>match lo,hi with
   |none,none=>CG E R t x none none st|some lo,none=>match dF g st lo with
    |some lo=>CG E R t x (some lo) none st|none=>none
   |none,some hi=>match dF g st hi with
    |some hi=>CG E R t x none (some hi) st|none=>none
   |some lo,some hi=>match dF g st lo,dF g st hi with
    |some lo,some hi=>CG E R t x (some lo) (some hi) st|_,_=>none
  |none=>none
 |.fieldAddr t x f=>match dF g st x with
  |some x=>match ahU E t f x with
   |some v=>some (.t v)|none=>none
  |none=>none
 |.field t x f=>match x9 E.P t f,dF g st x with
  |some (o,u),some (.agg cs)=>match ow E u cs o with
   |some v=>some (.t v)|none=>none
  |_,_=>none
 |.indexAddr t x i=>match dF g st x,dF g st i with
  |some (.aS o τ),some i=>XG E R t o τ i st|some (.sub o τ a b),some i=>XH E R t o τ a b i|some x,some i=>XF E R t x i|_,_=>none
 |.index t x i=>match dF g st x,dF g st i with
  |some x,some i=>XK E R t x i|_,_=>none
 |.lookup t x i ok=>match dF g st x,dF g st i with
  |some x,some i=>R9 E R t x i ok st|_,_=>none
 |.mapUpdate t m k v=>match dF g st m,dF g st k,dF g st v with
  |some m,some k,some v=>Iu E R t m k v st|_,_,_=>none
 |.insert t m k v=>match dF g st m,dF g st k,dF g st v with
  |some m,some k,some v=>Iu E R t m k v st|_,_,_=>none
 |.extract x i=>match dF g st x with
  |some (.bV vs)=>match vs[i]? with
   |some v=>some (.t v)|none=>none
  |_=>none
 |.call c=>match c.callee with
  |.builtin b=>match qW g st c.args.toList with
   |some vs=>blt E R aj d b c.argTypes vs st|none=>none
  |.value f=>match dF g st f,qW g st c.args.toList with
   |some (.fn f a b),some vs=>bif E.imp f then none else findF R (a++vs++b) (rW st (a++vs++b)) (F f)|_,_=>none
  |_=>none
 |_=>none
def zC (aj:Bool)(F:Nat->List (iy R))(g:List (Nat×Bool))(d:Option Nat)(o:Op)(st:aO R.T):Option (fC R):=
 match uG E R g d o st with
 |some r=>some r|none=>vM E R aj F g d o st
inductive atx where
 |no
 |run
 |skip
 |dyn (j:Nat) (w:Bool) (c:Bool) (g:List (Nat×Bool))
def IG (b w:Bool):Bool:=bif w then b else !b
def XM (a b:Bool):Bool:=bif a then b else false
def qY {T:Nat->Type}(st:aO T):Nat->Nat->Bool->Option (Bool×List (Nat×Bool))
 |0,_,_=>none|n+1,j,w=>match look st.fr j with
  |some (.bool b)=>some (IG b w,[(j,w)])|some (.opt i u (.bool b))=>match qY st n i u with
   |some (c,g)=>some (XM c (IG b w),(j,w)::g)|none=>none
  |some (.opt i u (.jH b))=>match qY st n i u with
   |some (c,g)=>some (XM c (IG b w),(j,w)::g)|none=>none
  |_=>none
def Sj {T:Nat->Type}(all:List Oper)(st:aO T)(o:Oper):atx:=
 match o.guard with
 |none=>.run|some (j,w)=>match all[j]? with
  |some p=>match p.dst with
   |some t=>match look st.fr t with
    |some (.jH b)=>bif b==w then .run else .skip|some .undef=>.skip|_=>match qY st 12 t w with
     |some (c,g)=>.dyn t w c g|none=>.no
   |none=>.skip
  |none=>.skip
def aO.oO {T:Nat->Type}(st:aO T):List (Nat×Bool)->aO T
 | []=>st| (j,w)::g=>(st.oO g).learn j w
def aO.AQ {T:Nat->Type}(st:aO T):List (Nat×Bool)->aO T
 | [(j,w)]=>st.learn j (!w)|_=>st
def nU {U:Type}(c:Bool)(o:Option U)(d:U):Option U:=bif c then o else some d
def XO (st:aO R.T)(t:TypeId)(m x:Operand):Option (List (aA R.T)×List (aA R.T)×aA R.T×aA R.T):=
 (fun (_:Env) (_:jV) (_:aO R.T) (_:TypeId) (_ _:Operand)=>none) E R st t m x
def ah3 {T:Nat->Type}{β:Type}(x:aA T):List (aA T)->List (aA T)->aA T->(aA T->Bool->Option β)->Option β
 | [],[],z,k=>k z false|a::ks,v::vs,z,k=>match atv x a with
  |some b=>bif b then k v true else ah3 x ks vs z k|none=>none
 |_,_,_,_=>none
section
variable (aj:Bool){β:Type}(F:Nat->List (iy R))
def XP (t:TypeId)(a x:Operand)(st:aO R.T):Option ((τ:Ty)×Nat×Int×Nat×List (Den R.T τ)×aA R.T):=
 match dF [] st a,dF [] st x with
 |some (.mV o τ i off),some v=>match look st.ob o,dM E.P t with
  |some (.arr gW l),some sz=>match uy R (u:=τ) l with
   |some l=>bif Nat.beq v.cells.length sz&& Nat.ble (off+v.cells.length) (dL R τ)&& Cx v.cells&& wW v then some ⟨τ,o,i,off,l,v⟩ else none|none=>none
  |_,_=>none
 |_,_=>none
def bf {U:Type}(l:List U)(i:Int)(y:U):List U:=l.set i.toNat y
def runM (o:Oper)(st:aO R.T)(k:aO R.T->Option β):Option β:=
 match o.op with
 |.pick c a b=>match dF [] st c with
  |some (.jH t)=>match dF [] st (bif t then a else b) with
   |some v=>k (st.iD o.dst v)|none=>none
  |some (.bool t)=>match c with
   |.tmp j=>match dF [(j,true)] st a,dF [(j,false)] st b with
    |some x,some y=>match IB t x y with
     |some v=>k (st.iD o.dst v)|none=>bif t then k ((st.learn j true).iD o.dst x) else k ((st.learn j false).iD o.dst y)
    |_,_=>none
   |_=>none
  |_=>none
 |.store t a x=>match XP E R t a x st with
  |some ⟨τ,p,i,off,l,v⟩=>(aG l i).bind fun y=>match XJ R τ (Il (je R .any τ y).cells off v.cells) with
   |some y'=>k ((st.set p (.arr τ (bf l i y'))).iD o.dst .undef)|none=>none
  |none=>match zC E R aj F [] o.dst (.store t a x) st with
   |some (.w v st')=>k (st'.iD o.dst v)|_=>none
 |.lookup t m x ok=>match XO E R st t m x with
  |some (ks,vs,x,z)=>ah3 x ks vs z fun v b=>k (st.iD o.dst (bif ok then .bV [v,.jH b] else v))
  |none=>match zC E R aj F [] o.dst (.lookup t m x ok) st with
   |some (.t v)=>k (st.iD o.dst v)|_=>none
 |op=>match zC E R aj F [] o.dst op st with
  |some (.t v)=>k (st.iD o.dst v)|some (.c b v)=>bif b then k (st.iD o.dst v) else none|some (.w v st')=>k (st'.iD o.dst v)|some (.wc b v st')=>bif b then k (st'.iD o.dst v) else none|some (.p _ _ x f)=>x.bind fun a=>k (st.iD o.dst (f a))
  |none=>none
def MO (b c:Bool):Bool:=bif b then c else true
def XQ (o:Oper)(j:Nat)(w c:Bool)(g:List (Nat×Bool))(st:aO R.T)(k:aO R.T->Option β):Option β:=
 match o.dst with
 |some d=>match (bif bM d (g.map (·.1)) then none else zC E R aj F g o.dst o.op st) with
  |some (.t v)=>k (st.put d (.opt j w v))|some (.c b v)=>bif MO c b then k (st.put d (.opt j w v)) else none|some (.p _ z x f)=>(nU c x z).bind fun a=>k (st.put d (.opt j w (f a)))
  |_=>bif c then runM E R aj F o (st.oO g) k else k ((st.AQ g).iD o.dst .undef)
 |none=>bif c then runM E R aj F o (st.oO g) k else k ((st.AQ g).iD o.dst .undef)
def nV {T:Nat->Type}(st:aO T)(o:Oper):Bool:=match o.op with
 |.call c=>match c.callee with
  |.value f=>match dF [] st f with
   |some (.fn g _ _)=>match o.dst with
    |some d=>E.own g d|none=>false
   |_=>true
  |_=>false
 |_=>false
def aty:List bO->Bool
 |.fQ::k::l=>mD (k::l)|_=>false
def II (args dO:List (aA R.T)):List (iy R)->Option ((τ:Ty)×Option (List (Den R.T τ)))
 | []=>none| ⟨dN,[.d (.slice τ)],G,_,true⟩::l=>match jw R dN dO with
   |some p=>bif (mD dN||aty dN)&& Nat.ble (vK dN) 18&& Cz args then some ⟨τ,G p⟩ else none|none=>II args dO l
 |_::l=>II args dO l
def zD (o:Oper)(st:aO R.T)(k:aO R.T->Option β):Option β:=match o.op,o.dst with
 |.call c,some d=>match c.callee with
  |.value f=>match dF [] st f,qW [] st c.args.toList with
   |some (.fn g a b),some vs=>match II R (a++vs++b) (rW st (a++vs++b)) (F g) with
    |some ⟨τ,x⟩=>x.bind fun l=>k ((st.wk d).put d (.ak (.own d) τ l))
    |none=>none
   |_,_=>none
  |_=>none
 |_,_=>none
def Fh (o:Nat)(l:List Nat):List Nat:=bif bM o l then l else l++[o]
mutual
def atz {T:Nat->Type}:aA T->List Nat->List Nat
 |.ref o _,l=>Fh o l|.fq o,l=>Fh o l|.aS o _,l=>Fh o l|.sub o _ _ _,l=>Fh o l|.mV o _ _ _,l=>Fh o l|.sv o _ _ _ _ _,l=>Fh o l|.sel o _ _ _ _ _,l=>Fh o l|.agg cs,l=>vN cs l|.bV cs,l=>vN cs l|.aW cs _,l=>vN cs l|.fn _ a b,l=>vN b (vN a l)|_,l=>l
def vN {T:Nat->Type}:List (aA T)->List Nat->List Nat
 | [],l=>l|v::vs,l=>vN vs (atz v l)
end
mutual
def zF {T:Nat->Type}(m:List (Nat×Nat)):aA T->aA T
 |.ref o off=>match look m o with
  |some p=>.ref p off|none=>.gone
 |.fq o=>match look m o with
  |some p=>.fq p|none=>.gone
 |.aS o t=>match look m o with
  |some p=>.aS p t|none=>.gone
 |.sub o t a b=>match look m o with
  |some p=>.sub p t a b|none=>.gone
 |.mV o t i off=>match look m o with
  |some p=>.mV p t i off|none=>.gone
 |.sv o off k n lo hi=>match look m o with
  |some p=>.sv p off k n lo hi|none=>.gone
 |.sel o off k n i j=>match look m o with
  |some p=>.sel p off k n i j|none=>.gone
 |.ak c t l=>match c with
  |.own _=>.ak .any t l|c=>.ak c t l
 |.agg cs=>.agg (AU m cs)|.bV cs=>.bV (AU m cs)|.aW cs off=>.aW (AU m cs) off|.fn f a b=>.fn f (AU m a) (AU m b)|v=>v
def AU {T:Nat->Type}(m:List (Nat×Nat)):List (aA T)->List (aA T)
 | []=>[]|v::vs=>zF m v::AU m vs
end
def mG:List Nat->Nat->List (Nat×Nat)
 | [],_=>[]|o::l,n=>(o,n)::mG l (n+1)
def Fj:List Nat->Bool
 | []=>true|o::l=>!(bM o l)&& Fj l
def IJ {T:Nat->Type}(st:aO T):List (Nat×Nat)->List (Nat×bL T)
 | []=>[]| (o,p)::m=>match look st.ob o with
   |some x=>(p,x)::IJ st m|none=>IJ st m
def wY {T:Nat->Type}:List (Nat×Nat)->List (Nat×bL T)->List (Nat×bL T)
 | [],_=>[]| (o,p)::m,l=>match look l p with
   |some y=>(o,y)::wY m l|none=>wY m l
def IK:List (Nat×Nat)->List (Nat×iC)->Bool
 | [],[]=>true| (_,p)::m,(q,_)::l=>Nat.beq p q&& IK m l|_,_=>false
def uH:List bO->Bool
 | []=>true|.d (.int _)::l=>uH l|.d .bool::l=>uH l|.d .str::l=>uH l|.sub p _::l=>Nat.ble F0 p&& uH l|_=>false
mutual
def Sk:bO->Bool
 |.d _=>true|.aW l _=>CO l|.fn _ a b=>CO a&& CO b|_=>false
def CO:List bO->Bool
 | []=>true|k::l=>Sk k&& CO l
end
def okO:iC->Bool
 |.cells l=>CO l|_=>true
def wZ:List (Nat×iC)->Bool
 | []=>true| (_,k)::l=>okO k&& wZ l
def Sl (m:List (Nat×Nat))(A:List (aA R.T))(B:List (Nat×bL R.T)):List (qV R)->Option ((r:qV R)×Option (aV R.T r.res×lX R.T r.obs))
 | []=>none|r::l=>match jw R r.args A,pE R B r.obs with
  |some p,some q=>bif IK m r.obs&& (uH r.res&& wZ r.obs) then some ⟨r,r.F p q⟩ else none|_,_=>Sl m A B l
def Sm:List (Nat×Nat)->List (Nat×Nat)
 | []=>[]| (o,p)::l=>(p,o)::Sm l
def ah4 {T:Nat->Type}:List (aA T)->aA T
 | [v]=>v|vs=>.bV vs
def w9 {T:Nat->Type}(st:aO T)(o:Oper):Bool:=match o.op with
 |.call c=>match c.callee with
  |.value f=>match dF [] st f with
   |some (.fn g _ _)=>E.imp g|_=>false
  |_=>false
 |_=>false
def yG (o:Oper):Bool:=match o.op with
 |.call c=>match c.callee with
  |.value (.func g)=>!(E.imp g)|.value _=>false|_=>true
 |_=>true
def Fp (M:Nat->List (qV R))(o:Oper)(st:aO R.T)(k:aO R.T->Option β):Option β:=match o.op with
 |.call c=>match c.callee with
  |.value f=>match dF [] st f,qW [] st c.args.toList with
   |some (.fn g a b),some vs=>bif Fj (vN (a++vs++b) []) then (match Sl R (mG (vN (a++vs++b) []) F0) (AU (mG (vN (a++vs++b) []) F0) (a++vs++b)) (IJ st (mG (vN (a++vs++b) []) F0)) (M g) with
    |some ⟨r,x⟩=>x.bind fun y=>k (aO.iD ⟨st.fr,wY (mG (vN (a++vs++b) []) F0) (mE R r.obs y.2)++st.ob⟩ o.dst (ah4 (AU (Sm (mG (vN (a++vs++b) []) F0)) (jI R .any r.res y.1))))
    |none=>none) else none
   |_,_=>none
  |_=>none
 |_=>none
variable (M:Nat->List (qV R))
def yH (all:List Oper):List Oper->aO R.T->(aO R.T->Option β)->Option β
 | [],st,k=>k st|o::os,st,k=>match Sj all st o with
  |.run=>bif nV E st o then zD R F o st (fun st=>yH all os st k) else (bif w9 E st o then Fp R M o st (fun st=>yH all os st k) else runM E R aj F o st (fun st=>yH all os st k))
  |.skip=>yH all os (st.iD o.dst .undef) k|.dyn j w c g=>bif nV E st o||nV E (st.oO g) o then none else (bif w9 E (st.oO g) o then (bif c then Fp R M o (st.oO g) (fun st=>yH all os st k) else yH all os ((st.AQ g).iD o.dst .undef) k) else XQ E R aj F o j w c g st (fun st=>yH all os st k))
  |.no=>none
def ah5 {T:Nat->Type}:aA T->List Key
 |.ref o _=>[.obj (1,o)]|.fq o=>[.obj (1,o)]|.mV o _ _ _=>[.obj (1,o)]|.sv o _ _ _ _ _=>[.obj (1,o)]|.sel o _ _ _ _ _=>[.obj (1,o)]|_=>[]
def AV {T:Nat->Type}(st:aO T)(x:Operand):List Key:=match dF [] st x with
 |some v=>ah5 v|none=>[]
def Sn (o:Oper):List Key:=match o.dst with
 |some t=>[.obj (1,t)]|none=>[]
def Sq {T:Nat->Type}:List (aA T)->Bool
 | []=>false|.sv _ _ _ _ _ _::_=>true|.ref _ _::_=>true|_::l=>Sq l
def MP (aj:Bool){T:Nat->Type}(st:aO T)(o:Oper):dP:=
 match o.op with
 |.buildSlice .. =>bif zm E o.dst then gJ else nA []
 |.move _|.assign _|.pick .. |.build .. |.nilCheck _|.binOp .. |.unOp .. |.makeInterface .. |.typeAssert .. |.makeFunc .. |.fieldAddr .. |.field .. |.indexAddr .. |.index .. |.extract ..
 |.sliceToArrayPointer .. =>nA []|.convert _ _ x|.slice _ x _ _ _|.load _ x|.lookup _ x _ _=>nA (AV st x)|.alloc _|.box .. |.makeMap .. =>nC (Sn o)|.makeSlice .. =>nC (.top::Sn o)|.store _ a _=>nC (AV st a)|.mapUpdate _ m _ _|.insert _ m _ _=>nC (AV st m)|.call c=>match c.callee with
  |.builtin b=>match b with
   |.len|.cap|.min|.max=>nA (c.args.toList.flatMap fun x=>AV st x)
   |.append=>bif aj then gJ else ⟨false,false,c.args.toList.flatMap fun x=>AV st x,[.top]⟩
   |_=>gJ
  |.value f=>match dF [] st f with
   |some (.fn g a b)=>if E.imp g then gJ else (match qW [] st c.args.toList with
    |some vs=>if Cz (a++vs++b) then nA [] else ⟨true,false,[],[]⟩|none=>gJ)
   |_=>gJ
  |_=>gJ
 |_=>gJ
def tq (aj:Bool){T:Nat->Type}(all:List Oper)(st:aO T)(o:Oper)(wanted:Bool):dP:=
 if wanted then let f:=MP E aj st o;⟨f.qw,f.mh,sG all o++f.t,nY o++f.w⟩else ⟨false,false,sG all o,nY o⟩
def IL {T:Nat->Type}:aA T->Bool
 |.gone=>false|.opt _ _ _=>false|.aS _ _=>false|.sub _ _ _ _=>false|_=>true
def zG (aj:Bool){T:Nat->Type}(st:aO T)(o:Oper):Bool:= !(nV E st o)&&
 match o.op with
 |.call c=>match c.callee with
  |.value f=>match dF [] st f,qW [] st c.args.toList with
   |some (.fn _ a b),some vs=>Cz (a++vs++b)||Sq (a++vs++b)|_,_=>false
  |.builtin b=>(match b with
   |.append=>aj|_=>false)||match qW [] st c.args.toList with
   |some vs=>vs.all IL|none=>false
  |_=>true
 |.move _=>!(yh E o.dst)|.slice _ x _ _ _=>match dF [] st x with
  |some v=>(Ir st v).isNone|none=>false
 |_=>true
def Key.nm:Key->Key
 |.obj l=>.obj (1,l.2)|k=>k
def dP.nm (f:dP):dP:=⟨f.qw,f.mh,f.t.map Key.nm,f.w.map Key.nm⟩
def MQ (all:List Oper)(o:Oper):dP:=⟨false,false,sG all o++[],nY o++[.top]⟩
def qZ (ms:List Nat)(all:List Oper):List Oper->aO R.T->List dP->(aO R.T->Option β)->Option β
 | [],st,fs,k=>bif Aw ms (fs.map dP.nm) then k st else none|o::os,st,fs,k=>match Sj all st o with
  |.run=>bif w9 E st o then (bif nV E st o then none else Fp R M o st (fun st'=>qZ ms all os st' (fs++[tq E aj all st o true]) k)) else bif nV E st o then zD R F o st (fun st'=>qZ ms all os st' (fs++[MQ all o]) k) else bif !(zG E aj st o) then none else runM E R aj F o st (fun st'=>qZ ms all os st' (fs++[tq E aj all st o true]) k)
  |.skip=>qZ ms all os (st.iD o.dst .undef) (fs++[tq E aj all st o false]) k|.dyn _ _ c g=>bif c then (bif w9 E (st.oO g) o then (bif nV E (st.oO g) o then none else Fp R M o (st.oO g) (fun st'=>qZ ms all os st' (fs++[tq E aj all (st.oO g) o true]) k)) else bif nV E (st.oO g) o then zD R F o (st.oO g) (fun st'=>qZ ms all os st' (fs++[MQ all o]) k) else bif !(zG E aj (st.oO g) o) then none else runM E R aj F o (st.oO g) (fun st'=>qZ ms all os st' (fs++[tq E aj all (st.oO g) o true]) k))else qZ ms all os ((st.AQ g).iD o.dst .undef) (fs++[tq E aj all st o false]) k
  |.no=>none
end
def Fq {R:jV}(key:Nat)(W:List Nat)(b:aO R.T)(sh:Shape)(outs:List (Ex×Shape))(body:{β:Type}->aO R.T->(Ex->aO R.T->Option β)->Option β):Nat->wV R.T sh->Option (Out R.T outs)
 |0,_=>none|m+1,p=>body (b.over (unpack R sh p)) fun e st=>match e with
  |.normal=>match sW R W st sh with
   |some p=>Fq key W b sh outs body m p|none=>none
  |e=>Fb R W e st outs
def aO.obs {T:Nat->Type}(st:aO T):aO T:=⟨[],st.ob⟩
def MR {R:jV}{β:Type}(body:aO R.T->(Ex->aO R.T->Option β)->Option β):Nat->aO R.T->(Ex->aO R.T->Option β)->Option β
 |0,_,_=>none|m+1,st,k=>body st fun e st'=>match e with
  |.normal=>MR body m st' k|e=>k e st'
def mX:List Oper->List Nat
 | []=>[]|o::l=>match o.dst with
  |some d=>d::E.cn d::mX l|none=>mX l
def dR:Code->List Nat
 |.region _ ops _=>mX E ops.toList|.seq a b=>dR a++dR b|.cond _ a b=>dR a++dR b|.block _ c=>dR c|.loop c=>dR c|.scope c=>dR c|.rangeFunc _ ps a b=>ps.toList++dR a++dR b|_=>[]
def yI:Code->Nat
 |.region i _ _=>i|.seq a _=>yI a|.loop a=>yI a+500|.scope a=>yI a|.block _ a=>yI a|.rangeFunc _ _ _ b=>yI b|_=>0
def mH:Code->Bool
 |.region _ ops _=>ops.toList.all (yG E)|.seq a b=>mH a&& mH b|.cond _ a b=>mH a&& mH b|.block _ c=>mH c|.loop c=>mH c|.scope c=>mH c|.rangeFunc _ _ _ _=>false|_=>true
variable (n:Nat)(aj:Bool)(F:Nat->List (iy R))(I:IR R)(A:bB)
def jX:Code->{β:Type}->aO R.T->(Ex->aO R.T->Option β)->Option β
 |.skip,_,st,k=>k .normal st|.region _ ops dr,_,st,k=>bif dr then (bif qx ops.toList then qZ E R aj F I.im (oo ops.toList) ops.toList ops.toList st [] (fun st=>k .normal st) else none) else yH E R aj F I.im ops.toList ops.toList st (fun st=>k .normal st)
 |.seq a b,_,st,k=>
  match look A.joins (yI b) with
  |none=>jX a st fun e st=>match e with
   |.normal=>jX b st k|e=>k e st
  |some q=>(jX (β:=Out R.T q.outs) a ((base (dR E a) q.K q.O .ro st).over st) fun e st=>Fb R (dR E a) e st q.outs).bind (Fe R (base (dR E a) q.K q.O (fun b=>b) st) (fun e st=>match e with
   |.normal=>jX b st k|e=>k e st) q.outs)
 |.cond c a b,_,st,k=>match dF [] st c with
  |some (.jH t)=>bif t then jX a st k else jX b st k|some (.bool t)=>bif t then jX a (st.Ia c true) k else jX b (st.Ia c false) k|_=>none
 |.block id c,_,st,k=>jX c st fun e st=>match e with
  |.exit i=>bif Nat.beq i id then k .normal st else k (.exit i) st|e=>k e st
 |.loop c,_,st,k=>match look A.loops (yI c) with
  |some q=>match sW R (dR E c) st q.sh with
   |some p=>(Fq (yI c) (dR E c) (base (dR E c) q.K q.O .ro st) q.sh q.outs (fun st k=>jX c st k) n p).bind (Fe R (base (dR E c) q.K q.O (fun b=>b) st) k q.outs)
   |none=>none
  |none=>MR (fun st k=>jX c st k) 130 st k
 |.rangeFunc _ _ _ _,_,_,_=>none|.scope c,_,st,k=>jX c st k|.label _,_,st,k=>k .normal st|.exit i,_,st,k=>k (.exit i) st|.ret,_,st,k=>k .ret st|_,_,_,_=>none
def xg (st:aO R.T):List ResultVar->Option (List (aA R.T))
 | []=>some []|.tmp t::l=>match dF [] st (.tmp t) with
  |some v=>match xg st l with
   |some vs=>some (v::vs)|none=>none
  |none=>none
 |.cell a t::l=>match dF [] st (.tmp a) with
  |some (.ref o off)=>match qD st o with
   |some (.cells cs)=>match ow E t cs off with
    |some v=>match xg st l with
     |some vs=>some (v::vs)|none=>none
    |none=>none
   |some (.sg ss)=>match Sd E R t ss off with
    |some v=>match xg st l with
     |some vs=>some (v::vs)|none=>none
    |none=>none
   |_=>none
  |_=>none
def AX {T:Nat->Type}:Nat->List (aA T)->List (Nat×aA T)
 |_,[]=>[]|i,v::l=>(i,v)::AX (i+1) l
def bP (fn:Func)(args res:List bO)(p:aV R.T args):Option (aV R.T res):=
 match fn.body with
 |some c=>jX E R n aj F I A c ⟨AX 0 (jI R .sh args p),[]⟩ fun e st=>match e with
  |.exit _=>none|_=>match xg E R st fn.results.toList with
   |some vs=>bif mD res&& Nat.ble (vK res) 16 then jw R res (rW st vs) else none|none=>none
 |none=>none
def XR {T:Nat->Type}:aA T->Bool
 |.ak (.own _) _ _=>true|.ak .full _ _=>true|.fQ=>true|_=>false
def wv1 {T:Nat->Type}(st:aO T)(k:bO)(v:aA T):aA T:=match k with
 |.sub _ _=>match Ir st v with
  |some (o,t,a,b)=>.sub o t a b|none=>v
 |_=>v
def Sr {T:Nat->Type}(st:aO T):List bO->List (aA T)->List (aA T)
 |k::l,v::vs=>wv1 st k v::Sr st l vs|_,vs=>vs
def qE (fn:Func)(args:List bO)(obs:List (Nat×iC))(res:List bO)(p:aV R.T args)(q:lX R.T obs):Option (aV R.T res×lX R.T obs):=
 match fn.body with
 |some c=>jX E R n aj F I A c ⟨AX 0 (jI R .any args p),mE R obs q⟩ fun e st=>match e with
  |.exit _=>none|_=>match xg E R st fn.results.toList with
   |some vs=>match jw R res (Sr st res vs) with
    |some y=>match pE R st.ob obs with
     |some q'=>some (y,q')|none=>none
    |none=>none
   |none=>none
 |none=>none
def CP (fn:Func)(args:List bO)(τ:Ty)(p:aV R.T args):Option (List (Den R.T τ)):=
 match fn.body with
 |some c=>jX E R n aj F I A c ⟨AX 0 (jI R .sh args p),[]⟩ fun e st=>match e with
  |.exit _=>none|_=>match xg E R st fn.results.toList with
   |some [v]=>bif XR v then EW R τ v else none|_=>none
 |none=>none
end
end aQ
end
