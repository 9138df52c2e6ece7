import Derived.Test.YtabmooekodficaaGreatDoorF4406
set_option linter.all false
section
namespace Aq
open Go
inductive Ty where
 |int (k:IntKind)
 |bool
 |str
 |slice (t:Ty)
 |st (n:Nat)
 deriving DecidableEq
inductive Cp where
 |any
 |sh
 |nil
 |full
 |own (t:Nat)
structure Vec (n:Nat) where
 l:List Int
 h:l.length=n
def Vec.at' {n:Nat} (v:Vec n) (i:Int):Int:=v.l.getD i.toNat 0
def Vec.nth {n:Nat} (v:Vec n) (j:Nat):Int:=v.l.getD j 0
def Vec.set {n:Nat} (v:Vec n) (i y:Int):Vec n:=⟨v.l.set i.toNat y,by rw[List.length_set,v.h]⟩
def Vec.rep (n:Nat) (y:Int):Vec n:=⟨List.replicate n y,List.length_replicate⟩
def Vec.lit (n:Nat) (l:List Int):Vec n:=if h:l.length=n then ⟨l,h⟩ else Vec.rep n 0
def Vec.slc {n:Nat} (v:Vec n) (i:Int) (m:Nat):Vec m:=Vec.lit m ((v.l.drop i.toNat).take m)
def Vec.cpy {n:Nat} (v:Vec n) (lo:Int) (l:List Int):Vec n:=Vec.lit n (v.l.take lo.toNat++l++v.l.drop (lo.toNat+l.length))
inductive SgK where
 |i (k:IntKind)
 |a (k:IntKind) (n:Nat)
inductive Sg where
 |i (k:IntKind) (x:Int)
 |a (k:IntKind) (n:Nat) (v:Vec n)
def Sg.w:Sg->Nat
 |.i _ _=>1
 |.a _ n _=>n
def Sg.vs:Sg->List V
 |.i k x=>[.int k x]
 |.a k _ v=>v.l.map (V.int k)
def sgV:List Sg->List V
 | []=>[]
 |s::l=>s.vs++sgV l
def sgW:List Sg->Nat
 | []=>0
 |s::l=>s.w+sgW l
def PayG1:SgK->Type
 |.i _=>Int
 |.a _ n=>Vec n
def PayG:List SgK->Type
 | []=>Unit
 | [k]=>PayG1 k
 |k::h::l=>PayG1 k×PayG (h::l)
def up1:(k:SgK)->PayG1 k->Sg
 |.i k,x=>.i k x
 |.a k n,x=>.a k n x
def upG:(l:List SgK)->PayG l->List Sg
 | [],_=>[]
 | [k],x=>[up1 k x]
 |k::h::l,p=>up1 k p.1::upG (h::l) p.2
def castV {n m:Nat} (v:Vec n):Option (Vec m):=if h:n=m then some (h▸v) else none
def pk1:(k:SgK)->Sg->Option (PayG1 k)
 |.i k,.i k' x=>if k'=k then some x else none
 |.a k n,.a k' _ v=>if k'=k then castV (m:=n) v else none
 |_,_=>none
def pkG:(l:List SgK)->List Sg->Option (PayG l)
 | []=>fun vs=>match vs with
   | []=>some ()
   |_::_=>none
 | [k]=>fun vs=>match vs with
   | [v]=>pk1 k v
   |_=>none
 |k::h::l=>fun vs=>match vs with
  | []=>none
  |v::vs=>match pk1 k v with
   |some x=>match pkG (h::l) vs with
    |some p=>some (x,p)
    |none=>none
   |none=>none
section
variable (T:Nat->Type)
def Den:Ty->Type
 |.int _=>Int
 |.bool=>Bool
 |.str=>List UInt8
 |.slice t=>List (Den t)
 |.st n=>T n
def PayT:List Ty->Type
 | []=>Unit
 | [t]=>Den T t
 |t::u::l=>Den T t×PayT (u::l)
inductive TV where
 |int (k:IntKind) (n:Int)
 |bool (b:Bool)
 |blit (b:Bool)
 |str (s:List UInt8)
 |nilp
 |nilf
 |nilm
 |nili
 |nils
 |agg (cs:List TV)
 |tup (cs:List TV)
 |lst (c:Cp) (t:Ty) (l:List (Den T t))
 |ref (o off:Nat)
 |cref (cs:List TV) (off:Nat)
 |mapr (o:Nat)
 |mapc (k e:Ty) (m:List (Den T k×Den T e))
 |fn (f:Nat) (a b:List TV)
 |opt (j:Nat) (w:Bool) (v:TV)
 |vw (o:Nat) (t:Ty)
 |sub (o:Nat) (t:Ty) (a b:Int)
 |eref (o:Nat) (t:Ty) (i:Int) (off:Nat)
 |sg (ss:List Sg)
 |sv (o off:Nat) (k:IntKind) (n:Nat) (lo hi:Option Int)
 |sel (o off:Nat) (k:IntKind) (n:Nat) (i:Int) (m:Nat)
 |gel (k:IntKind) (n:Nat) (v:Vec n) (i:Int)
 |undef
 |gone
inductive Ob where
 |cells (cs:List (TV T))
 |map (k e:Ty) (m:List (Den T k×Den T e))
 |smap (ks vs:List (TV T))
 |arr (t:Ty) (l:List (Den T t))
 |sg (ss:List Sg)
 |gone
 |ro (b:Ob)
structure MS where
 fr:List (Nat×TV T)
 ob:List (Nat×Ob T)
inductive Sk where
 |d (t:Ty)
 |l (c:Cp) (t:Ty)
 |agg (l:List Sk)
 |ref (o off:Nat)
 |cref (l:List Sk) (off:Nat)
 |mapr (o:Nat)
 |mapc (k e:Ty)
 |fn (f:Nat) (a b:List Sk)
 |nils
 |vw (o:Nat) (t:Ty)
 |sub (o:Nat) (t:Ty)
 |sg (l:List SgK)
 |undef
mutual
def PayS:Sk->Type
 |.d t=>Den T t
 |.l _ t=>List (Den T t)
 |.agg l=>PayL l
 |.ref _ _=>Unit
 |.cref l _=>PayL l
 |.mapr _=>Unit
 |.mapc k e=>List (Den T k×Den T e)
 |.fn _ a b=>PayL a×PayL b
 |.nils=>Unit
 |.vw _ _=>Unit
 |.sub _ _=>Int×Int
 |.sg l=>PayG l
 |.undef=>Unit
def PayL:List Sk->Type
 | []=>Unit
 | [k]=>PayS k
 |k::h::l=>PayS k×PayL (h::l)
end
inductive ObSk where
 |cells (l:List Sk)
 |st (n:Nat)
 |map (k e:Ty)
 |arr (t:Ty)
 |sg (l:List SgK)
def PayO:ObSk->Type
 |.cells l=>PayL T l
 |.st n=>T n
 |.map k e=>List (Den T k×Den T e)
 |.arr t=>List (Den T t)
 |.sg l=>PayG l
def PayOs:List (Nat×ObSk)->Type
 | []=>Unit
 | [(_,k)]=>PayO T k
 | (_,k)::h::l=>PayO T k×PayOs (h::l)
def PaySl:List (Nat×Sk)->Type
 | []=>Unit
 | [(_,k)]=>PayS T k
 | (_,k)::h::l=>PayS T k×PaySl (h::l)
structure Shape where
 sl:List (Nat×Sk)
 ob:List (Nat×ObSk)
def Pay:Shape->Type
 | ⟨s,[]⟩=>PaySl T s
 | ⟨s,o::os⟩=>PaySl T s×PayOs T (o::os)
def Out:List (Ex×Shape)->Type
 | []=>Empty
 | [(_,s)]=>Pay T s
 | (_,s)::h::l=>Pay T s⊕Out (h::l)
end
structure Reg where
 T:Nat->Type
 d:(n:Nat)->T n
 lf:Nat->List Ty
 to:(n:Nat)->PayT T (lf n)->T n
 of:(n:Nat)->T n->PayT T (lf n)
 enc:(n:Nat)->T n->V
 ty:TypeId->Option Ty
 gl:Nat->Option ((k:IntKind)×(n:Nat)×Vec n)
structure FR (R:Reg) where
 args:List Sk
 res:List Sk
 F:PayL R.T args->Option (PayL R.T res)
 d:PayL R.T res
 own:Bool:=false
structure FI (R:Reg) where
 a:List Sk
 b:List Sk
 el:List Sk
 F:PayL R.T a->PayL R.T b->Option (List (PayL R.T el))
def F0:Nat:=1000000
inductive NK where
 |no
 |arr (t:Ty)
 |fnc (g:Nat) (a b cs:List Sk)
def PayN (T:Nat->Type):NK->Type
 |.no=>Unit
 |.arr t=>List (Den T t)
 |.fnc _ a b cs=>PayL T a×PayL T b×PayL T cs
def NK.is:NK->Bool
 |.no=>false
 |_=>true
structure FM (R:Reg) where
 args:List Sk
 obs:List (Nat×ObSk)
 res:List Sk
 F:PayL R.T args->PayOs R.T obs->Option (PayL R.T res×PayOs R.T obs)
 nk:NK
 ob2:List (Nat×ObSk)
 G:PayL R.T args->PayOs R.T obs->Option (PayN R.T nk×PayOs R.T ob2)
structure FO (R:Reg) where
 a:List Sk
 b:List Sk
 cs:List Sk
 el:List Sk
 F:PayL R.T a->PayL R.T b->PayL R.T cs->Option (List (PayL R.T el))
 q:Bool
structure IR (R:Reg) where
 it:Nat->List (FI R)
 im:Nat->List (FM R)
 io:Nat->List (FO R)
structure Note where
 K:List Nat
 O:List Nat
 sh:Shape
 outs:List (Ex×Shape)
structure Ann where
 loops:List (Nat×Note)
 joins:List (Nat×Note)
def look {α:Type}:List (Nat×α)->Nat->Option α
 | [],_=>none
 | (j,x)::l,i=>bif Nat.beq j i then some x else look l i
section
variable (R:Reg)
def encD:(t:Ty)->Den R.T t->V
 |.int k=>fun n=>.int k n
 |.bool=>fun b=>.bool b
 |.str=>fun s=>.str s
 |.slice t=>fun l=>.lst .sh (l.map (encD t))
 |.st n=>fun x=>R.enc n x
def encs:(l:List Ty)->PayT R.T l->List V
 | [],_=>[]
 | [t],x=>[encD R t x]
 |t::u::l,p=>encD R t p.1::encs (u::l) p.2
def szD:Ty->Nat
 |.st n=>(R.lf n).length
 |_=>1
def dfl:(t:Ty)->Den R.T t
 |.int _=>(0:Int)
 |.bool=>false
 |.str=>([]:List UInt8)
 |.slice t=>([]:List (Den R.T t))
 |.st n=>R.d n
def tv1 (c:Cp):(t:Ty)->Den R.T t->TV R.T
 |.int k=>fun n=>.int k n
 |.bool=>fun b=>.bool b
 |.str=>fun s=>.str s
 |.slice t=>fun l=>.lst c t l
 |.st _=>fun _=>.undef
def tvs (c:Cp):(l:List Ty)->PayT R.T l->List (TV R.T)
 | [],_=>[]
 | [t],x=>[tv1 R c t x]
 |t::u::l,p=>tv1 R c t p.1::tvs c (u::l) p.2
def tvD (c:Cp):(t:Ty)->Den R.T t->TV R.T
 |.st n=>fun x=>.agg (tvs R c (R.lf n) (R.of n x))
 |.int k=>fun n=>.int k n
 |.bool=>fun b=>.bool b
 |.str=>fun s=>.str s
 |.slice t=>fun l=>.lst c t l
def castL {t u:Ty} (l:List (Den R.T t)):Option (List (Den R.T u)):=if h:t=u then some (h▸l) else none
def unInt (k:IntKind):TV R.T->Option Int
 |.int k' n=>if k=k' then some n else none
 |_=>none
def unBool:TV R.T->Option Bool
 |.bool b=>some b
 |.blit b=>some b
 |_=>none
def unStr:TV R.T->Option (List UInt8)
 |.str s=>some s
 |_=>none
def unSl (t:Ty):TV R.T->Option (List (Den R.T t))
 |.lst _ _ l=>castL R l
 |.nils=>some []
 |_=>none
def un1:(t:Ty)->TV R.T->Option (Den R.T t)
 |.int k=>fun v=>unInt R k v
 |.bool=>fun v=>unBool R v
 |.str=>fun v=>unStr R v
 |.slice t=>fun v=>unSl R t v
 |.st _=>fun _=>none
def hd1:List (TV R.T)->TV R.T
 | [v]=>v
 |_=>.gone
def uns:(l:List Ty)->List (TV R.T)->Option (PayT R.T l)
 | []=>fun vs=>match vs with
   | []=>some ()
   |_::_=>none
 | [t]=>fun vs=>un1 R t (hd1 R vs)
 |t::u::l=>fun vs=>match vs with
  | []=>none
  |v::vs=>match un1 R t v with
   |some x=>match uns (u::l) vs with
    |some p=>some (x,p)
    |none=>none
   |none=>none
def unSt (n:Nat):TV R.T->Option (R.T n)
 |.agg cs=>match uns R (R.lf n) cs with
  |some p=>some (R.to n p)
  |none=>none
 |_=>none
def unD:(t:Ty)->TV R.T->Option (Den R.T t)
 |.st n=>fun v=>unSt R n v
 |.int k=>fun v=>unInt R k v
 |.bool=>fun v=>unBool R v
 |.str=>fun v=>unStr R v
 |.slice t=>fun v=>unSl R t v
def TV.cells {T:Nat->Type}:TV T->List (TV T)
 |.agg cs=>cs
 |v=>[v]
mutual
def ment {T:Nat->Type} (o:Nat):TV T->Bool
 |.ref p _=>Nat.beq p o
 |.mapr p=>Nat.beq p o
 |.agg cs=>mentL o cs
 |.tup cs=>mentL o cs
 |.cref cs _=>mentL o cs
 |.fn _ a b=>mentL o a||mentL o b
 |.opt _ _ v=>ment o v
 |.vw p _=>Nat.beq p o
 |.sub p _ _ _=>Nat.beq p o
 |.eref p _ _ _=>Nat.beq p o
 |.sv p _ _ _ _ _=>Nat.beq p o
 |.sel p _ _ _ _ _=>Nat.beq p o
 |_=>false
def mentL {T:Nat->Type} (o:Nat):List (TV T)->Bool
 | []=>false
 |v::l=>ment o v||mentL o l
end
def Ob.ment {T:Nat->Type} (o:Nat):Ob T->Bool
 |.cells cs=>mentL o cs
 |.smap ks vs=>mentL o ks||mentL o vs
 |.ro b=>Ob.ment o b
 |_=>false
mutual
def wk {T:Nat->Type} (t:Nat):TV T->TV T
 |.lst (.own u) ty l=>bif Nat.beq u t then .lst .any ty l else .lst (.own u) ty l
 |.agg cs=>.agg (wkL t cs)
 |.tup cs=>.tup (wkL t cs)
 |.cref cs off=>.cref (wkL t cs) off
 |.fn f a b=>.fn f (wkL t a) (wkL t b)
 |.opt j w v=>.opt j w (wk t v)
 |v=>v
def wkL {T:Nat->Type} (t:Nat):List (TV T)->List (TV T)
 | []=>[]
 |v::l=>wk t v::wkL t l
end
def Ob.wk {T:Nat->Type} (t:Nat):Ob T->Ob T
 |.cells cs=>.cells (wkL t cs)
 |.smap ks vs=>.smap (wkL t ks) (wkL t vs)
 |.ro b=>.ro (Ob.wk t b)
 |o=>o
def mapF {α:Type} (f:α->α):List (Nat×α)->List (Nat×α)
 | []=>[]
 | (i,x)::l=>(i,f x)::mapF f l
def delF {α:Type} (i:Nat):List (Nat×α)->List (Nat×α)
 | []=>[]
 | (j,x)::l=>bif Nat.beq j i then delF i l else (j,x)::delF i l
def MS.wk {T:Nat->Type} (t:Nat) (st:MS T):MS T:=⟨mapF (Aq.wk t) st.fr,mapF (Ob.wk t) st.ob⟩
def unopt {T:Nat->Type} (j:Nat):TV T->TV T
 |.opt i w v=>bif Nat.beq i j then .gone else .opt i w v
 |v=>v
def MS.put {T:Nat->Type} (st:MS T) (i:Nat) (v:TV T):MS T:={st with fr:=(i,v)::mapF (unopt i) (delF i st.fr)}
def MS.putO {T:Nat->Type} (st:MS T) (d:Option Nat) (v:TV T):MS T:=match d with
 |some i=>st.put i v
 |none=>st
def lrn {T:Nat->Type} (j:Nat) (b:Bool):TV T->TV T
 |.opt i w v=>bif Nat.beq i j then (bif (b==w) then v else .undef) else .opt i w v
 |v=>v
def MS.learn {T:Nat->Type} (st:MS T) (j:Nat) (b:Bool):MS T:={st with fr:=(j,.blit b)::mapF (lrn j b) (delF j st.fr)}
def MS.learnO {T:Nat->Type} (st:MS T) (c:Operand) (b:Bool):MS T:=match c with
 |.tmp j=>st.learn j b
 |_=>st
def killO {T:Nat->Type} (o:Nat) (v:TV T):TV T:=bif ment o v then .gone else v
def killC {T:Nat->Type} (o:Nat):List (TV T)->List (TV T)
 | []=>[]
 |v::l=>killO o v::killC o l
def Ob.kill {T:Nat->Type} (o:Nat):Ob T->Ob T
 |.cells cs=>.cells (killC o cs)
 |v=>bif Ob.ment o v then .gone else v
def MS.new {T:Nat->Type} (st:MS T) (o:Nat) (b:Ob T):MS T:=⟨mapF (killO o) st.fr,(o,b)::mapF (Ob.kill o) (delF o st.ob)⟩
def MS.set {T:Nat->Type} (st:MS T) (o:Nat) (b:Ob T):MS T:={st with ob:=(o,b)::delF o st.ob}
def MS.del {T:Nat->Type} (st:MS T) (o:Nat):MS T:={st with ob:=delF o st.ob}
def stripO {T:Nat->Type}:Ob T->Ob T
 |.ro b=>stripO b
 |b=>b
def rdOb {T:Nat->Type} (st:MS T) (o:Nat):Option (Ob T):=match look st.ob o with
 |some b=>some (stripO b)
 |none=>none
def isRo {T:Nat->Type}:Ob T->Bool
 |.ro _=>true
 |.gone=>true
 |_=>false
def memN (i:Nat):List Nat->Bool
 | []=>false
 |j::l=>Nat.beq i j||memN i l
mutual
def solid {T:Nat->Type} (W:List Nat):TV T->Bool
 |.lst (.own _) _ _=>false
 |.ref o _=>!(memN o W)
 |.mapr o=>!(memN o W)
 |.agg cs=>solidL W cs
 |.tup cs=>solidL W cs
 |.cref cs _=>solidL W cs
 |.fn _ a b=>solidL W a&& solidL W b
 |.opt _ _ _=>false
 |.vw o _=>!(memN o W)
 |.sub o _ _ _=>!(memN o W)
 |.eref o _ _ _=>!(memN o W)
 |.sv o _ _ _ _ _=>!(memN o W)
 |.sel o _ _ _ _ _=>!(memN o W)
 |.gone=>false
 |_=>true
def solidL {T:Nat->Type} (W:List Nat):List (TV T)->Bool
 | []=>true
 |v::l=>solid W v&& solidL W l
end
def solidO {T:Nat->Type} (W:List Nat):Ob T->Bool
 |.cells cs=>solidL W cs
 |.map _ _ _=>true
 |.smap ks vs=>solidL W ks&& solidL W vs
 |.arr _ _=>true
 |.sg _=>true
 |.ro b=>solidO W b
 |.gone=>false
def selF {α:Type} (p:Nat->α->Bool) (f:α->α) (l:List (Nat×α)):List Nat->List (Nat×α)
 | []=>[]
 |i::is=>match look l i with
  |some x=>bif p i x then (i,f x)::selF p f l is else selF p f l is
  |none=>selF p f l is
def wkA {T:Nat->Type}:TV T->TV T
 |.lst (.own _) t l=>.lst .any t l
 |v=>v
def base {T:Nat->Type} (W K O:List Nat) (mark:Ob T->Ob T) (st:MS T):MS T:=
 ⟨selF (fun i v=>!(memN i W)&& solid W (wkA v)) wkA st.fr K,selF (fun o b=>!(memN o W)&& solidO W b) mark st.ob O⟩
def MS.over {T:Nat->Type} (st b:MS T):MS T:=⟨st.fr++b.fr,st.ob++b.ob⟩
def ofScalarM {T:Nat->Type}:Value->Option (TV T)
 |.bool b=>some (.blit b)
 |.int k n=>some (.int k n)
 |.string s=>some (.str s.data.toList)
 |.pointer none=>some .nilp
 |.slice none 0 0=>some .nils
 |.map none=>some .nilm
 |.nilFunc=>some .nilf
 |.nilIface=>some .nili
 |_=>none
def ofScalarsM {T:Nat->Type}:List Value->Option (List (TV T))
 | []=>some []
 |v::l=>match ofScalarM v with
  |some x=>match ofScalarsM l with
   |some y=>some (x::y)
   |none=>none
  |none=>none
def ofValueM {T:Nat->Type}:Value->Option (TV T)
 |.agg cs=>match ofScalarsM cs.toList with
  |some l=>some (.agg l)
  |none=>none
 |v=>ofScalarM v
def resG {T:Nat->Type} (g:List (Nat×Bool)):TV T->Option (TV T)
 |.opt j w v=>match look g j with
  |some u=>some (bif u==w then v else .undef)
  |none=>none
 |v=>some v
def evM {T:Nat->Type} (g:List (Nat×Bool)) (st:MS T):Operand->Option (TV T)
 |.tmp t=>match look st.fr t with
  |some v=>resG g v
  |none=>none
 |.const v=>ofValueM v
 |.func f=>some (.fn f [] [])
 |.global _=>none
def evMs {T:Nat->Type} (g:List (Nat×Bool)) (st:MS T):List Operand->Option (List (TV T))
 | []=>some []
 |x::l=>match evM g st x with
  |some v=>match evMs g st l with
   |some vs=>some (v::vs)
   |none=>none
  |none=>none
def evPs {T:Nat->Type} (g:List (Nat×Bool)) (st:MS T):List (Nat×Operand)->Option (List (Nat×TV T))
 | []=>some []
 | (i,x)::l=>match evM g st x with
   |some v=>match evPs g st l with
    |some vs=>some ((i,v)::vs)
    |none=>none
   |none=>none
def splitG:List Sg->Nat->Option (List Sg×List Sg)
 |ss,0=>some ([],ss)
 | [],_+1=>none
 |s::ss,n+1=>bif Nat.ble s.w (n+1) then (match splitG ss (n+1-s.w) with
  |some (a,b)=>some (s::a,b)
  |none=>none) else none
def unIs {T:Nat->Type} (k:IntKind):List (TV T)->Option (List Int)
 | []=>some []
 |.int k' x::l=>if k'=k then (match unIs k l with
  |some xs=>some (x::xs)
  |none=>none) else none
 |_=>none
def subG {α:Type} (l:List α):Option Int->Option Int->List α
 |none,none=>l
 |some i,none=>l.drop i.toNat
 |none,some j=>l.take j.toNat
 |some i,some j=>(l.take j.toNat).drop i.toNat
def svL {T:Nat->Type} (st:MS T) (o off:Nat) (k:IntKind) (n:Nat) (lo hi:Option Int):Option (List Int):=
 match rdOb st o with
 |some (.sg ss)=>match splitG ss off with
  |some (_,.a k' n' v::_)=>if k'=k then (bif Nat.beq n' n then some (subG v.l lo hi) else none) else none
  |_=>none
 |some (.cells cs)=>bif Nat.ble (off+n) cs.length then (match unIs k ((cs.drop off).take n) with
  |some l=>some (subG l lo hi)
  |none=>none) else none
 |_=>none
def subI {α:Type} (l:List α) (a b:Int):List α:=(l.take b.toNat).drop a.toNat
def clo1 {T:Nat->Type} (st:MS T):TV T->TV T
 |.ref o off=>match rdOb st o with
  |some (.cells cs)=>.cref cs off
  |_=>.ref o off
 |.mapr o=>match rdOb st o with
  |some (.map k e m)=>.mapc k e m
  |_=>.mapr o
 |.vw o t=>match rdOb st o with
  |some (.arr t' l)=>if t'=t then .lst .sh t' l else .vw o t
  |_=>.vw o t
 |.sub o t a b=>match rdOb st o with
  |some (.arr t' l)=>if t'=t then .lst .sh t' (subI l a b) else .sub o t a b
  |_=>.sub o t a b
 |.sv o off k n lo hi=>match svL st o off k n lo hi with
  |some l=>.lst .sh (.int k) l
  |none=>.sv o off k n lo hi
 |v=>v
def clo1s {T:Nat->Type} (st:MS T):List (TV T)->List (TV T)
 | []=>[]
 |v::l=>clo1 st v::clo1s st l
def cloM {T:Nat->Type} (st:MS T):TV T->TV T
 |.fn f a b=>.fn f (clo1s st a) (clo1s st b)
 |.agg cs=>.agg (clo1s st cs)
 |v=>clo1 st v
def cloMs {T:Nat->Type} (st:MS T):List (TV T)->List (TV T)
 | []=>[]
 |v::l=>cloM st v::cloMs st l
def oneM {T:Nat->Type}:TV T->Bool
 |.agg _=>false
 |.sg _=>false
 |.tup _=>false
 |.gone=>false
 |.undef=>false
 |.opt _ _ _=>false
 |_=>true
def oneMs {T:Nat->Type}:List (TV T)->Bool
 | []=>true
 |v::l=>oneM v&& oneMs l
def notG {T:Nat->Type}:TV T->Bool
 |.gone=>false
 |.sg _=>false
 |.opt _ _ _=>false
 |_=>true
mutual
def stV {T:Nat->Type}:TV T->Bool
 |.int _ _=>true
 |.bool _=>true
 |.blit _=>true
 |.str _=>true
 |.nilp=>true
 |.nilf=>true
 |.nilm=>true
 |.nili=>true
 |.lst .sh _ _=>true
 |.agg cs=>stL cs
 |.tup cs=>stL cs
 |.mapc _ _ _=>true
 |.cref cs _=>stL cs
 |.fn _ a b=>stL a&& stL b
 |.sg _=>true
 |_=>false
def stL {T:Nat->Type}:List (TV T)->Bool
 | []=>true
 |v::l=>stV v&& stL l
end
def er1M {T:Nat->Type}:TV T->TV T
 |.lst _ t l=>.lst .sh t l
 |v=>v
def er1Ms {T:Nat->Type}:List (TV T)->List (TV T)
 | []=>[]
 |v::l=>er1M v::er1Ms l
def erM {T:Nat->Type}:TV T->TV T
 |.lst _ t l=>.lst .sh t l
 |.agg cs=>.agg (er1Ms cs)
 |v=>v
def cl1 {T:Nat->Type}:TV T->Bool
 |.lst _ _ _=>true
 |.nils=>true
 |v=>stV v
def cl1s {T:Nat->Type}:List (TV T)->Bool
 | []=>true
 |v::l=>cl1 v&& cl1s l
def clV {T:Nat->Type}:TV T->Bool
 |.agg cs=>cl1s cs
 |v=>cl1 v
def clVs {T:Nat->Type}:List (TV T)->Bool
 | []=>true
 |v::l=>clV v&& clVs l
mutual
def cSk:Sk->Bool
 |.d _=>true
 |.l c _=>match c with
  |.any=>true
  |.sh=>true
  |_=>false
 |.agg l=>cSkL l
 |.cref l _=>cSkL l
 |.mapc _ _=>true
 |.fn _ a b=>cSkL a&& cSkL b
 |.sg _=>true
 |_=>false
def cSkL:List Sk->Bool
 | []=>true
 |k::l=>cSk k&& cSkL l
def dep:Sk->Nat
 |.agg l=>depL l+3
 |.cref l _=>depL l+3
 |.fn _ a b=>max (depL a) (depL b)+3
 |_=>3
def depL:List Sk->Nat
 | []=>0
 |k::l=>max (dep k) (depL l)
end
def flatT:Ty->Bool
 |.int _=>true
 |.bool=>true
 |.str=>true
 |_=>false
def flatSk:List Sk->Bool
 | []=>true
 |.d t::l=>flatT t&& flatSk l
 |.sg _::l=>flatSk l
 |_=>false
mutual
def encS:(k:Sk)->PayS R.T k->V
 |.d t,x=>encD R t x
 |.l _ t,x=>encD R (.slice t) x
 |.agg l,x=>.agg (encSL l x)
 |.cref l off,x=>.cref (encSL l x) off
 |.mapc k e,x=>.mapc (List.map (fun p=>encD R k p.1) x) (List.map (fun p=>encD R e p.2) x)
 |.fn f a b,x=>.fn (.func f) (encSL a x.1) (encSL b x.2)
 |.nils,_=>.lst .sh []
 |.ref _ _,_=>undefV
 |.mapr _,_=>undefV
 |.vw _ _,_=>undefV
 |.sub _ _,_=>undefV
 |.sg l,x=>.agg (sgV (upG l x))
 |.undef,_=>undefV
def encSL:(l:List Sk)->PayL R.T l->List V
 | [],_=>[]
 | [k],x=>[encS k x]
 |k::h::l,p=>encS k p.1::encSL (h::l) p.2
end
def retV:List V->V
 | [v]=>v
 |vs=>.tup vs
def capLe:Cp->Cp->Bool
 |_,.any=>true
 |.sh,.sh=>true
 |.nil,.nil=>true
 |.nil,.own _=>true
 |.full,.own _=>true
 |.full,.full=>true
 |.own t,.own u=>Nat.beq t u
 |_,_=>false
def pkLst (c:Cp) (t:Ty):TV R.T->Option (List (Den R.T t))
 |.lst c' _ l=>bif capLe c' c then castL R l else none
 |.nils=>bif capLe .nil c then some [] else none
 |_=>none
def castM {k e k' e':Ty} (m:List (Den R.T k'×Den R.T e')):Option (List (Den R.T k×Den R.T e)):=if h:k'=k/\e'=e then some (by rw[<-h.1,<-h.2];exact m) else none
mutual
def pk:(k:Sk)->TV R.T->Option (PayS R.T k)
 |.d t=>fun v=>unD R t v
 |.l c t=>fun v=>pkLst R c t v
 |.agg l=>fun v=>match v with
  |.agg cs=>pkL l cs
  |_=>none
 |.ref o off=>fun v=>match v with
  |.ref p off'=>bif Nat.beq p o&& Nat.beq off' off then some () else none
  |_=>none
 |.cref l off=>fun v=>match v with
  |.cref cs off'=>bif Nat.beq off' off then pkL l cs else none
  |_=>none
 |.mapr o=>fun v=>match v with
  |.mapr p=>bif Nat.beq p o then some () else none
  |_=>none
 |.mapc k e=>fun v=>match v with
  |.mapc _ _ m=>castM R m
  |_=>none
 |.fn f a b=>fun v=>match v with
  |.fn f' a' b'=>bif Nat.beq f' f then (match pkL a a' with
   |some x=>match pkL b b' with
    |some y=>some (x,y)
    |none=>none
   |none=>none) else none
  |_=>none
 |.nils=>fun v=>match v with
  |.nils=>some ()
  |_=>none
 |.vw o t=>fun v=>match v with
  |.vw p t'=>bif Nat.beq p o then (if t'=t then some () else none) else none
  |_=>none
 |.sub o t=>fun v=>match v with
  |.sub p t' a b=>bif Nat.beq p o then (if t'=t then some (a,b) else none) else none
  |_=>none
 |.sg l=>fun v=>match v with
  |.sg ss=>pkG l ss
  |_=>none
 |.undef=>fun v=>match v with
  |.undef=>some ()
  |_=>none
def pkL:(l:List Sk)->List (TV R.T)->Option (PayL R.T l)
 | []=>fun vs=>match vs with
   | []=>some ()
   |_::_=>none
 | [k]=>fun vs=>match vs with
   | [v]=>pk k v
   |_=>none
 |k::h::l=>fun vs=>match vs with
  | []=>none
  |v::vs=>match pk k v with
   |some x=>match pkL (h::l) vs with
    |some p=>some (x,p)
    |none=>none
   |none=>none
end
mutual
def up (c:Cp):(k:Sk)->PayS R.T k->TV R.T
 |.d t,x=>tvD R c t x
 |.l c t,x=>.lst c t x
 |.agg l,x=>.agg (upL c l x)
 |.ref o off,_=>.ref o off
 |.cref l off,x=>.cref (upL c l x) off
 |.mapr o,_=>.mapr o
 |.mapc k e,x=>.mapc k e x
 |.fn f a b,x=>.fn f (upL c a x.1) (upL c b x.2)
 |.nils,_=>.nils
 |.vw o t,_=>.vw o t
 |.sub o t,x=>.sub o t x.1 x.2
 |.sg l,x=>.sg (upG l x)
 |.undef,_=>.undef
def upL (c:Cp):(l:List Sk)->PayL R.T l->List (TV R.T)
 | [],_=>[]
 | [k],x=>[up c k x]
 |k::h::l,p=>up c k p.1::upL c (h::l) p.2
end
def pkO:(k:ObSk)->Ob R.T->Option (PayO R.T k)
 |.cells l=>fun o=>match o with
  |.cells cs=>pkL R l cs
  |_=>none
 |.st n=>fun o=>match o with
  |.cells cs=>unSt R n (.agg cs)
  |_=>none
 |.map k e=>fun o=>match o with
  |.map _ _ m=>castM R m
  |_=>none
 |.arr t=>fun o=>match o with
  |.arr _ l=>castL R l
  |_=>none
 |.sg l=>fun o=>match o with
  |.sg ss=>pkG l ss
  |_=>none
def upO:(k:ObSk)->PayO R.T k->Ob R.T
 |.cells l,x=>.cells (upL R .any l x)
 |.st n,x=>.cells (tvs R .any (R.lf n) (R.of n x))
 |.map k e,x=>.map k e x
 |.arr t,x=>.arr t x
 |.sg l,x=>.sg (upG l x)
def pkSl (st:List (Nat×TV R.T)):(l:List (Nat×Sk))->Option (PaySl R.T l)
 | []=>some ()
 | [(i,k)]=>match look st i with
   |some v=>pk R k v
   |none=>none
 | (i,k)::h::l=>match look st i with
   |some v=>match pk R k v with
    |some x=>match pkSl st (h::l) with
     |some p=>some (x,p)
     |none=>none
    |none=>none
   |none=>none
def upSl:(l:List (Nat×Sk))->PaySl R.T l->List (Nat×TV R.T)
 | [],_=>[]
 | [(i,k)],x=>[(i,up R .any k x)]
 | (i,k)::h::l,p=>(i,up R .any k p.1)::upSl (h::l) p.2
def pkOs (st:List (Nat×Ob R.T)):(l:List (Nat×ObSk))->Option (PayOs R.T l)
 | []=>some ()
 | [(i,k)]=>match look st i with
   |some v=>pkO R k v
   |none=>none
 | (i,k)::h::l=>match look st i with
   |some v=>match pkO R k v with
    |some x=>match pkOs st (h::l) with
     |some p=>some (x,p)
     |none=>none
    |none=>none
   |none=>none
def upOs:(l:List (Nat×ObSk))->PayOs R.T l->List (Nat×Ob R.T)
 | [],_=>[]
 | [(i,k)],x=>[(i,upO R k x)]
 | (i,k)::h::l,p=>(i,upO R k p.1)::upOs (h::l) p.2
def pack (st:MS R.T):(s:Shape)->Option (Pay R.T s)
 | ⟨s,[]⟩=>pkSl R st.fr s
 | ⟨s,o::os⟩=>match pkSl R st.fr s with
   |some x=>match pkOs R st.ob (o::os) with
    |some y=>some (x,y)
    |none=>none
   |none=>none
def isE {T:Nat->Type}:TV T->Bool
 |.nils=>true
 |.lst .nil _ l=>l.isEmpty
 |.lst .full _ l=>l.isEmpty
 |_=>false
def prepS {T:Nat->Type} (W:List Nat):List (Nat×Sk)->MS T->MS T
 | [],st=>st
 | (i,.vw o t)::l,st=>match look st.fr i with
   |some v=>bif isE v&& memN o W then prepS W l ⟨(i,.vw o t)::(st.new o (.arr t [])).fr,(st.new o (.arr t [])).ob⟩ else prepS W l st
   |none=>prepS W l st
 |_::l,st=>prepS W l st
def prepO1 {T:Nat->Type} (W:List Nat) (o:Nat) (k:ObSk) (st:MS T):MS T:=match k with
 |.cells l=>match l with
  | [.vw p t]=>match look st.ob o with
    |some (.cells cs)=>match cs with
     | [v]=>bif isE v&& memN p W&& !(Nat.beq o p) then ⟨(st.new p (.arr t [])).fr,(o,.cells [.vw p t])::(st.new p (.arr t [])).ob⟩ else st
     |_=>st
    |_=>st
  | [.sub p t]=>match look st.ob o with
    |some (.cells cs)=>match cs with
     | [v]=>bif isE v&& memN p W&& !(Nat.beq o p) then ⟨(st.new p (.arr t [])).fr,(o,.cells [.sub p t 0 0])::(st.new p (.arr t [])).ob⟩ else st
     |_=>st
    |_=>st
  |_=>st
 |_=>st
def prepO {T:Nat->Type} (W:List Nat):List (Nat×ObSk)->MS T->MS T
 | [],st=>st
 | (o,k)::l,st=>prepO W l (prepO1 W o k st)
def packW (W:List Nat) (st:MS R.T) (s:Shape):Option (Pay R.T s):=pack R (prepS W s.sl (prepO W s.ob st)) s
def unpack:(s:Shape)->Pay R.T s->MS R.T
 | ⟨s,[]⟩,x=>⟨upSl R s x,[]⟩
 | ⟨s,o::os⟩,x=>⟨upSl R s x.1,upOs R (o::os) x.2⟩
def exEq:Ex->Ex->Bool
 |.normal,.normal=>true
 |.ret,.ret=>true
 |.exit i,.exit j=>Nat.beq i j
 |_,_=>false
def packOut (W:List Nat) (e:Ex) (st:MS R.T):(l:List (Ex×Shape))->Option (Out R.T l)
 | []=>none
 | [(x,s)]=>bif exEq e x then packW R W st s else none
 | (x,s)::h::l=>bif exEq e x then (match packW R W st s with
   |some p=>some (.inl p)
   |none=>none) else (match packOut W e st (h::l) with
   |some p=>some (.inr p)
   |none=>none)
def unpackOut {β:Type} (b:MS R.T) (k:Ex->MS R.T->Option β):(l:List (Ex×Shape))->Out R.T l->Option β
 | [],_=>none
 | [(x,s)],p=>k x (b.over (unpack R s p))
 | (x,s)::h::l,p=>Sum.elim (fun q=>k x (b.over (unpack R s q))) (fun q=>unpackOut b k (h::l) q) p
end
end Aq
end
section
namespace Aq
open Go
inductive Res (R:Reg) where
 |t (v:TV R.T)
 |c (b:Bool) (v:TV R.T)
 |w (v:TV R.T) (st:MS R.T)
 |wc (b:Bool) (v:TV R.T) (st:MS R.T)
 |p (α:Type) (d:α) (o:Option α) (f:α->TV R.T)
section
variable (E:Env) (R:Reg)
def partM {T:Nat->Type} (agg:Bool) (n:Nat) (cs:List (TV T)) (off:Nat):Option (TV T):=
 bif agg then (bif Nat.ble (off+n) cs.length then some (.agg ((cs.drop off).take n)) else none) else cs[off]?
def ldM {T:Nat->Type} (t:TypeId) (cs:List (TV T)) (off:Nat):Option (TV T):=
 match isAggT E.P t with
 |some a=>match szT E.P t with
  |some n=>partM a n cs off
  |none=>none
 |none=>none
def spliceM {T:Nat->Type} (cs:List (TV T)) (off:Nat) (vs:List (TV T)):List (TV T):=cs.take off++vs++cs.drop (off+vs.length)
def fillM {T:Nat->Type} (place:Nat->Option (Nat×Nat)) (cells:List (TV T)):List (Nat×TV T)->Option (List (TV T))
 | []=>some cells
 | (i,v)::rest=>match place i with
   |none=>none
   |some (off,size)=>bif Nat.beq v.cells.length size&& Nat.ble (off+size) cells.length&& notG v then fillM place (spliceM cells off v.cells) rest else none
def zeroM {T:Nat->Type} (t:TypeId):Option (TV T):=match E.P.info? t with
 |some i=>match i.zero with
  |some z=>ofValueM z
  |none=>none
 |none=>none
def bM {T:Nat->Type}:TV T->Option Bool
 |.bool a=>some a
 |.blit a=>some a
 |_=>none
def eqSM {T:Nat->Type} (x y:TV T):Option Bool:=match bM x,bM y with
 |some a,some b=>some (a==b)
 |_,_=>none
def eqFlM {T:Nat->Type} (eq:TypeId->TV T->TV T->Option Bool) (xs ys:List (TV T)):List Field->Option Bool
 | []=>some true
 |f::fs=>if f.name= "_" then eqFlM eq xs ys fs else
  match ldM E f.type xs f.offset with
  |none=>none
  |some a=>match ldM E f.type ys f.offset with
   |none=>none
   |some b=>match eq f.type a b with
    |none=>none
    |some r=>match eqFlM eq xs ys fs with
     |none=>none
     |some q=>some (r&& q)
def eqElM {T:Nat->Type} (eq:TypeId->TV T->TV T->Option Bool) (e:TypeId) (sz:Nat) (xs ys:List (TV T)):List Nat->Option Bool
 | []=>some true
 |i::is=>match ldM E e xs (i*sz) with
  |none=>none
  |some a=>match ldM E e ys (i*sz) with
   |none=>none
   |some b=>match eq e a b with
    |none=>none
    |some r=>match eqElM eq e sz xs ys is with
     |none=>none
     |some q=>some (r&& q)
def eqTM {T:Nat->Type}:Nat->TypeId->TV T->TV T->Option Bool
 |0,_,_,_=>none
 |d+1,t,x,y=>
  match E.P.underlying t,x,y with
  |some (.struct fs),.agg xs,.agg ys=>if E.P.stoodInHeld t then none else eqFlM E (eqTM d) xs ys fs.toList
  |some (.array n e),.agg xs,.agg ys=>match szT E.P e with
   |some sz=>eqElM E (eqTM d) e sz xs ys (List.range n)
   |none=>none
  |some (.struct _),_,_=>none
  |some (.array _ _),_,_=>none
  |some .bool,x,y=>eqSM x y
  |some (.int _),.int k a,.int k' b=>if k=k' then some (a==b) else none
  |some .string,.str a,.str b=>some (a==b)
  |_,_,_=>none
def eqM {T:Nat->Type} (t:TypeId) (x y:TV T):Option Bool:=
 match E.P.underlying t,x,y with
 |some (.struct _),.agg a,.agg b=>if E.P.eqGuardType E.P.depth t then none else eqTM E 8 t (.agg a) (.agg b)
 |some (.array _ _),.agg a,.agg b=>if E.P.eqGuardType E.P.depth t then none else eqTM E 8 t (.agg a) (.agg b)
 |some (.func ..),.nilf,.nilf=>some true
 |some (.func ..),.nilf,.fn _ _ _=>some false
 |some (.func ..),.fn _ _ _,.nilf=>some false
 |some .bool,x,y=>eqSM x y
 |_,_,_=>none
def intM (op:BinOp) (k:IntKind) (x y:Int):Option (Res R):=
 match op with
 |.add=>some (.t (.int k (k.wrap (x+y))))
 |.sub=>some (.t (.int k (k.wrap (x-y))))
 |.mul=>some (.t (.int k (k.wrap (x*y))))
 |.quo=>some (.c (!(y==0)) (.int k (k.wrap (x.tdiv y))))
 |.rem=>some (.c (!(y==0)) (.int k (x.tmod y)))
 |.and=>some (.t (.int k (k.wrap (BitVec.ofInt k.bits x&&& BitVec.ofInt k.bits y).toNat)))
 |.or=>some (.t (.int k (k.wrap (BitVec.ofInt k.bits x|||BitVec.ofInt k.bits y).toNat)))
 |.xor=>some (.t (.int k (k.wrap (BitVec.ofInt k.bits x^^^BitVec.ofInt k.bits y).toNat)))
 |.andNot=>some (.t (.int k (k.wrap (BitVec.ofInt k.bits x&&& ~~~BitVec.ofInt k.bits y).toNat)))
 |.eql=>some (.t (.bool (x==y)))
 |.neq=>some (.t (.bool (x !=y)))
 |.lss=>some (.t (.bool (decide (x<y))))
 |.leq=>some (.t (.bool (decide (x<=y))))
 |.gtr=>some (.t (.bool (decide (x>y))))
 |.geq=>some (.t (.bool (decide (x>=y))))
 |_=>none
def shiftM (op:BinOp) (k:IntKind) (x y:Int):Option (Res R):=
 match op with
 |.shl=>some (.c (decide (0<=y)) (.int k (k.wrap (x*2^min y.toNat k.bits))))
 |.shr=>some (.c (decide (0<=y)) (.int k (x.fdiv (2^min y.toNat k.bits))))
 |_=>none
def strM (op:BinOp) (x y:List UInt8):Option (Res R):=
 match op with
 |.add=>some (.c (decide (((x.length+y.length:Nat):Int)<=IntKind.i64.max)) (.str (x++y)))
 |.eql=>some (.t (.bool (x==y)))
 |.neq=>some (.t (.bool (!(x==y))))
 |.lss=>some (.t (.bool (Op.bytesLess x y)))
 |.leq=>some (.t (.bool (Op.bytesLess x y||x==y)))
 |.gtr=>some (.t (.bool (!(Op.bytesLess x y||x==y))))
 |.geq=>some (.t (.bool (!(Op.bytesLess x y))))
 |_=>none
def isShift:BinOp->Bool
 |.shl=>true
 |.shr=>true
 |_=>false
def nilM (t:TypeId) (x y:TV R.T):Option (Bool×Bool):=match E.P.underlying t,x,y with
 |some (.slice _),.nils,.nils=>some (true,true)
 |some (.slice _),.lst .nil _ l,.nils=>some (l.isEmpty,true)
 |some (.slice _),.lst _ _ l,.nils=>some (!l.isEmpty,false)
 |_,_,_=>none
def binM (op:BinOp) (t:TypeId) (x y:TV R.T):Option (Res R):=
 match x,y with
 |.int k a,.int k' b=>bif isShift op then shiftM R op k a b else (if k=k' then intM R op k a b else none)
 |.str a,.str b=>strM R op a b
 |x,y=>match op with
  |.eql=>match nilM E R t x y with
   |some (c,b)=>some (.c c (.blit b))
   |none=>match eqM E t x y with
    |some b=>some (.t (.bool b))
    |none=>none
  |.neq=>match nilM E R t x y with
   |some (c,b)=>some (.c c (.blit (!b)))
   |none=>match eqM E t x y with
    |some b=>some (.t (.bool (!b)))
    |none=>none
  |_=>none
def unM (op:UnOp) (x:TV R.T):Option (Res R):=
 match op,x with
 |.neg,.int k n=>some (.t (.int k (k.wrap (0-n))))
 |.xor,.int k n=>intM R .xor k (if k.signed then-1 else k.max) n
 |.not,.bool b=>some (.t (.bool (!b)))
 |.not,.blit b=>some (.t (.blit (!b)))
 |_,_=>none
def convM (src dst:TypeId) (x:TV R.T):Option (Res R):=
 match E.P.underlying src,E.P.underlying dst,x with
 |some _,some (.int k),.int _ n=>some (.t (.int k (k.wrap n)))
 |some _,some .string,.str s=>some (.t (.str s))
 |some _,some (.slice e),.str s=>match E.P.underlying e with
  |some (.int .u8)=>some (.t (.lst .any (.int .u8) (s.map fun b=>((b.toNat:Nat):Int))))
  |_=>none
 |some (.slice e),some .string,.lst _ (.int .u8) l=>match E.P.underlying e with
  |some (.int .u8)=>some (.t (.str (List.map (fun n:Int=>UInt8.ofNat n.toNat) l)))
  |_=>none
 |some (.slice e),some .string,.nils=>match E.P.underlying e with
  |some (.int .u8)=>some (.t (.str []))
  |_=>none
 |_,_,_=>none
def inB (i:Int) (n:Nat):Bool:=decide (0<=i/\i<=n)
def bndM:Option (TV R.T)->Option (Option Int)
 |none=>some none
 |some (.int _ n)=>some (some n)
 |_=>none
def subL {α:Type} (l:List α):Option Int->Option Int->List α
 |none,none=>l
 |some i,none=>l.drop i.toNat
 |none,some j=>l.take j.toNat
 |some i,some j=>(l.take j.toNat).drop i.toNat
def subB (n:Nat):Option Int->Option Int->Bool
 |none,none=>true
 |some i,none=>inB i n
 |none,some j=>inB j n
 |some i,some j=>inB j n&& inB i j.toNat
def sliceM (t:TypeId) (x:TV R.T) (lo hi:Option (TV R.T)):Option (Res R):=
 match bndM R lo,bndM R hi with
 |some lo,some hi=>match E.P.underlying t,x with
  |some .string,.str s=>some (.c (subB s.length lo hi) (.str (subL s lo hi)))
  |some (.slice e),.lst _ u l=>match szT E.P e with
   |some sz=>bif Nat.beq sz (szD R u) then some (.c (subB l.length lo hi) (.lst .any u (subL l lo hi))) else none
   |none=>none
  |_,_=>none
 |_,_=>none
def asW {T:Nat->Type} (st:MS T):TV T->Option (Nat×Ty×Int×Int)
 |.vw o t=>match rdOb st o with
  |some (.arr _ l)=>some (o,t,0,((l.length:Nat):Int))
  |_=>none
 |.sub o t a b=>some (o,t,a,b)
 |_=>none
def inV (a b c:Int):Bool:=decide (0<=a/\a<=b/\b<=c)
def inJ (i n:Int):Bool:=decide (0<=i/\i<n)
def hiW (n:Int):Option Int->Int
 |some i=>i
 |none=>n
def loW:Option Int->Int
 |some i=>i
 |none=>0
def slcW (t:TypeId) (x:TV R.T) (lo hi:Option (TV R.T)) (st:MS R.T):Option (Res R):=
 match asW st x,bndM R lo,bndM R hi,E.P.underlying t with
 |some (o,τ,a,b),some lo,some hi,some (.slice e)=>match szT E.P e with
  |some sz=>bif Nat.beq sz (szD R τ) then some (.c (inV (loW lo) (hiW (b-a) hi) (b-a)) (.sub o τ (a+loW lo) (a+hiW (b-a) hi))) else none
  |none=>none
 |_,_,_,_=>none
def sliceX (t:TypeId) (x:TV R.T) (lo hi:Option (TV R.T)) (st:MS R.T):Option (Res R):=
 match slcW E R t x lo hi st with
 |some r=>some r
 |none=>sliceM E R t x lo hi
def fieldsM {T:Nat->Type} (t:TypeId) (f:Nat) (x:TV T):Option (TV T):=
 match fieldT E.P t f with
 |some (o,_)=>match x with
  |.ref p off=>some (.ref p (off+o))
  |.cref cs off=>some (.cref cs (off+o))
  |.eref p t i off=>some (.eref p t i (off+o))
  |_=>none
 |none=>none
def beqD (R:Reg):(t:Ty)->Den R.T t->Den R.T t->Bool
 |.int _=>fun (a b:Int)=>a==b
 |.bool=>fun (a b:Bool)=>a==b
 |.str=>fun (a b:List UInt8)=>a==b
 |.slice _=>fun _ _=>false
 |.st _=>fun _ _=>false
def keyM (t:TypeId) (k:Ty):Bool:=match E.P.underlying t,k with
 |some (.int _),.int _=>true
 |some .string,.str=>true
 |some .bool,.bool=>true
 |_,_=>false
def mget {α β:Type} (eq:α->α->Bool) (x:α):List (α×β)->Option β
 | []=>none
 | (a,v)::m=>bif eq x a then some v else mget eq x m
def mset {α β:Type} (eq:α->α->Bool) (x:α) (v:β):List (α×β)->List (α×β)
 | []=>[(x,v)]
 | (a,w)::m=>bif eq x a then (x,v)::m else (a,w)::mset eq x v m
def optGet {α:Type} (d:α):Option α->α
 |some x=>x
 |none=>d
def unE (t:Ty) (v:TV R.T):Option (Den R.T t):=bif stV v then unD R t v else none
def lookM (t:TypeId) (k e:Ty) (m:List (Den R.T k×Den R.T e)) (x:TV R.T) (ok:Bool):Option (Res R):=
 match mapT E.P t with
 |some (kt,et)=>bif keyM E kt k then (match zeroM (T:=R.T) E et with
  |some z=>match unD R e z,unD R k x with
   |some z,some x=>some (.t (bif ok then .tup [tvD R .any e (optGet z (mget (beqD R k) x m)),.bool (mget (beqD R k) x m).isSome] else tvD R .any e (optGet z (mget (beqD R k) x m))))
   |_,_=>none
  |none=>none) else none
 |none=>none
def lookupM (t:TypeId) (m x:TV R.T) (ok:Bool) (st:MS R.T):Option (Res R):=
 match m with
 |.mapr o=>match rdOb st o with
  |some (.map k e m)=>lookM E R t k e m x ok
  |_=>none
 |.mapc k e m=>lookM E R t k e m x ok
 |.nilm=>match mapT E.P t with
  |some (kt,et)=>match R.ty kt,R.ty et with
   |some k,some e=>lookM E R t k e [] x ok
   |_,_=>none
  |none=>none
 |_=>none
def eqKM {T:Nat->Type}:TV T->TV T->Option Bool
 |.int k a,.int k' b=>if k=k' then some (a==b) else none
 |.str a,.str b=>some (a==b)
 |_,_=>none
def keyS {T:Nat->Type} (t:TypeId):TV T->Bool:=fun v=>match E.P.underlying t,v with
 |some (.int _),.int _ _=>true
 |some .string,.str _=>true
 |_,_=>false
def setS {T:Nat->Type} (x v:TV T):List (TV T)->List (TV T)->Option (List (TV T)×List (TV T))
 | [],[]=>some ([x],[v])
 |a::ks,w::vs=>match eqKM x a with
  |some b=>bif b then some (x::ks,v::vs) else (match setS x v ks vs with
   |some (ks,vs)=>some (a::ks,w::vs)
   |none=>none)
  |none=>none
 |_,_=>none
def updateM (t:TypeId) (m x v:TV R.T) (st:MS R.T):Option (Res R):=
 match m with
 |.mapr o=>match look st.ob o with
  |some (.map k e m)=>match mapT E.P t with
   |some (kt,_)=>bif keyM E kt k then (match unD R k x,unE R e v with
    |some x,some v=>some (.w .undef (st.set o (.map k e (mset (beqD R k) x v m))))
    |_,_=>none) else none
   |none=>none
  |some (.smap ks vs)=>match mapT E.P t with
   |some (kt,_)=>bif keyS E kt x then (match setS x v ks vs with
    |some (ks,vs)=>some (.w .undef (st.set o (.smap ks vs)))
    |none=>none) else none
   |none=>none
  |_=>none
 |_=>none
def isSt:Ty->Bool
 |.st _=>true
 |_=>false
def elM (t:TypeId):Option (TypeId×Ty×Nat×Nat):=
 match elemT E.P t with
 |some e=>match R.ty e,szT E.P e,bytesT E.P e,isAggT E.P e,zeroT E.P e with
  |some u,some sz,some by_,some ag,some z=>bif Nat.beq sz (szD R u)&& Nat.blt 0 sz&& (ag||Nat.beq sz 1)&& Nat.beq z.cells.length sz&& (ag==isSt u) then some (e,u,sz,by_) else none
  |_,_,_,_,_=>none
 |none=>none
def unDs (t:Ty) (n:Nat):List (Nat×TV R.T)->Option (List (Den R.T t))
 | []=>some []
 | (i,v)::l=>bif Nat.beq i n then (match unD R t v with
   |some x=>match unDs t (n+1) l with
    |some y=>some (x::y)
    |none=>none
   |none=>none) else none
def bslM (t:TypeId) (len:Nat) (ps:List (Nat×TV R.T)):Option (Res R):=
 match elM E R t with
 |some (_,u,sz,_)=>bif Nat.ble (len*sz) (2^24)&& Nat.beq ps.length len then (match unDs R u 0 ps with
  |some l=>some (.t (.lst .full u l))
  |none=>none) else none
 |none=>none
def bslO (d:Option Nat) (t:TypeId) (len:Nat) (ps:List (Nat×TV R.T)) (st:MS R.T):Option (Res R):=
 match d,elM E R t with
 |some d,some (_,u,sz,_)=>bif Nat.ble (len*sz) (2^24)&& Nat.beq ps.length len then (match unDs R u 0 ps with
  |some l=>bif Nat.ble F0 (E.cn d) then none else some (.w (.vw (E.cn d) u) (st.new (E.cn d) (.arr u l)))
  |none=>none) else none
 |_,_=>none
def srcM (u:Ty):TV R.T->Option (List (Den R.T u))
 |.lst _ _ l=>castL R l
 |.nils=>some []
 |.str s=>castL (t:=.int .u8) (u:=u) R (s.map fun b=>((b.toNat:Nat):Int))
 |_=>none
def dstM (u:Ty) (d:Nat):TV R.T->Option (Nat×List (Den R.T u))
 |.lst .nil _ l=>match castL R l with
  |some l=>some (d,l)
  |none=>none
 |.lst .full _ l=>match castL R l with
  |some l=>some (d,l)
  |none=>none
 |.lst (.own t) _ l=>match castL R l with
  |some l=>some (t,l)
  |none=>none
 |.nils=>some (d,[])
 |_=>none
def isSS (t:TypeId):Bool:=match E.P.underlying t with
 |some (.slice _)=>true
 |some .string=>true
 |_=>false
def appM (d:Option Nat) (t u:TypeId) (x y:TV R.T) (st:MS R.T):Option (Res R):=
 match d with
 |some d=>match elM E R t with
  |some (_,τ,_,by_)=>bif isSS E u then (match dstM R τ d x,srcM R τ y with
   |some (tk,l),some l'=>some (.wc (roomOK (l.length+l'.length) by_) (.lst (.own tk) τ (l++l')) (st.wk tk))
   |_,_=>none) else none
  |none=>none
 |none=>none
def appOM (d:Option Nat) (t u:TypeId) (x y:TV R.T) (st:MS R.T):Option (Res R):=
 match d with
 |some d=>bif Nat.ble F0 (E.cn d) then none else match elM E R t with
  |some (_,τ,_,by_)=>bif isSS E u then (match srcM R τ y with
   |some l'=>match x with
    |.vw o τ0=>if τ0=τ then (match look st.ob o with
     |some (.arr τ' l)=>match castL R (u:=τ) l with
      |some l=>bif Nat.beq o (E.cn d) then some (.wc (roomOK (l.length+l'.length) by_) (.vw (E.cn d) τ) ((st.del o).new (E.cn d) (.arr τ (l++l')))) else (match l' with
       |a::l'=>some (.wc (roomOK (l.length+(a::l').length) by_) (.vw (E.cn d) τ) ((st.del o).new (E.cn d) (.arr τ (l++a::l'))))
       | []=>none)
      |none=>none
     |_=>none) else none
    |x=>bif isE x then some (.wc (roomOK l'.length by_) (.vw (E.cn d) τ) (st.new (E.cn d) (.arr τ l'))) else none
   |none=>none) else none
  |none=>none
 |none=>none
def mksM (om:Bool) (d:Option Nat) (t:TypeId) (n m:TV R.T) (st:MS R.T):Option (Res R):=
 match d,elM E R t,n,m with
 |some d,some (e,τ,_,by_),.int _ n,.int _ m=>match zeroM (T:=R.T) E e with
  |some z=>match unD R τ z with
   |some z=>bif om then some (.wc (decide (0<=n/\n=m/\m<=2^47)&& roomOK m.toNat by_) (.vw d τ) (st.new d (.arr τ (List.replicate n.toNat z))))
    else some (.wc (decide (n=0/\0<=m/\m<=2^47)&& roomOK m.toNat by_) (.lst (.own d) τ []) (st.wk d))
   |none=>none
  |none=>none
 |_,_,_,_=>none
def mmM {T:Nat->Type} (mx:Bool):TV T->List (TV T)->Option (TV T)
 |x,[]=>some x
 |.int k a,.int k' b::l=>if k=k' then mmM mx (.int k (bif mx then imax a b else imin a b)) l else none
 |_,_=>none
def lenM {T:Nat->Type} (t:TypeId) (x:TV T) (st:MS T):Option Nat:=
 match E.P.underlying t,x with
 |some (.slice _),.lst _ _ l=>some l.length
 |some (.slice _),.nils=>some 0
 |some (.slice _),.vw o _=>match rdOb st o with
  |some (.arr _ l)=>some l.length
  |_=>none
 |some (.slice _),.sub _ _ a b=>some (b-a).toNat
 |some .string,.str s=>some s.length
 |some (.map _ _),.mapr o=>match rdOb st o with
  |some (.map _ _ m)=>some m.length
  |_=>none
 |some (.map _ _),.mapc _ _ m=>some m.length
 |some (.map _ _),.nilm=>some 0
 |some (.array n _),_=>some n
 |_,_=>none
def clrL {α:Type} (l:List α) (a b:Int) (z:α):List α:=l.take a.toNat++(List.replicate (b-a).toNat z++l.drop b.toNat)
def clrM (t:TypeId) (x:TV R.T) (st:MS R.T):Option (Res R):=
 match asW st x,elM E R t with
 |some (o,τ,a,b),some (e,τ',_,_)=>if τ'=τ then (match look st.ob o,zeroM (T:=R.T) E e with
  |some (.arr τ2 l),some z=>match castL R (u:=τ) l,unD R τ z with
   |some l,some z'=>bif oneMs z.cells&& notG z then some (.w .undef (st.set o (.arr τ (clrL l a b z')))) else none
   |_,_=>none
  |_,_=>none) else none
 |_,_=>none
def blt (om:Bool) (d:Option Nat) (b:Builtin) (tys:Array TypeId) (args:List (TV R.T)) (st:MS R.T):Option (Res R):=
 match b,args with
 |.len,[x]=>match tys[0]? with
  |some t=>match lenM E t x st with
   |some n=>some (.t (.int .i64 ((n:Nat):Int)))
   |none=>none
  |none=>none
 |.append,[x,y]=>match tys[0]?,tys[1]? with
  |some t,some u=>bif om then appOM E R d t u x y st else appM E R d t u x y st
  |_,_=>none
 |.clear,[x]=>match tys[0]? with
  |some t=>clrM E R t x st
  |none=>none
 |.min,x::l=>match mmM false x l with
  |some v=>some (.t v)
  |none=>none
 |.max,x::l=>match mmM true x l with
  |some v=>some (.t v)
  |none=>none
 |_,_=>none
def retT:List (TV R.T)->TV R.T
 | [v]=>v
 |vs=>.tup vs
def findF (args cargs:List (TV R.T)):List (FR R)->Option (Res R)
 | []=>none
 |r::l=>match pkL R r.args cargs with
  |some p=>bif cSkL r.args&& Nat.ble (depL r.args) 18&& cSkL r.res&& (clVs args||flatSk r.res) then some (.p (PayL R.T r.res) r.d (r.F p) fun x=>retT R (upL R .sh r.res x)) else none
  |none=>findF args cargs l
def iaM (t:TypeId) (x i:TV R.T):Option (Res R):=
 match E.P.underlying t,x,i with
 |some (.slice e),.lst _ u l,.int _ n=>match szT E.P e with
  |some sz=>bif Nat.beq sz (szD R u) then some (.p (Den R.T u) (dfl R u) (idxL l n) fun y=>.cref (tvD R .sh u y).cells 0) else none
  |none=>none
 |some (.array n e),.ref o off,.int _ k=>match szT E.P e with
  |some sz=>some (.c (decide (0<=k/\k<n)) (.ref o (off+k.toNat*sz)))
  |none=>none
 |some (.array n e),.cref cs off,.int _ k=>match szT E.P e with
  |some sz=>some (.c (decide (0<=k/\k<n)) (.cref cs (off+k.toNat*sz)))
  |none=>none
 |_,_,_=>none
def ivM (t:TypeId) (o:Nat) (τ:Ty) (i:TV R.T) (st:MS R.T):Option (Res R):=
 match E.P.underlying t,i with
 |some (.slice e),.int _ n=>match szT E.P e with
  |some sz=>bif Nat.beq sz (szD R τ) then (match rdOb st o with
   |some (.arr _ l)=>some (.c (decide (0<=n/\n< ((l.length:Nat):Int))) (.eref o τ n 0))
   |_=>none) else none
  |none=>none
 |_,_=>none
def isM (t:TypeId) (o:Nat) (τ:Ty) (a b:Int) (i:TV R.T):Option (Res R):=
 match E.P.underlying t,i with
 |some (.slice e),.int _ n=>match szT E.P e with
  |some sz=>bif Nat.beq sz (szD R τ) then some (.c (inJ n (b-a)) (.eref o τ (a+n) 0)) else none
  |none=>none
 |_,_=>none
def getTV {T:Nat->Type}:Option (TV T)->TV T
 |some v=>v
 |none=>.gone
def elLd (t:TypeId) (τ:Ty) (i:Int) (off:Nat) (o:Ob R.T):Option (Res R):=
 match o with
 |.arr τ' l=>match castL R (u:=τ) l with
  |some l=>bif (ldM E t (tvD R .any τ (dfl R τ)).cells off).isSome then some (.p (Den R.T τ) (dfl R τ) (idxL l i) fun y=>getTV (ldM E t (tvD R .any τ y).cells off)) else none
  |none=>none
 |_=>none
def unC (τ:Ty) (cs:List (TV R.T)):Option (Den R.T τ):=match τ with
 |.st n=>unSt R n (.agg cs)
 |.int k=>un1 R (.int k) (hd1 R cs)
 |.bool=>un1 R .bool (hd1 R cs)
 |.str=>un1 R .str (hd1 R cs)
 |.slice t=>un1 R (.slice t) (hd1 R cs)
def ixM (t:TypeId) (x i:TV R.T):Option (Res R):=
 match E.P.underlying t,x,i with
 |some .string,.str s,.int _ n=>some (.p UInt8 0 (idxL s n) fun b=>.int .u8 ((b.toNat:Nat):Int))
 |_,_,_=>none
def muxM {T:Nat->Type} (c:Bool):TV T->TV T->Option (TV T)
 |.int k a,.int k' b=>if k=k' then some (.int k (bif c then a else b)) else none
 |.bool a,.bool b=>some (.bool (bif c then a else b))
 |.bool a,.blit b=>some (.bool (bif c then a else b))
 |.blit a,.bool b=>some (.bool (bif c then a else b))
 |.blit a,.blit b=>some (.bool (bif c then a else b))
 |.str a,.str b=>some (.str (bif c then a else b))
 |_,_=>none
def skOf (P:Program):Nat->TypeId->Option (List SgK)
 |0,_=>none
 |n+1,t=>match P.underlying t with
  |some (.int k)=>some [.i k]
  |some (.array m e)=>match P.underlying e with
   |some (.int k)=>some [.a k m]
   |_=>none
  |some (.struct fs)=>fs.toList.foldr (fun f acc=>match skOf P n f.type,acc with
   |some a,some b=>some (a++b)
   |_,_=>none) (some [])
  |_=>none
def hasA:List SgK->Bool
 | []=>false
 |.a _ _::_=>true
 |_::l=>hasA l
def sgT (t:TypeId):Option (List SgK):=match R.ty t with
 |some _=>none
 |none=>match skOf E.P 4 t with
  |some ks=>bif hasA ks then some ks else none
  |none=>none
def Sg.sk:Sg->SgK
 |.i k _=>.i k
 |.a k n _=>.a k n
def zeroG:SgK->Sg
 |.i k=>.i k 0
 |.a k n=>.a k n (Vec.rep n 0)
def allZ {T:Nat->Type} (k:IntKind):List (TV T)->Bool
 | []=>true
 |.int k' x::l=>(if k'=k then (if x=0 then true else false) else false)&& allZ k l
 |_=>false
def zerosG {T:Nat->Type}:List SgK->List (TV T)->Bool
 | [],[]=>true
 |.i k::l,v::vs=>allZ k [v]&& zerosG l vs
 |.a k n::l,vs=>Nat.ble n vs.length&& allZ k (vs.take n)&& zerosG l (vs.drop n)
 |_,_=>false
def cutG {T:Nat->Type}:List SgK->List (TV T)->Option (List Sg)
 | [],[]=>some []
 |.i k::l,.int k' x::vs=>if k'=k then (match cutG l vs with
  |some r=>some (.i k x::r)
  |none=>none) else none
 |.a k n::l,vs=>match unIs k (vs.take n) with
  |some xs=>bif Nat.beq xs.length n then (match cutG l (vs.drop n) with
   |some r=>some (.a k n (Vec.lit n xs)::r)
   |none=>none) else none
  |none=>none
 |_,_=>none
def exG {T:Nat->Type}:List Sg->List (TV T)
 | []=>[]
 |.i k x::l=>.int k x::exG l
 |.a k n v::l=>(List.range n).map (fun j=>TV.int k (v.nth j))++exG l
def skEq:List SgK->List SgK->Bool
 | [],[]=>true
 |.i k::l,.i k'::l'=>(if k=k' then true else false)&& skEq l l'
 |.a k n::l,.a k' n'::l'=>(if k=k' then true else false)&& Nat.beq n n'&& skEq l l'
 |_,_=>false
def coG {T:Nat->Type} (ks:List SgK):TV T->Option (List Sg)
 |.sg ss=>bif skEq ks (ss.map Sg.sk) then some ss else none
 |.agg cs=>cutG ks cs
 |.int k x=>match ks with
  | [.i k']=>if k'=k then some [.i k x] else none
  |_=>none
 |_=>none
def ldG (t:TypeId) (ss:List Sg) (off:Nat):Option (TV R.T):=
 match splitG ss off,szT E.P t,isAggT E.P t with
 |some (_,rest),some sz,some ag=>match splitG rest sz with
  |some (mid,_)=>bif ag then (match R.ty t with
   |none=>some (.sg mid)
   |some _=>some (.agg (exG mid))) else (match mid with
   | [.i k x]=>some (.int k x)
   |_=>none)
  |none=>none
 |_,_,_=>none
def slG (t:TypeId) (k:IntKind) (m:Nat) (n:Nat) (v:Vec n) (i:Int):Option (TV R.T):=
 match arrT E.P t,szT E.P t,isAggT E.P t with
 |some (m',e),some sz,some true=>bif Nat.beq m' m&& Nat.beq sz m then (match R.ty t with
  |none=>some (.sg [.a k m (v.slc i m)])
  |some _=>some (.agg ((List.range m).map fun j=>.int k (v.nth (i.toNat+j))))) else none
 |_,_,_=>none
def elG (t:TypeId):Bool:=match szT E.P t,isAggT E.P t with
 |some sz,some ag=>Nat.beq sz 1&& !ag
 |_,_=>false
def eqVs (k:IntKind):List V->List Int->Bool
 | [],[]=>true
 |.int k' x::l,y::m=>(if k'=k then (if x=y then true else false) else false)&& eqVs k l m
 |_,_=>false
def glG (g:Nat) (t:TypeId):Option ((k:IntKind)×(n:Nat)×Vec n):=
 match E.glob g,R.gl g,arrT E.P t,szT E.P t,isAggT E.P t with
 |some cs,some ⟨k,n,v⟩,some (m,e),some sz,some ag=>bif ag&& Nat.beq m n&& Nat.beq sz n&& elG E e&& eqVs k cs v.l then some ⟨k,n,v⟩ else none
 |_,_,_,_,_=>none
def inN (i:Int) (n:Nat):Bool:=decide (0<=i/\i<n)
def svB (n:Nat):Option Int->Option Int->Bool
 |none,none=>true
 |some i,none=>decide (0<=i/\(i<n\/i=0))
 |none,some j=>decide (0<=j/\j<=n)
 |some i,some j=>decide (0<=i/\i<=j/\j<=n/\(i<j\/i=0))
def loI:Option Int->Int
 |some i=>i
 |none=>0
def hiI (n:Nat):Option Int->Int
 |some i=>i
 |none=>n
def slicG (t:TypeId) (x:TV R.T) (lo hi:Option (TV R.T)) (st:MS R.T):Option (Res R):=
 match x,bndM R lo,bndM R hi,arrT E.P t with
 |.ref o off,some lo,some hi,some (n,e)=>bif elG E e then (match rdOb st o with
  |some (.sg ss)=>match splitG ss off with
   |some (_,.a k n' _::_)=>bif Nat.beq n' n then some (.c (svB n lo hi) (.sv o off k n lo hi)) else none
   |_=>none
  |some (.cells cs)=>match (cs.drop off) with
   |.int k _::_=>bif Nat.ble (off+n) cs.length then some (.c (svB n lo hi) (.sv o off k n lo hi)) else none
   |_=>none
  |_=>none) else none
 |.cref cs off,some none,some none,some (n,e)=>bif elG E e&& Nat.ble (off+n) cs.length then (match cs with
  |.int k _::_=>match unIs k cs with
   |some l=>some (.t (.lst .any (.int k) ((l.drop off).take n)))
   |none=>none
  |_=>none) else none
 |_,_,_,_=>none
def fullD (d:Option Nat):Bool:=match d with
 |some d=>E.own F0 d
 |none=>false
def arrI (k:IntKind) (m:Nat) (l:List Int):List (TV R.T):=(List.range m).map fun j=>.int k (l.getD j 0)
def opX (g:List (Nat×Bool)) (d:Option Nat) (o:Op) (st:MS R.T):Option (Res R):=
 match o with
 |.alloc t=>match d,sgT E R t,zeroM (T:=R.T) E t with
  |some d,some ks,some (.agg cs)=>bif zerosG ks cs then some (.w (.ref d 0) (st.new d (.sg (ks.map zeroG)))) else none
  |_,_,_=>none
 |.box t x=>bif frzB E t d then none else match d,sgT E R t,evM g st x with
  |some d,some ks,some v=>match coG ks v with
   |some ss=>some (.w (.ref d 0) (st.new d (.sg ss)))
   |none=>none
  |_,_,_=>none
 |.load t a=>match a with
  |.global gl=>match glG E R gl t with
   |some ⟨k,n,v⟩=>some (.t (.sg [.a k n v]))
   |none=>none
  |a=>match evM g st a with
   |some (.ref o off)=>match rdOb st o with
    |some (.sg ss)=>match ldG E R t ss off with
     |some v=>some (.t v)
     |none=>none
    |_=>none
   |some (.sel o off k n i m)=>match rdOb st o with
    |some (.sg ss)=>match splitG ss off with
     |some (_,.a k' n' v::_)=>if k'=k then (bif Nat.beq n' n then (bif Nat.beq m 1&& elG E t then some (.t (.int k (v.at' i))) else (match slG E R t k m n' v i with
      |some v=>some (.t v)
      |none=>none)) else none) else none
     |_=>none
    |_=>none
   |some (.gel k n v i)=>bif elG E t then some (.t (.int k (v.at' i))) else none
   |_=>none
 |.store t a x=>match evM g st a,evM g st x with
  |some (.ref o off),some v=>match look st.ob o,szT E.P t with
   |some (.sg ss),some sz=>match splitG ss off with
    |some (pre,rest)=>match splitG rest sz with
     |some (mid,post)=>match coG (mid.map Sg.sk) v with
      |some mid'=>some (.w .undef (st.set o (.sg (pre++(mid'++post)))))
      |none=>none
     |none=>none
    |none=>none
   |_,_=>none
  |some (.sel o off k n i m),some (.int k' y)=>match look st.ob o with
   |some (.sg ss)=>match splitG ss off with
    |some (pre,.a k2 n' v::post)=>if k2=k then (if k'=k then (bif Nat.beq n' n&& Nat.beq m 1&& elG E t then some (.w .undef (st.set o (.sg (pre++(.a k n' (v.set i y)::post))))) else none) else none) else none
    |_=>none
   |_=>none
  |_,_=>none
 |.indexAddr t x i=>match arrT E.P t,evM g st i with
  |some (n,e),some (.int _ i)=>bif elG E e then (match x with
   |.global gl=>match glG E R gl t with
    |some ⟨k,n,v⟩=>some (.c (inN i n) (.gel k n v i))
    |none=>none
   |x=>match evM g st x with
    |some (.ref o off)=>match rdOb st o with
     |some (.sg ss)=>match splitG ss off with
      |some (_,.a k n' _::_)=>bif Nat.beq n' n then some (.c (inN i n) (.sel o off k n i 1)) else none
      |_=>none
     |_=>none
    |_=>none) else none
  |_,_=>none
 |.index t x i=>match arrT E.P t,evM g st x,evM g st i with
  |some (n,e),some (.sg [.a k n' v]),some (.int _ i)=>bif elG E e&& Nat.beq n' n then some (.c (inN i n) (.int k (v.at' i))) else none
  |_,_,_=>none
 |.slice t x lo hi none=>match evM g st x with
  |some x=>match lo,hi with
   |none,none=>slicG E R t x none none st
   |some lo,none=>match evM g st lo with
    |some lo=>slicG E R t x (some lo) none st
    |none=>none
   |none,some hi=>match evM g st hi with
    |some hi=>slicG E R t x none (some hi) st
    |none=>none
   |some lo,some hi=>match evM g st lo,evM g st hi with
    |some lo,some hi=>slicG E R t x (some lo) (some hi) st
    |_,_=>none
  |none=>none
 |.slice t x lo (some hi) (some mx)=>match evM g st x,evM g st hi,evM g st mx,E.P.underlying t with
  |some (.lst _ u l),some (.int _ h),some (.int _ m),some (.slice e)=>match szT E.P e with
   |some sz=>bif Nat.beq sz (szD R u) then (match lo with
    |none=>bif fullD E d then some (.c (inB m l.length&& (inB h m.toNat&& (h==m))) (.lst .full u (subL l none (some h)))) else some (.c (inB m l.length&& inB h m.toNat) (.lst .any u (subL l none (some h))))
    |some lo=>match evM g st lo with
     |some (.int _ a)=>some (.c (inB m l.length&& (inB h m.toNat&& inB a h.toNat)) (.lst .any u (subL l (some a) (some h))))
     |_=>none) else none
   |none=>none
  |_,_,_,_=>none
 |.convert a b x=>match evM g st x with
  |some (.sv o off k n lo hi)=>match E.P.underlying a,E.P.underlying b with
   |some (.slice e),some .string=>match E.P.underlying e,k with
    |some (.int .u8),.u8=>match svL st o off .u8 n lo hi with
     |some l=>some (.t (.str (List.map (fun n:Int=>UInt8.ofNat n.toNat) l)))
     |none=>none
    |_,_=>none
   |_,_=>none
  |_=>none
 |.sliceToArrayPointer t x=>match arrT E.P t,evM g st x with
  |some (m,e),some (.sv o off k n lo hi)=>some (.c (decide (0<m/\m<=hiI n hi-loI lo)) (.sel o off k n (loI lo) m))
  |some (m,_),some (.lst _ (.int k) l)=>some (.c (decide (0<m/\m<=l.length)) (.cref (arrI R k m l) 0))
  |_,_=>none
 |.call c=>match c.callee,evMs g st c.args.toList with
  |.builtin .copy,some [.sv o off k n lo hi,y]=>match c.argTypes[0]? with
   |some t=>match elemT E.P t with
    |some e=>bif elG E e then (match srcM R (.int k) y,look st.ob o with
     |some l,some (.sg ss)=>match splitG ss off with
      |some (pre,.a k' n' v::post)=>if k'=k then (bif Nat.beq n' n then
        some (.w (.int .i64 (((l.take (hiI n hi-loI lo).toNat).length:Nat):Int)) (st.set o (.sg (pre++(.a k n' (v.cpy (loI lo) (l.take (hiI n hi-loI lo).toNat))::post))))) else none) else none
      |_=>none
     |_,_=>none) else none
    |none=>none
   |none=>none
  |_,_=>none
 |_=>none
def opO (om:Bool) (F:Nat->List (FR R)) (g:List (Nat×Bool)) (d:Option Nat) (o:Op) (st:MS R.T):Option (Res R):=
 match o with
 |.move x=>bif fzM E d then (match evM g st x with
  |some (.vw p t)=>match look st.ob p with
   |some (.arr t' l)=>match castL R (u:=t) l with
    |some l=>some (.w (.lst .any t l) (st.del p))
    |none=>none
   |_=>none
  |some (.int k n)=>some (.t (.int k n))
  |_=>none) else (match evM g st x with
  |some v=>some (.t v)
  |none=>none)
 |.assign x=>match evM g st x with
  |some v=>some (.t v)
  |none=>none
 |.pick c a b=>match c with
  |.tmp j=>match evM g st c with
   |some (.bool t)=>match evM ((j,true)::g) st a,evM ((j,false)::g) st b with
    |some x,some y=>match muxM t x y with
     |some v=>some (.t v)
     |none=>none
    |_,_=>none
   |some (.blit t)=>match evM g st (bif t then a else b) with
    |some v=>some (.t v)
    |none=>none
   |_=>none
  |_=>none
 |.alloc t=>match d,zeroM E t with
  |some d,some z=>bif oneMs z.cells&& !(mentL d z.cells) then some (.w (.ref d 0) (st.new d (.cells z.cells))) else none
  |_,_=>none
 |.box t x=>bif frzB E t d then (match evM g st x with
  |some v=>bif stV (erM v)&& notG v then some (.t (.cref (erM v).cells 0)) else none
  |none=>none) else match d,evM g st x with
  |some d,some v=>bif oneMs v.cells&& notG v&& !(mentL d v.cells) then some (.w (.ref d 0) (st.new d (.cells v.cells))) else none
  |_,_=>none
 |.build t parts=>match partsT E t,zeroM (T:=R.T) E t,evPs g st parts.toList with
  |some pl,some z,some ps=>match fillM pl z.cells ps with
   |some cs=>some (.t (.agg cs))
   |none=>none
  |_,_,_=>none
 |.buildSlice t len parts=>match evPs g st parts.toList with
  |some ps=>bif bsM E d then bslO E R d t len ps st else bslM E R t len ps
  |none=>none
 |.load t a=>match evM g st a with
  |some (.ref o off)=>match rdOb st o with
   |some (.cells cs)=>match ldM E t cs off with
    |some v=>some (.t v)
    |none=>none
   |_=>none
  |some (.cref cs off)=>match ldM E t cs off with
   |some v=>some (.t v)
   |none=>none
  |some (.eref o τ i off)=>match rdOb st o with
   |some b=>elLd E R t τ i off b
   |none=>none
  |_=>none
 |.store t a x=>match evM g st a,evM g st x with
  |some (.ref o off),some v=>match look st.ob o,szT E.P t with
   |some (.cells cs),some sz=>bif Nat.beq v.cells.length sz&& Nat.ble (off+v.cells.length) cs.length&& oneMs v.cells&& notG v then
     some (.w .undef (st.set o (.cells (spliceM cs off v.cells)))) else none
   |_,_=>none
  |_,_=>none
 |.nilCheck x=>match evM g st x with
  |some (.ref o off)=>some (.t (.ref o off))
  |some (.cref cs off)=>some (.t (.cref cs off))
  |some (.eref o τ i off)=>some (.t (.eref o τ i off))
  |some (.fn f a b)=>some (.t (.fn f a b))
  |_=>none
 |.binOp op t x y _=>match evM g st x,evM g st y with
  |some x,some y=>binM E R op t x y
  |_,_=>none
 |.unOp op _ x=>match evM g st x with
  |some x=>unM R op x
  |none=>none
 |.convert a b x=>match evM g st x with
  |some x=>convM E R a b x
  |none=>none
 |.makeFunc (.func f) a b=>match evMs g st a.toList,evMs g st b.toList with
  |some a,some b=>some (.t (.fn f a b))
  |_,_=>none
 |.makeMap t none=>match d,mapT E.P t with
  |some d,some (k,e)=>match R.ty k,R.ty e with
   |some k,some e=>some (.w (.mapr d) (st.new d (.map k e [])))
   |_,_=>some (.w (.mapr d) (st.new d (.smap [] [])))
  |_,_=>none
 |.makeSlice t l c=>match evM g st l,evM g st c with
  |some n,some m=>mksM E R om d t n m st
  |_,_=>none
 |.slice t x lo hi none=>match evM g st x with
  |some x=>match lo,hi with
   |none,none=>sliceX E R t x none none st
   |some lo,none=>match evM g st lo with
    |some lo=>sliceX E R t x (some lo) none st
    |none=>none
   |none,some hi=>match evM g st hi with
    |some hi=>sliceX E R t x none (some hi) st
    |none=>none
   |some lo,some hi=>match evM g st lo,evM g st hi with
    |some lo,some hi=>sliceX E R t x (some lo) (some hi) st
    |_,_=>none
  |none=>none
 |.fieldAddr t x f=>match evM g st x with
  |some x=>match fieldsM E t f x with
   |some v=>some (.t v)
   |none=>none
  |none=>none
 |.field t x f=>match fieldT E.P t f,evM g st x with
  |some (o,u),some (.agg cs)=>match ldM E u cs o with
   |some v=>some (.t v)
   |none=>none
  |_,_=>none
 |.indexAddr t x i=>match evM g st x,evM g st i with
  |some (.vw o τ),some i=>ivM E R t o τ i st
  |some (.sub o τ a b),some i=>isM E R t o τ a b i
  |some x,some i=>iaM E R t x i
  |_,_=>none
 |.index t x i=>match evM g st x,evM g st i with
  |some x,some i=>ixM E R t x i
  |_,_=>none
 |.lookup t x i ok=>match evM g st x,evM g st i with
  |some x,some i=>lookupM E R t x i ok st
  |_,_=>none
 |.mapUpdate t m k v=>match evM g st m,evM g st k,evM g st v with
  |some m,some k,some v=>updateM E R t m k v st
  |_,_,_=>none
 |.insert t m k v=>match evM g st m,evM g st k,evM g st v with
  |some m,some k,some v=>updateM E R t m k v st
  |_,_,_=>none
 |.extract x i=>match evM g st x with
  |some (.tup vs)=>match vs[i]? with
   |some v=>some (.t v)
   |none=>none
  |_=>none
 |.call c=>match c.callee with
  |.builtin b=>match evMs g st c.args.toList with
   |some vs=>blt E R om d b c.argTypes vs st
   |none=>none
  |.value f=>match evM g st f,evMs g st c.args.toList with
   |some (.fn f a b),some vs=>bif E.imp f then none else findF R (a++vs++b) (cloMs st (a++vs++b)) (F f)
   |_,_=>none
  |_=>none
 |_=>none
def opM (om:Bool) (F:Nat->List (FR R)) (g:List (Nat×Bool)) (d:Option Nat) (o:Op) (st:MS R.T):Option (Res R):=
 match opX E R g d o st with
 |some r=>some r
 |none=>opO E R om F g d o st
inductive Gd where
 |no
 |run
 |skip
 |dyn (j:Nat) (w:Bool) (c:Bool) (g:List (Nat×Bool))
def eqw (b w:Bool):Bool:=bif w then b else !b
def andB (a b:Bool):Bool:=bif a then b else false
def effM {T:Nat->Type} (st:MS T):Nat->Nat->Bool->Option (Bool×List (Nat×Bool))
 |0,_,_=>none
 |n+1,j,w=>match look st.fr j with
  |some (.bool b)=>some (eqw b w,[(j,w)])
  |some (.opt i u (.bool b))=>match effM st n i u with
   |some (c,g)=>some (andB c (eqw b w),(j,w)::g)
   |none=>none
  |some (.opt i u (.blit b))=>match effM st n i u with
   |some (c,g)=>some (andB c (eqw b w),(j,w)::g)
   |none=>none
  |_=>none
def guardM {T:Nat->Type} (all:List Oper) (st:MS T) (o:Oper):Gd:=
 match o.guard with
 |none=>.run
 |some (j,w)=>match all[j]? with
  |some p=>match p.dst with
   |some t=>match look st.fr t with
    |some (.blit b)=>bif b==w then .run else .skip
    |some .undef=>.skip
    |_=>match effM st 12 t w with
     |some (c,g)=>.dyn t w c g
     |none=>.no
   |none=>.skip
  |none=>.skip
def MS.learnG {T:Nat->Type} (st:MS T):List (Nat×Bool)->MS T
 | []=>st
 | (j,w)::g=>(st.learnG g).learn j w
def MS.learnN {T:Nat->Type} (st:MS T):List (Nat×Bool)->MS T
 | [(j,w)]=>st.learn j (!w)
 |_=>st
def whenO {α:Type} (c:Bool) (o:Option α) (d:α):Option α:=bif c then o else some d
def lookSM (st:MS R.T) (t:TypeId) (m x:Operand):Option (List (TV R.T)×List (TV R.T)×TV R.T×TV R.T):=
 match evM [] st m with
 |some (.mapr o)=>match rdOb st o with
  |some (.smap ks vs)=>match evM [] st x,mapT E.P t with
   |some x,some (kt,et)=>match zeroM (T:=R.T) E et with
    |some z=>bif keyS E kt x then some (ks,vs,x,z) else none
    |none=>none
   |_,_=>none
  |_=>none
 |_=>none
def lookS {T:Nat->Type} {β:Type} (x:TV T):List (TV T)->List (TV T)->TV T->(TV T->Bool->Option β)->Option β
 | [],[],z,k=>k z false
 |a::ks,v::vs,z,k=>match eqKM x a with
  |some b=>bif b then k v true else lookS x ks vs z k
  |none=>none
 |_,_,_,_=>none
section
variable (om:Bool) {β:Type} (F:Nat->List (FR R))
def elSt (t:TypeId) (a x:Operand) (st:MS R.T):Option ((τ:Ty)×Nat×Int×Nat×List (Den R.T τ)×TV R.T):=
 match evM [] st a,evM [] st x with
 |some (.eref o τ i off),some v=>match look st.ob o,szT E.P t with
  |some (.arr τ' l),some sz=>match castL R (u:=τ) l with
   |some l=>bif Nat.beq v.cells.length sz&& Nat.ble (off+v.cells.length) (szD R τ)&& oneMs v.cells&& notG v then some ⟨τ,o,i,off,l,v⟩ else none
   |none=>none
  |_,_=>none
 |_,_=>none
def setL {α:Type} (l:List α) (i:Int) (y:α):List α:=l.set i.toNat y
def runM (o:Oper) (st:MS R.T) (k:MS R.T->Option β):Option β:=
 match o.op with
 |.pick c a b=>match evM [] st c with
  |some (.blit t)=>match evM [] st (bif t then a else b) with
   |some v=>k (st.putO o.dst v)
   |none=>none
  |some (.bool t)=>match c with
   |.tmp j=>match evM [(j,true)] st a,evM [(j,false)] st b with
    |some x,some y=>match muxM t x y with
     |some v=>k (st.putO o.dst v)
     |none=>bif t then k ((st.learn j true).putO o.dst x) else k ((st.learn j false).putO o.dst y)
    |_,_=>none
   |_=>none
  |_=>none
 |.store t a x=>match elSt E R t a x st with
  |some ⟨τ,p,i,off,l,v⟩=>(idxL l i).bind fun y=>match unC R τ (spliceM (tvD R .any τ y).cells off v.cells) with
   |some y'=>k ((st.set p (.arr τ (setL l i y'))).putO o.dst .undef)
   |none=>none
  |none=>match opM E R om F [] o.dst (.store t a x) st with
   |some (.w v st')=>k (st'.putO o.dst v)
   |_=>none
 |.lookup t m x ok=>match lookSM E R st t m x with
  |some (ks,vs,x,z)=>lookS x ks vs z fun v b=>k (st.putO o.dst (bif ok then .tup [v,.blit b] else v))
  |none=>match opM E R om F [] o.dst (.lookup t m x ok) st with
   |some (.t v)=>k (st.putO o.dst v)
   |_=>none
 |op=>match opM E R om F [] o.dst op st with
  |some (.t v)=>k (st.putO o.dst v)
  |some (.c b v)=>bif b then k (st.putO o.dst v) else none
  |some (.w v st')=>k (st'.putO o.dst v)
  |some (.wc b v st')=>bif b then k (st'.putO o.dst v) else none
  |some (.p _ _ x f)=>x.bind fun a=>k (st.putO o.dst (f a))
  |none=>none
def impB (b c:Bool):Bool:=bif b then c else true
def dynM (o:Oper) (j:Nat) (w c:Bool) (g:List (Nat×Bool)) (st:MS R.T) (k:MS R.T->Option β):Option β:=
 match o.dst with
 |some d=>match (bif memN d (g.map (·.1)) then none else opM E R om F g o.dst o.op st) with
  |some (.t v)=>k (st.put d (.opt j w v))
  |some (.c b v)=>bif impB c b then k (st.put d (.opt j w v)) else none
  |some (.p _ z x f)=>(whenO c x z).bind fun a=>k (st.put d (.opt j w (f a)))
  |_=>bif c then runM E R om F o (st.learnG g) k else k ((st.learnN g).putO o.dst .undef)
 |none=>bif c then runM E R om F o (st.learnG g) k else k ((st.learnN g).putO o.dst .undef)
def isOwnM {T:Nat->Type} (st:MS T) (o:Oper):Bool:=match o.op with
 |.call c=>match c.callee with
  |.value f=>match evM [] st f with
   |some (.fn g _ _)=>match o.dst with
    |some d=>E.own g d
    |none=>false
   |_=>true
  |_=>false
 |_=>false
def nilSk:List Sk->Bool
 |.nils::k::l=>cSkL (k::l)
 |_=>false
def findO (args cargs:List (TV R.T)):List (FR R)->Option ((τ:Ty)×Option (List (Den R.T τ)))
 | []=>none
 | ⟨as,[.d (.slice τ)],G,_,true⟩::l=>match pkL R as cargs with
   |some p=>bif (cSkL as||nilSk as)&& Nat.ble (depL as) 18&& clVs args then some ⟨τ,G p⟩ else none
   |none=>findO args cargs l
 |_::l=>findO args cargs l
def ownM (o:Oper) (st:MS R.T) (k:MS R.T->Option β):Option β:=match o.op,o.dst with
 |.call c,some d=>match c.callee with
  |.value f=>match evM [] st f,evMs [] st c.args.toList with
   |some (.fn g a b),some vs=>match findO R (a++vs++b) (cloMs st (a++vs++b)) (F g) with
    |some ⟨τ,x⟩=>x.bind fun l=>k ((st.wk d).put d (.lst (.own d) τ l))
    |none=>none
   |_,_=>none
  |_=>none
 |_,_=>none
def addId (o:Nat) (l:List Nat):List Nat:=bif memN o l then l else l++[o]
mutual
def idsV {T:Nat->Type}:TV T->List Nat->List Nat
 |.ref o _,l=>addId o l
 |.mapr o,l=>addId o l
 |.vw o _,l=>addId o l
 |.sub o _ _ _,l=>addId o l
 |.eref o _ _ _,l=>addId o l
 |.sv o _ _ _ _ _,l=>addId o l
 |.sel o _ _ _ _ _,l=>addId o l
 |.agg cs,l=>idsL cs l
 |.tup cs,l=>idsL cs l
 |.cref cs _,l=>idsL cs l
 |.fn _ a b,l=>idsL b (idsL a l)
 |_,l=>l
def idsL {T:Nat->Type}:List (TV T)->List Nat->List Nat
 | [],l=>l
 |v::vs,l=>idsL vs (idsV v l)
end
mutual
def renV {T:Nat->Type} (m:List (Nat×Nat)):TV T->TV T
 |.ref o off=>match look m o with
  |some p=>.ref p off
  |none=>.gone
 |.mapr o=>match look m o with
  |some p=>.mapr p
  |none=>.gone
 |.vw o t=>match look m o with
  |some p=>.vw p t
  |none=>.gone
 |.sub o t a b=>match look m o with
  |some p=>.sub p t a b
  |none=>.gone
 |.eref o t i off=>match look m o with
  |some p=>.eref p t i off
  |none=>.gone
 |.sv o off k n lo hi=>match look m o with
  |some p=>.sv p off k n lo hi
  |none=>.gone
 |.sel o off k n i j=>match look m o with
  |some p=>.sel p off k n i j
  |none=>.gone
 |.lst c t l=>match c with
  |.own _=>.lst .any t l
  |c=>.lst c t l
 |.agg cs=>.agg (renL m cs)
 |.tup cs=>.tup (renL m cs)
 |.cref cs off=>.cref (renL m cs) off
 |.fn f a b=>.fn f (renL m a) (renL m b)
 |v=>v
def renL {T:Nat->Type} (m:List (Nat×Nat)):List (TV T)->List (TV T)
 | []=>[]
 |v::vs=>renV m v::renL m vs
end
def numL:List Nat->Nat->List (Nat×Nat)
 | [],_=>[]
 |o::l,n=>(o,n)::numL l (n+1)
def ndB:List Nat->Bool
 | []=>true
 |o::l=>!(memN o l)&& ndB l
def mobs {T:Nat->Type} (st:MS T):List (Nat×Nat)->List (Nat×Ob T)
 | []=>[]
 | (o,p)::m=>match look st.ob o with
   |some x=>(p,x)::mobs st m
   |none=>mobs st m
def bobs {T:Nat->Type}:List (Nat×Nat)->List (Nat×Ob T)->List (Nat×Ob T)
 | [],_=>[]
 | (o,p)::m,l=>match look l p with
   |some y=>(o,y)::bobs m l
   |none=>bobs m l
def eqKs:List (Nat×Nat)->List (Nat×ObSk)->Bool
 | [],[]=>true
 | (_,p)::m,(q,_)::l=>Nat.beq p q&& eqKs m l
 |_,_=>false
def scS:List Sk->Bool
 | []=>true
 |.d (.int _)::l=>scS l
 |.d .bool::l=>scS l
 |.d .str::l=>scS l
 |.sub p _::l=>Nat.ble F0 p&& scS l
 |_=>false
mutual
def dS1:Sk->Bool
 |.d _=>true
 |.cref l _=>dSk l
 |.fn _ a b=>dSk a&& dSk b
 |_=>false
def dSk:List Sk->Bool
 | []=>true
 |k::l=>dS1 k&& dSk l
end
def okO:ObSk->Bool
 |.cells l=>dSk l
 |_=>true
def okOs:List (Nat×ObSk)->Bool
 | []=>true
 | (_,k)::l=>okO k&& okOs l
def findM (m:List (Nat×Nat)) (A:List (TV R.T)) (B:List (Nat×Ob R.T)):List (FM R)->Option ((r:FM R)×Option (PayL R.T r.res×PayOs R.T r.obs))
 | []=>none
 |r::l=>match pkL R r.args A,pkOs R B r.obs with
  |some p,some q=>bif eqKs m r.obs&& (scS r.res&& okOs r.obs) then some ⟨r,r.F p q⟩ else none
  |_,_=>findM m A B l
def invL:List (Nat×Nat)->List (Nat×Nat)
 | []=>[]
 | (o,p)::l=>(p,o)::invL l
def retW {T:Nat->Type}:List (TV T)->TV T
 | [v]=>v
 |vs=>.tup vs
def isImpM {T:Nat->Type} (st:MS T) (o:Oper):Bool:=match o.op with
 |.call c=>match c.callee with
  |.value f=>match evM [] st f with
   |some (.fn g _ _)=>E.imp g
   |_=>false
  |_=>false
 |_=>false
def nrOp (o:Oper):Bool:=match o.op with
 |.call c=>match c.callee with
  |.value (.func g)=>!(E.imp g)
  |.value _=>false
  |_=>true
 |_=>true
def refS:Sk->Bool
 |.ref _ _=>true
 |_=>false
def capF:Sk->Cp
 |.fn _ _ _=>.sh
 |_=>.any
def upFL:(l:List Sk)->PayL R.T l->List (TV R.T)
 | [],_=>[]
 | [k],x=>[up R (capF k) k x]
 |k::h::l,p=>up R (capF k) k p.1::upFL (h::l) p.2
def okV {T:Nat->Type} (k:Sk) (v:TV T):Bool:=refS k||(cSk k&& stV v&& Nat.ble (dep k) 18)
def okVs {T:Nat->Type}:List Sk->List (TV T)->Bool
 | [],[]=>true
 |k::l,v::vs=>okV k v&& okVs l vs
 |_,_=>false
def chkF1 {T:Nat->Type} (k:Sk) (v:TV T):Bool:=match k with
 |.fn _ a b=>match v with
  |.fn _ a' b'=>okVs a a'&& okVs b b'
  |_=>false
 |_=>true
def chkF {T:Nat->Type}:List Sk->List (TV T)->Bool
 | [],_=>true
 |_::_,[]=>false
 |k::l,v::vs=>chkF1 k v&& chkF l vs
def findN (m:List (Nat×Nat)) (A:List (TV R.T)) (B:List (Nat×Ob R.T)):List (FM R)->Option ((r:FM R)×Option (PayN R.T r.nk×PayOs R.T r.ob2))
 | []=>none
 |r::l=>match pkL R r.args A,pkOs R B r.obs with
  |some p,some q=>bif r.nk.is&& (eqKs m r.obs&& okOs r.obs&& okOs r.ob2)&& chkF r.args A then some ⟨r,r.G p q⟩ else findN m A B l
  |_,_=>findN m A B l
def delL {α:Type}:List Nat->List (Nat×α)->List (Nat×α)
 | [],l=>l
 |i::is,l=>delL is (delF i l)
def newM (d d':Nat):(k:NK)->PayN R.T k->MS R.T->(MS R.T->Option β)->Option β
 |.no,_,_,_=>none
 |.arr t,l,st,k=>k ((st.new d' (.arr t l)).put d (.vw d' t))
 |.fnc g a b cs,(x,y,z),st,k=>bif mentL d' (upL R .any cs z) then none else k ((st.new d' (.cells (upL R .any cs z))).put d (.fn g (upL R .sh a x) (.ref d' 0::upL R .sh b y)))
def impM (M:Nat->List (FM R)) (o:Oper) (st:MS R.T) (k:MS R.T->Option β):Option β:=match o.op with
 |.call c=>match c.callee with
  |.value f=>match evM [] st f,evMs [] st c.args.toList with
   |some (.fn g a b),some vs=>bif ndB (idsL (a++vs++b) []) then (match o.dst,findN R (numL (idsL (a++vs++b) []) F0) (renL (numL (idsL (a++vs++b) []) F0) (a++vs++b)) (mobs st (numL (idsL (a++vs++b) []) F0)) (M g) with
    |some d,some ⟨r,x⟩=>bif Nat.ble F0 (E.cn d) then none else x.bind fun y=>newM R d (E.cn d) r.nk y.1 ⟨st.fr,bobs (numL (idsL (a++vs++b) []) F0) (upOs R r.ob2 y.2)++delL (idsL (a++vs++b) []) st.ob⟩ k
    |_,_=>match findM R (numL (idsL (a++vs++b) []) F0) (renL (numL (idsL (a++vs++b) []) F0) (a++vs++b)) (mobs st (numL (idsL (a++vs++b) []) F0)) (M g) with
    |some ⟨r,x⟩=>x.bind fun y=>k (MS.putO ⟨st.fr,bobs (numL (idsL (a++vs++b) []) F0) (upOs R r.obs y.2)++st.ob⟩ o.dst (retW (renL (invL (numL (idsL (a++vs++b) []) F0)) (upL R .any r.res y.1))))
    |none=>none) else none
   |_,_=>none
  |_=>none
 |_=>none
variable (M:Nat->List (FM R))
def opsM (all:List Oper):List Oper->MS R.T->(MS R.T->Option β)->Option β
 | [],st,k=>k st
 |o::os,st,k=>match guardM all st o with
  |.run=>bif isOwnM E st o then ownM R F o st (fun st=>opsM all os st k) else (bif isImpM E st o then impM E R M o st (fun st=>opsM all os st k) else runM E R om F o st (fun st=>opsM all os st k))
  |.skip=>opsM all os (st.putO o.dst .undef) k
  |.dyn j w c g=>bif isOwnM E st o||isOwnM E (st.learnG g) o then none else (bif isImpM E (st.learnG g) o then (bif c then impM E R M o (st.learnG g) (fun st=>opsM all os st k) else opsM all os ((st.learnN g).putO o.dst .undef) k) else dynM E R om F o j w c g st (fun st=>opsM all os st k))
  |.no=>none
def refKM {T:Nat->Type}:TV T->List Key
 |.ref o _=>[.obj (1,o)]
 |.mapr o=>[.obj (1,o)]
 |.eref o _ _ _=>[.obj (1,o)]
 |.sv o _ _ _ _ _=>[.obj (1,o)]
 |.sel o _ _ _ _ _=>[.obj (1,o)]
 |_=>[]
def rkM {T:Nat->Type} (st:MS T) (x:Operand):List Key:=match evM [] st x with
 |some v=>refKM v
 |none=>[]
def dstKM (o:Oper):List Key:=match o.dst with
 |some t=>[.obj (1,t)]
 |none=>[]
def anySv {T:Nat->Type}:List (TV T)->Bool
 | []=>false
 |.sv _ _ _ _ _ _::_=>true
 |.ref _ _::_=>true
 |_::l=>anySv l
def footSM (om:Bool) {T:Nat->Type} (st:MS T) (o:Oper):Foot:=
 match o.op with
 |.buildSlice .. =>bif bsM E o.dst then allF else rdF []
 |.move _|.assign _|.pick .. |.build .. |.nilCheck _|.binOp .. |.unOp .. |.makeInterface .. |.typeAssert .. |.makeFunc .. |.fieldAddr .. |.field .. |.indexAddr .. |.index .. |.extract ..
 |.sliceToArrayPointer .. =>rdF []
 |.convert _ _ x|.slice _ x _ _ _|.load _ x|.lookup _ x _ _=>rdF (rkM st x)
 |.alloc _|.box .. |.makeMap .. =>wrF (dstKM o)
 |.makeSlice .. =>wrF (.top::dstKM o)
 |.store _ a _=>wrF (rkM st a)
 |.mapUpdate _ m _ _|.insert _ m _ _=>wrF (rkM st m)
 |.call c=>match c.callee with
  |.builtin b=>match b with
   |.len|.cap|.min|.max=>rdF (c.args.toList.flatMap fun x=>rkM st x)
   |.append=>bif om then allF else ⟨false,false,c.args.toList.flatMap fun x=>rkM st x,[.top]⟩
   |_=>allF
  |.value f=>match evM [] st f with
   |some (.fn g a b)=>if E.imp g then allF else (match evMs [] st c.args.toList with
    |some vs=>if clVs (a++vs++b) then rdF [] else ⟨true,false,[],[]⟩
    |none=>allF)
   |_=>allF
  |_=>allF
 |_=>allF
def footM (om:Bool) {T:Nat->Type} (all:List Oper) (st:MS T) (o:Oper) (wanted:Bool):Foot:=
 if wanted then let f:=footSM E om st o;⟨f.tAll,f.wAll,slotsT all o++f.t,slotsW o++f.w⟩
 else ⟨false,false,slotsT all o,slotsW o⟩
def notV {T:Nat->Type}:TV T->Bool
 |.gone=>false
 |.opt _ _ _=>false
 |.vw _ _=>false
 |.sub _ _ _ _=>false
 |_=>true
def drOK (om:Bool) {T:Nat->Type} (st:MS T) (o:Oper):Bool:= !(isOwnM E st o)&&
 match o.op with
 |.call c=>match c.callee with
  |.value f=>match evM [] st f,evMs [] st c.args.toList with
   |some (.fn _ a b),some vs=>clVs (a++vs++b)||anySv (a++vs++b)
   |_,_=>false
  |.builtin b=>(match b with
   |.append=>om
   |_=>false)||match evMs [] st c.args.toList with
   |some vs=>vs.all notV
   |none=>false
  |_=>true
 |.move _=>!(fzM E o.dst)
 |.slice _ x _ _ _=>match evM [] st x with
  |some v=>(asW st v).isNone
  |none=>false
 |_=>true
def Key.nm:Key->Key
 |.obj l=>.obj (1,l.2)
 |k=>k
def Foot.nm (f:Foot):Foot:=⟨f.tAll,f.wAll,f.t.map Key.nm,f.w.map Key.nm⟩
def ownFt (all:List Oper) (o:Oper):Foot:=⟨false,false,slotsT all o++[],slotsW o++[.top]⟩
def opsDM (ms:List Nat) (all:List Oper):List Oper->MS R.T->List Foot->(MS R.T->Option β)->Option β
 | [],st,fs,k=>bif pairsOK ms (fs.map Foot.nm) then k st else none
 |o::os,st,fs,k=>match guardM all st o with
  |.run=>bif isImpM E st o then (bif isOwnM E st o then none else impM E R M o st (fun st'=>opsDM ms all os st' (fs++[footM E om all st o true]) k)) else bif isOwnM E st o then ownM R F o st (fun st'=>opsDM ms all os st' (fs++[ownFt all o]) k) else bif !(drOK E om st o) then none else runM E R om F o st (fun st'=>opsDM ms all os st' (fs++[footM E om all st o true]) k)
  |.skip=>opsDM ms all os (st.putO o.dst .undef) (fs++[footM E om all st o false]) k
  |.dyn _ _ c g=>bif c then (bif isImpM E (st.learnG g) o then (bif isOwnM E (st.learnG g) o then none else impM E R M o (st.learnG g) (fun st'=>opsDM ms all os st' (fs++[footM E om all (st.learnG g) o true]) k)) else bif isOwnM E (st.learnG g) o then ownM R F o (st.learnG g) (fun st'=>opsDM ms all os st' (fs++[ownFt all o]) k) else bif !(drOK E om (st.learnG g) o) then none else runM E R om F o (st.learnG g) (fun st'=>opsDM ms all os st' (fs++[footM E om all (st.learnG g) o true]) k))
   else opsDM ms all os ((st.learnN g).putO o.dst .undef) (fs++[footM E om all st o false]) k
  |.no=>none
end
def loopF {R:Reg} (key:Nat) (W:List Nat) (b:MS R.T) (sh:Shape) (outs:List (Ex×Shape)) (body:{β:Type}->MS R.T->(Ex->MS R.T->Option β)->Option β):Nat->Pay R.T sh->Option (Out R.T outs)
 |0,_=>none
 |m+1,p=>body (b.over (unpack R sh p)) fun e st=>match e with
  |.normal=>match packW R W st sh with
   |some p=>loopF key W b sh outs body m p
   |none=>none
  |e=>packOut R W e st outs
def MS.obs {T:Nat->Type} (st:MS T):MS T:=⟨[],st.ob⟩
def unrF {R:Reg} {β:Type} (body:MS R.T->(Ex->MS R.T->Option β)->Option β):Nat->MS R.T->(Ex->MS R.T->Option β)->Option β
 |0,_,_=>none
 |m+1,st,k=>body st fun e st'=>match e with
  |.normal=>unrF body m st' k
  |e=>k e st'
def foldF {R:Reg} {X:Type} (key:Nat) (W:List Nat) (b:MS R.T) (sh:Shape) (outs:List (Ex×Shape)) (body:{β:Type}->X->MS R.T->(Ex->MS R.T->Option β)->Option β):List X->Pay R.T sh->Option (Out R.T outs)
 | [],p=>packOut R W .normal (unpack R sh p).obs outs
 |x::xs,p=>body x (b.over (unpack R sh p)) fun e st=>match e with
  |.normal=>match packW R W st.obs sh with
   |some p=>foldF key W b sh outs body xs p
   |none=>none
  |e=>packOut R W e st.obs outs
def findI {R:Reg} (a b:List (TV R.T)):List (FI R)->Option ((el:List Sk)×Option (List (PayL R.T el)))
 | []=>none
 |i::l=>match pkL R i.a a,pkL R i.b b with
  |some pa,some pb=>bif cSkL i.a&& cSkL i.b&& cSkL i.el&& Nat.ble (depL i.a) 18&& Nat.ble (depL i.b) 18 then some ⟨i.el,i.F pa pb⟩ else none
  |_,_=>findI a b l
def findIo {R:Reg} (a b c:List (TV R.T)):List (FO R)->Option ((el:List Sk)×Option (List (PayL R.T el))×Bool)
 | []=>none
 |i::l=>match pkL R i.a a,pkL R i.b b,pkL R i.cs c with
  |some pa,some pb,some pc=>bif cSkL i.a&& cSkL i.b&& dSk i.cs&& cSkL i.el&& Nat.ble (depL i.a) 18&& Nat.ble (depL i.b) 18 then some ⟨i.el,i.F pa pb pc,i.q⟩ else none
  |_,_,_=>findIo a b c l
def disjO (O:List Nat):List (Nat×ObSk)->Bool
 | []=>true
 | (o,_)::l=>!(memN o O)&& disjO O l
def iterM {R:Reg} (st:MS R.T) (I:IR R) (g:Nat) (u v:List (TV R.T)):Option ((el:List Sk)×Option (List (PayL R.T el))×Option Nat×Bool):=match v with
 |.ref o off::v'=>bif stL u&& stL v'&& Nat.beq off 0 then (match look st.ob o with
  |some (.cells c)=>match findIo u v' c (I.io g) with
   |some ⟨el,xs,q⟩=>some ⟨el,xs,some o,q⟩
   |none=>none
  |_=>none) else none
 |v=>bif stL u&& stL v then (match findI u v (I.it g) with
  |some ⟨el,xs⟩=>some ⟨el,xs,none,true⟩
  |none=>none) else none
def addW (oo:Option Nat) (W:List Nat):List Nat:=match oo with
 |some o=>o::W
 |none=>W
def okI (oo:Option Nat) (W:List Nat) (l:List (Nat×ObSk)):Bool:=match oo with
 |some o=>!(memN o W)&& disjO [o] l
 |none=>true
def putPs {T:Nat->Type} (st:MS T):List Nat->List (TV T)->Option (MS T)
 | [],[]=>some st
 |i::l,v::vs=>putPs (st.put i v) l vs
 |_,_=>none
def dstsL:List Oper->List Nat
 | []=>[]
 |o::l=>match o.dst with
  |some d=>d::E.cn d::dstsL l
  |none=>dstsL l
def wrC:Code->List Nat
 |.region _ ops _=>dstsL E ops.toList
 |.seq a b=>wrC a++wrC b
 |.cond _ a b=>wrC a++wrC b
 |.block _ c=>wrC c
 |.loop c=>wrC c
 |.scope c=>wrC c
 |.rangeFunc _ ps a b=>ps.toList++wrC a++wrC b
 |_=>[]
def firstId':Code->Nat
 |.region i _ _=>i
 |.seq a _=>firstId' a
 |.loop a=>firstId' a+500
 |.scope a=>firstId' a
 |.block _ a=>firstId' a
 |.rangeFunc _ _ _ b=>firstId' b
 |_=>0
def quietC:Code->Bool
 |.region _ ops _=>ops.toList.all (nrOp E)
 |.seq a b=>quietC a&& quietC b
 |.cond _ a b=>quietC a&& quietC b
 |.block _ c=>quietC c
 |.loop c=>quietC c
 |.scope c=>quietC c
 |.rangeFunc _ _ _ _=>false
 |_=>true
variable (n:Nat) (om:Bool) (F:Nat->List (FR R)) (I:IR R) (A:Ann)
def codeM:Code->{β:Type}->MS R.T->(Ex->MS R.T->Option β)->Option β
 |.skip,_,st,k=>k .normal st
 |.region _ ops dr,_,st,k=>bif dr then (bif edgesOK ops.toList then opsDM E R om F I.im (preM ops.toList) ops.toList ops.toList st [] (fun st=>k .normal st) else none) else opsM E R om F I.im ops.toList ops.toList st (fun st=>k .normal st)
 |.seq a b,_,st,k=>
  match look A.joins (firstId' b) with
  |none=>codeM a st fun e st=>match e with
   |.normal=>codeM b st k
   |e=>k e st
  |some q=>(codeM (β:=Out R.T q.outs) a ((base (wrC E a) q.K q.O .ro st).over st) fun e st=>packOut R (wrC E a) e st q.outs).bind (unpackOut R (base (wrC E a) q.K q.O (fun b=>b) st) (fun e st=>match e with
   |.normal=>codeM b st k
   |e=>k e st) q.outs)
 |.cond c a b,_,st,k=>match evM [] st c with
  |some (.blit t)=>bif t then codeM a st k else codeM b st k
  |some (.bool t)=>bif t then codeM a (st.learnO c true) k else codeM b (st.learnO c false) k
  |_=>none
 |.block id c,_,st,k=>codeM c st fun e st=>match e with
  |.exit i=>bif Nat.beq i id then k .normal st else k (.exit i) st
  |e=>k e st
 |.loop c,_,st,k=>match look A.loops (firstId' c) with
  |some q=>match packW R (wrC E c) st q.sh with
   |some p=>(loopF (firstId' c) (wrC E c) (base (wrC E c) q.K q.O .ro st) q.sh q.outs (fun st k=>codeM c st k) n p).bind (unpackOut R (base (wrC E c) q.K q.O (fun b=>b) st) k q.outs)
   |none=>none
  |none=>unrF (fun st k=>codeM c st k) 130 st k
 |.rangeFunc f ps a c,_,st,k=>match look A.loops (firstId' c) with
  |some q=>match evM [] st f with
   |some (.fn g u v)=>bif disjO q.O q.sh.ob then (match iterM st I g u v with
    |some ⟨el,xs,oo,kq⟩=>bif okI oo (ps.toList++wrC E a++wrC E c) q.sh.ob&& (bif kq then quietC E a&& quietC E c else true) then (match packW R (ps.toList++wrC E a++wrC E c) st.obs q.sh with
     |some p=>(xs.bind fun xs=>foldF (firstId' c) (ps.toList++wrC E a++wrC E c) (base (addW oo (ps.toList++wrC E a++wrC E c)) q.K q.O .ro st) q.sh q.outs (fun x st k=>match putPs st ps.toList (upL R .sh el x) with
       |some st=>codeM a st fun e st=>match e with
        |.normal=>codeM c st k
        |_=>none
       |none=>none) xs p).bind (unpackOut R (base (addW oo (ps.toList++wrC E a++wrC E c)) q.K q.O (fun b=>b) st) k q.outs)
     |none=>none) else none
    |none=>none) else none
   |_=>none
  |none=>none
 |.scope c,_,st,k=>codeM c st k
 |.label _,_,st,k=>k .normal st
 |.exit i,_,st,k=>k (.exit i) st
 |.ret,_,st,k=>k .ret st
 |_,_,_,_=>none
def resM (st:MS R.T):List ResultVar->Option (List (TV R.T))
 | []=>some []
 |.tmp t::l=>match evM [] st (.tmp t) with
  |some v=>match resM st l with
   |some vs=>some (v::vs)
   |none=>none
  |none=>none
 |.cell a t::l=>match evM [] st (.tmp a) with
  |some (.ref o off)=>match rdOb st o with
   |some (.cells cs)=>match ldM E t cs off with
    |some v=>match resM st l with
     |some vs=>some (v::vs)
     |none=>none
    |none=>none
   |some (.sg ss)=>match ldG E R t ss off with
    |some v=>match resM st l with
     |some vs=>some (v::vs)
     |none=>none
    |none=>none
   |_=>none
  |_=>none
def initF {T:Nat->Type}:Nat->List (TV T)->List (Nat×TV T)
 |_,[]=>[]
 |i,v::l=>(i,v)::initF (i+1) l
def funM (fn:Func) (args res:List Sk) (p:PayL R.T args):Option (PayL R.T res):=
 match fn.body with
 |some c=>codeM E R n om F I A c ⟨initF 0 (upL R .sh args p),[]⟩ fun e st=>match e with
  |.exit _=>none
  |_=>match resM E R st fn.results.toList with
   |some vs=>bif cSkL res&& Nat.ble (depL res) 16 then pkL R res (cloMs st vs) else none
   |none=>none
 |none=>none
def ownTV {T:Nat->Type}:TV T->Bool
 |.lst (.own _) _ _=>true
 |.lst .full _ _=>true
 |.nils=>true
 |_=>false
def funO (fn:Func) (args:List Sk) (τ:Ty) (p:PayL R.T args):Option (List (Den R.T τ)):=
 match fn.body with
 |some c=>codeM E R n om F I A c ⟨initF 0 (upL R .sh args p),[]⟩ fun e st=>match e with
  |.exit _=>none
  |_=>match resM E R st fn.results.toList with
   |some [v]=>bif ownTV v then unSl R τ v else none
   |_=>none
 |none=>none
end
end Aq
end
