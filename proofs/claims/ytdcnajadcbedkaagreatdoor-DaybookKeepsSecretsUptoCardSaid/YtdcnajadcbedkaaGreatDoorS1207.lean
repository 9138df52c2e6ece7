/- Part of the proof of a law. -/
import Derived.Test.YtdcnajadcbedkaaGreatDoorS1206
set_option linter.all false
section
namespace Aq
open Go
inductive dV (R:iH) where
 |t (v:TV R.T)
 |c (b:Bool) (v:TV R.T)
 |w (v:TV R.T) (st:MS R.T)
 |wc (b:Bool) (v:TV R.T) (st:MS R.T)
 |p (α:Type) (d:α) (o:Option α) (f:α->TV R.T)
section
variable (E:Env) (R:iH)
def Lb {T:Nat->Type} (agg:Bool) (n:Nat) (cs:List (TV T)) (off:Nat):Option (TV T):=
 bif agg then (bif Nat.ble (off+n) cs.length then some (.agg ((cs.drop off).take n)) else none) else cs[off]?
def kQ {T:Nat->Type} (t:TypeId) (cs:List (TV T)) (off:Nat):Option (TV T):=
 match jl E.P t with
 |some a=>match cO E.P t with
  |some n=>Lb a n cs off
  |none=>none
 |none=>none
def Co {T:Nat->Type} (cs:List (TV T)) (off:Nat) (vs:List (TV T)):List (TV T):=cs.take off++vs++cs.drop (off+vs.length)
def Lc {T:Nat->Type} (place:Nat->Option (Nat×Nat)) (cells:List (TV T)):List (Nat×TV T)->Option (List (TV T))
 | []=>some cells
 | (i,v)::rest=>match place i with
   |none=>none
   |some (off,size)=>bif Nat.beq v.cells.length size&& Nat.ble (off+size) cells.length&& xJ v then Lc place (Co cells off v.cells) rest else none
def vL {T:Nat->Type} (t:TypeId):Option (TV T):=match E.P.info? t with
 |some i=>match i.zero with
  |some z=>Cg z
  |none=>none
 |none=>none
def bM {T:Nat->Type}:TV T->Option Bool
 |.bool a=>some a
 |.gQ a=>some a
 |_=>none
def Ld {T:Nat->Type} (x y:TV T):Option Bool:=match bM x,bM y with
 |some a,some b=>some (a==b)
 |_,_=>none
def Cq {T:Nat->Type} (eq:TypeId->TV T->TV T->Option Bool) (xs ys:List (TV T)):List Field->Option Bool
 | []=>some true
 |f::fs=>if f.name= "_" then Cq eq xs ys fs else
  match kQ E f.type xs f.offset with
  |none=>none
  |some a=>match kQ E f.type ys f.offset with
   |none=>none
   |some b=>match eq f.type a b with
    |none=>none
    |some r=>match Cq eq xs ys fs with
     |none=>none
     |some q=>some (r&& q)
def Ga {T:Nat->Type} (eq:TypeId->TV T->TV T->Option Bool) (e:TypeId) (sz:Nat) (xs ys:List (TV T)):List Nat->Option Bool
 | []=>some true
 |i::is=>match kQ E e xs (i*sz) with
  |none=>none
  |some a=>match kQ E e ys (i*sz) with
   |none=>none
   |some b=>match eq e a b with
    |none=>none
    |some r=>match Ga eq e sz xs ys is with
     |none=>none
     |some q=>some (r&& q)
def Cr {T:Nat->Type}:Nat->TypeId->TV T->TV T->Option Bool
 |0,_,_,_=>none
 |d+1,t,x,y=>
  match E.P.underlying t,x,y with
  |some (.struct fs),.agg xs,.agg ys=>if E.P.stoodInHeld t then none else Cq E (Cr d) xs ys fs.toList
  |some (.array n e),.agg xs,.agg ys=>match cO E.P e with
   |some sz=>Ga E (Cr d) e sz xs ys (List.range n)
   |none=>none
  |some (.struct _),_,_=>none
  |some (.array _ _),_,_=>none
  |some .bool,x,y=>Ld x y
  |some (.int _),.int k a,.int k' b=>if k=k' then some (a==b) else none
  |some .string,.str a,.str b=>some (a==b)
  |_,_,_=>none
def Le {T:Nat->Type} (t:TypeId) (x y:TV T):Option Bool:=
 match E.P.underlying t,x,y with
 |some (.struct _),.agg a,.agg b=>if E.P.eqGuardType E.P.depth t then none else Cr E 8 t (.agg a) (.agg b)
 |some (.array _ _),.agg a,.agg b=>if E.P.eqGuardType E.P.depth t then none else Cr E 8 t (.agg a) (.agg b)
 |some (.func ..),.fF,.fF=>some true
 |some (.func ..),.fF,.fn _ _ _=>some false
 |some (.func ..),.fn _ _ _,.fF=>some false
 |some .bool,x,y=>Ld x y
 |_,_,_=>none
def Lf (op:BinOp) (k:IntKind) (x y:Int):Option (dV R):=
 match op with
 |.add=>some (.t (.int k (k.wrap (x+y))))
 |.sub=>some (.t (.int k (k.wrap (x-y))))
 |.mul=>some (.t (.int k (k.wrap (x*y))))
 |.quo=>some (.c (!(y==0)) (.int k (k.wrap (x.tdiv y))))
 |.rem=>some (.c (!(y==0)) (.int k (x.tmod y)))
 |.and=>some (.t (.int k (k.wrap (BitVec.ofInt k.bits x&&& BitVec.ofInt k.bits y).toNat)))
 |.or=>some (.t (.int k (k.wrap (BitVec.ofInt k.bits x|||BitVec.ofInt k.bits y).toNat)))
 |.xor=>some (.t (.int k (k.wrap (BitVec.ofInt k.bits x^^^BitVec.ofInt k.bits y).toNat)))
 |.andNot=>some (.t (.int k (k.wrap (BitVec.ofInt k.bits x&&& ~~~BitVec.ofInt k.bits y).toNat)))
 |.eql=>some (.t (.bool (x==y)))
 |.neq=>some (.t (.bool (x !=y)))
 |.lss=>some (.t (.bool (decide (x<y))))
 |.leq=>some (.t (.bool (decide (x<=y))))
 |.gtr=>some (.t (.bool (decide (x>y))))
 |.geq=>some (.t (.bool (decide (x>=y))))
 |_=>none
def RA (op:BinOp) (k:IntKind) (x y:Int):Option (dV R):=
 match op with
 |.shl=>some (.c (decide (0<=y)) (.int k (k.wrap (x*2^min y.toNat k.bits))))
 |.shr=>some (.c (decide (0<=y)) (.int k (x.fdiv (2^min y.toNat k.bits))))
 |_=>none
def RB (op:BinOp) (x y:List UInt8):Option (dV R):=
 match op with
 |.add=>some (.c (decide (((x.length+y.length:Nat):Int)<=IntKind.i64.max)) (.str (x++y)))
 |.eql=>some (.t (.bool (x==y)))
 |.neq=>some (.t (.bool (!(x==y))))
 |.lss=>some (.t (.bool (Op.bytesLess x y)))
 |.leq=>some (.t (.bool (Op.bytesLess x y||x==y)))
 |.gtr=>some (.t (.bool (!(Op.bytesLess x y||x==y))))
 |.geq=>some (.t (.bool (!(Op.bytesLess x y))))
 |_=>none
def Ct:BinOp->Bool
 |.shl=>true
 |.shr=>true
 |_=>false
def RD (op:BinOp) (t:TypeId) (x y:TV R.T):Option (dV R):=
 match x,y with
 |.int k a,.int k' b=>bif Ct op then RA R op k a b else (if k=k' then Lf R op k a b else none)
 |.str a,.str b=>RB R op a b
 |x,y=>match op with
  |.eql=>match Le E t x y with
   |some b=>some (.t (.bool b))
   |none=>none
  |.neq=>match Le E t x y with
   |some b=>some (.t (.bool (!b)))
   |none=>none
  |_=>none
def RF (op:UnOp) (x:TV R.T):Option (dV R):=
 match op,x with
 |.neg,.int k n=>some (.t (.int k (k.wrap (0-n))))
 |.xor,.int k n=>Lf R .xor k (if k.signed then-1 else k.max) n
 |.not,.bool b=>some (.t (.bool (!b)))
 |.not,.gQ b=>some (.t (.gQ (!b)))
 |_,_=>none
def Lg (src dst:TypeId) (x:TV R.T):Option (dV R):=
 match E.P.underlying src,E.P.underlying dst,x with
 |some _,some (.int k),.int _ n=>some (.t (.int k (k.wrap n)))
 |some _,some .string,.str s=>some (.t (.str s))
 |some _,some (.slice e),.str s=>match E.P.underlying e with
  |some (.int .u8)=>some (.t (.aj .any (.int .u8) (s.map fun b=>((b.toNat:Nat):Int))))
  |_=>none
 |some (.slice e),some .string,.aj _ (.int .u8) l=>match E.P.underlying e with
  |some (.int .u8)=>some (.t (.str (List.map (fun n:Int=>UInt8.ofNat n.toNat) l)))
  |_=>none
 |some (.slice e),some .string,.dX=>match E.P.underlying e with
  |some (.int .u8)=>some (.t (.str []))
  |_=>none
 |_,_,_=>none
def kF (i:Int) (n:Nat):Bool:=decide (0<=i/\i<=n)
def Cu:Option (TV R.T)->Option (Option Int)
 |none=>some none
 |some (.int _ n)=>some (some n)
 |_=>none
def pR {α:Type} (l:List α):Option Int->Option Int->List α
 |none,none=>l
 |some i,none=>l.drop i.toNat
 |none,some j=>l.take j.toNat
 |some i,some j=>(l.take j.toNat).drop i.toNat
def RG (n:Nat):Option Int->Option Int->Bool
 |none,none=>true
 |some i,none=>kF i n
 |none,some j=>kF j n
 |some i,some j=>kF j n&& kF i j.toNat
def xM (t:TypeId) (x:TV R.T) (lo hi:Option (TV R.T)):Option (dV R):=
 match Cu R lo,Cu R hi with
 |some lo,some hi=>match E.P.underlying t,x with
  |some .string,.str s=>some (.c (RG s.length lo hi) (.str (pR s lo hi)))
  |some (.slice e),.aj _ u l=>match cO E.P e with
   |some sz=>bif Nat.beq sz (dx R u) then some (.c (RG l.length lo hi) (.aj .any u (pR l lo hi))) else none
   |none=>none
  |_,_=>none
 |_,_=>none
def XY {T:Nat->Type} (t:TypeId) (f:Nat) (x:TV T):Option (TV T):=
 match vg E.P t f with
 |some (o,_)=>match x with
  |.ref p off=>some (.ref p (off+o))
  |.aK cs off=>some (.aK cs (off+o))
  |.jW p t i off=>some (.jW p t i (off+o))
  |_=>none
 |none=>none
def lM (R:iH):(t:Ty)->Den R.T t->Den R.T t->Bool
 |.int _=>fun (a b:Int)=>a==b
 |.bool=>fun (a b:Bool)=>a==b
 |.str=>fun (a b:List UInt8)=>a==b
 |.slice _=>fun _ _=>false
 |.st _=>fun _ _=>false
def vM (t:TypeId) (k:Ty):Bool:=match E.P.underlying t,k with
 |some (.int _),.int _=>true
 |some .string,.str=>true
 |some .bool,.bool=>true
 |_,_=>false
def zF {α β:Type} (eq:α->α->Bool) (x:α):List (α×β)->Option β
 | []=>none
 | (a,v)::m=>bif eq x a then some v else zF eq x m
def xO {α β:Type} (eq:α->α->Bool) (x:α) (v:β):List (α×β)->List (α×β)
 | []=>[(x,v)]
 | (a,w)::m=>bif eq x a then (x,v)::m else (a,w)::xO eq x v m
def XZ {α:Type} (d:α):Option α->α
 |some x=>x
 |none=>d
def X0 (t:Ty) (v:TV R.T):Option (Den R.T t):=bif kD v then oD R t v else none
def Gb (t:TypeId) (k e:Ty) (m:List (Den R.T k×Den R.T e)) (x:TV R.T) (ok:Bool):Option (dV R):=
 match qZ E.P t with
 |some (kt,et)=>bif vM E kt k then (match vL (T:=R.T) E et with
  |some z=>match oD R e z,oD R k x with
   |some z,some x=>some (.t (bif ok then .bE [fG R .any e (XZ z (zF (lM R k) x m)),.bool (zF (lM R k) x m).isSome] else fG R .any e (XZ z (zF (lM R k) x m))))
   |_,_=>none
  |none=>none) else none
 |none=>none
def Lh (t:TypeId) (m x:TV R.T) (ok:Bool) (st:MS R.T):Option (dV R):=
 match m with
 |.bP o=>match mK st o with
  |some (.map k e m)=>Gb E R t k e m x ok
  |_=>none
 |.dG k e m=>Gb E R t k e m x ok
 |.eZ=>match qZ E.P t with
  |some (kt,et)=>match R.ty kt,R.ty et with
   |some k,some e=>Gb E R t k e [] x ok
   |_,_=>none
  |none=>none
 |_=>none
def Li {T:Nat->Type}:TV T->TV T->Option Bool
 |.int k a,.int k' b=>if k=k' then some (a==b) else none
 |.str a,.str b=>some (a==b)
 |_,_=>none
def Lj {T:Nat->Type} (t:TypeId):TV T->Bool:=fun v=>match E.P.underlying t,v with
 |some (.int _),.int _ _=>true
 |some .string,.str _=>true
 |_,_=>false
def Ll {T:Nat->Type} (x v:TV T):List (TV T)->List (TV T)->Option (List (TV T)×List (TV T))
 | [],[]=>some ([x],[v])
 |a::ks,w::vs=>match Li x a with
  |some b=>bif b then some (x::ks,v::vs) else (match Ll x v ks vs with
   |some (ks,vs)=>some (a::ks,w::vs)
   |none=>none)
  |none=>none
 |_,_=>none
def Cv (t:TypeId) (m x v:TV R.T) (st:MS R.T):Option (dV R):=
 match m with
 |.bP o=>match look st.ob o with
  |some (.map k e m)=>match qZ E.P t with
   |some (kt,_)=>bif vM E kt k then (match oD R k x,X0 R e v with
    |some x,some v=>some (.w .undef (st.set o (.map k e (xO (lM R k) x v m))))
    |_,_=>none) else none
   |none=>none
  |some (.smap ks vs)=>match qZ E.P t with
   |some (kt,_)=>bif Lj E kt x then (match Ll x v ks vs with
    |some (ks,vs)=>some (.w .undef (st.set o (.smap ks vs)))
    |none=>none) else none
   |none=>none
  |_=>none
 |_=>none
def iA:Ty->Bool
 |.st _=>true
 |_=>false
def Cw (t:TypeId):Option (TypeId×Ty×Nat×Nat):=
 match kU E.P t with
 |some e=>match R.ty e,cO E.P e,tZ E.P e,jl E.P e,jA E.P e with
  |some u,some sz,some dZ,some ag,some z=>bif Nat.beq sz (dx R u)&& Nat.blt 0 sz&& (ag||Nat.beq sz 1)&& Nat.beq z.cells.length sz&& (ag==iA u) then some (e,u,sz,dZ) else none
  |_,_,_,_,_=>none
 |none=>none
def xP (t:Ty) (n:Nat):List (Nat×TV R.T)->Option (List (Den R.T t))
 | []=>some []
 | (i,v)::l=>bif Nat.beq i n then (match oD R t v with
   |some x=>match xP t (n+1) l with
    |some y=>some (x::y)
    |none=>none
   |none=>none) else none
def RH (t:TypeId) (len:Nat) (ps:List (Nat×TV R.T)):Option (dV R):=
 match Cw E R t with
 |some (_,u,sz,_)=>bif Nat.ble (len*sz) (2^24)&& Nat.beq ps.length len then (match xP R u 0 ps with
  |some l=>some (.t (.aj .full u l))
  |none=>none) else none
 |none=>none
def Gc (u:Ty):TV R.T->Option (List (Den R.T u))
 |.aj _ _ l=>pJ R l
 |.dX=>some []
 |.str s=>pJ (t:=.int .u8) (u:=u) R (s.map fun b=>((b.toNat:Nat):Int))
 |_=>none
def X3 (u:Ty) (d:Nat):TV R.T->Option (Nat×List (Den R.T u))
 |.aj .nil _ l=>match pJ R l with
  |some l=>some (d,l)
  |none=>none
 |.aj .full _ l=>match pJ R l with
  |some l=>some (d,l)
  |none=>none
 |.aj (.own t) _ l=>match pJ R l with
  |some l=>some (t,l)
  |none=>none
 |.dX=>some (d,[])
 |_=>none
def Cy (t:TypeId):Bool:=match E.P.underlying t with
 |some (.slice _)=>true
 |some .string=>true
 |_=>false
def Gf (d:Option Nat) (t u:TypeId) (x y:TV R.T) (st:MS R.T):Option (dV R):=
 match d with
 |some d=>match Cw E R t with
  |some (_,τ,_,dZ)=>bif Cy E u then (match X3 R τ d x,Gc R τ y with
   |some (tk,l),some l'=>some (.wc (bJ (l.length+l'.length) dZ) (.aj (.own tk) τ (l++l')) (st.wk tk))
   |_,_=>none) else none
  |none=>none
 |none=>none
def Gg (d:Option Nat) (t u:TypeId) (x y:TV R.T) (st:MS R.T):Option (dV R):=
 match d with
 |some d=>match Cw E R t with
  |some (_,τ,_,dZ)=>bif Cy E u then (match Gc R τ y with
   |some l'=>match x with
    |.vw o τ0=>if τ0=τ then (match look st.ob o with
     |some (.arr τ' l)=>match l',pJ R (u:=τ) l with
      |a::l',some l=>some (.wc (bJ (l.length+(a::l').length) dZ) (.vw d τ) ((st.del o).new d (.arr τ (l++a::l'))))
      |_,_=>none
     |_=>none) else none
    |x=>bif Cn x then some (.wc (bJ l'.length dZ) (.vw d τ) (st.new d (.arr τ l'))) else none
   |none=>none) else none
  |none=>none
 |none=>none
def RI (om:Bool) (d:Option Nat) (t:TypeId) (n m:TV R.T) (st:MS R.T):Option (dV R):=
 match d,Cw E R t,n,m with
 |some d,some (e,τ,_,dZ),.int _ n,.int _ m=>match vL (T:=R.T) E e with
  |some z=>match oD R τ z with
   |some z=>bif om then some (.wc (decide (0<=n/\n=m/\m<=2^47)&& bJ m.toNat dZ) (.vw d τ) (st.new d (.arr τ (List.replicate n.toNat z))))
    else some (.wc (decide (n=0/\0<=m/\m<=2^47)&& bJ m.toNat dZ) (.aj (.own d) τ []) (st.wk d))
   |none=>none
  |none=>none
 |_,_,_,_=>none
def Cz {T:Nat->Type} (mx:Bool):TV T->List (TV T)->Option (TV T)
 |x,[]=>some x
 |.int k a,.int k' b::l=>if k=k' then Cz mx (.int k (bif mx then imax a b else rM a b)) l else none
 |_,_=>none
def RJ {T:Nat->Type} (t:TypeId) (x:TV T) (st:MS T):Option Nat:=
 match E.P.underlying t,x with
 |some (.slice _),.aj _ _ l=>some l.length
 |some (.slice _),.dX=>some 0
 |some (.slice _),.vw o _=>match mK st o with
  |some (.arr _ l)=>some l.length
  |_=>none
 |some .string,.str s=>some s.length
 |some (.map _ _),.bP o=>match mK st o with
  |some (.map _ _ m)=>some m.length
  |_=>none
 |some (.map _ _),.dG _ _ m=>some m.length
 |some (.map _ _),.eZ=>some 0
 |some (.array n _),_=>some n
 |_,_=>none
def blt (om:Bool) (d:Option Nat) (b:Builtin) (tys:Array TypeId) (args:List (TV R.T)) (st:MS R.T):Option (dV R):=
 match b,args with
 |.len,[x]=>match tys[0]? with
  |some t=>match RJ E t x st with
   |some n=>some (.t (.int .i64 ((n:Nat):Int)))
   |none=>none
  |none=>none
 |.append,[x,y]=>match tys[0]?,tys[1]? with
  |some t,some u=>bif om then Gg E R d t u x y st else Gf E R d t u x y st
  |_,_=>none
 |.min,x::l=>match Cz false x l with
  |some v=>some (.t v)
  |none=>none
 |.max,x::l=>match Cz true x l with
  |some v=>some (.t v)
  |none=>none
 |_,_=>none
def X4:List (TV R.T)->TV R.T
 | [v]=>v
 |vs=>.bE vs
def findF (args dB:List (TV R.T)):List (FR R)->Option (dV R)
 | []=>none
 |r::l=>match fU R r.args dB with
  |some p=>bif iO r.args&& Nat.ble (oH r.args) 18&& iO r.res&& (xK args||Cj r.res) then some (.p (aA R.T r.res) r.d (r.F p) fun x=>X4 R (gJ R .sh r.res x)) else none
  |none=>findF args dB l
def RL (t:TypeId) (x i:TV R.T):Option (dV R):=
 match E.P.underlying t,x,i with
 |some (.slice e),.aj _ u l,.int _ n=>match cO E.P e with
  |some sz=>bif Nat.beq sz (dx R u) then some (.p (Den R.T u) (Cb R u) (aB l n) fun y=>.aK (fG R .sh u y).cells 0) else none
  |none=>none
 |some (.array n e),.ref o off,.int _ k=>match cO E.P e with
  |some sz=>some (.c (decide (0<=k/\k<n)) (.ref o (off+k.toNat*sz)))
  |none=>none
 |some (.array n e),.aK cs off,.int _ k=>match cO E.P e with
  |some sz=>some (.c (decide (0<=k/\k<n)) (.aK cs (off+k.toNat*sz)))
  |none=>none
 |_,_,_=>none
def RN (t:TypeId) (o:Nat) (τ:Ty) (i:TV R.T) (st:MS R.T):Option (dV R):=
 match E.P.underlying t,i with
 |some (.slice e),.int _ n=>match cO E.P e with
  |some sz=>bif Nat.beq sz (dx R τ) then (match mK st o with
   |some (.arr _ l)=>some (.c (decide (0<=n/\n< ((l.length:Nat):Int))) (.jW o τ n 0))
   |_=>none) else none
  |none=>none
 |_,_=>none
def ahY {T:Nat->Type}:Option (TV T)->TV T
 |some v=>v
 |none=>.gone
def RP (t:TypeId) (τ:Ty) (i:Int) (off:Nat) (o:Ob R.T):Option (dV R):=
 match o with
 |.arr τ' l=>match pJ R (u:=τ) l with
  |some l=>bif (kQ E t (fG R .any τ (Cb R τ)).cells off).isSome then some (.p (Den R.T τ) (Cb R τ) (aB l i) fun y=>ahY (kQ E t (fG R .any τ y).cells off)) else none
  |none=>none
 |_=>none
def RQ (τ:Ty) (cs:List (TV R.T)):Option (Den R.T τ):=match τ with
 |.st n=>zA R n (.agg cs)
 |.int k=>pK R (.int k) (hd1 R cs)
 |.bool=>pK R .bool (hd1 R cs)
 |.str=>pK R .str (hd1 R cs)
 |.slice t=>pK R (.slice t) (hd1 R cs)
def RU (t:TypeId) (x i:TV R.T):Option (dV R):=
 match E.P.underlying t,x,i with
 |some .string,.str s,.int _ n=>some (.p UInt8 0 (aB s n) fun b=>.int .u8 ((b.toNat:Nat):Int))
 |_,_,_=>none
def CB {T:Nat->Type} (c:Bool):TV T->TV T->Option (TV T)
 |.int k a,.int k' b=>if k=k' then some (.int k (bif c then a else b)) else none
 |.bool a,.bool b=>some (.bool (bif c then a else b))
 |.bool a,.gQ b=>some (.bool (bif c then a else b))
 |.gQ a,.bool b=>some (.bool (bif c then a else b))
 |.gQ a,.gQ b=>some (.bool (bif c then a else b))
 |.str a,.str b=>some (.str (bif c then a else b))
 |_,_=>none
def X5 (P:Program):Nat->TypeId->Option (List jo)
 |0,_=>none
 |n+1,t=>match P.underlying t with
  |some (.int k)=>some [.i k]
  |some (.array m e)=>match P.underlying e with
   |some (.int k)=>some [.a k m]
   |_=>none
  |some (.struct fs)=>fs.toList.foldr (fun f acc=>match X5 P n f.type,acc with
   |some a,some b=>some (a++b)
   |_,_=>none) (some [])
  |_=>none
def X6:List jo->Bool
 | []=>false
 |.a _ _::_=>true
 |_::l=>X6 l
def X7 (t:TypeId):Option (List jo):=match R.ty t with
 |some _=>none
 |none=>match X5 E.P 4 t with
  |some ks=>bif X6 ks then some ks else none
  |none=>none
def Sg.sk:Sg->jo
 |.i k _=>.i k
 |.a k n _=>.a k n
def Lm:jo->Sg
 |.i k=>.i k 0
 |.a k n=>.a k n (Vec.rep n 0)
def zG {T:Nat->Type} (k:IntKind):List (TV T)->Bool
 | []=>true
 |.int k' x::l=>(if k'=k then (if x=0 then true else false) else false)&& zG k l
 |_=>false
def CF {T:Nat->Type}:List jo->List (TV T)->Bool
 | [],[]=>true
 |.i k::l,v::vs=>zG k [v]&& CF l vs
 |.a k n::l,vs=>Nat.ble n vs.length&& zG k (vs.take n)&& CF l (vs.drop n)
 |_,_=>false
def xQ {T:Nat->Type}:List jo->List (TV T)->Option (List Sg)
 | [],[]=>some []
 |.i k::l,.int k' x::vs=>if k'=k then (match xQ l vs with
  |some r=>some (.i k x::r)
  |none=>none) else none
 |.a k n::l,vs=>match xH k (vs.take n) with
  |some xs=>bif Nat.beq xs.length n then (match xQ l (vs.drop n) with
   |some r=>some (.a k n (Vec.lit n xs)::r)
   |none=>none) else none
  |none=>none
 |_,_=>none
def Gh {T:Nat->Type}:List Sg->List (TV T)
 | []=>[]
 |.i k x::l=>.int k x::Gh l
 |.a k n v::l=>(List.range n).map (fun j=>TV.int k (v.nth j))++Gh l
def CG:List jo->List jo->Bool
 | [],[]=>true
 |.i k::l,.i k'::l'=>(if k=k' then true else false)&& CG l l'
 |.a k n::l,.a k' n'::l'=>(if k=k' then true else false)&& Nat.beq n n'&& CG l l'
 |_,_=>false
def Lp {T:Nat->Type} (ks:List jo):TV T->Option (List Sg)
 |.sg ss=>bif CG ks (ss.map Sg.sk) then some ss else none
 |.agg cs=>xQ ks cs
 |.int k x=>match ks with
  | [.i k']=>if k'=k then some [.i k x] else none
  |_=>none
 |_=>none
def Lr (t:TypeId) (ss:List Sg) (off:Nat):Option (TV R.T):=
 match oG ss off,cO E.P t,jl E.P t with
 |some (_,rest),some sz,some ag=>match oG rest sz with
  |some (mid,_)=>bif ag then (match R.ty t with
   |none=>some (.sg mid)
   |some _=>some (.agg (Gh mid))) else (match mid with
   | [.i k x]=>some (.int k x)
   |_=>none)
  |none=>none
 |_,_,_=>none
def RV (t:TypeId) (k:IntKind) (m:Nat) (n:Nat) (v:Vec n) (i:Int):Option (TV R.T):=
 match qy E.P t,cO E.P t,jl E.P t with
 |some (m',e),some sz,some true=>bif Nat.beq m' m&& Nat.beq sz m then (match R.ty t with
  |none=>some (.sg [.a k m (v.slc i m)])
  |some _=>some (.agg ((List.range m).map fun j=>.int k (v.nth (i.toNat+j))))) else none
 |_,_,_=>none
def pW (t:TypeId):Bool:=match cO E.P t,jl E.P t with
 |some sz,some ag=>Nat.beq sz 1&& !ag
 |_,_=>false
def Ls (k:IntKind):List V->List Int->Bool
 | [],[]=>true
 |.int k' x::l,y::m=>(if k'=k then (if x=y then true else false) else false)&& Ls k l m
 |_,_=>false
def Lu (g:Nat) (t:TypeId):Option ((k:IntKind)×(n:Nat)×Vec n):=
 match E.glob g,R.gl g,qy E.P t,cO E.P t,jl E.P t with
 |some cs,some ⟨k,n,v⟩,some (m,e),some sz,some ag=>bif ag&& Nat.beq m n&& Nat.beq sz n&& pW E e&& Ls k cs v.l then some ⟨k,n,v⟩ else none
 |_,_,_,_,_=>none
def eX (i:Int) (n:Nat):Bool:=decide (0<=i/\i<n)
def ni (n:Nat):Option Int->Option Int->Bool
 |none,none=>true
 |some i,none=>decide (0<=i/\(i<n\/i=0))
 |none,some j=>decide (0<=j/\j<=n)
 |some i,some j=>decide (0<=i/\i<=j/\j<=n/\(i<j\/i=0))
def dL:Option Int->Int
 |some i=>i
 |none=>0
def fV (n:Nat):Option Int->Int
 |some i=>i
 |none=>n
def xR (t:TypeId) (x:TV R.T) (lo hi:Option (TV R.T)) (st:MS R.T):Option (dV R):=
 match x,Cu R lo,Cu R hi,qy E.P t with
 |.ref o off,some lo,some hi,some (n,e)=>bif pW E e then (match mK st o with
  |some (.sg ss)=>match oG ss off with
   |some (_,.a k n' _::_)=>bif Nat.beq n' n then some (.c (ni n lo hi) (.sv o off k n lo hi)) else none
   |_=>none
  |some (.cells cs)=>match (cs.drop off) with
   |.int k _::_=>bif Nat.ble (off+n) cs.length then some (.c (ni n lo hi) (.sv o off k n lo hi)) else none
   |_=>none
  |_=>none) else none
 |.aK cs off,some none,some none,some (n,e)=>bif pW E e&& Nat.ble (off+n) cs.length then (match cs with
  |.int k _::_=>match xH k cs with
   |some l=>some (.t (.aj .any (.int k) ((l.drop off).take n)))
   |none=>none
  |_=>none) else none
 |_,_,_,_=>none
def X8 (d:Option Nat):Bool:=match d with
 |some d=>E.own F0 d
 |none=>false
def X9 (k:IntKind) (m:Nat) (l:List Int):List (TV R.T):=(List.range m).map fun j=>.int k (l.getD j 0)
def pX (g:List (Nat×Bool)) (d:Option Nat) (o:Op) (st:MS R.T):Option (dV R):=
 match o with
 |.alloc t=>match d,X7 E R t,vL (T:=R.T) E t with
  |some d,some ks,some (.agg cs)=>bif CF ks cs then some (.w (.ref d 0) (st.new d (.sg (ks.map Lm)))) else none
  |_,_,_=>none
 |.box t x=>bif E.uj t then none else match d,X7 E R t,bB g st x with
  |some d,some ks,some v=>match Lp ks v with
   |some ss=>some (.w (.ref d 0) (st.new d (.sg ss)))
   |none=>none
  |_,_,_=>none
 |.load t a=>match a with
  |.global gl=>match Lu E R gl t with
   |some ⟨k,n,v⟩=>some (.t (.sg [.a k n v]))
   |none=>none
  |a=>match bB g st a with
   |some (.ref o off)=>match mK st o with
    |some (.sg ss)=>match Lr E R t ss off with
     |some v=>some (.t v)
     |none=>none
    |_=>none
   |some (.sel o off k n i m)=>match mK st o with
    |some (.sg ss)=>match oG ss off with
     |some (_,.a k' n' v::_)=>if k'=k then (bif Nat.beq n' n then (bif Nat.beq m 1&& pW E t then some (.t (.int k (v.at' i))) else (match RV E R t k m n' v i with
      |some v=>some (.t v)
      |none=>none)) else none) else none
     |_=>none
    |_=>none
   |some (.qK k n v i)=>bif pW E t then some (.t (.int k (v.at' i))) else none
   |_=>none
 |.store t a x=>match bB g st a,bB g st x with
  |some (.ref o off),some v=>match look st.ob o,cO E.P t with
   |some (.sg ss),some sz=>match oG ss off with
    |some (pre,rest)=>match oG rest sz with
     |some (mid,post)=>match Lp (mid.map Sg.sk) v with
      |some mid'=>some (.w .undef (st.set o (.sg (pre++(mid'++post)))))
      |none=>none
     |none=>none
    |none=>none
   |_,_=>none
  |some (.sel o off k n i m),some (.int k' y)=>match look st.ob o with
   |some (.sg ss)=>match oG ss off with
    |some (pre,.a k2 n' v::post)=>if k2=k then (if k'=k then (bif Nat.beq n' n&& Nat.beq m 1&& pW E t then some (.w .undef (st.set o (.sg (pre++(.a k n' (v.set i y)::post))))) else none) else none) else none
    |_=>none
   |_=>none
  |_,_=>none
 |.indexAddr t x i=>match qy E.P t,bB g st i with
  |some (n,e),some (.int _ i)=>bif pW E e then (match x with
   |.global gl=>match Lu E R gl t with
    |some ⟨k,n,v⟩=>some (.c (eX i n) (.qK k n v i))
    |none=>none
   |x=>match bB g st x with
    |some (.ref o off)=>match mK st o with
     |some (.sg ss)=>match oG ss off with
      |some (_,.a k n' _::_)=>bif Nat.beq n' n then some (.c (eX i n) (.sel o off k n i 1)) else none
      |_=>none
     |_=>none
    |_=>none) else none
  |_,_=>none
 |.index t x i=>match qy E.P t,bB g st x,bB g st i with
  |some (n,e),some (.sg [.a k n' v]),some (.int _ i)=>bif pW E e&& Nat.beq n' n then some (.c (eX i n) (.int k (v.at' i))) else none
  |_,_,_=>none
 |.slice t x lo hi none=>match bB g st x with
  |some x=>match lo,hi with
   |none,none=>xR E R t x none none st
   |some lo,none=>match bB g st lo with
    |some lo=>xR E R t x (some lo) none st
    |none=>none
   |none,some hi=>match bB g st hi with
    |some hi=>xR E R t x none (some hi) st
    |none=>none
   |some lo,some hi=>match bB g st lo,bB g st hi with
    |some lo,some hi=>xR E R t x (some lo) (some hi) st
    |_,_=>none
  |none=>none
 |.slice t x lo (some hi) (some mx)=>match bB g st x,bB g st hi,bB g st mx,E.P.underlying t with
  |some (.aj _ u l),some (.int _ h),some (.int _ m),some (.slice e)=>match cO E.P e with
   |some sz=>bif Nat.beq sz (dx R u) then (match lo with
    |none=>bif X8 E d then some (.c (kF m l.length&& (kF h m.toNat&& (h==m))) (.aj .full u (pR l none (some h)))) else some (.c (kF m l.length&& kF h m.toNat) (.aj .any u (pR l none (some h))))
    |some lo=>match bB g st lo with
     |some (.int _ a)=>some (.c (kF m l.length&& (kF h m.toNat&& kF a h.toNat)) (.aj .any u (pR l (some a) (some h))))
     |_=>none) else none
   |none=>none
  |_,_,_,_=>none
 |.convert a b x=>match bB g st x with
  |some (.sv o off k n lo hi)=>match E.P.underlying a,E.P.underlying b with
   |some (.slice e),some .string=>match E.P.underlying e,k with
    |some (.int .u8),.u8=>match K8 st o off .u8 n lo hi with
     |some l=>some (.t (.str (List.map (fun n:Int=>UInt8.ofNat n.toNat) l)))
     |none=>none
    |_,_=>none
   |_,_=>none
  |_=>none
 |.sliceToArrayPointer t x=>match qy E.P t,bB g st x with
  |some (m,e),some (.sv o off k n lo hi)=>some (.c (decide (0<m/\m<=fV n hi-dL lo)) (.sel o off k n (dL lo) m))
  |some (m,_),some (.aj _ (.int k) l)=>some (.c (decide (0<m/\m<=l.length)) (.aK (X9 R k m l) 0))
  |_,_=>none
 |.call c=>match c.callee,ng g st c.args.toList with
  |.builtin .copy,some [.sv o off k n lo hi,y]=>match c.argTypes[0]? with
   |some t=>match kU E.P t with
    |some e=>bif pW E e then (match Gc R (.int k) y,look st.ob o with
     |some l,some (.sg ss)=>match oG ss off with
      |some (pre,.a k' n' v::post)=>if k'=k then (bif Nat.beq n' n then
        some (.w (.int .i64 (((l.take (fV n hi-dL lo).toNat).length:Nat):Int)) (st.set o (.sg (pre++(.a k n' (v.rO (dL lo) (l.take (fV n hi-dL lo).toNat))::post))))) else none) else none
      |_=>none
     |_,_=>none) else none
    |none=>none
   |none=>none
  |_,_=>none
 |_=>none
def qO (om:Bool) (F:Nat->List (FR R)) (g:List (Nat×Bool)) (d:Option Nat) (o:Op) (st:MS R.T):Option (dV R):=
 match o with
 |.move x=>bif qA E d then (match bB g st x with
  |some (.vw p t)=>match look st.ob p with
   |some (.arr t' l)=>match pJ R (u:=t) l with
    |some l=>some (.w (.aj .any t l) (st.del p))
    |none=>none
   |_=>none
  |some (.int k n)=>some (.t (.int k n))
  |_=>none) else (match bB g st x with
  |some v=>some (.t v)
  |none=>none)
 |.assign x=>match bB g st x with
  |some v=>some (.t v)
  |none=>none
 |.pick c a b=>match c with
  |.tmp j=>match bB g st c with
   |some (.bool t)=>match bB ((j,true)::g) st a,bB ((j,false)::g) st b with
    |some x,some y=>match CB t x y with
     |some v=>some (.t v)
     |none=>none
    |_,_=>none
   |some (.gQ t)=>match bB g st (bif t then a else b) with
    |some v=>some (.t v)
    |none=>none
   |_=>none
  |_=>none
 |.alloc t=>match d,vL E t with
  |some d,some z=>bif xI z.cells&& !(mJ d z.cells) then some (.w (.ref d 0) (st.new d (.cells z.cells))) else none
  |_,_=>none
 |.box t x=>bif E.uj t then (match bB g st x with
  |some v=>bif kD v&& xJ v then some (.t (.aK v.cells 0)) else none
  |none=>none) else match d,bB g st x with
  |some d,some v=>bif xI v.cells&& xJ v&& !(mJ d v.cells) then some (.w (.ref d 0) (st.new d (.cells v.cells))) else none
  |_,_=>none
 |.build t parts=>match Bh E t,vL (T:=R.T) E t,Ch g st parts.toList with
  |some pl,some z,some ps=>match Lc pl z.cells ps with
   |some cs=>some (.t (.agg cs))
   |none=>none
  |_,_,_=>none
 |.buildSlice t len parts=>match Ch g st parts.toList with
  |some ps=>RH E R t len ps
  |none=>none
 |.load t a=>match bB g st a with
  |some (.ref o off)=>match mK st o with
   |some (.cells cs)=>match kQ E t cs off with
    |some v=>some (.t v)
    |none=>none
   |_=>none
  |some (.aK cs off)=>match kQ E t cs off with
   |some v=>some (.t v)
   |none=>none
  |some (.jW o τ i off)=>match mK st o with
   |some b=>RP E R t τ i off b
   |none=>none
  |_=>none
 |.store t a x=>match bB g st a,bB g st x with
  |some (.ref o off),some v=>match look st.ob o,cO E.P t with
   |some (.cells cs),some sz=>bif Nat.beq v.cells.length sz&& Nat.ble (off+v.cells.length) cs.length&& xI v.cells&& xJ v then
     some (.w .undef (st.set o (.cells (Co cs off v.cells)))) else none
   |_,_=>none
  |_,_=>none
 |.nilCheck x=>match bB g st x with
  |some (.ref o off)=>some (.t (.ref o off))
  |some (.aK cs off)=>some (.t (.aK cs off))
  |some (.jW o τ i off)=>some (.t (.jW o τ i off))
  |some (.fn f a b)=>some (.t (.fn f a b))
  |_=>none
 |.binOp op t x y _=>match bB g st x,bB g st y with
  |some x,some y=>RD E R op t x y
  |_,_=>none
 |.unOp op _ x=>match bB g st x with
  |some x=>RF R op x
  |none=>none
 |.convert a b x=>match bB g st x with
  |some x=>Lg E R a b x
  |none=>none
 |.makeFunc (.func f) a b=>match ng g st a.toList,ng g st b.toList with
  |some a,some b=>some (.t (.fn f a b))
  |_,_=>none
 |.makeMap t none=>match d,qZ E.P t with
  |some d,some (k,e)=>match R.ty k,R.ty e with
   |some k,some e=>some (.w (.bP d) (st.new d (.map k e [])))
   |_,_=>some (.w (.bP d) (st.new d (.smap [] [])))
  |_,_=>none
 |.makeSlice t l c=>match bB g st l,bB g st c with
  |some n,some m=>RI E R om d t n m st
  |_,_=>none
 |.slice t x lo hi none=>match bB g st x with
  |some x=>match lo,hi with
   |none,none=>xM E R t x none none
   |some lo,none=>match bB g st lo with
    |some lo=>xM E R t x (some lo) none
    |none=>none
   |none,some hi=>match bB g st hi with
    |some hi=>xM E R t x none (some hi)
    |none=>none
   |some lo,some hi=>match bB g st lo,bB g st hi with
    |some lo,some hi=>xM E R t x (some lo) (some hi)
    |_,_=>none
  |none=>none
 |.fieldAddr t x f=>match bB g st x with
  |some x=>match XY E t f x with
   |some v=>some (.t v)
   |none=>none
  |none=>none
 |.field t x f=>match vg E.P t f,bB g st x with
  |some (o,u),some (.agg cs)=>match kQ E u cs o with
   |some v=>some (.t v)
   |none=>none
  |_,_=>none
 |.indexAddr t x i=>match bB g st x,bB g st i with
  |some (.vw o τ),some i=>RN E R t o τ i st
  |some x,some i=>RL E R t x i
  |_,_=>none
 |.index t x i=>match bB g st x,bB g st i with
  |some x,some i=>RU E R t x i
  |_,_=>none
 |.lookup t x i ok=>match bB g st x,bB g st i with
  |some x,some i=>Lh E R t x i ok st
  |_,_=>none
 |.mapUpdate t m k v=>match bB g st m,bB g st k,bB g st v with
  |some m,some k,some v=>Cv E R t m k v st
  |_,_,_=>none
 |.insert t m k v=>match bB g st m,bB g st k,bB g st v with
  |some m,some k,some v=>Cv E R t m k v st
  |_,_,_=>none
 |.extract x i=>match bB g st x with
  |some (.bE vs)=>match vs[i]? with
   |some v=>some (.t v)
   |none=>none
  |_=>none
 |.call c=>match c.callee with
  |.builtin b=>match ng g st c.args.toList with
   |some vs=>blt E R om d b c.argTypes vs st
   |none=>none
  |.value f=>match bB g st f,ng g st c.args.toList with
   |some (.fn f a b),some vs=>bif E.imp f then none else findF R (a++vs++b) (nQ st (a++vs++b)) (F f)
   |_,_=>none
  |_=>none
 |_=>none
def uG (om:Bool) (F:Nat->List (FR R)) (g:List (Nat×Bool)) (d:Option Nat) (o:Op) (st:MS R.T):Option (dV R):=
 match pX E R g d o st with
 |some r=>some r
 |none=>qO E R om F g d o st
inductive Gd where
 |no
 |run
 |skip
 |dyn (j:Nat) (w:Bool) (c:Bool) (g:List (Nat×Bool))
def CJ (b w:Bool):Bool:=bif w then b else !b
def RX (a b:Bool):Bool:=bif a then b else false
def nu {T:Nat->Type} (st:MS T):Nat->Nat->Bool->Option (Bool×List (Nat×Bool))
 |0,_,_=>none
 |n+1,j,w=>match look st.fr j with
  |some (.bool b)=>some (CJ b w,[(j,w)])
  |some (.opt i u (.bool b))=>match nu st n i u with
   |some (c,g)=>some (RX c (CJ b w),(j,w)::g)
   |none=>none
  |some (.opt i u (.gQ b))=>match nu st n i u with
   |some (c,g)=>some (RX c (CJ b w),(j,w)::g)
   |none=>none
  |_=>none
def Lv {T:Nat->Type} (all:List Oper) (st:MS T) (o:Oper):Gd:=
 match o.guard with
 |none=>.run
 |some (j,w)=>match all[j]? with
  |some p=>match p.dst with
   |some t=>match look st.fr t with
    |some (.gQ b)=>bif b==w then .run else .skip
    |some .undef=>.skip
    |_=>match nu st 12 t w with
     |some (c,g)=>.dyn t w c g
     |none=>.no
   |none=>.skip
  |none=>.skip
def MS.lq {T:Nat->Type} (st:MS T):List (Nat×Bool)->MS T
 | []=>st
 | (j,w)::g=>(st.lq g).learn j w
def MS.vN {T:Nat->Type} (st:MS T):List (Nat×Bool)->MS T
 | [(j,w)]=>st.learn j (!w)
 |_=>st
def iQ {α:Type} (c:Bool) (o:Option α) (d:α):Option α:=bif c then o else some d
def RY (st:MS R.T) (t:TypeId) (m x:Operand):Option (List (TV R.T)×List (TV R.T)×TV R.T×TV R.T):=
 match bB [] st m with
 |some (.bP o)=>match mK st o with
  |some (.smap ks vs)=>match bB [] st x,qZ E.P t with
   |some x,some (kt,et)=>match vL (T:=R.T) E et with
    |some z=>bif Lj E kt x then some (ks,vs,x,z) else none
    |none=>none
   |_,_=>none
  |_=>none
 |_=>none
def Lx {T:Nat->Type} {β:Type} (x:TV T):List (TV T)->List (TV T)->TV T->(TV T->Bool->Option β)->Option β
 | [],[],z,k=>k z false
 |a::ks,v::vs,z,k=>match Li x a with
  |some b=>bif b then k v true else Lx x ks vs z k
  |none=>none
 |_,_,_,_=>none
section
variable (om:Bool) {β:Type} (F:Nat->List (FR R))
def RZ (t:TypeId) (a x:Operand) (st:MS R.T):Option ((τ:Ty)×Nat×Int×Nat×List (Den R.T τ)×TV R.T):=
 match bB [] st a,bB [] st x with
 |some (.jW o τ i off),some v=>match look st.ob o,cO E.P t with
  |some (.arr τ' l),some sz=>match pJ R (u:=τ) l with
   |some l=>bif Nat.beq v.cells.length sz&& Nat.ble (off+v.cells.length) (dx R τ)&& xI v.cells&& xJ v then some ⟨τ,o,i,off,l,v⟩ else none
   |none=>none
  |_,_=>none
 |_,_=>none
def aW {α:Type} (l:List α) (i:Int) (y:α):List α:=l.set i.toNat y
def runM (o:Oper) (st:MS R.T) (k:MS R.T->Option β):Option β:=
 match o.op with
 |.pick c a b=>match bB [] st c with
  |some (.gQ t)=>match bB [] st (bif t then a else b) with
   |some v=>k (st.fA o.dst v)
   |none=>none
  |some (.bool t)=>match c with
   |.tmp j=>match bB [(j,true)] st a,bB [(j,false)] st b with
    |some x,some y=>match CB t x y with
     |some v=>k (st.fA o.dst v)
     |none=>bif t then k ((st.learn j true).fA o.dst x) else k ((st.learn j false).fA o.dst y)
    |_,_=>none
   |_=>none
  |_=>none
 |.store t a x=>match RZ E R t a x st with
  |some ⟨τ,p,i,off,l,v⟩=>(aB l i).bind fun y=>match RQ R τ (Co (fG R .any τ y).cells off v.cells) with
   |some y'=>k ((st.set p (.arr τ (aW l i y'))).fA o.dst .undef)
   |none=>none
  |none=>match uG E R om F [] o.dst (.store t a x) st with
   |some (.w v st')=>k (st'.fA o.dst v)
   |_=>none
 |.lookup t m x ok=>match RY E R st t m x with
  |some (ks,vs,x,z)=>Lx x ks vs z fun v b=>k (st.fA o.dst (bif ok then .bE [v,.gQ b] else v))
  |none=>match uG E R om F [] o.dst (.lookup t m x ok) st with
   |some (.t v)=>k (st.fA o.dst v)
   |_=>none
 |op=>match uG E R om F [] o.dst op st with
  |some (.t v)=>k (st.fA o.dst v)
  |some (.c b v)=>bif b then k (st.fA o.dst v) else none
  |some (.w v st')=>k (st'.fA o.dst v)
  |some (.wc b v st')=>bif b then k (st'.fA o.dst v) else none
  |some (.p _ _ x f)=>x.bind fun a=>k (st.fA o.dst (f a))
  |none=>none
def Gi (b c:Bool):Bool:=bif b then c else true
def R3 (o:Oper) (j:Nat) (w c:Bool) (g:List (Nat×Bool)) (st:MS R.T) (k:MS R.T->Option β):Option β:=
 match o.dst with
 |some d=>match (bif aR d (g.map (·.1)) then none else uG E R om F g o.dst o.op st) with
  |some (.t v)=>k (st.put d (.opt j w v))
  |some (.c b v)=>bif Gi c b then k (st.put d (.opt j w v)) else none
  |some (.p _ z x f)=>(iQ c x z).bind fun a=>k (st.put d (.opt j w (f a)))
  |_=>bif c then runM E R om F o (st.lq g) k else k ((st.vN g).fA o.dst .undef)
 |none=>bif c then runM E R om F o (st.lq g) k else k ((st.vN g).fA o.dst .undef)
def kG {T:Nat->Type} (st:MS T) (o:Oper):Bool:=match o.op with
 |.call c=>match c.callee with
  |.value f=>match bB [] st f with
   |some (.fn g _ _)=>match o.dst with
    |some d=>E.own g d
    |none=>false
   |_=>true
  |_=>false
 |_=>false
def ahZ:List Sk->Bool
 |.dX::k::l=>iO (k::l)
 |_=>false
def CK (args dB:List (TV R.T)):List (FR R)->Option ((τ:Ty)×Option (List (Den R.T τ)))
 | []=>none
 | ⟨as,[.d (.slice τ)],G,_,true⟩::l=>match fU R as dB with
   |some p=>bif (iO as||ahZ as)&& Nat.ble (oH as) 18&& xK args then some ⟨τ,G p⟩ else none
   |none=>CK args dB l
 |_::l=>CK args dB l
def uH (o:Oper) (st:MS R.T) (k:MS R.T->Option β):Option β:=match o.op,o.dst with
 |.call c,some d=>match c.callee with
  |.value f=>match bB [] st f,ng [] st c.args.toList with
   |some (.fn g a b),some vs=>match CK R (a++vs++b) (nQ st (a++vs++b)) (F g) with
    |some ⟨τ,x⟩=>x.bind fun l=>k ((st.wk d).put d (.aj (.own d) τ l))
    |none=>none
   |_,_=>none
  |_=>none
 |_,_=>none
def CO (o:Nat) (l:List Nat):List Nat:=bif aR o l then l else l++[o]
mutual
def ah0 {T:Nat->Type}:TV T->List Nat->List Nat
 |.ref o _,l=>CO o l
 |.bP o,l=>CO o l
 |.vw o _,l=>CO o l
 |.jW o _ _ _,l=>CO o l
 |.sv o _ _ _ _ _,l=>CO o l
 |.sel o _ _ _ _ _,l=>CO o l
 |.agg cs,l=>rQ cs l
 |.bE cs,l=>rQ cs l
 |.aK cs _,l=>rQ cs l
 |.fn _ a b,l=>rQ b (rQ a l)
 |_,l=>l
def rQ {T:Nat->Type}:List (TV T)->List Nat->List Nat
 | [],l=>l
 |v::vs,l=>rQ vs (ah0 v l)
end
mutual
def vO {T:Nat->Type} (m:List (Nat×Nat)):TV T->TV T
 |.ref o off=>match look m o with
  |some p=>.ref p off
  |none=>.gone
 |.bP o=>match look m o with
  |some p=>.bP p
  |none=>.gone
 |.vw o t=>match look m o with
  |some p=>.vw p t
  |none=>.gone
 |.jW o t i off=>match look m o with
  |some p=>.jW p t i off
  |none=>.gone
 |.sv o off k n lo hi=>match look m o with
  |some p=>.sv p off k n lo hi
  |none=>.gone
 |.sel o off k n i j=>match look m o with
  |some p=>.sel p off k n i j
  |none=>.gone
 |.aj c t l=>match c with
  |.own _=>.aj .any t l
  |c=>.aj c t l
 |.agg cs=>.agg (xS m cs)
 |.bE cs=>.bE (xS m cs)
 |.aK cs off=>.aK (xS m cs) off
 |.fn f a b=>.fn f (xS m a) (xS m b)
 |v=>v
def xS {T:Nat->Type} (m:List (Nat×Nat)):List (TV T)->List (TV T)
 | []=>[]
 |v::vs=>vO m v::xS m vs
end
def kH:List Nat->Nat->List (Nat×Nat)
 | [],_=>[]
 |o::l,n=>(o,n)::kH l (n+1)
def zH:List Nat->Bool
 | []=>true
 |o::l=> !(aR o l)&& zH l
def CP {T:Nat->Type} (st:MS T):List (Nat×Nat)->List (Nat×Ob T)
 | []=>[]
 | (o,p)::m=>match look st.ob o with
   |some x=>(p,x)::CP st m
   |none=>CP st m
def rR {T:Nat->Type}:List (Nat×Nat)->List (Nat×Ob T)->List (Nat×Ob T)
 | [],_=>[]
 | (o,p)::m,l=>match look l p with
   |some y=>(o,y)::rR m l
   |none=>rR m l
def CQ:List (Nat×Nat)->List (Nat×gU)->Bool
 | [],[]=>true
 | (_,p)::m,(q,_)::l=>Nat.beq p q&& CQ m l
 |_,_=>false
def xU:List Sk->Bool
 | []=>true
 |.d (.int _)::l=>xU l
 |.d .bool::l=>xU l
 |.d .str::l=>xU l
 |_=>false
def R4:List Sk->Bool
 | []=>true
 |.d _::l=>R4 l
 |_=>false
def okO:gU->Bool
 |.cells l=>R4 l
 |_=>true
def tu:List (Nat×gU)->Bool
 | []=>true
 | (_,k)::l=>okO k&& tu l
def LA (m:List (Nat×Nat)) (A:List (TV R.T)) (B:List (Nat×Ob R.T)):List (FM R)->Option ((r:FM R)×Option (aA R.T r.res×gy R.T r.obs))
 | []=>none
 |r::l=>match fU R r.args A,lK R B r.obs with
  |some p,some q=>bif CQ m r.obs&& (xU r.res&& tu r.obs) then some ⟨r,r.F p q⟩ else none
  |_,_=>LA m A B l
def Ya {T:Nat->Type}:List (TV T)->TV T
 | [v]=>v
 |vs=>.bE vs
def rU {T:Nat->Type} (st:MS T) (o:Oper):Bool:=match o.op with
 |.call c=>match c.callee with
  |.value f=>match bB [] st f with
   |some (.fn g _ _)=>E.imp g
   |_=>false
  |_=>false
 |_=>false
def tC (o:Oper):Bool:=match o.op with
 |.call c=>match c.callee with
  |.value (.func g)=> !(E.imp g)
  |.value _=>false
  |_=>true
 |_=>true
def zI (M:Nat->List (FM R)) (o:Oper) (st:MS R.T) (k:MS R.T->Option β):Option β:=match o.op with
 |.call c=>match c.callee with
  |.value f=>match bB [] st f,ng [] st c.args.toList with
   |some (.fn g a b),some vs=>bif zH (rQ (a++vs++b) []) then (match LA R (kH (rQ (a++vs++b) []) F0) (xS (kH (rQ (a++vs++b) []) F0) (a++vs++b)) (CP st (kH (rQ (a++vs++b) []) F0)) (M g) with
    |some ⟨r,x⟩=>x.bind fun y=>k (MS.fA ⟨st.fr,rR (kH (rQ (a++vs++b) []) F0) (jg R r.obs y.2)++st.ob⟩ o.dst (Ya (gJ R .any r.res y.1)))
    |none=>none) else none
   |_,_=>none
  |_=>none
 |_=>none
variable (M:Nat->List (FM R))
def tH (all:List Oper):List Oper->MS R.T->(MS R.T->Option β)->Option β
 | [],st,k=>k st
 |o::os,st,k=>match Lv all st o with
  |.run=>bif kG E st o then uH R F o st (fun st=>tH all os st k) else (bif rU E st o then zI R M o st (fun st=>tH all os st k) else runM E R om F o st (fun st=>tH all os st k))
  |.skip=>tH all os (st.fA o.dst .undef) k
  |.dyn j w c g=>bif kG E st o||kG E (st.lq g) o then none else (bif rU E (st.lq g) o then (bif c then zI R M o (st.lq g) (fun st=>tH all os st k) else tH all os ((st.vN g).fA o.dst .undef) k) else R3 E R om F o j w c g st (fun st=>tH all os st k))
  |.no=>none
def Yb {T:Nat->Type}:TV T->List Key
 |.ref o _=>[.obj (1,o)]
 |.bP o=>[.obj (1,o)]
 |.jW o _ _ _=>[.obj (1,o)]
 |.sv o _ _ _ _ _=>[.obj (1,o)]
 |.sel o _ _ _ _ _=>[.obj (1,o)]
 |_=>[]
def vP {T:Nat->Type} (st:MS T) (x:Operand):List Key:=match bB [] st x with
 |some v=>Yb v
 |none=>[]
def LB (o:Oper):List Key:=match o.dst with
 |some t=>[.obj (1,t)]
 |none=>[]
def LC {T:Nat->Type}:List (TV T)->Bool
 | []=>false
 |.sv _ _ _ _ _ _::_=>true
 |_::l=>LC l
def Gj (om:Bool) {T:Nat->Type} (st:MS T) (o:Oper):bV:=
 match o.op with
 |.move _|.assign _|.pick .. |.build .. |.buildSlice .. |.nilCheck _|.binOp .. |.unOp .. |.makeInterface .. |.makeFunc .. |.fieldAddr .. |.field .. |.indexAddr .. |.index .. |.extract ..
 |.sliceToArrayPointer .. =>mE []
 |.convert _ _ x|.slice _ x _ _ _|.load _ x|.lookup _ x _ _=>mE (vP st x)
 |.alloc _|.box .. |.makeMap .. =>j6 (LB o)
 |.makeSlice .. =>j6 (.top::LB o)
 |.store _ a _=>j6 (vP st a)
 |.mapUpdate _ m _ _|.insert _ m _ _=>j6 (vP st m)
 |.call c=>match c.callee with
  |.builtin b=>match b with
   |.len|.cap|.min|.max=>mE (c.args.toList.flatMap fun x=>vP st x)
   |.append=>bif om then fQ else ⟨false,false,c.args.toList.flatMap fun x=>vP st x,[.top]⟩
   |_=>fQ
  |.value f=>match bB [] st f with
   |some (.fn g a b)=>if E.imp g then fQ else (match ng [] st c.args.toList with
    |some vs=>if xK (a++vs++b) then mE [] else ⟨true,false,[],[]⟩
    |none=>fQ)
   |_=>fQ
  |_=>fQ
 |_=>fQ
def oI (om:Bool) {T:Nat->Type} (all:List Oper) (st:MS T) (o:Oper) (wanted:Bool):bV:=
 if wanted then let f:=Gj E om st o;⟨f.sO,f.oq,ru all o++f.t,lD o++f.w⟩
 else ⟨false,false,ru all o,lD o⟩
def CS {T:Nat->Type}:TV T->Bool
 |.gone=>false
 |.opt _ _ _=>false
 |.vw _ _=>false
 |_=>true
def vQ {T:Nat->Type} (st:MS T) (o:Oper):Bool:= !(kG E st o)&&
 match o.op with
 |.call c=>match c.callee with
  |.value f=>match bB [] st f,ng [] st c.args.toList with
   |some (.fn _ a b),some vs=>xK (a++vs++b)||LC (a++vs++b)
   |_,_=>false
  |.builtin _=>match ng [] st c.args.toList with
   |some vs=>vs.all CS
   |none=>false
  |_=>true
 |.move _=> !(qA E o.dst)
 |_=>true
def Key.nm:Key->Key
 |.obj l=>.obj (1,l.2)
 |k=>k
def bV.nm (f:bV):bV:=⟨f.sO,f.oq,f.t.map Key.nm,f.w.map Key.nm⟩
def Gl (all:List Oper) (o:Oper):bV:=⟨false,false,ru all o++[],lD o++[.top]⟩
def ny (ms:List Nat) (all:List Oper):List Oper->MS R.T->List bV->(MS R.T->Option β)->Option β
 | [],st,fs,k=>bif vD ms (fs.map bV.nm) then k st else none
 |o::os,st,fs,k=>match Lv all st o with
  |.run=>bif rU E st o then (bif kG E st o then none else zI R M o st (fun st'=>ny ms all os st' (fs++[oI E om all st o true]) k)) else bif kG E st o then uH R F o st (fun st'=>ny ms all os st' (fs++[Gl all o]) k) else bif !(vQ E st o) then none else runM E R om F o st (fun st'=>ny ms all os st' (fs++[oI E om all st o true]) k)
  |.skip=>ny ms all os (st.fA o.dst .undef) (fs++[oI E om all st o false]) k
  |.dyn _ _ c g=>bif c then (bif rU E (st.lq g) o then (bif kG E (st.lq g) o then none else zI R M o (st.lq g) (fun st'=>ny ms all os st' (fs++[oI E om all (st.lq g) o true]) k)) else bif kG E (st.lq g) o then uH R F o (st.lq g) (fun st'=>ny ms all os st' (fs++[Gl all o]) k) else bif !(vQ E (st.lq g) o) then none else runM E R om F o (st.lq g) (fun st'=>ny ms all os st' (fs++[oI E om all (st.lq g) o true]) k))
   else ny ms all os ((st.vN g).fA o.dst .undef) (fs++[oI E om all st o false]) k
  |.no=>none
end
def dA {R:iH} (key:Nat) (W:List Nat) (b:MS R.T) (sh:Shape) (outs:List (Ex×Shape)) (body:{β:Type}->MS R.T->(Ex->MS R.T->Option β)->Option β):Nat->pI R.T sh->Option (Out R.T outs)
 |0,_=>none
 |m+1,p=>body (b.over (unpack R sh p)) fun e st=>match e with
  |.normal=>match lg R W st sh with
   |some p=>dA key W b sh outs body m p
   |none=>none
  |e=>rP R W e st outs
def MS.obs {T:Nat->Type} (st:MS T):MS T:=⟨[],st.ob⟩
def Gm {R:iH} {β:Type} (body:MS R.T->(Ex->MS R.T->Option β)->Option β):Nat->MS R.T->(Ex->MS R.T->Option β)->Option β
 |0,_,_=>none
 |m+1,st,k=>body st fun e st'=>match e with
  |.normal=>Gm body m st' k
  |e=>k e st'
def Gn {R:iH} {X:Type} (key:Nat) (W:List Nat) (b:MS R.T) (sh:Shape) (outs:List (Ex×Shape)) (body:{β:Type}->X->MS R.T->(Ex->MS R.T->Option β)->Option β):List X->pI R.T sh->Option (Out R.T outs)
 | [],p=>rP R W .normal (unpack R sh p).obs outs
 |x::xs,p=>body x (b.over (unpack R sh p)) fun e st=>match e with
  |.normal=>match lg R W st.obs sh with
   |some p=>Gn key W b sh outs body xs p
   |none=>none
  |e=>rP R W e st.obs outs
def Gp {R:iH} (a b:List (TV R.T)):List (FI R)->Option ((el:List Sk)×Option (List (aA R.T el)))
 | []=>none
 |i::l=>match fU R i.a a,fU R i.b b with
  |some pa,some pb=>bif iO i.a&& iO i.b&& iO i.el&& Nat.ble (oH i.a) 18&& Nat.ble (oH i.b) 18 then some ⟨i.el,i.F pa pb⟩ else none
  |_,_=>Gp a b l
def zJ (O:List Nat):List (Nat×gU)->Bool
 | []=>true
 | (o,_)::l=> !(aR o O)&& zJ O l
def CU {T:Nat->Type} (st:MS T):List Nat->List (TV T)->Option (MS T)
 | [],[]=>some st
 |i::l,v::vs=>CU (st.put i v) l vs
 |_,_=>none
def jL:List Oper->List Nat
 | []=>[]
 |o::l=>match o.dst with
  |some d=>d::jL l
  |none=>jL l
def aJ:Code->List Nat
 |.region _ ops _=>jL ops.toList
 |.seq a b=>aJ a++aJ b
 |.cond _ a b=>aJ a++aJ b
 |.block _ c=>aJ c
 |.loop c=>aJ c
 |.scope c=>aJ c
 |.rangeFunc _ ps a b=>ps.toList++aJ a++aJ b
 |_=>[]
def mO:Code->Nat
 |.region i _ _=>i
 |.seq a _=>mO a
 |.loop a=>mO a
 |.scope a=>mO a
 |.block _ a=>mO a
 |.rangeFunc _ _ _ b=>mO b
 |_=>0
def iI:Code->Bool
 |.region _ ops _=>ops.toList.all (tC E)
 |.seq a b=>iI a&& iI b
 |.cond _ a b=>iI a&& iI b
 |.block _ c=>iI c
 |.loop c=>iI c
 |.scope c=>iI c
 |.rangeFunc _ _ _ _=>false
 |_=>true
variable (n:Nat) (om:Bool) (F:Nat->List (FR R)) (I:IR R) (A:bR)
def bA:Code->{β:Type}->MS R.T->(Ex->MS R.T->Option β)->Option β
 |.skip,_,st,k=>k .normal st
 |.region _ ops dr,_,st,k=>bif dr then (bif ou ops.toList then ny E R om F I.im (o9 ops.toList) ops.toList ops.toList st [] (fun st=>k .normal st) else none) else tH E R om F I.im ops.toList ops.toList st (fun st=>k .normal st)
 |.seq a b,_,st,k=>
  match look A.joins (mO b) with
  |none=>bA a st fun e st=>match e with
   |.normal=>bA b st k
   |e=>k e st
  |some q=>(bA (β:=Out R.T q.outs) a ((base (aJ a) q.K q.O .ro st).over st) fun e st=>rP R (aJ a) e st q.outs).bind (uE R (base (aJ a) q.K q.O (fun b=>b) st) (fun e st=>match e with
   |.normal=>bA b st k
   |e=>k e st) q.outs)
 |.cond c a b,_,st,k=>match bB [] st c with
  |some (.gQ t)=>bif t then bA a st k else bA b st k
  |some (.bool t)=>bif t then bA a (st.Cc c true) k else bA b (st.Cc c false) k
  |_=>none
 |.block id c,_,st,k=>bA c st fun e st=>match e with
  |.exit i=>bif Nat.beq i id then k .normal st else k (.exit i) st
  |e=>k e st
 |.loop c,_,st,k=>match look A.loops (mO c) with
  |some q=>match lg R (aJ c) st q.sh with
   |some p=>(dA (mO c) (aJ c) (base (aJ c) q.K q.O .ro st) q.sh q.outs (fun st k=>bA c st k) n p).bind (uE R (base (aJ c) q.K q.O (fun b=>b) st) k q.outs)
   |none=>none
  |none=>Gm (fun st k=>bA c st k) 130 st k
 |.rangeFunc f ps a c,_,st,k=>match look A.loops (mO c) with
  |some q=>match bB [] st f with
   |some (.fn g u v)=>bif pO u&& pO v&& zJ q.O q.sh.ob&& iI E a&& iI E c then (match Gp u v (I.it g) with
    |some ⟨el,xs⟩=>match lg R (ps.toList++aJ a++aJ c) st.obs q.sh with
     |some p=>(xs.bind fun xs=>Gn (mO c) (ps.toList++aJ a++aJ c) (base (ps.toList++aJ a++aJ c) q.K q.O .ro st) q.sh q.outs (fun x st k=>match CU st ps.toList (gJ R .sh el x) with
       |some st=>bA a st fun e st=>match e with
        |.normal=>bA c st k
        |_=>none
       |none=>none) xs p).bind (uE R (base (ps.toList++aJ a++aJ c) q.K q.O (fun b=>b) st) k q.outs)
     |none=>none
    |none=>none) else none
   |_=>none
  |none=>none
 |.scope c,_,st,k=>bA c st k
 |.label _,_,st,k=>k .normal st
 |.exit i,_,st,k=>k (.exit i) st
 |.ret,_,st,k=>k .ret st
 |_,_,_,_=>none
def rV (st:MS R.T):List ResultVar->Option (List (TV R.T))
 | []=>some []
 |.tmp t::l=>match bB [] st (.tmp t) with
  |some v=>match rV st l with
   |some vs=>some (v::vs)
   |none=>none
  |none=>none
 |.cell a t::l=>match bB [] st (.tmp a) with
  |some (.ref o off)=>match mK st o with
   |some (.cells cs)=>match kQ E t cs off with
    |some v=>match rV st l with
     |some vs=>some (v::vs)
     |none=>none
    |none=>none
   |some (.sg ss)=>match Lr E R t ss off with
    |some v=>match rV st l with
     |some vs=>some (v::vs)
     |none=>none
    |none=>none
   |_=>none
  |_=>none
def vR {T:Nat->Type}:Nat->List (TV T)->List (Nat×TV T)
 |_,[]=>[]
 |i,v::l=>(i,v)::vR (i+1) l
def dH (fn:Func) (args res:List Sk) (p:aA R.T args):Option (aA R.T res):=
 match fn.body with
 |some c=>bA E R n om F I A c ⟨vR 0 (gJ R .sh args p),[]⟩ fun e st=>match e with
  |.exit _=>none
  |_=>match rV E R st fn.results.toList with
   |some vs=>bif iO res&& Nat.ble (oH res) 16 then fU R res (nQ st vs) else none
   |none=>none
 |none=>none
def R5 {T:Nat->Type}:TV T->Bool
 |.aj (.own _) _ _=>true
 |.aj .full _ _=>true
 |.dX=>true
 |_=>false
def vS (fn:Func) (args:List Sk) (obs:List (Nat×gU)) (res:List Sk) (p:aA R.T args) (q:gy R.T obs):Option (aA R.T res×gy R.T obs):=
 match fn.body with
 |some c=>bA E R n om F I A c ⟨vR 0 (gJ R .any args p),jg R obs q⟩ fun e st=>match e with
  |.exit _=>none
  |_=>match rV E R st fn.results.toList with
   |some vs=>match fU R res vs with
    |some y=>match lK R st.ob obs with
     |some q'=>some (y,q')
     |none=>none
    |none=>none
   |none=>none
 |none=>none
def zK (fn:Func) (args:List Sk) (τ:Ty) (p:aA R.T args):Option (List (Den R.T τ)):=
 match fn.body with
 |some c=>bA E R n om F I A c ⟨vR 0 (gJ R .sh args p),[]⟩ fun e st=>match e with
  |.exit _=>none
  |_=>match rV E R st fn.results.toList with
   |some [v]=>bif R5 v then zy R τ v else none
   |_=>none
 |none=>none
end
end Aq
end
section
namespace Aq
open Go
structure Cx where
 om:Bool
 dp:Nat
 lo:Nat
 fl:Nat->Option Loc
 lt:∀o L,fl o=some L->F0<=o/\L.1<dp
 inj:∀o p L,fl o=some L->fl p=some L->o=p
def Cx.lc (c:Cx) (o:Nat):Loc:=match c.fl o with
 |some L=>L
 |none=>(c.dp,o)
theorem Cx.ah1 (c:Cx) {o:Nat} (h:o<F0):c.lc o=(c.dp,o):=by
 unfold Cx.lc
 split
 ·rename_i L hL
  have:=(c.lt _ _ hL).1
  omega
 ·rfl
theorem Cx.R6 (c:Cx) {o p:Nat} (h:c.lc o=c.lc p):o=p:=by
 unfold Cx.lc at h
 split at h<;>split at h
 ·rename_i L h1 _ M h2;subst h;exact c.inj _ _ _ h1 h2
 ·rename_i L h1 _ h2;have:=(c.lt _ _ h1).2;rw[h] at this;exact absurd this (Nat.lt_irrefl _)
 ·rename_i h1 _ L h2;have:=(c.lt _ _ h2).2;rw[<-h] at this;exact absurd this (Nat.lt_irrefl _)
 ·exact congrArg Prod.snd h
theorem Cx.Yc (c:Cx) {o p:Nat} (h:o≠p):c.lc o≠c.lc p:=fun e=>h (c.R6 e)
theorem Cx.CV (c:Cx) (o:Nat):(c.lc o).1<=c.dp:=by
 unfold Cx.lc
 split
 ·rename_i L hL;exact Nat.le_of_lt (c.lt _ _ hL).2
 ·exact RS _
def Cx.out (c:Cx) (L:Loc):Prop:=∀o,L≠c.lc o
structure aN where
 ob:Nat->Option Nat
 tk:Nat->Option Nat
 ln:Nat->Nat
 om:Cx
section
variable (R:iH)
def lZ:Ty->Bool
 |.st _=>false
 |_=>true
structure nR:Prop where
 Gq:∀n p,R.of n (R.to n p)=p
 enc:∀n x,R.enc n x= .agg (encs R (R.lf n) (R.of n x))
 leaf:∀n,(R.lf n).all lZ=true
 pc:∀n x,aF (R.enc n x)=true
def CX (ρ:aN) (top:Nat->Nat) (sz len:Nat):Cp->Cap->Prop
 |.any,_=>True
 |.sh,c=>c= .sh
 |.nil,c=>c= .nil
 |.full,c=>c= .full
 |.own t,c=>c= .nil\/c= .full\/∃s,c= .own sz s/\ρ.tk t=some s/\top s=len
mutual
def Rl (ρ:aN) (top:Nat->Nat):TV R.T->V->Prop
 |.int k n,v=>v= .int k n
 |.bool b,v=>v= .bool b
 |.gQ b,v=>v= .bool b
 |.str s,v=>v= .str s
 |.fJ,v=>v= .fJ
 |.fF,v=>v= .fF
 |.eZ,v=>v= .eZ
 |.gH,v=>v= .gH
 |.dX,v=>v= .aj .nil []
 |.agg cs,v=> ∃l,v= .agg l/\au ρ top cs l
 |.bE cs,v=> ∃l,v= .bE l/\au ρ top cs l
 |.aj c t l,v=> ∃c',v= .aj c' (l.map (aG R t))/\CX ρ top (dx R t) l.length c c'
 |.ref o off,v=> ∃s,ρ.ob o=some s/\v= .ref (ρ.om.lc o) s off
 |.aK cs off,v=> ∃l,v= .aK l off/\au ρ top cs l
 |.bP o,v=> ∃s,ρ.ob o=some s/\v= .bP (ρ.om.lc o) s
 |.dG k e m,v=>v= .dG (m.map fun p=>aG R k p.1) (m.map fun p=>aG R e p.2)
 |.fn f a b,v=> ∃a' b',v= .fn (.func f) a' b'/\au ρ top a a'/\au ρ top b b'
 |.opt _ _ _,_=>False
 |.vw o t,v=>(∃s,ρ.ob o=some s/\v= .vw (ρ.om.lc o) s 0 (ρ.ln o) (ρ.ln o) (dx R t) (iA t))\/(ρ.ln o=0/\(v= .aj .nil []\/v= .aj .full []))
 |.jW o t i off,v=> ∃s,ρ.ob o=some s/\0<=i/\v= .ref (ρ.om.lc o) s (i.toNat*dx R t+off)
 |.sg ss,v=>v= .agg (bN ss)
 |.sv o off k n lo hi,v=> ∃s,ρ.ob o=some s/\ni n lo hi=true/\v= .vw (ρ.om.lc o) s (off+(dL lo).toNat) ((fV n hi).toNat-(dL lo).toNat) (n-(dL lo).toNat) 1 false
 |.sel o off k n i m,v=> ∃s,ρ.ob o=some s/\0<=i/\i.toNat+m<=n/\v= .ref (ρ.om.lc o) s (off+i.toNat)
 |.qK k n x i,v=>0<=i/\i<n/\v= .aK (x.l.map (V.int k)) i.toNat
 |.undef,v=>v=aC
 |.gone,_=>True
def au (ρ:aN) (top:Nat->Nat):List (TV R.T)->List V->Prop
 | [],l=>l=[]
 |t::ts,l=> ∃v vs,l=v::vs/\Rl ρ top t v/\au ρ top ts vs
end
variable {R}
variable {ρ ρ':aN} {top top':Nat->Nat}
theorem au.fB {vs:List V} (h:au R ρ top [] vs):vs=[]:=by unfold au at h;exact h
theorem au.dN {t:TV R.T} {ts:List (TV R.T)} {vs:List V} (h:au R ρ top (t::ts) vs):∃v l,vs=v::l/\Rl R ρ top t v/\au R ρ top ts l:=by unfold au at h;exact h
theorem Rl.fZ {k:IntKind} {n:Int} {v:V} (h:Rl R ρ top (.int k n) v):v= .int k n:=by unfold Rl at h;exact h
theorem Rl.pY {b:Bool} {v:V} (h:Rl R ρ top (.bool b) v):v= .bool b:=by unfold Rl at h;exact h
theorem Rl.tJ {b:Bool} {v:V} (h:Rl R ρ top (.gQ b) v):v= .bool b:=by unfold Rl at h;exact h
theorem Rl.l5 {b:List UInt8} {v:V} (h:Rl R ρ top (.str b) v):v= .str b:=by unfold Rl at h;exact h
theorem Rl.p8 {v:V} (h:Rl R ρ top .dX v):v= .aj .nil []:=by unfold Rl at h;exact h
theorem Rl.kI {cs:List (TV R.T)} {v:V} (h:Rl R ρ top (.agg cs) v):∃l,v= .agg l/\au R ρ top cs l:=by unfold Rl at h;exact h
theorem Rl.LD {cs:List (TV R.T)} {v:V} (h:Rl R ρ top (.bE cs) v):∃l,v= .bE l/\au R ρ top cs l:=by unfold Rl at h;exact h
theorem Rl.kJ {c:Cp} {t:Ty} {l:List (Den R.T t)} {v:V} (h:Rl R ρ top (.aj c t l) v):∃c',v= .aj c' (l.map (aG R t))/\CX ρ top (dx R t) l.length c c':=by unfold Rl at h;exact h
theorem Rl.oJ {o off:Nat} {v:V} (h:Rl R ρ top (.ref o off) v):∃s,ρ.ob o=some s/\v= .ref (ρ.om.lc o) s off:=by unfold Rl at h;exact h
theorem Rl.tK {cs:List (TV R.T)} {off:Nat} {v:V} (h:Rl R ρ top (.aK cs off) v):∃l,v= .aK l off/\au R ρ top cs l:=by unfold Rl at h;exact h
theorem Rl.vT {o:Nat} {v:V} (h:Rl R ρ top (.bP o) v):∃s,ρ.ob o=some s/\v= .bP (ρ.om.lc o) s:=by unfold Rl at h;exact h
theorem Rl.CY {k e:Ty} {m:List (Den R.T k×Den R.T e)} {v:V} (h:Rl R ρ top (.dG k e m) v):v= .dG (m.map fun p=>aG R k p.1) (m.map fun p=>aG R e p.2):=by unfold Rl at h;exact h
theorem Rl.mP {f:Nat} {a b:List (TV R.T)} {v:V} (h:Rl R ρ top (.fn f a b) v):∃a' b',v= .fn (.func f) a' b'/\au R ρ top a a'/\au R ρ top b b':=by unfold Rl at h;exact h
theorem Rl.zL {o:Nat} {t:Ty} {v:V} (h:Rl R ρ top (.vw o t) v):(∃s,ρ.ob o=some s/\v= .vw (ρ.om.lc o) s 0 (ρ.ln o) (ρ.ln o) (dx R t) (iA t))\/(ρ.ln o=0/\(v= .aj .nil []\/v= .aj .full [])):=by unfold Rl at h;exact h
theorem Rl.zM {o off:Nat} {t:Ty} {i:Int} {v:V} (h:Rl R ρ top (.jW o t i off) v):∃s,ρ.ob o=some s/\0<=i/\v= .ref (ρ.om.lc o) s (i.toNat*dx R t+off):=by unfold Rl at h;exact h
theorem Rl.Gr {ss:List Sg} {v:V} (h:Rl R ρ top (.sg ss) v):v= .agg (bN ss):=by unfold Rl at h;exact h
theorem Rl.xV {o off n:Nat} {k:IntKind} {lo hi:Option Int} {v:V} (h:Rl R ρ top (.sv o off k n lo hi) v):∃s,ρ.ob o=some s/\ni n lo hi=true/\v= .vw (ρ.om.lc o) s (off+(dL lo).toNat) ((fV n hi).toNat-(dL lo).toNat) (n-(dL lo).toNat) 1 false:=by unfold Rl at h;exact h
theorem Rl.Gs {o off n m:Nat} {k:IntKind} {i:Int} {v:V} (h:Rl R ρ top (.sel o off k n i m) v):∃s,ρ.ob o=some s/\0<=i/\i.toNat+m<=n/\v= .ref (ρ.om.lc o) s (off+i.toNat):=by unfold Rl at h;exact h
theorem Rl.LG {n:Nat} {k:IntKind} {x:Vec n} {i:Int} {v:V} (h:Rl R ρ top (.qK k n x i) v):0<=i/\i<n/\v= .aK (x.l.map (V.int k)) i.toNat:=by unfold Rl at h;exact h
theorem Rl.Yd {v:V} (h:Rl R ρ top .undef v):v=aC:=by unfold Rl at h;exact h
theorem Rl.Ye {j:Nat} {w:Bool} {x:TV R.T} {v:V} (h:Rl R ρ top (.opt j w x) v):False:=by unfold Rl at h;exact h
theorem au.nil':au R ρ top [] []:=rfl
theorem au.cons' {t:TV R.T} {ts:List (TV R.T)} {v:V} {vs:List V} (h:Rl R ρ top t v) (h':au R ρ top ts vs):au R ρ top (t::ts) (v::vs):=⟨v,vs,rfl,h,h'⟩
theorem au.length:∀{ts:List (TV R.T)} {vs:List V},au R ρ top ts vs->vs.length=ts.length
 | [],_,h=>by cases h;rfl
 |_::ts,_,⟨v,vs,e,_,h'⟩=>by subst e;simp[au.length h']
theorem au.append:∀{ts ts':List (TV R.T)} {vs vs':List V},au R ρ top ts vs->au R ρ top ts' vs'->au R ρ top (ts++ts') (vs++vs')
 | [],_,_,_,h,h2=>by cases h;exact h2
 |_::ts,_,_,_,⟨v,vs,e,h1,h'⟩,h2=>by subst e;exact .cons' h1 (au.append h' h2)
theorem au.drop:∀(n:Nat) {ts:List (TV R.T)} {vs:List V},au R ρ top ts vs->au R ρ top (ts.drop n) (vs.drop n)
 |0,_,_,h=>by simpa using h
 |n+1,[],_,h=>by cases h;simp;rfl
 |n+1,_::ts,_,⟨v,vs,e,h1,h'⟩=>by subst e;simpa using au.drop n h'
theorem au.take:∀(n:Nat) {ts:List (TV R.T)} {vs:List V},au R ρ top ts vs->au R ρ top (ts.take n) (vs.take n)
 |0,_,_,h=>by simp;rfl
 |n+1,[],_,h=>by cases h;simp;rfl
 |n+1,_::ts,_,⟨v,vs,e,h1,h'⟩=>by subst e;simpa using .cons' h1 (au.take n h')
theorem au.get:∀{ts:List (TV R.T)} {vs:List V} {i:Nat} {t:TV R.T},au R ρ top ts vs->ts[i]? =some t->∃v,vs[i]? =some v/\Rl R ρ top t v
 | [],_,_,_,_,h=>by simp at h
 |_::ts,_,0,_,⟨v,vs,e,h1,h'⟩,h=>by subst e;simp at h;subst h;exact⟨v,by simp,h1⟩
 |_::ts,_,i+1,_,⟨v,vs,e,h1,h'⟩,h=>by subst e;simpa using au.get h' (by simpa using h)
mutual
theorem Rl.wk (t:Nat) (ho:ρ'.ob=ρ.ob/\ρ'.ln=ρ.ln/\ρ'.om=ρ.om) (ht:∀u s,u≠t->ρ.tk u=some s->ρ'.tk u=some s/\top' s=top s):∀(x:TV R.T) (v:V),Rl R ρ top x v->Rl R ρ' top' (wk t x) v
 |.aj (.own u) ty l,v,h=>by
  obtain⟨c',hv,hc⟩:=h
  unfold Aq.wk
  by_cases e:Nat.beq u t=true
  ·rw[e,cond_true];exact⟨c',hv,trivial⟩
  ·have e':Nat.beq u t=false:=Bool.eq_false_iff.2 e
   rw[e',cond_false]
   refine⟨c',hv, ?_⟩
   rcases hc with hc|hc| ⟨s,h1,h2,h3⟩
   ·exact .inl hc
   ·exact .inr (.inl hc)
   ·have hne:u≠t:=fun h=>e (by rw[h];exact ajl t)
    have:=ht u s hne h2
    exact .inr (.inr ⟨s,h1,this.1,by rw[this.2];exact h3⟩)
 |.aj .any ty l,v,h=>by obtain⟨c',hv,hc⟩:=h;exact⟨c',hv,trivial⟩
 |.aj .sh ty l,v,h=>by obtain⟨c',hv,hc⟩:=h;exact⟨c',hv,hc⟩
 |.aj .nil ty l,v,h=>by obtain⟨c',hv,hc⟩:=h;exact⟨c',hv,hc⟩
 |.aj .full ty l,v,h=>by obtain⟨c',hv,hc⟩:=h;exact⟨c',hv,hc⟩
 |.agg cs,v,h=>by obtain⟨l,hv,hl⟩:=h;exact⟨l,hv,au.wk t ho ht cs l hl⟩
 |.bE cs,v,h=>by obtain⟨l,hv,hl⟩:=h;exact⟨l,hv,au.wk t ho ht cs l hl⟩
 |.aK cs off,v,h=>by obtain⟨l,hv,hl⟩:=h;exact⟨l,hv,au.wk t ho ht cs l hl⟩
 |.fn f a b,v,h=>by obtain⟨a',b',hv,ha,hb⟩:=h;exact⟨a',b',hv,au.wk t ho ht a a' ha,au.wk t ho ht b b' hb⟩
 |.ref o off,v,h=>by obtain⟨s,h1,h2⟩:=h;exact⟨s,by rw[ho.1];exact h1,by rw[ho.2.2];exact h2⟩
 |.bP o,v,h=>by obtain⟨s,h1,h2⟩:=h;exact⟨s,by rw[ho.1];exact h1,by rw[ho.2.2];exact h2⟩
 |.vw o ty,v,h=>by
  rcases h with ⟨s,h1,h2⟩| ⟨h1,h2⟩
  ·exact .inl ⟨s,by rw[ho.1];exact h1,by rw[ho.2.1,ho.2.2];exact h2⟩
  ·exact .inr ⟨by rw[ho.2.1];exact h1,h2⟩
 |.jW o ty i off,v,h=>by obtain⟨s,h1,h2⟩:=h;exact⟨s,by rw[ho.1];exact h1,by rw[ho.2.2];exact h2⟩
 |.sv o _ _ _ _ _,v,h=>by obtain⟨s,h1,h2⟩:=h;exact⟨s,by rw[ho.1];exact h1,by rw[ho.2.2];exact h2⟩
 |.sel o _ _ _ _ _,v,h=>by obtain⟨s,h1,h2⟩:=h;exact⟨s,by rw[ho.1];exact h1,by rw[ho.2.2];exact h2⟩
 |.sg _,_,h=>h
 |.qK _ _ _ _,_,h=>h
 |.opt _ _ _,_,h=>h.elim
 |.int _ _,_,h=>h
 |.bool _,_,h=>h
 |.gQ _,_,h=>h
 |.str _,_,h=>h
 |.fJ,_,h=>h
 |.fF,_,h=>h
 |.eZ,_,h=>h
 |.gH,_,h=>h
 |.dX,_,h=>h
 |.dG _ _ _,_,h=>h
 |.undef,_,h=>h
 |.gone,_,h=>h
theorem au.wk (t:Nat) (ho:ρ'.ob=ρ.ob/\ρ'.ln=ρ.ln/\ρ'.om=ρ.om) (ht:∀u s,u≠t->ρ.tk u=some s->ρ'.tk u=some s/\top' s=top s):∀(x:List (TV R.T)) (v:List V),au R ρ top x v->au R ρ' top' (uz t x) v
 | [],_,h=>h
 |x::xs,_,⟨v,vs,e,h1,h2⟩=>⟨v,vs,e,Rl.wk t ho ht x v h1,au.wk t ho ht xs vs h2⟩
end
mutual
theorem Rl.kill (o:Nat) (ho:∀p,p≠o->ρ'.ob p=ρ.ob p/\ρ'.ln p=ρ.ln p) (ht:ρ'.tk=ρ.tk) (hx:ρ'.om=ρ.om):∀(x:TV R.T) (v:V),lG o x=false->Rl R ρ top x v->Rl R ρ' top x v
 |.aj c ty l,v,_,h=>by
  obtain⟨c',hv,hc⟩:=h
  refine⟨c',hv, ?_⟩
  cases c<;>try exact hc
  rcases hc with hc|hc| ⟨s,h1,h2,h3⟩
  ·exact .inl hc
  ·exact .inr (.inl hc)
  ·exact .inr (.inr ⟨s,h1,by rw[ht];exact h2,h3⟩)
 |.agg cs,v,hm,h=>by obtain⟨l,hv,hl⟩:=h;exact⟨l,hv,au.kill o ho ht hx cs l hm hl⟩
 |.bE cs,v,hm,h=>by obtain⟨l,hv,hl⟩:=h;exact⟨l,hv,au.kill o ho ht hx cs l hm hl⟩
 |.aK cs off,v,hm,h=>by obtain⟨l,hv,hl⟩:=h;exact⟨l,hv,au.kill o ho ht hx cs l hm hl⟩
 |.fn f a b,v,hm,h=>by
  obtain⟨a',b',hv,ha,hb⟩:=h
  unfold lG at hm
  rw[ajk] at hm
  exact⟨a',b',hv,au.kill o ho ht hx a a' hm.1 ha,au.kill o ho ht hx b b' hm.2 hb⟩
 |.ref p off,v,hm,h=>by
  obtain⟨s,h1,h2⟩:=h
  unfold lG at hm
  exact⟨s,((ho p (fun e=>by rw[e,ajl] at hm;cases hm)).1.trans h1),by rw[hx];exact h2⟩
 |.bP p,v,hm,h=>by
  obtain⟨s,h1,h2⟩:=h
  unfold lG at hm
  exact⟨s,((ho p (fun e=>by rw[e,ajl] at hm;cases hm)).1.trans h1),by rw[hx];exact h2⟩
 |.vw p ty,v,hm,h=>by
  unfold lG at hm
  obtain⟨k1,k2⟩:=ho p (fun e=>by rw[e,ajl] at hm;cases hm)
  rcases h with ⟨s,h1,h2⟩| ⟨h1,h2⟩
  ·exact .inl ⟨s,k1.trans h1,by rw[k2,hx];exact h2⟩
  ·exact .inr ⟨by rw[k2];exact h1,h2⟩
 |.jW p ty i off,v,hm,h=>by
  obtain⟨s,h1,h2⟩:=h
  unfold lG at hm
  exact⟨s,((ho p (fun e=>by rw[e,ajl] at hm;cases hm)).1.trans h1),by rw[hx];exact h2⟩
 |.sv p _ _ _ _ _,v,hm,h=>by
  obtain⟨s,h1,h2⟩:=h
  unfold lG at hm
  exact⟨s,((ho p (fun e=>by rw[e,ajl] at hm;cases hm)).1.trans h1),by rw[hx];exact h2⟩
 |.sel p _ _ _ _ _,v,hm,h=>by
  obtain⟨s,h1,h2⟩:=h
  unfold lG at hm
  exact⟨s,((ho p (fun e=>by rw[e,ajl] at hm;cases hm)).1.trans h1),by rw[hx];exact h2⟩
 |.sg _,_,_,h=>h
 |.qK _ _ _ _,_,_,h=>h
 |.opt _ _ _,_,_,h=>h.elim
 |.int _ _,_,_,h=>h
 |.bool _,_,_,h=>h
 |.gQ _,_,_,h=>h
 |.str _,_,_,h=>h
 |.fJ,_,_,h=>h
 |.fF,_,_,h=>h
 |.eZ,_,_,h=>h
 |.gH,_,_,h=>h
 |.dX,_,_,h=>h
 |.dG _ _ _,_,_,h=>h
 |.undef,_,_,h=>h
 |.gone,_,_,h=>h
theorem au.kill (o:Nat) (ho:∀p,p≠o->ρ'.ob p=ρ.ob p/\ρ'.ln p=ρ.ln p) (ht:ρ'.tk=ρ.tk) (hx:ρ'.om=ρ.om):∀(x:List (TV R.T)) (v:List V),mJ o x=false->au R ρ top x v->au R ρ' top x v
 | [],_,_,h=>h
 |x::xs,_,hm,⟨v,vs,e,h1,h2⟩=>by
  unfold mJ at hm
  rw[ajk] at hm
  exact⟨v,vs,e,Rl.kill o ho ht hx x v hm.1 h1,au.kill o ho ht hx xs vs hm.2 h2⟩
end
section
variable (hR:nR R)
include hR
def CZ (v w:V):Prop:=eP v=w/\er v=w/\aF w=true/\(∀n σ,aQ (n+2) σ v=some w)/\oneCell v=true/\v.cells=[v]
omit hR in
theorem ah2 {v:V} (h:∀cs,v≠ .agg cs):er v=eP v:=by cases v<;>first|rfl|exact absurd rfl (h _)
theorem oK:∀(t:Ty) (x:Den R.T t),aF (aG R t x)=true
 |.int _,x=>by simp[aG,aF]
 |.bool,x=>by simp[aG,aF]
 |.str,x=>by simp[aG,aF]
 |.slice t,x=>FZ (oK t) x
 |.st n,x=>hR.pc n x
theorem Yf (c:Cp) (hc:CX ρ top 1 0 c .sh/\(c= .any\/c= .sh)):∀(t:Ty) (x:Den R.T t),lZ t=true->Rl R ρ top (vK R c t x) (aG R t x)
 |.int _,x,_=>rfl
 |.bool,x,_=>rfl
 |.str,x,_=>rfl
 |.slice t,x,_=>⟨.sh,rfl,by rcases hc.2 with rfl|rfl<;>first|trivial|rfl⟩
 |.st n,x,h=>by simp[lZ] at h
theorem Yg (c:Cp) (hc:CX ρ top 1 0 c .sh/\(c= .any\/c= .sh)):∀(l:List Ty) (p:mI R.T l),l.all lZ=true->au R ρ top (jf R c l p) (encs R l p)
 | [],_,_=>rfl
 | [t],x,h=>.cons' (Yf hR c hc t x (by simpa using h)) rfl
 |t::u::l,p,h=>by
  rw[List.all_cons,aan] at h
  exact .cons' (Yf hR c hc t p.1 h.1) (Yg c hc (u::l) p.2 h.2)
theorem LH (c:Cp) (hc:c= .any\/c= .sh):∀(t:Ty) (x:Den R.T t),Rl R ρ top (fG R c t x) (aG R t x)
 |.int _,x=>rfl
 |.bool,x=>rfl
 |.str,x=>rfl
 |.slice t,x=>⟨.sh,rfl,by rcases hc with rfl|rfl<;>first|trivial|rfl⟩
 |.st n,x=>⟨_,hR.enc n x,Yg hR c ⟨by rcases hc with rfl|rfl<;>first|trivial|rfl,hc⟩ _ _ (hR.leaf n)⟩
theorem Yh (t:Ty) (x:Den R.T t):Rl R ρ top (fG R .sh t x) (aG R t x):=LH hR .sh (.inr rfl) t x
omit hR in
theorem ah3 (k:IntKind) (n:Int):CZ (.int k n) (.int k n):=⟨rfl,rfl,by simp[aF],fun n σ=>Rk (n+1) _ _,rfl,rfl⟩
omit hR in
theorem ah4 (b:Bool):CZ (.bool b) (.bool b):=⟨rfl,rfl,by simp[aF],fun n σ=>Rm (n+1) _,rfl,rfl⟩
omit hR in
theorem ah5 (b:List UInt8):CZ (.str b) (.str b):=⟨rfl,rfl,by simp[aF],fun n σ=>Rn (n+1) _,rfl,rfl⟩
theorem ah6 (c:Cap) (t:Ty) (l:List (Den R.T t)):CZ (.aj c (l.map (aG R t))) (aG R (.slice t) l):=⟨rfl,rfl,oK hR (.slice _) _,fun n σ=>xD _ _ (oK hR _),rfl,rfl⟩
omit hR in
theorem R7 {k:IntKind} {x:Int} {tv:TV R.T} {v:V} (h:K4 R k tv=some x) (hr:Rl R ρ top tv v):v= .int k x:=by
 unfold K4 at h
 split at h
 ·split at h
  ·rename_i e;cases e;cases h;exact hr.fZ
  ·cases h
 ·cases h
omit hR in
theorem R8 {x:Bool} {tv:TV R.T} {v:V} (h:K5 R tv=some x) (hr:Rl R ρ top tv v):v= .bool x:=by
 unfold K5 at h
 split at h<;>cases h
 ·exact hr.pY
 ·exact hr.tJ
omit hR in
theorem R9 {x:List UInt8} {tv:TV R.T} {v:V} (h:K6 R tv=some x) (hr:Rl R ρ top tv v):v= .str x:=by
 unfold K6 at h
 split at h<;>cases h
 exact hr.l5
omit hR in
theorem qP {t u:Ty} {l:List (Den R.T t)} {m:List (Den R.T u)} (h:pJ R l=some m):t=u/\HEq l m:=by
 unfold pJ at h
 split at h
 ·rename_i e;subst e;cases h;exact⟨rfl,HEq.rfl⟩
 ·cases h
omit hR in
theorem Yi {t:Ty} {x:List (Den R.T t)} {tv:TV R.T} {v:V} (h:zy R t tv=some x) (hr:Rl R ρ top tv v):∃c,v= .aj c (x.map (aG R t)):=by
 unfold zy at h
 split at h
 ·obtain⟨e,e2⟩:=qP h;subst e;cases e2
  obtain⟨c',hv,hc⟩:=hr.kJ
  exact⟨c',hv⟩
 ·cases h;exact⟨.nil,hr.p8⟩
 ·cases h
theorem C8 {t:Ty} {x:Den R.T t} {tv:TV R.T} {v:V} (h:pK R t tv=some x) (hr:Rl R ρ top tv v):CZ v (aG R t x):=by
 cases t with
 |int k=>rw[R7 h hr];exact ah3 _ _
 |bool=>rw[R8 h hr];exact ah4 _
 |str=>rw[R9 h hr];exact ah5 _
 |slice t=>obtain⟨c,hv⟩:=Yi h hr;rw[hv];exact ah6 hR _ _ _
 |st n=>cases h
theorem ah7 {t:Ty} {x:Den R.T t} {cs:List (TV R.T)} {vs:List V} (h:pK R t (hd1 R cs)=some x) (hr:au R ρ top cs vs):∃v,vs=[v]/\CZ v (aG R t x):=by
 cases cs with
 |nil=>cases t<;>cases h
 |cons c cs=>
  cases cs with
  |nil=>
   obtain⟨v,l,rfl,h1,h2⟩:=hr.dN
   rw[h2.fB]
   exact⟨v,rfl,C8 hR h h1⟩
  |cons c' cs=>cases t<;>cases h
theorem Yj:∀(l:List Ty) (p:mI R.T l) (cs:List (TV R.T)) (vs:List V),xG R l cs=some p->au R ρ top cs vs->
 vs.map eP=encs R l p/\(∀n σ,vs.mapM (aQ (n+2) σ)=some (encs R l p))/\aX (encs R l p)=true/\vs.all (fun v=>oneCell v)=true
 | [],p,cs,vs,h,hr=>by
   cases cs with
   |nil=>rw[hr.fB];exact⟨rfl,fun _ _=>rfl,by simp[encs,aX],rfl⟩
   |cons c cs=>cases h
 | [t],p,cs,vs,h,hr=>by
   obtain⟨v,rfl,a,b,c,d,e,_⟩:=ah7 hR (show pK R t (hd1 R cs)=some p from h) hr
   exact⟨by simp[encs,a],fun n σ=>by simp[encs,d],by simp[encs,aX,c],by simp[e]⟩
 |t::u::l,p,cs,vs,h,hr=>by
  cases cs with
  |nil=>cases h
  |cons c cs=>
   obtain⟨v,vs,rfl,h1,h2⟩:=hr.dN
   unfold xG at h
   cases hu:pK R t c with
   |none=>simp only[hu] at h;cases h
   |some y=>
    cases hs:xG R (u::l) cs with
    |none=>simp only[hu,hs] at h;cases h
    |some q=>
     simp only[hu,hs] at h
     obtain rfl:=adG h
     obtain⟨a,b,c,d,e,_⟩:=C8 hR hu h1
     obtain⟨a',d',c',o'⟩:=Yj (u::l) q cs vs hs h2
     exact⟨by simp[encs,a,a'],fun n σ=>by simp[encs,d,d'],by simp[encs,aX,c,c'],by simp[e,o']⟩
omit hR in
theorem Sb:∀(l:List Ty) (p:mI R.T l),(encs R l p).length=l.length
 | [],_=>rfl
 | [_],_=>rfl
 |_::u::l,p=>by show (encs R (u::l) p.2).length+1=_;rw[Sb];rfl
omit hR in
theorem Sc {n:Nat} {σ:ah} (cs:List V):aQ (n+3) σ (.agg cs)=(cs.mapM (aQ (n+2) σ)).map .agg:=by
 by_cases hp:aF (.agg cs)=true
 ·rw[jV hp]
  have:∀cs:List V,aX cs=true->cs.mapM (aQ (n+2) σ)=some cs:=by
   intro cs
   induction cs with
   |nil=>intro _;rfl
   |cons a l ih=>
    intro h
    simp only[aX,aan] at h
    rw[adi,jV h.1,ih h.2];rfl
  rw[this cs (by simpa [aF] using hp)];rfl
 ·conv=>lhs;unfold aQ
  simp only[hp,if_false,aap]
theorem Sd {t:Ty} {x:Den R.T t} {tv:TV R.T} {v:V} (h:oD R t tv=some x) (hr:Rl R ρ top tv v):
 er v=aG R t x/\aF (aG R t x)=true/\(∀n σ,aQ (n+3) σ v=some (aG R t x))/\v.cells.length=dx R t/\bC v.cells=true:=by
 cases t with
 |st n=>
  change zA R n tv=some x at h
  unfold zA at h
  split at h
  ·rename_i cs
   split at h
   ·rename_i p hp
    obtain rfl:=adG h
    obtain⟨l,hv,hl⟩:=hr.kI
    subst hv
    obtain⟨a,d,c,o⟩:=Yj hR _ _ _ _ hp hl
    have he:aG R (.st n) (R.to n p)= .agg (encs R (R.lf n) p):=by
     show R.enc n (R.to n p)=_
     rw[hR.enc,hR.Gq]
    refine⟨?_,oK hR (.st n) _,fun k σ=> ?_, ?_,o⟩
    ·rw[he];show V.agg (l.map eP)=_;rw[a]
    ·rw[he,Sc,d k σ];rfl
    ·show l.length=_
     have:=congrArg List.length a
     rw[aau] at this
     rw[this];exact Sb _ _
   ·cases h
  ·cases h
 |int k=>
  obtain⟨a,b,c,d,e,f⟩:=C8 hR (t:=.int k) h hr
  exact⟨b,c,fun n σ=>d (n+1) σ,by rw[f];rfl,by rw[f];simp[bC,e]⟩
 |bool=>
  obtain⟨a,b,c,d,e,f⟩:=C8 hR (t:=.bool) h hr
  exact⟨b,c,fun n σ=>d (n+1) σ,by rw[f];rfl,by rw[f];simp[bC,e]⟩
 |str=>
  obtain⟨a,b,c,d,e,f⟩:=C8 hR (t:=.str) h hr
  exact⟨b,c,fun n σ=>d (n+1) σ,by rw[f];rfl,by rw[f];simp[bC,e]⟩
 |slice t=>
  obtain⟨a,b,c,d,e,f⟩:=C8 hR (t:=.slice t) h hr
  exact⟨b,c,fun n σ=>d (n+1) σ,by rw[f];rfl,by rw[f];simp[bC,e]⟩
end
end
end Aq
end
