import Derived.Test.YtabmooekodficaaF2106
set_option linter.all false
section
namespace Aq
open Go
inductive Res (R:Reg) where
 |t (v:TV R.T)
 |c (b:Bool) (v:TV R.T)
 |w (v:TV R.T) (st:MS R.T)
 |wc (b:Bool) (v:TV R.T) (st:MS R.T)
 |p (α:Type) (d:α) (o:Option α) (f:α->TV R.T)
section
variable (E:Env) (R:Reg)
def partM {T:Nat->Type} (agg:Bool) (n:Nat) (cs:List (TV T)) (off:Nat):Option (TV T):=
 bif agg then (bif Nat.ble (off+n) cs.length then some (.agg ((cs.drop off).take n)) else none) else cs[off]?
def ldM {T:Nat->Type} (t:TypeId) (cs:List (TV T)) (off:Nat):Option (TV T):=
 match isAggT E.P t with
 |some a=>match szT E.P t with
  |some n=>partM a n cs off
  |none=>none
 |none=>none
def spliceM {T:Nat->Type} (cs:List (TV T)) (off:Nat) (vs:List (TV T)):List (TV T):=cs.take off++vs++cs.drop (off+vs.length)
def fillM {T:Nat->Type} (place:Nat->Option (Nat×Nat)) (cells:List (TV T)):List (Nat×TV T)->Option (List (TV T))
 | []=>some cells
 | (i,v)::rest=>match place i with
   |none=>none
   |some (off,size)=>bif Nat.beq v.cells.length size&& Nat.ble (off+size) cells.length&& notG v then fillM place (spliceM cells off v.cells) rest else none
def zeroM {T:Nat->Type} (t:TypeId):Option (TV T):=match E.P.info? t with
 |some i=>match i.zero with
  |some z=>ofValueM z
  |none=>none
 |none=>none
def bM {T:Nat->Type}:TV T->Option Bool
 |.bool a=>some a
 |.blit a=>some a
 |_=>none
def eqSM {T:Nat->Type} (x y:TV T):Option Bool:=match bM x,bM y with
 |some a,some b=>some (a==b)
 |_,_=>none
def eqFlM {T:Nat->Type} (eq:TypeId->TV T->TV T->Option Bool) (xs ys:List (TV T)):List Field->Option Bool
 | []=>some true
 |f::fs=>if f.name= "_" then eqFlM eq xs ys fs else
  match ldM E f.type xs f.offset with
  |none=>none
  |some a=>match ldM E f.type ys f.offset with
   |none=>none
   |some b=>match eq f.type a b with
    |none=>none
    |some r=>match eqFlM eq xs ys fs with
     |none=>none
     |some q=>some (r&& q)
def eqElM {T:Nat->Type} (eq:TypeId->TV T->TV T->Option Bool) (e:TypeId) (sz:Nat) (xs ys:List (TV T)):List Nat->Option Bool
 | []=>some true
 |i::is=>match ldM E e xs (i*sz) with
  |none=>none
  |some a=>match ldM E e ys (i*sz) with
   |none=>none
   |some b=>match eq e a b with
    |none=>none
    |some r=>match eqElM eq e sz xs ys is with
     |none=>none
     |some q=>some (r&& q)
def eqTM {T:Nat->Type}:Nat->TypeId->TV T->TV T->Option Bool
 |0,_,_,_=>none
 |d+1,t,x,y=>
  match E.P.underlying t,x,y with
  |some (.struct fs),.agg xs,.agg ys=>if E.P.stoodInHeld t then none else eqFlM E (eqTM d) xs ys fs.toList
  |some (.array n e),.agg xs,.agg ys=>match szT E.P e with
   |some sz=>eqElM E (eqTM d) e sz xs ys (List.range n)
   |none=>none
  |some (.struct _),_,_=>none
  |some (.array _ _),_,_=>none
  |some .bool,x,y=>eqSM x y
  |some (.int _),.int k a,.int k' b=>if k=k' then some (a==b) else none
  |some .string,.str a,.str b=>some (a==b)
  |_,_,_=>none
def eqM {T:Nat->Type} (t:TypeId) (x y:TV T):Option Bool:=
 match E.P.underlying t,x,y with
 |some (.struct _),.agg a,.agg b=>if E.P.eqGuardType E.P.depth t then none else eqTM E 8 t (.agg a) (.agg b)
 |some (.array _ _),.agg a,.agg b=>if E.P.eqGuardType E.P.depth t then none else eqTM E 8 t (.agg a) (.agg b)
 |some (.func ..),.nilf,.nilf=>some true
 |some (.func ..),.nilf,.fn _ _ _=>some false
 |some (.func ..),.fn _ _ _,.nilf=>some false
 |some .bool,x,y=>eqSM x y
 |_,_,_=>none
def intM (op:BinOp) (k:IntKind) (x y:Int):Option (Res R):=
 match op with
 |.add=>some (.t (.int k (k.wrap (x+y))))
 |.sub=>some (.t (.int k (k.wrap (x-y))))
 |.mul=>some (.t (.int k (k.wrap (x*y))))
 |.quo=>some (.c (!(y==0)) (.int k (k.wrap (x.tdiv y))))
 |.rem=>some (.c (!(y==0)) (.int k (x.tmod y)))
 |.and=>some (.t (.int k (k.wrap (BitVec.ofInt k.bits x&&& BitVec.ofInt k.bits y).toNat)))
 |.or=>some (.t (.int k (k.wrap (BitVec.ofInt k.bits x|||BitVec.ofInt k.bits y).toNat)))
 |.xor=>some (.t (.int k (k.wrap (BitVec.ofInt k.bits x^^^BitVec.ofInt k.bits y).toNat)))
 |.andNot=>some (.t (.int k (k.wrap (BitVec.ofInt k.bits x&&& ~~~BitVec.ofInt k.bits y).toNat)))
 |.eql=>some (.t (.bool (x==y)))
 |.neq=>some (.t (.bool (x !=y)))
 |.lss=>some (.t (.bool (decide (x<y))))
 |.leq=>some (.t (.bool (decide (x<=y))))
 |.gtr=>some (.t (.bool (decide (x>y))))
 |.geq=>some (.t (.bool (decide (x>=y))))
 |_=>none
def shiftM (op:BinOp) (k:IntKind) (x y:Int):Option (Res R):=
 match op with
 |.shl=>some (.c (decide (0<=y)) (.int k (k.wrap (x*2^min y.toNat k.bits))))
 |.shr=>some (.c (decide (0<=y)) (.int k (x.fdiv (2^min y.toNat k.bits))))
 |_=>none
def strM (op:BinOp) (x y:List UInt8):Option (Res R):=
 match op with
 |.add=>some (.c (decide (((x.length+y.length:Nat):Int)<=IntKind.i64.max)) (.str (x++y)))
 |.eql=>some (.t (.bool (x==y)))
 |.neq=>some (.t (.bool (!(x==y))))
 |.lss=>some (.t (.bool (Op.bytesLess x y)))
 |.leq=>some (.t (.bool (Op.bytesLess x y||x==y)))
 |.gtr=>some (.t (.bool (!(Op.bytesLess x y||x==y))))
 |.geq=>some (.t (.bool (!(Op.bytesLess x y))))
 |_=>none
def isShift:BinOp->Bool
 |.shl=>true
 |.shr=>true
 |_=>false
def nilM (t:TypeId) (x y:TV R.T):Option (Bool×Bool):=match E.P.underlying t,x,y with
 |some (.slice _),.nils,.nils=>some (true,true)
 |some (.slice _),.lst .nil _ l,.nils=>some (l.isEmpty,true)
 |some (.slice _),.lst _ _ l,.nils=>some (!l.isEmpty,false)
 |_,_,_=>none
def binM (op:BinOp) (t:TypeId) (x y:TV R.T):Option (Res R):=
 match x,y with
 |.int k a,.int k' b=>bif isShift op then shiftM R op k a b else (if k=k' then intM R op k a b else none)
 |.str a,.str b=>strM R op a b
 |x,y=>match op with
  |.eql=>match nilM E R t x y with
   |some (c,b)=>some (.c c (.blit b))
   |none=>match eqM E t x y with
    |some b=>some (.t (.bool b))
    |none=>none
  |.neq=>match nilM E R t x y with
   |some (c,b)=>some (.c c (.blit (!b)))
   |none=>match eqM E t x y with
    |some b=>some (.t (.bool (!b)))
    |none=>none
  |_=>none
def unM (op:UnOp) (x:TV R.T):Option (Res R):=
 match op,x with
 |.neg,.int k n=>some (.t (.int k (k.wrap (0-n))))
 |.xor,.int k n=>intM R .xor k (if k.signed then-1 else k.max) n
 |.not,.bool b=>some (.t (.bool (!b)))
 |.not,.blit b=>some (.t (.blit (!b)))
 |_,_=>none
def convM (src dst:TypeId) (x:TV R.T):Option (Res R):=
 match E.P.underlying src,E.P.underlying dst,x with
 |some _,some (.int k),.int _ n=>some (.t (.int k (k.wrap n)))
 |some _,some .string,.str s=>some (.t (.str s))
 |some _,some (.slice e),.str s=>match E.P.underlying e with
  |some (.int .u8)=>some (.t (.lst .any (.int .u8) (s.map fun b=>((b.toNat:Nat):Int))))
  |_=>none
 |some (.slice e),some .string,.lst _ (.int .u8) l=>match E.P.underlying e with
  |some (.int .u8)=>some (.t (.str (List.map (fun n:Int=>UInt8.ofNat n.toNat) l)))
  |_=>none
 |some (.slice e),some .string,.nils=>match E.P.underlying e with
  |some (.int .u8)=>some (.t (.str []))
  |_=>none
 |_,_,_=>none
def inB (i:Int) (n:Nat):Bool:=decide (0<=i/\i<=n)
def bndM:Option (TV R.T)->Option (Option Int)
 |none=>some none
 |some (.int _ n)=>some (some n)
 |_=>none
def subL {α:Type} (l:List α):Option Int->Option Int->List α
 |none,none=>l
 |some i,none=>l.drop i.toNat
 |none,some j=>l.take j.toNat
 |some i,some j=>(l.take j.toNat).drop i.toNat
def subB (n:Nat):Option Int->Option Int->Bool
 |none,none=>true
 |some i,none=>inB i n
 |none,some j=>inB j n
 |some i,some j=>inB j n&& inB i j.toNat
def sliceM (t:TypeId) (x:TV R.T) (lo hi:Option (TV R.T)):Option (Res R):=
 match bndM R lo,bndM R hi with
 |some lo,some hi=>match E.P.underlying t,x with
  |some .string,.str s=>some (.c (subB s.length lo hi) (.str (subL s lo hi)))
  |some (.slice e),.lst _ u l=>match szT E.P e with
   |some sz=>bif Nat.beq sz (szD R u) then some (.c (subB l.length lo hi) (.lst .any u (subL l lo hi))) else none
   |none=>none
  |_,_=>none
 |_,_=>none
def asW {T:Nat->Type} (st:MS T):TV T->Option (Nat×Ty×Int×Int)
 |.vw o t=>match rdOb st o with
  |some (.arr _ l)=>some (o,t,0,((l.length:Nat):Int))
  |_=>none
 |.sub o t a b=>some (o,t,a,b)
 |_=>none
def inV (a b c:Int):Bool:=decide (0<=a/\a<=b/\b<=c)
def inJ (i n:Int):Bool:=decide (0<=i/\i<n)
def hiW (n:Int):Option Int->Int
 |some i=>i
 |none=>n
def loW:Option Int->Int
 |some i=>i
 |none=>0
def slcW (t:TypeId) (x:TV R.T) (lo hi:Option (TV R.T)) (st:MS R.T):Option (Res R):=
 match asW st x,bndM R lo,bndM R hi,E.P.underlying t with
 |some (o,τ,a,b),some lo,some hi,some (.slice e)=>match szT E.P e with
  |some sz=>bif Nat.beq sz (szD R τ) then some (.c (inV (loW lo) (hiW (b-a) hi) (b-a)) (.sub o τ (a+loW lo) (a+hiW (b-a) hi))) else none
  |none=>none
 |_,_,_,_=>none
def sliceX (t:TypeId) (x:TV R.T) (lo hi:Option (TV R.T)) (st:MS R.T):Option (Res R):=
 match slcW E R t x lo hi st with
 |some r=>some r
 |none=>sliceM E R t x lo hi
def fieldsM {T:Nat->Type} (t:TypeId) (f:Nat) (x:TV T):Option (TV T):=
 match fieldT E.P t f with
 |some (o,_)=>match x with
  |.ref p off=>some (.ref p (off+o))
  |.cref cs off=>some (.cref cs (off+o))
  |.eref p t i off=>some (.eref p t i (off+o))
  |_=>none
 |none=>none
def beqD (R:Reg):(t:Ty)->Den R.T t->Den R.T t->Bool
 |.int _=>fun (a b:Int)=>a==b
 |.bool=>fun (a b:Bool)=>a==b
 |.str=>fun (a b:List UInt8)=>a==b
 |.slice _=>fun _ _=>false
 |.st _=>fun _ _=>false
def keyM (t:TypeId) (k:Ty):Bool:=match E.P.underlying t,k with
 |some (.int _),.int _=>true
 |some .string,.str=>true
 |some .bool,.bool=>true
 |_,_=>false
def mget {α β:Type} (eq:α->α->Bool) (x:α):List (α×β)->Option β
 | []=>none
 | (a,v)::m=>bif eq x a then some v else mget eq x m
def mset {α β:Type} (eq:α->α->Bool) (x:α) (v:β):List (α×β)->List (α×β)
 | []=>[(x,v)]
 | (a,w)::m=>bif eq x a then (x,v)::m else (a,w)::mset eq x v m
def optGet {α:Type} (d:α):Option α->α
 |some x=>x
 |none=>d
def unE (t:Ty) (v:TV R.T):Option (Den R.T t):=bif stV v then unD R t v else none
def lookM (t:TypeId) (k e:Ty) (m:List (Den R.T k×Den R.T e)) (x:TV R.T) (ok:Bool):Option (Res R):=
 match mapT E.P t with
 |some (kt,et)=>bif keyM E kt k then (match zeroM (T:=R.T) E et with
  |some z=>match unD R e z,unD R k x with
   |some z,some x=>some (.t (bif ok then .tup [tvD R .any e (optGet z (mget (beqD R k) x m)),.bool (mget (beqD R k) x m).isSome] else tvD R .any e (optGet z (mget (beqD R k) x m))))
   |_,_=>none
  |none=>none) else none
 |none=>none
def lookupM (t:TypeId) (m x:TV R.T) (ok:Bool) (st:MS R.T):Option (Res R):=
 match m with
 |.mapr o=>match rdOb st o with
  |some (.map k e m)=>lookM E R t k e m x ok
  |_=>none
 |.mapc k e m=>lookM E R t k e m x ok
 |.nilm=>match mapT E.P t with
  |some (kt,et)=>match R.ty kt,R.ty et with
   |some k,some e=>lookM E R t k e [] x ok
   |_,_=>none
  |none=>none
 |_=>none
def eqKM {T:Nat->Type}:TV T->TV T->Option Bool
 |.int k a,.int k' b=>if k=k' then some (a==b) else none
 |.str a,.str b=>some (a==b)
 |_,_=>none
def keyS {T:Nat->Type} (t:TypeId):TV T->Bool:=fun v=>match E.P.underlying t,v with
 |some (.int _),.int _ _=>true
 |some .string,.str _=>true
 |_,_=>false
def setS {T:Nat->Type} (x v:TV T):List (TV T)->List (TV T)->Option (List (TV T)×List (TV T))
 | [],[]=>some ([x],[v])
 |a::ks,w::vs=>match eqKM x a with
  |some b=>bif b then some (x::ks,v::vs) else (match setS x v ks vs with
   |some (ks,vs)=>some (a::ks,w::vs)
   |none=>none)
  |none=>none
 |_,_=>none
def updateM (t:TypeId) (m x v:TV R.T) (st:MS R.T):Option (Res R):=
 match m with
 |.mapr o=>match look st.ob o with
  |some (.map k e m)=>match mapT E.P t with
   |some (kt,_)=>bif keyM E kt k then (match unD R k x,unE R e v with
    |some x,some v=>some (.w .undef (st.set o (.map k e (mset (beqD R k) x v m))))
    |_,_=>none) else none
   |none=>none
  |some (.smap ks vs)=>match mapT E.P t with
   |some (kt,_)=>bif keyS E kt x then (match setS x v ks vs with
    |some (ks,vs)=>some (.w .undef (st.set o (.smap ks vs)))
    |none=>none) else none
   |none=>none
  |_=>none
 |_=>none
def isSt:Ty->Bool
 |.st _=>true
 |_=>false
def elM (t:TypeId):Option (TypeId×Ty×Nat×Nat):=
 match elemT E.P t with
 |some e=>match R.ty e,szT E.P e,bytesT E.P e,isAggT E.P e,zeroT E.P e with
  |some u,some sz,some by_,some ag,some z=>bif Nat.beq sz (szD R u)&& Nat.blt 0 sz&& (ag||Nat.beq sz 1)&& Nat.beq z.cells.length sz&& (ag==isSt u) then some (e,u,sz,by_) else none
  |_,_,_,_,_=>none
 |none=>none
def unDs (t:Ty) (n:Nat):List (Nat×TV R.T)->Option (List (Den R.T t))
 | []=>some []
 | (i,v)::l=>bif Nat.beq i n then (match unD R t v with
   |some x=>match unDs t (n+1) l with
    |some y=>some (x::y)
    |none=>none
   |none=>none) else none
def bslM (t:TypeId) (len:Nat) (ps:List (Nat×TV R.T)):Option (Res R):=
 match elM E R t with
 |some (_,u,sz,_)=>bif Nat.ble (len*sz) (2^24)&& Nat.beq ps.length len then (match unDs R u 0 ps with
  |some l=>some (.t (.lst .full u l))
  |none=>none) else none
 |none=>none
def bslO (d:Option Nat) (t:TypeId) (len:Nat) (ps:List (Nat×TV R.T)) (st:MS R.T):Option (Res R):=
 match d,elM E R t with
 |some d,some (_,u,sz,_)=>bif Nat.ble (len*sz) (2^24)&& Nat.beq ps.length len then (match unDs R u 0 ps with
  |some l=>bif Nat.ble F0 (E.cn d) then none else some (.w (.vw (E.cn d) u) (st.new (E.cn d) (.arr u l)))
  |none=>none) else none
 |_,_=>none
def srcM (u:Ty):TV R.T->Option (List (Den R.T u))
 |.lst _ _ l=>castL R l
 |.nils=>some []
 |.str s=>castL (t:=.int .u8) (u:=u) R (s.map fun b=>((b.toNat:Nat):Int))
 |_=>none
def dstM (u:Ty) (d:Nat):TV R.T->Option (Nat×List (Den R.T u))
 |.lst .nil _ l=>match castL R l with
  |some l=>some (d,l)
  |none=>none
 |.lst .full _ l=>match castL R l with
  |some l=>some (d,l)
  |none=>none
 |.lst (.own t) _ l=>match castL R l with
  |some l=>some (t,l)
  |none=>none
 |.nils=>some (d,[])
 |_=>none
def isSS (t:TypeId):Bool:=match E.P.underlying t with
 |some (.slice _)=>true
 |some .string=>true
 |_=>false
def appM (d:Option Nat) (t u:TypeId) (x y:TV R.T) (st:MS R.T):Option (Res R):=
 match d with
 |some d=>match elM E R t with
  |some (_,τ,_,by_)=>bif isSS E u then (match dstM R τ d x,srcM R τ y with
   |some (tk,l),some l'=>some (.wc (roomOK (l.length+l'.length) by_) (.lst (.own tk) τ (l++l')) (st.wk tk))
   |_,_=>none) else none
  |none=>none
 |none=>none
def appOM (d:Option Nat) (t u:TypeId) (x y:TV R.T) (st:MS R.T):Option (Res R):=
 match d with
 |some d=>bif Nat.ble F0 (E.cn d) then none else match elM E R t with
  |some (_,τ,_,by_)=>bif isSS E u then (match srcM R τ y with
   |some l'=>match x with
    |.vw o τ0=>if τ0=τ then (match look st.ob o with
     |some (.arr τ' l)=>match castL R (u:=τ) l with
      |some l=>bif Nat.beq o (E.cn d) then some (.wc (roomOK (l.length+l'.length) by_) (.vw (E.cn d) τ) ((st.del o).new (E.cn d) (.arr τ (l++l')))) else (match l' with
       |a::l'=>some (.wc (roomOK (l.length+(a::l').length) by_) (.vw (E.cn d) τ) ((st.del o).new (E.cn d) (.arr τ (l++a::l'))))
       | []=>none)
      |none=>none
     |_=>none) else none
    |x=>bif isE x then some (.wc (roomOK l'.length by_) (.vw (E.cn d) τ) (st.new (E.cn d) (.arr τ l'))) else none
   |none=>none) else none
  |none=>none
 |none=>none
def mksM (om:Bool) (d:Option Nat) (t:TypeId) (n m:TV R.T) (st:MS R.T):Option (Res R):=
 match d,elM E R t,n,m with
 |some d,some (e,τ,_,by_),.int _ n,.int _ m=>match zeroM (T:=R.T) E e with
  |some z=>match unD R τ z with
   |some z=>bif om then some (.wc (decide (0<=n/\n=m/\m<=2^47)&& roomOK m.toNat by_) (.vw d τ) (st.new d (.arr τ (List.replicate n.toNat z))))
    else some (.wc (decide (n=0/\0<=m/\m<=2^47)&& roomOK m.toNat by_) (.lst (.own d) τ []) (st.wk d))
   |none=>none
  |none=>none
 |_,_,_,_=>none
def mmM {T:Nat->Type} (mx:Bool):TV T->List (TV T)->Option (TV T)
 |x,[]=>some x
 |.int k a,.int k' b::l=>if k=k' then mmM mx (.int k (bif mx then imax a b else imin a b)) l else none
 |_,_=>none
def lenM {T:Nat->Type} (t:TypeId) (x:TV T) (st:MS T):Option Nat:=
 match E.P.underlying t,x with
 |some (.slice _),.lst _ _ l=>some l.length
 |some (.slice _),.nils=>some 0
 |some (.slice _),.vw o _=>match rdOb st o with
  |some (.arr _ l)=>some l.length
  |_=>none
 |some (.slice _),.sub _ _ a b=>some (b-a).toNat
 |some .string,.str s=>some s.length
 |some (.map _ _),.mapr o=>match rdOb st o with
  |some (.map _ _ m)=>some m.length
  |_=>none
 |some (.map _ _),.mapc _ _ m=>some m.length
 |some (.map _ _),.nilm=>some 0
 |some (.array n _),_=>some n
 |_,_=>none
def clrL {α:Type} (l:List α) (a b:Int) (z:α):List α:=l.take a.toNat++(List.replicate (b-a).toNat z++l.drop b.toNat)
def clrM (t:TypeId) (x:TV R.T) (st:MS R.T):Option (Res R):=
 match asW st x,elM E R t with
 |some (o,τ,a,b),some (e,τ',_,_)=>if τ'=τ then (match look st.ob o,zeroM (T:=R.T) E e with
  |some (.arr τ2 l),some z=>match castL R (u:=τ) l,unD R τ z with
   |some l,some z'=>bif oneMs z.cells&& notG z then some (.w .undef (st.set o (.arr τ (clrL l a b z')))) else none
   |_,_=>none
  |_,_=>none) else none
 |_,_=>none
def blt (om:Bool) (d:Option Nat) (b:Builtin) (tys:Array TypeId) (args:List (TV R.T)) (st:MS R.T):Option (Res R):=
 match b,args with
 |.len,[x]=>match tys[0]? with
  |some t=>match lenM E t x st with
   |some n=>some (.t (.int .i64 ((n:Nat):Int)))
   |none=>none
  |none=>none
 |.append,[x,y]=>match tys[0]?,tys[1]? with
  |some t,some u=>bif om then appOM E R d t u x y st else appM E R d t u x y st
  |_,_=>none
 |.clear,[x]=>match tys[0]? with
  |some t=>clrM E R t x st
  |none=>none
 |.min,x::l=>match mmM false x l with
  |some v=>some (.t v)
  |none=>none
 |.max,x::l=>match mmM true x l with
  |some v=>some (.t v)
  |none=>none
 |_,_=>none
def retT:List (TV R.T)->TV R.T
 | [v]=>v
 |vs=>.tup vs
def findF (args cargs:List (TV R.T)):List (FR R)->Option (Res R)
 | []=>none
 |r::l=>match pkL R r.args cargs with
  |some p=>bif cSkL r.args&& Nat.ble (depL r.args) 18&& cSkL r.res&& (clVs args||flatSk r.res) then some (.p (PayL R.T r.res) r.d (r.F p) fun x=>retT R (upL R .sh r.res x)) else none
  |none=>findF args cargs l
def iaM (t:TypeId) (x i:TV R.T):Option (Res R):=
 match E.P.underlying t,x,i with
 |some (.slice e),.lst _ u l,.int _ n=>match szT E.P e with
  |some sz=>bif Nat.beq sz (szD R u) then some (.p (Den R.T u) (dfl R u) (idxL l n) fun y=>.cref (tvD R .sh u y).cells 0) else none
  |none=>none
 |some (.array n e),.ref o off,.int _ k=>match szT E.P e with
  |some sz=>some (.c (decide (0<=k/\k<n)) (.ref o (off+k.toNat*sz)))
  |none=>none
 |some (.array n e),.cref cs off,.int _ k=>match szT E.P e with
  |some sz=>some (.c (decide (0<=k/\k<n)) (.cref cs (off+k.toNat*sz)))
  |none=>none
 |_,_,_=>none
def ivM (t:TypeId) (o:Nat) (τ:Ty) (i:TV R.T) (st:MS R.T):Option (Res R):=
 match E.P.underlying t,i with
 |some (.slice e),.int _ n=>match szT E.P e with
  |some sz=>bif Nat.beq sz (szD R τ) then (match rdOb st o with
   |some (.arr _ l)=>some (.c (decide (0<=n/\n< ((l.length:Nat):Int))) (.eref o τ n 0))
   |_=>none) else none
  |none=>none
 |_,_=>none
def isM (t:TypeId) (o:Nat) (τ:Ty) (a b:Int) (i:TV R.T):Option (Res R):=
 match E.P.underlying t,i with
 |some (.slice e),.int _ n=>match szT E.P e with
  |some sz=>bif Nat.beq sz (szD R τ) then some (.c (inJ n (b-a)) (.eref o τ (a+n) 0)) else none
  |none=>none
 |_,_=>none
def getTV {T:Nat->Type}:Option (TV T)->TV T
 |some v=>v
 |none=>.gone
def elLd (t:TypeId) (τ:Ty) (i:Int) (off:Nat) (o:Ob R.T):Option (Res R):=
 match o with
 |.arr τ' l=>match castL R (u:=τ) l with
  |some l=>bif (ldM E t (tvD R .any τ (dfl R τ)).cells off).isSome then some (.p (Den R.T τ) (dfl R τ) (idxL l i) fun y=>getTV (ldM E t (tvD R .any τ y).cells off)) else none
  |none=>none
 |_=>none
def unC (τ:Ty) (cs:List (TV R.T)):Option (Den R.T τ):=match τ with
 |.st n=>unSt R n (.agg cs)
 |.int k=>un1 R (.int k) (hd1 R cs)
 |.bool=>un1 R .bool (hd1 R cs)
 |.str=>un1 R .str (hd1 R cs)
 |.slice t=>un1 R (.slice t) (hd1 R cs)
def ixM (t:TypeId) (x i:TV R.T):Option (Res R):=
 match E.P.underlying t,x,i with
 |some .string,.str s,.int _ n=>some (.p UInt8 0 (idxL s n) fun b=>.int .u8 ((b.toNat:Nat):Int))
 |_,_,_=>none
def muxM {T:Nat->Type} (c:Bool):TV T->TV T->Option (TV T)
 |.int k a,.int k' b=>if k=k' then some (.int k (bif c then a else b)) else none
 |.bool a,.bool b=>some (.bool (bif c then a else b))
 |.bool a,.blit b=>some (.bool (bif c then a else b))
 |.blit a,.bool b=>some (.bool (bif c then a else b))
 |.blit a,.blit b=>some (.bool (bif c then a else b))
 |.str a,.str b=>some (.str (bif c then a else b))
 |_,_=>none
def skOf (P:Program):Nat->TypeId->Option (List SgK)
 |0,_=>none
 |n+1,t=>match P.underlying t with
  |some (.int k)=>some [.i k]
  |some (.array m e)=>match P.underlying e with
   |some (.int k)=>some [.a k m]
   |_=>none
  |some (.struct fs)=>fs.toList.foldr (fun f acc=>match skOf P n f.type,acc with
   |some a,some b=>some (a++b)
   |_,_=>none) (some [])
  |_=>none
def hasA:List SgK->Bool
 | []=>false
 |.a _ _::_=>true
 |_::l=>hasA l
def sgT (t:TypeId):Option (List SgK):=match R.ty t with
 |some _=>none
 |none=>match skOf E.P 4 t with
  |some ks=>bif hasA ks then some ks else none
  |none=>none
def Sg.sk:Sg->SgK
 |.i k _=>.i k
 |.a k n _=>.a k n
def zeroG:SgK->Sg
 |.i k=>.i k 0
 |.a k n=>.a k n (Vec.rep n 0)
def allZ {T:Nat->Type} (k:IntKind):List (TV T)->Bool
 | []=>true
 |.int k' x::l=>(if k'=k then (if x=0 then true else false) else false)&& allZ k l
 |_=>false
def zerosG {T:Nat->Type}:List SgK->List (TV T)->Bool
 | [],[]=>true
 |.i k::l,v::vs=>allZ k [v]&& zerosG l vs
 |.a k n::l,vs=>Nat.ble n vs.length&& allZ k (vs.take n)&& zerosG l (vs.drop n)
 |_,_=>false
def cutG {T:Nat->Type}:List SgK->List (TV T)->Option (List Sg)
 | [],[]=>some []
 |.i k::l,.int k' x::vs=>if k'=k then (match cutG l vs with
  |some r=>some (.i k x::r)
  |none=>none) else none
 |.a k n::l,vs=>match unIs k (vs.take n) with
  |some xs=>bif Nat.beq xs.length n then (match cutG l (vs.drop n) with
   |some r=>some (.a k n (Vec.lit n xs)::r)
   |none=>none) else none
  |none=>none
 |_,_=>none
def exG {T:Nat->Type}:List Sg->List (TV T)
 | []=>[]
 |.i k x::l=>.int k x::exG l
 |.a k n v::l=>(List.range n).map (fun j=>TV.int k (v.nth j))++exG l
def skEq:List SgK->List SgK->Bool
 | [],[]=>true
 |.i k::l,.i k'::l'=>(if k=k' then true else false)&& skEq l l'
 |.a k n::l,.a k' n'::l'=>(if k=k' then true else false)&& Nat.beq n n'&& skEq l l'
 |_,_=>false
def coG {T:Nat->Type} (ks:List SgK):TV T->Option (List Sg)
 |.sg ss=>bif skEq ks (ss.map Sg.sk) then some ss else none
 |.agg cs=>cutG ks cs
 |.int k x=>match ks with
  | [.i k']=>if k'=k then some [.i k x] else none
  |_=>none
 |_=>none
def ldG (t:TypeId) (ss:List Sg) (off:Nat):Option (TV R.T):=
 match splitG ss off,szT E.P t,isAggT E.P t with
 |some (_,rest),some sz,some ag=>match splitG rest sz with
  |some (mid,_)=>bif ag then (match R.ty t with
   |none=>some (.sg mid)
   |some _=>some (.agg (exG mid))) else (match mid with
   | [.i k x]=>some (.int k x)
   |_=>none)
  |none=>none
 |_,_,_=>none
def slG (t:TypeId) (k:IntKind) (m:Nat) (n:Nat) (v:Vec n) (i:Int):Option (TV R.T):=
 match arrT E.P t,szT E.P t,isAggT E.P t with
 |some (m',e),some sz,some true=>bif Nat.beq m' m&& Nat.beq sz m then (match R.ty t with
  |none=>some (.sg [.a k m (v.slc i m)])
  |some _=>some (.agg ((List.range m).map fun j=>.int k (v.nth (i.toNat+j))))) else none
 |_,_,_=>none
def elG (t:TypeId):Bool:=match szT E.P t,isAggT E.P t with
 |some sz,some ag=>Nat.beq sz 1&& !ag
 |_,_=>false
def eqVs (k:IntKind):List V->List Int->Bool
 | [],[]=>true
 |.int k' x::l,y::m=>(if k'=k then (if x=y then true else false) else false)&& eqVs k l m
 |_,_=>false
def glG (g:Nat) (t:TypeId):Option ((k:IntKind)×(n:Nat)×Vec n):=
 match E.glob g,R.gl g,arrT E.P t,szT E.P t,isAggT E.P t with
 |some cs,some ⟨k,n,v⟩,some (m,e),some sz,some ag=>bif ag&& Nat.beq m n&& Nat.beq sz n&& elG E e&& eqVs k cs v.l then some ⟨k,n,v⟩ else none
 |_,_,_,_,_=>none
def inN (i:Int) (n:Nat):Bool:=decide (0<=i/\i<n)
def svB (n:Nat):Option Int->Option Int->Bool
 |none,none=>true
 |some i,none=>decide (0<=i/\(i<n\/i=0))
 |none,some j=>decide (0<=j/\j<=n)
 |some i,some j=>decide (0<=i/\i<=j/\j<=n/\(i<j\/i=0))
def loI:Option Int->Int
 |some i=>i
 |none=>0
def hiI (n:Nat):Option Int->Int
 |some i=>i
 |none=>n
def slicG (t:TypeId) (x:TV R.T) (lo hi:Option (TV R.T)) (st:MS R.T):Option (Res R):=
 match x,bndM R lo,bndM R hi,arrT E.P t with
 |.ref o off,some lo,some hi,some (n,e)=>bif elG E e then (match rdOb st o with
  |some (.sg ss)=>match splitG ss off with
   |some (_,.a k n' _::_)=>bif Nat.beq n' n then some (.c (svB n lo hi) (.sv o off k n lo hi)) else none
   |_=>none
  |some (.cells cs)=>match (cs.drop off) with
   |.int k _::_=>bif Nat.ble (off+n) cs.length then some (.c (svB n lo hi) (.sv o off k n lo hi)) else none
   |_=>none
  |_=>none) else none
 |.cref cs off,some none,some none,some (n,e)=>bif elG E e&& Nat.ble (off+n) cs.length then (match cs with
  |.int k _::_=>match unIs k cs with
   |some l=>some (.t (.lst .any (.int k) ((l.drop off).take n)))
   |none=>none
  |_=>none) else none
 |_,_,_,_=>none
def fullD (d:Option Nat):Bool:=match d with
 |some d=>E.own F0 d
 |none=>false
def arrI (k:IntKind) (m:Nat) (l:List Int):List (TV R.T):=(List.range m).map fun j=>.int k (l.getD j 0)
def opX (g:List (Nat×Bool)) (d:Option Nat) (o:Op) (st:MS R.T):Option (Res R):=
 match o with
 |.alloc t=>match d,sgT E R t,zeroM (T:=R.T) E t with
  |some d,some ks,some (.agg cs)=>bif zerosG ks cs then some (.w (.ref d 0) (st.new d (.sg (ks.map zeroG)))) else none
  |_,_,_=>none
 |.box t x=>bif frzB E t d then none else match d,sgT E R t,evM g st x with
  |some d,some ks,some v=>match coG ks v with
   |some ss=>some (.w (.ref d 0) (st.new d (.sg ss)))
   |none=>none
  |_,_,_=>none
 |.load t a=>match a with
  |.global gl=>match glG E R gl t with
   |some ⟨k,n,v⟩=>some (.t (.sg [.a k n v]))
   |none=>none
  |a=>match evM g st a with
   |some (.ref o off)=>match rdOb st o with
    |some (.sg ss)=>match ldG E R t ss off with
     |some v=>some (.t v)
     |none=>none
    |_=>none
   |some (.sel o off k n i m)=>match rdOb st o with
    |some (.sg ss)=>match splitG ss off with
     |some (_,.a k' n' v::_)=>if k'=k then (bif Nat.beq n' n then (bif Nat.beq m 1&& elG E t then some (.t (.int k (v.at' i))) else (match slG E R t k m n' v i with
      |some v=>some (.t v)
      |none=>none)) else none) else none
     |_=>none
    |_=>none
   |some (.gel k n v i)=>bif elG E t then some (.t (.int k (v.at' i))) else none
   |_=>none
 |.store t a x=>match evM g st a,evM g st x with
  |some (.ref o off),some v=>match look st.ob o,szT E.P t with
   |some (.sg ss),some sz=>match splitG ss off with
    |some (pre,rest)=>match splitG rest sz with
     |some (mid,post)=>match coG (mid.map Sg.sk) v with
      |some mid'=>some (.w .undef (st.set o (.sg (pre++(mid'++post)))))
      |none=>none
     |none=>none
    |none=>none
   |_,_=>none
  |some (.sel o off k n i m),some (.int k' y)=>match look st.ob o with
   |some (.sg ss)=>match splitG ss off with
    |some (pre,.a k2 n' v::post)=>if k2=k then (if k'=k then (bif Nat.beq n' n&& Nat.beq m 1&& elG E t then some (.w .undef (st.set o (.sg (pre++(.a k n' (v.set i y)::post))))) else none) else none) else none
    |_=>none
   |_=>none
  |_,_=>none
 |.indexAddr t x i=>match arrT E.P t,evM g st i with
  |some (n,e),some (.int _ i)=>bif elG E e then (match x with
   |.global gl=>match glG E R gl t with
    |some ⟨k,n,v⟩=>some (.c (inN i n) (.gel k n v i))
    |none=>none
   |x=>match evM g st x with
    |some (.ref o off)=>match rdOb st o with
     |some (.sg ss)=>match splitG ss off with
      |some (_,.a k n' _::_)=>bif Nat.beq n' n then some (.c (inN i n) (.sel o off k n i 1)) else none
      |_=>none
     |_=>none
    |_=>none) else none
  |_,_=>none
 |.index t x i=>match arrT E.P t,evM g st x,evM g st i with
  |some (n,e),some (.sg [.a k n' v]),some (.int _ i)=>bif elG E e&& Nat.beq n' n then some (.c (inN i n) (.int k (v.at' i))) else none
  |_,_,_=>none
 |.slice t x lo hi none=>match evM g st x with
  |some x=>match lo,hi with
   |none,none=>slicG E R t x none none st
   |some lo,none=>match evM g st lo with
    |some lo=>slicG E R t x (some lo) none st
    |none=>none
   |none,some hi=>match evM g st hi with
    |some hi=>slicG E R t x none (some hi) st
    |none=>none
   |some lo,some hi=>match evM g st lo,evM g st hi with
    |some lo,some hi=>slicG E R t x (some lo) (some hi) st
    |_,_=>none
  |none=>none
 |.slice t x lo (some hi) (some mx)=>match evM g st x,evM g st hi,evM g st mx,E.P.underlying t with
  |some (.lst _ u l),some (.int _ h),some (.int _ m),some (.slice e)=>match szT E.P e with
   |some sz=>bif Nat.beq sz (szD R u) then (match lo with
    |none=>bif fullD E d then some (.c (inB m l.length&& (inB h m.toNat&& (h==m))) (.lst .full u (subL l none (some h)))) else some (.c (inB m l.length&& inB h m.toNat) (.lst .any u (subL l none (some h))))
    |some lo=>match evM g st lo with
     |some (.int _ a)=>some (.c (inB m l.length&& (inB h m.toNat&& inB a h.toNat)) (.lst .any u (subL l (some a) (some h))))
     |_=>none) else none
   |none=>none
  |_,_,_,_=>none
 |.convert a b x=>match evM g st x with
  |some (.sv o off k n lo hi)=>match E.P.underlying a,E.P.underlying b with
   |some (.slice e),some .string=>match E.P.underlying e,k with
    |some (.int .u8),.u8=>match svL st o off .u8 n lo hi with
     |some l=>some (.t (.str (List.map (fun n:Int=>UInt8.ofNat n.toNat) l)))
     |none=>none
    |_,_=>none
   |_,_=>none
  |_=>none
 |.sliceToArrayPointer t x=>match arrT E.P t,evM g st x with
  |some (m,e),some (.sv o off k n lo hi)=>some (.c (decide (0<m/\m<=hiI n hi-loI lo)) (.sel o off k n (loI lo) m))
  |some (m,_),some (.lst _ (.int k) l)=>some (.c (decide (0<m/\m<=l.length)) (.cref (arrI R k m l) 0))
  |_,_=>none
 |.call c=>match c.callee,evMs g st c.args.toList with
  |.builtin .copy,some [.sv o off k n lo hi,y]=>match c.argTypes[0]? with
   |some t=>match elemT E.P t with
    |some e=>bif elG E e then (match srcM R (.int k) y,look st.ob o with
     |some l,some (.sg ss)=>match splitG ss off with
      |some (pre,.a k' n' v::post)=>if k'=k then (bif Nat.beq n' n then
        some (.w (.int .i64 (((l.take (hiI n hi-loI lo).toNat).length:Nat):Int)) (st.set o (.sg (pre++(.a k n' (v.cpy (loI lo) (l.take (hiI n hi-loI lo).toNat))::post))))) else none) else none
      |_=>none
     |_,_=>none) else none
    |none=>none
   |none=>none
  |_,_=>none
 |_=>none
def opO (om:Bool) (F:Nat->List (FR R)) (g:List (Nat×Bool)) (d:Option Nat) (o:Op) (st:MS R.T):Option (Res R):=
 match o with
 |.move x=>bif fzM E d then (match evM g st x with
  |some (.vw p t)=>match look st.ob p with
   |some (.arr t' l)=>match castL R (u:=t) l with
    |some l=>some (.w (.lst .any t l) (st.del p))
    |none=>none
   |_=>none
  |some (.int k n)=>some (.t (.int k n))
  |_=>none) else (match evM g st x with
  |some v=>some (.t v)
  |none=>none)
 |.assign x=>match evM g st x with
  |some v=>some (.t v)
  |none=>none
 |.pick c a b=>match c with
  |.tmp j=>match evM g st c with
   |some (.bool t)=>match evM ((j,true)::g) st a,evM ((j,false)::g) st b with
    |some x,some y=>match muxM t x y with
     |some v=>some (.t v)
     |none=>none
    |_,_=>none
   |some (.blit t)=>match evM g st (bif t then a else b) with
    |some v=>some (.t v)
    |none=>none
   |_=>none
  |_=>none
 |.alloc t=>match d,zeroM E t with
  |some d,some z=>bif oneMs z.cells&& !(mentL d z.cells) then some (.w (.ref d 0) (st.new d (.cells z.cells))) else none
  |_,_=>none
 |.box t x=>bif frzB E t d then (match evM g st x with
  |some v=>bif stV (erM v)&& notG v then some (.t (.cref (erM v).cells 0)) else none
  |none=>none) else match d,evM g st x with
  |some d,some v=>bif oneMs v.cells&& notG v&& !(mentL d v.cells) then some (.w (.ref d 0) (st.new d (.cells v.cells))) else none
  |_,_=>none
 |.build t parts=>match partsT E t,zeroM (T:=R.T) E t,evPs g st parts.toList with
  |some pl,some z,some ps=>match fillM pl z.cells ps with
   |some cs=>some (.t (.agg cs))
   |none=>none
  |_,_,_=>none
 |.buildSlice t len parts=>match evPs g st parts.toList with
  |some ps=>bif bsM E d then bslO E R d t len ps st else bslM E R t len ps
  |none=>none
 |.load t a=>match evM g st a with
  |some (.ref o off)=>match rdOb st o with
   |some (.cells cs)=>match ldM E t cs off with
    |some v=>some (.t v)
    |none=>none
   |_=>none
  |some (.cref cs off)=>match ldM E t cs off with
   |some v=>some (.t v)
   |none=>none
  |some (.eref o τ i off)=>match rdOb st o with
   |some b=>elLd E R t τ i off b
   |none=>none
  |_=>none
 |.store t a x=>match evM g st a,evM g st x with
  |some (.ref o off),some v=>match look st.ob o,szT E.P t with
   |some (.cells cs),some sz=>bif Nat.beq v.cells.length sz&& Nat.ble (off+v.cells.length) cs.length&& oneMs v.cells&& notG v then
     some (.w .undef (st.set o (.cells (spliceM cs off v.cells)))) else none
   |_,_=>none
  |_,_=>none
 |.nilCheck x=>match evM g st x with
  |some (.ref o off)=>some (.t (.ref o off))
  |some (.cref cs off)=>some (.t (.cref cs off))
  |some (.eref o τ i off)=>some (.t (.eref o τ i off))
  |some (.fn f a b)=>some (.t (.fn f a b))
  |_=>none
 |.binOp op t x y _=>match evM g st x,evM g st y with
  |some x,some y=>binM E R op t x y
  |_,_=>none
 |.unOp op _ x=>match evM g st x with
  |some x=>unM R op x
  |none=>none
 |.convert a b x=>match evM g st x with
  |some x=>convM E R a b x
  |none=>none
 |.makeFunc (.func f) a b=>match evMs g st a.toList,evMs g st b.toList with
  |some a,some b=>some (.t (.fn f a b))
  |_,_=>none
 |.makeMap t none=>match d,mapT E.P t with
  |some d,some (k,e)=>match R.ty k,R.ty e with
   |some k,some e=>some (.w (.mapr d) (st.new d (.map k e [])))
   |_,_=>some (.w (.mapr d) (st.new d (.smap [] [])))
  |_,_=>none
 |.makeSlice t l c=>match evM g st l,evM g st c with
  |some n,some m=>mksM E R om d t n m st
  |_,_=>none
 |.slice t x lo hi none=>match evM g st x with
  |some x=>match lo,hi with
   |none,none=>sliceX E R t x none none st
   |some lo,none=>match evM g st lo with
    |some lo=>sliceX E R t x (some lo) none st
    |none=>none
   |none,some hi=>match evM g st hi with
    |some hi=>sliceX E R t x none (some hi) st
    |none=>none
   |some lo,some hi=>match evM g st lo,evM g st hi with
    |some lo,some hi=>sliceX E R t x (some lo) (some hi) st
    |_,_=>none
  |none=>none
 |.fieldAddr t x f=>match evM g st x with
  |some x=>match fieldsM E t f x with
   |some v=>some (.t v)
   |none=>none
  |none=>none
 |.field t x f=>match fieldT E.P t f,evM g st x with
  |some (o,u),some (.agg cs)=>match ldM E u cs o with
   |some v=>some (.t v)
   |none=>none
  |_,_=>none
 |.indexAddr t x i=>match evM g st x,evM g st i with
  |some (.vw o τ),some i=>ivM E R t o τ i st
  |some (.sub o τ a b),some i=>isM E R t o τ a b i
  |some x,some i=>iaM E R t x i
  |_,_=>none
 |.index t x i=>match evM g st x,evM g st i with
  |some x,some i=>ixM E R t x i
  |_,_=>none
 |.lookup t x i ok=>match evM g st x,evM g st i with
  |some x,some i=>lookupM E R t x i ok st
  |_,_=>none
 |.mapUpdate t m k v=>match evM g st m,evM g st k,evM g st v with
  |some m,some k,some v=>updateM E R t m k v st
  |_,_,_=>none
 |.insert t m k v=>match evM g st m,evM g st k,evM g st v with
  |some m,some k,some v=>updateM E R t m k v st
  |_,_,_=>none
 |.extract x i=>match evM g st x with
  |some (.tup vs)=>match vs[i]? with
   |some v=>some (.t v)
   |none=>none
  |_=>none
 |.call c=>match c.callee with
  |.builtin b=>match evMs g st c.args.toList with
   |some vs=>blt E R om d b c.argTypes vs st
   |none=>none
  |.value f=>match evM g st f,evMs g st c.args.toList with
   |some (.fn f a b),some vs=>bif E.imp f then none else findF R (a++vs++b) (cloMs st (a++vs++b)) (F f)
   |_,_=>none
  |_=>none
 |_=>none
def opM (om:Bool) (F:Nat->List (FR R)) (g:List (Nat×Bool)) (d:Option Nat) (o:Op) (st:MS R.T):Option (Res R):=
 match opX E R g d o st with
 |some r=>some r
 |none=>opO E R om F g d o st
inductive Gd where
 |no
 |run
 |skip
 |dyn (j:Nat) (w:Bool) (c:Bool) (g:List (Nat×Bool))
def eqw (b w:Bool):Bool:=bif w then b else !b
def andB (a b:Bool):Bool:=bif a then b else false
def effM {T:Nat->Type} (st:MS T):Nat->Nat->Bool->Option (Bool×List (Nat×Bool))
 |0,_,_=>none
 |n+1,j,w=>match look st.fr j with
  |some (.bool b)=>some (eqw b w,[(j,w)])
  |some (.opt i u (.bool b))=>match effM st n i u with
   |some (c,g)=>some (andB c (eqw b w),(j,w)::g)
   |none=>none
  |some (.opt i u (.blit b))=>match effM st n i u with
   |some (c,g)=>some (andB c (eqw b w),(j,w)::g)
   |none=>none
  |_=>none
def guardM {T:Nat->Type} (all:List Oper) (st:MS T) (o:Oper):Gd:=
 match o.guard with
 |none=>.run
 |some (j,w)=>match all[j]? with
  |some p=>match p.dst with
   |some t=>match look st.fr t with
    |some (.blit b)=>bif b==w then .run else .skip
    |some .undef=>.skip
    |_=>match effM st 12 t w with
     |some (c,g)=>.dyn t w c g
     |none=>.no
   |none=>.skip
  |none=>.skip
def MS.learnG {T:Nat->Type} (st:MS T):List (Nat×Bool)->MS T
 | []=>st
 | (j,w)::g=>(st.learnG g).learn j w
def MS.learnN {T:Nat->Type} (st:MS T):List (Nat×Bool)->MS T
 | [(j,w)]=>st.learn j (!w)
 |_=>st
def whenO {α:Type} (c:Bool) (o:Option α) (d:α):Option α:=bif c then o else some d
def lookSM (st:MS R.T) (t:TypeId) (m x:Operand):Option (List (TV R.T)×List (TV R.T)×TV R.T×TV R.T):=
 match evM [] st m with
 |some (.mapr o)=>match rdOb st o with
  |some (.smap ks vs)=>match evM [] st x,mapT E.P t with
   |some x,some (kt,et)=>match zeroM (T:=R.T) E et with
    |some z=>bif keyS E kt x then some (ks,vs,x,z) else none
    |none=>none
   |_,_=>none
  |_=>none
 |_=>none
def lookS {T:Nat->Type} {β:Type} (x:TV T):List (TV T)->List (TV T)->TV T->(TV T->Bool->Option β)->Option β
 | [],[],z,k=>k z false
 |a::ks,v::vs,z,k=>match eqKM x a with
  |some b=>bif b then k v true else lookS x ks vs z k
  |none=>none
 |_,_,_,_=>none
section
variable (om:Bool) {β:Type} (F:Nat->List (FR R))
def elSt (t:TypeId) (a x:Operand) (st:MS R.T):Option ((τ:Ty)×Nat×Int×Nat×List (Den R.T τ)×TV R.T):=
 match evM [] st a,evM [] st x with
 |some (.eref o τ i off),some v=>match look st.ob o,szT E.P t with
  |some (.arr τ' l),some sz=>match castL R (u:=τ) l with
   |some l=>bif Nat.beq v.cells.length sz&& Nat.ble (off+v.cells.length) (szD R τ)&& oneMs v.cells&& notG v then some ⟨τ,o,i,off,l,v⟩ else none
   |none=>none
  |_,_=>none
 |_,_=>none
def setL {α:Type} (l:List α) (i:Int) (y:α):List α:=l.set i.toNat y
def runM (o:Oper) (st:MS R.T) (k:MS R.T->Option β):Option β:=
 match o.op with
 |.pick c a b=>match evM [] st c with
  |some (.blit t)=>match evM [] st (bif t then a else b) with
   |some v=>k (st.putO o.dst v)
   |none=>none
  |some (.bool t)=>match c with
   |.tmp j=>match evM [(j,true)] st a,evM [(j,false)] st b with
    |some x,some y=>match muxM t x y with
     |some v=>k (st.putO o.dst v)
     |none=>bif t then k ((st.learn j true).putO o.dst x) else k ((st.learn j false).putO o.dst y)
    |_,_=>none
   |_=>none
  |_=>none
 |.store t a x=>match elSt E R t a x st with
  |some ⟨τ,p,i,off,l,v⟩=>(idxL l i).bind fun y=>match unC R τ (spliceM (tvD R .any τ y).cells off v.cells) with
   |some y'=>k ((st.set p (.arr τ (setL l i y'))).putO o.dst .undef)
   |none=>none
  |none=>match opM E R om F [] o.dst (.store t a x) st with
   |some (.w v st')=>k (st'.putO o.dst v)
   |_=>none
 |.lookup t m x ok=>match lookSM E R st t m x with
  |some (ks,vs,x,z)=>lookS x ks vs z fun v b=>k (st.putO o.dst (bif ok then .tup [v,.blit b] else v))
  |none=>match opM E R om F [] o.dst (.lookup t m x ok) st with
   |some (.t v)=>k (st.putO o.dst v)
   |_=>none
 |op=>match opM E R om F [] o.dst op st with
  |some (.t v)=>k (st.putO o.dst v)
  |some (.c b v)=>bif b then k (st.putO o.dst v) else none
  |some (.w v st')=>k (st'.putO o.dst v)
  |some (.wc b v st')=>bif b then k (st'.putO o.dst v) else none
  |some (.p _ _ x f)=>x.bind fun a=>k (st.putO o.dst (f a))
  |none=>none
def impB (b c:Bool):Bool:=bif b then c else true
def dynM (o:Oper) (j:Nat) (w c:Bool) (g:List (Nat×Bool)) (st:MS R.T) (k:MS R.T->Option β):Option β:=
 match o.dst with
 |some d=>match (bif memN d (g.map (·.1)) then none else opM E R om F g o.dst o.op st) with
  |some (.t v)=>k (st.put d (.opt j w v))
  |some (.c b v)=>bif impB c b then k (st.put d (.opt j w v)) else none
  |some (.p _ z x f)=>(whenO c x z).bind fun a=>k (st.put d (.opt j w (f a)))
  |_=>bif c then runM E R om F o (st.learnG g) k else k ((st.learnN g).putO o.dst .undef)
 |none=>bif c then runM E R om F o (st.learnG g) k else k ((st.learnN g).putO o.dst .undef)
def isOwnM {T:Nat->Type} (st:MS T) (o:Oper):Bool:=match o.op with
 |.call c=>match c.callee with
  |.value f=>match evM [] st f with
   |some (.fn g _ _)=>match o.dst with
    |some d=>E.own g d
    |none=>false
   |_=>true
  |_=>false
 |_=>false
def nilSk:List Sk->Bool
 |.nils::k::l=>cSkL (k::l)
 |_=>false
def findO (args cargs:List (TV R.T)):List (FR R)->Option ((τ:Ty)×Option (List (Den R.T τ)))
 | []=>none
 | ⟨as,[.d (.slice τ)],G,_,true⟩::l=>match pkL R as cargs with
   |some p=>bif (cSkL as||nilSk as)&& Nat.ble (depL as) 18&& clVs args then some ⟨τ,G p⟩ else none
   |none=>findO args cargs l
 |_::l=>findO args cargs l
def ownM (o:Oper) (st:MS R.T) (k:MS R.T->Option β):Option β:=match o.op,o.dst with
 |.call c,some d=>match c.callee with
  |.value f=>match evM [] st f,evMs [] st c.args.toList with
   |some (.fn g a b),some vs=>match findO R (a++vs++b) (cloMs st (a++vs++b)) (F g) with
    |some ⟨τ,x⟩=>x.bind fun l=>k ((st.wk d).put d (.lst (.own d) τ l))
    |none=>none
   |_,_=>none
  |_=>none
 |_,_=>none
def addId (o:Nat) (l:List Nat):List Nat:=bif memN o l then l else l++[o]
mutual
def idsV {T:Nat->Type}:TV T->List Nat->List Nat
 |.ref o _,l=>addId o l
 |.mapr o,l=>addId o l
 |.vw o _,l=>addId o l
 |.sub o _ _ _,l=>addId o l
 |.eref o _ _ _,l=>addId o l
 |.sv o _ _ _ _ _,l=>addId o l
 |.sel o _ _ _ _ _,l=>addId o l
 |.agg cs,l=>idsL cs l
 |.tup cs,l=>idsL cs l
 |.cref cs _,l=>idsL cs l
 |.fn _ a b,l=>idsL b (idsL a l)
 |_,l=>l
def idsL {T:Nat->Type}:List (TV T)->List Nat->List Nat
 | [],l=>l
 |v::vs,l=>idsL vs (idsV v l)
end
mutual
def renV {T:Nat->Type} (m:List (Nat×Nat)):TV T->TV T
 |.ref o off=>match look m o with
  |some p=>.ref p off
  |none=>.gone
 |.mapr o=>match look m o with
  |some p=>.mapr p
  |none=>.gone
 |.vw o t=>match look m o with
  |some p=>.vw p t
  |none=>.gone
 |.sub o t a b=>match look m o with
  |some p=>.sub p t a b
  |none=>.gone
 |.eref o t i off=>match look m o with
  |some p=>.eref p t i off
  |none=>.gone
 |.sv o off k n lo hi=>match look m o with
  |some p=>.sv p off k n lo hi
  |none=>.gone
 |.sel o off k n i j=>match look m o with
  |some p=>.sel p off k n i j
  |none=>.gone
 |.lst c t l=>match c with
  |.own _=>.lst .any t l
  |c=>.lst c t l
 |.agg cs=>.agg (renL m cs)
 |.tup cs=>.tup (renL m cs)
 |.cref cs off=>.cref (renL m cs) off
 |.fn f a b=>.fn f (renL m a) (renL m b)
 |v=>v
def renL {T:Nat->Type} (m:List (Nat×Nat)):List (TV T)->List (TV T)
 | []=>[]
 |v::vs=>renV m v::renL m vs
end
def numL:List Nat->Nat->List (Nat×Nat)
 | [],_=>[]
 |o::l,n=>(o,n)::numL l (n+1)
def ndB:List Nat->Bool
 | []=>true
 |o::l=>!(memN o l)&& ndB l
def mobs {T:Nat->Type} (st:MS T):List (Nat×Nat)->List (Nat×Ob T)
 | []=>[]
 | (o,p)::m=>match look st.ob o with
   |some x=>(p,x)::mobs st m
   |none=>mobs st m
def bobs {T:Nat->Type}:List (Nat×Nat)->List (Nat×Ob T)->List (Nat×Ob T)
 | [],_=>[]
 | (o,p)::m,l=>match look l p with
   |some y=>(o,y)::bobs m l
   |none=>bobs m l
def eqKs:List (Nat×Nat)->List (Nat×ObSk)->Bool
 | [],[]=>true
 | (_,p)::m,(q,_)::l=>Nat.beq p q&& eqKs m l
 |_,_=>false
def scS:List Sk->Bool
 | []=>true
 |.d (.int _)::l=>scS l
 |.d .bool::l=>scS l
 |.d .str::l=>scS l
 |.sub p _::l=>Nat.ble F0 p&& scS l
 |_=>false
mutual
def dS1:Sk->Bool
 |.d _=>true
 |.cref l _=>dSk l
 |.fn _ a b=>dSk a&& dSk b
 |_=>false
def dSk:List Sk->Bool
 | []=>true
 |k::l=>dS1 k&& dSk l
end
def okO:ObSk->Bool
 |.cells l=>dSk l
 |_=>true
def okOs:List (Nat×ObSk)->Bool
 | []=>true
 | (_,k)::l=>okO k&& okOs l
def findM (m:List (Nat×Nat)) (A:List (TV R.T)) (B:List (Nat×Ob R.T)):List (FM R)->Option ((r:FM R)×Option (PayL R.T r.res×PayOs R.T r.obs))
 | []=>none
 |r::l=>match pkL R r.args A,pkOs R B r.obs with
  |some p,some q=>bif eqKs m r.obs&& (scS r.res&& okOs r.obs) then some ⟨r,r.F p q⟩ else none
  |_,_=>findM m A B l
def invL:List (Nat×Nat)->List (Nat×Nat)
 | []=>[]
 | (o,p)::l=>(p,o)::invL l
def retW {T:Nat->Type}:List (TV T)->TV T
 | [v]=>v
 |vs=>.tup vs
def isImpM {T:Nat->Type} (st:MS T) (o:Oper):Bool:=match o.op with
 |.call c=>match c.callee with
  |.value f=>match evM [] st f with
   |some (.fn g _ _)=>E.imp g
   |_=>false
  |_=>false
 |_=>false
def nrOp (o:Oper):Bool:=match o.op with
 |.call c=>match c.callee with
  |.value (.func g)=>!(E.imp g)
  |.value _=>false
  |_=>true
 |_=>true
def refS:Sk->Bool
 |.ref _ _=>true
 |_=>false
def capF:Sk->Cp
 |.fn _ _ _=>.sh
 |_=>.any
def upFL:(l:List Sk)->PayL R.T l->List (TV R.T)
 | [],_=>[]
 | [k],x=>[up R (capF k) k x]
 |k::h::l,p=>up R (capF k) k p.1::upFL (h::l) p.2
def okV {T:Nat->Type} (k:Sk) (v:TV T):Bool:=refS k||(cSk k&& stV v&& Nat.ble (dep k) 18)
def okVs {T:Nat->Type}:List Sk->List (TV T)->Bool
 | [],[]=>true
 |k::l,v::vs=>okV k v&& okVs l vs
 |_,_=>false
def chkF1 {T:Nat->Type} (k:Sk) (v:TV T):Bool:=match k with
 |.fn _ a b=>match v with
  |.fn _ a' b'=>okVs a a'&& okVs b b'
  |_=>false
 |_=>true
def chkF {T:Nat->Type}:List Sk->List (TV T)->Bool
 | [],_=>true
 |_::_,[]=>false
 |k::l,v::vs=>chkF1 k v&& chkF l vs
def findN (m:List (Nat×Nat)) (A:List (TV R.T)) (B:List (Nat×Ob R.T)):List (FM R)->Option ((r:FM R)×Option (PayN R.T r.nk×PayOs R.T r.ob2))
 | []=>none
 |r::l=>match pkL R r.args A,pkOs R B r.obs with
  |some p,some q=>bif r.nk.is&& (eqKs m r.obs&& okOs r.obs&& okOs r.ob2)&& chkF r.args A then some ⟨r,r.G p q⟩ else findN m A B l
  |_,_=>findN m A B l
def delL {α:Type}:List Nat->List (Nat×α)->List (Nat×α)
 | [],l=>l
 |i::is,l=>delL is (delF i l)
def newM (d d':Nat):(k:NK)->PayN R.T k->MS R.T->(MS R.T->Option β)->Option β
 |.no,_,_,_=>none
 |.arr t,l,st,k=>k ((st.new d' (.arr t l)).put d (.vw d' t))
 |.fnc g a b cs,(x,y,z),st,k=>bif mentL d' (upL R .any cs z) then none else k ((st.new d' (.cells (upL R .any cs z))).put d (.fn g (upL R .sh a x) (.ref d' 0::upL R .sh b y)))
def impM (M:Nat->List (FM R)) (o:Oper) (st:MS R.T) (k:MS R.T->Option β):Option β:=match o.op with
 |.call c=>match c.callee with
  |.value f=>match evM [] st f,evMs [] st c.args.toList with
   |some (.fn g a b),some vs=>bif ndB (idsL (a++vs++b) []) then (match o.dst,findN R (numL (idsL (a++vs++b) []) F0) (renL (numL (idsL (a++vs++b) []) F0) (a++vs++b)) (mobs st (numL (idsL (a++vs++b) []) F0)) (M g) with
    |some d,some ⟨r,x⟩=>bif Nat.ble F0 (E.cn d) then none else x.bind fun y=>newM R d (E.cn d) r.nk y.1 ⟨st.fr,bobs (numL (idsL (a++vs++b) []) F0) (upOs R r.ob2 y.2)++delL (idsL (a++vs++b) []) st.ob⟩ k
    |_,_=>match findM R (numL (idsL (a++vs++b) []) F0) (renL (numL (idsL (a++vs++b) []) F0) (a++vs++b)) (mobs st (numL (idsL (a++vs++b) []) F0)) (M g) with
    |some ⟨r,x⟩=>x.bind fun y=>k (MS.putO ⟨st.fr,bobs (numL (idsL (a++vs++b) []) F0) (upOs R r.obs y.2)++st.ob⟩ o.dst (retW (renL (invL (numL (idsL (a++vs++b) []) F0)) (upL R .any r.res y.1))))
    |none=>none) else none
   |_,_=>none
  |_=>none
 |_=>none
variable (M:Nat->List (FM R))
def opsM (all:List Oper):List Oper->MS R.T->(MS R.T->Option β)->Option β
 | [],st,k=>k st
 |o::os,st,k=>match guardM all st o with
  |.run=>bif isOwnM E st o then ownM R F o st (fun st=>opsM all os st k) else (bif isImpM E st o then impM E R M o st (fun st=>opsM all os st k) else runM E R om F o st (fun st=>opsM all os st k))
  |.skip=>opsM all os (st.putO o.dst .undef) k
  |.dyn j w c g=>bif isOwnM E st o||isOwnM E (st.learnG g) o then none else (bif isImpM E (st.learnG g) o then (bif c then impM E R M o (st.learnG g) (fun st=>opsM all os st k) else opsM all os ((st.learnN g).putO o.dst .undef) k) else dynM E R om F o j w c g st (fun st=>opsM all os st k))
  |.no=>none
def refKM {T:Nat->Type}:TV T->List Key
 |.ref o _=>[.obj (1,o)]
 |.mapr o=>[.obj (1,o)]
 |.eref o _ _ _=>[.obj (1,o)]
 |.sv o _ _ _ _ _=>[.obj (1,o)]
 |.sel o _ _ _ _ _=>[.obj (1,o)]
 |_=>[]
def rkM {T:Nat->Type} (st:MS T) (x:Operand):List Key:=match evM [] st x with
 |some v=>refKM v
 |none=>[]
def dstKM (o:Oper):List Key:=match o.dst with
 |some t=>[.obj (1,t)]
 |none=>[]
def anySv {T:Nat->Type}:List (TV T)->Bool
 | []=>false
 |.sv _ _ _ _ _ _::_=>true
 |.ref _ _::_=>true
 |_::l=>anySv l
def footSM (om:Bool) {T:Nat->Type} (st:MS T) (o:Oper):Foot:=
 match o.op with
 |.buildSlice .. =>bif bsM E o.dst then allF else rdF []
 |.move _|.assign _|.pick .. |.build .. |.nilCheck _|.binOp .. |.unOp .. |.makeInterface .. |.typeAssert .. |.makeFunc .. |.fieldAddr .. |.field .. |.indexAddr .. |.index .. |.extract ..
 |.sliceToArrayPointer .. =>rdF []
 |.convert _ _ x|.slice _ x _ _ _|.load _ x|.lookup _ x _ _=>rdF (rkM st x)
 |.alloc _|.box .. |.makeMap .. =>wrF (dstKM o)
 |.makeSlice .. =>wrF (.top::dstKM o)
 |.store _ a _=>wrF (rkM st a)
 |.mapUpdate _ m _ _|.insert _ m _ _=>wrF (rkM st m)
 |.call c=>match c.callee with
  |.builtin b=>match b with
   |.len|.cap|.min|.max=>rdF (c.args.toList.flatMap fun x=>rkM st x)
   |.append=>bif om then allF else ⟨false,false,c.args.toList.flatMap fun x=>rkM st x,[.top]⟩
   |_=>allF
  |.value f=>match evM [] st f with
   |some (.fn g a b)=>if E.imp g then allF else (match evMs [] st c.args.toList with
    |some vs=>if clVs (a++vs++b) then rdF [] else ⟨true,false,[],[]⟩
    |none=>allF)
   |_=>allF
  |_=>allF
 |_=>allF
def footM (om:Bool) {T:Nat->Type} (all:List Oper) (st:MS T) (o:Oper) (wanted:Bool):Foot:=
 if wanted then let f:=footSM E om st o;⟨f.tAll,f.wAll,slotsT all o++f.t,slotsW o++f.w⟩
 else ⟨false,false,slotsT all o,slotsW o⟩
def notV {T:Nat->Type}:TV T->Bool
 |.gone=>false
 |.opt _ _ _=>false
 |.vw _ _=>false
 |.sub _ _ _ _=>false
 |_=>true
def drOK (om:Bool) {T:Nat->Type} (st:MS T) (o:Oper):Bool:= !(isOwnM E st o)&&
 match o.op with
 |.call c=>match c.callee with
  |.value f=>match evM [] st f,evMs [] st c.args.toList with
   |some (.fn _ a b),some vs=>clVs (a++vs++b)||anySv (a++vs++b)
   |_,_=>false
  |.builtin b=>(match b with
   |.append=>om
   |_=>false)||match evMs [] st c.args.toList with
   |some vs=>vs.all notV
   |none=>false
  |_=>true
 |.move _=>!(fzM E o.dst)
 |.slice _ x _ _ _=>match evM [] st x with
  |some v=>(asW st v).isNone
  |none=>false
 |_=>true
def Key.nm:Key->Key
 |.obj l=>.obj (1,l.2)
 |k=>k
def Foot.nm (f:Foot):Foot:=⟨f.tAll,f.wAll,f.t.map Key.nm,f.w.map Key.nm⟩
def ownFt (all:List Oper) (o:Oper):Foot:=⟨false,false,slotsT all o++[],slotsW o++[.top]⟩
def opsDM (ms:List Nat) (all:List Oper):List Oper->MS R.T->List Foot->(MS R.T->Option β)->Option β
 | [],st,fs,k=>bif pairsOK ms (fs.map Foot.nm) then k st else none
 |o::os,st,fs,k=>match guardM all st o with
  |.run=>bif isImpM E st o then (bif isOwnM E st o then none else impM E R M o st (fun st'=>opsDM ms all os st' (fs++[footM E om all st o true]) k)) else bif isOwnM E st o then ownM R F o st (fun st'=>opsDM ms all os st' (fs++[ownFt all o]) k) else bif !(drOK E om st o) then none else runM E R om F o st (fun st'=>opsDM ms all os st' (fs++[footM E om all st o true]) k)
  |.skip=>opsDM ms all os (st.putO o.dst .undef) (fs++[footM E om all st o false]) k
  |.dyn _ _ c g=>bif c then (bif isImpM E (st.learnG g) o then (bif isOwnM E (st.learnG g) o then none else impM E R M o (st.learnG g) (fun st'=>opsDM ms all os st' (fs++[footM E om all (st.learnG g) o true]) k)) else bif isOwnM E (st.learnG g) o then ownM R F o (st.learnG g) (fun st'=>opsDM ms all os st' (fs++[ownFt all o]) k) else bif !(drOK E om (st.learnG g) o) then none else runM E R om F o (st.learnG g) (fun st'=>opsDM ms all os st' (fs++[footM E om all (st.learnG g) o true]) k))
   else opsDM ms all os ((st.learnN g).putO o.dst .undef) (fs++[footM E om all st o false]) k
  |.no=>none
end
def loopF {R:Reg} (key:Nat) (W:List Nat) (b:MS R.T) (sh:Shape) (outs:List (Ex×Shape)) (body:{β:Type}->MS R.T->(Ex->MS R.T->Option β)->Option β):Nat->Pay R.T sh->Option (Out R.T outs)
 |0,_=>none
 |m+1,p=>body (b.over (unpack R sh p)) fun e st=>match e with
  |.normal=>match packW R W st sh with
   |some p=>loopF key W b sh outs body m p
   |none=>none
  |e=>packOut R W e st outs
def MS.obs {T:Nat->Type} (st:MS T):MS T:=⟨[],st.ob⟩
def unrF {R:Reg} {β:Type} (body:MS R.T->(Ex->MS R.T->Option β)->Option β):Nat->MS R.T->(Ex->MS R.T->Option β)->Option β
 |0,_,_=>none
 |m+1,st,k=>body st fun e st'=>match e with
  |.normal=>unrF body m st' k
  |e=>k e st'
def foldF {R:Reg} {X:Type} (key:Nat) (W:List Nat) (b:MS R.T) (sh:Shape) (outs:List (Ex×Shape)) (body:{β:Type}->X->MS R.T->(Ex->MS R.T->Option β)->Option β):List X->Pay R.T sh->Option (Out R.T outs)
 | [],p=>packOut R W .normal (unpack R sh p).obs outs
 |x::xs,p=>body x (b.over (unpack R sh p)) fun e st=>match e with
  |.normal=>match packW R W st.obs sh with
   |some p=>foldF key W b sh outs body xs p
   |none=>none
  |e=>packOut R W e st.obs outs
def findI {R:Reg} (a b:List (TV R.T)):List (FI R)->Option ((el:List Sk)×Option (List (PayL R.T el)))
 | []=>none
 |i::l=>match pkL R i.a a,pkL R i.b b with
  |some pa,some pb=>bif cSkL i.a&& cSkL i.b&& cSkL i.el&& Nat.ble (depL i.a) 18&& Nat.ble (depL i.b) 18 then some ⟨i.el,i.F pa pb⟩ else none
  |_,_=>findI a b l
def findIo {R:Reg} (a b c:List (TV R.T)):List (FO R)->Option ((el:List Sk)×Option (List (PayL R.T el))×Bool)
 | []=>none
 |i::l=>match pkL R i.a a,pkL R i.b b,pkL R i.cs c with
  |some pa,some pb,some pc=>bif cSkL i.a&& cSkL i.b&& dSk i.cs&& cSkL i.el&& Nat.ble (depL i.a) 18&& Nat.ble (depL i.b) 18 then some ⟨i.el,i.F pa pb pc,i.q⟩ else none
  |_,_,_=>findIo a b c l
def disjO (O:List Nat):List (Nat×ObSk)->Bool
 | []=>true
 | (o,_)::l=>!(memN o O)&& disjO O l
def iterM {R:Reg} (st:MS R.T) (I:IR R) (g:Nat) (u v:List (TV R.T)):Option ((el:List Sk)×Option (List (PayL R.T el))×Option Nat×Bool):=match v with
 |.ref o off::v'=>bif stL u&& stL v'&& Nat.beq off 0 then (match look st.ob o with
  |some (.cells c)=>match findIo u v' c (I.io g) with
   |some ⟨el,xs,q⟩=>some ⟨el,xs,some o,q⟩
   |none=>none
  |_=>none) else none
 |v=>bif stL u&& stL v then (match findI u v (I.it g) with
  |some ⟨el,xs⟩=>some ⟨el,xs,none,true⟩
  |none=>none) else none
def addW (oo:Option Nat) (W:List Nat):List Nat:=match oo with
 |some o=>o::W
 |none=>W
def okI (oo:Option Nat) (W:List Nat) (l:List (Nat×ObSk)):Bool:=match oo with
 |some o=>!(memN o W)&& disjO [o] l
 |none=>true
def putPs {T:Nat->Type} (st:MS T):List Nat->List (TV T)->Option (MS T)
 | [],[]=>some st
 |i::l,v::vs=>putPs (st.put i v) l vs
 |_,_=>none
def dstsL:List Oper->List Nat
 | []=>[]
 |o::l=>match o.dst with
  |some d=>d::E.cn d::dstsL l
  |none=>dstsL l
def wrC:Code->List Nat
 |.region _ ops _=>dstsL E ops.toList
 |.seq a b=>wrC a++wrC b
 |.cond _ a b=>wrC a++wrC b
 |.block _ c=>wrC c
 |.loop c=>wrC c
 |.scope c=>wrC c
 |.rangeFunc _ ps a b=>ps.toList++wrC a++wrC b
 |_=>[]
def firstId':Code->Nat
 |.region i _ _=>i
 |.seq a _=>firstId' a
 |.loop a=>firstId' a+500
 |.scope a=>firstId' a
 |.block _ a=>firstId' a
 |.rangeFunc _ _ _ b=>firstId' b
 |_=>0
def quietC:Code->Bool
 |.region _ ops _=>ops.toList.all (nrOp E)
 |.seq a b=>quietC a&& quietC b
 |.cond _ a b=>quietC a&& quietC b
 |.block _ c=>quietC c
 |.loop c=>quietC c
 |.scope c=>quietC c
 |.rangeFunc _ _ _ _=>false
 |_=>true
variable (n:Nat) (om:Bool) (F:Nat->List (FR R)) (I:IR R) (A:Ann)
def codeM:Code->{β:Type}->MS R.T->(Ex->MS R.T->Option β)->Option β
 |.skip,_,st,k=>k .normal st
 |.region _ ops dr,_,st,k=>bif dr then (bif edgesOK ops.toList then opsDM E R om F I.im (preM ops.toList) ops.toList ops.toList st [] (fun st=>k .normal st) else none) else opsM E R om F I.im ops.toList ops.toList st (fun st=>k .normal st)
 |.seq a b,_,st,k=>
  match look A.joins (firstId' b) with
  |none=>codeM a st fun e st=>match e with
   |.normal=>codeM b st k
   |e=>k e st
  |some q=>(codeM (β:=Out R.T q.outs) a ((base (wrC E a) q.K q.O .ro st).over st) fun e st=>packOut R (wrC E a) e st q.outs).bind (unpackOut R (base (wrC E a) q.K q.O (fun b=>b) st) (fun e st=>match e with
   |.normal=>codeM b st k
   |e=>k e st) q.outs)
 |.cond c a b,_,st,k=>match evM [] st c with
  |some (.blit t)=>bif t then codeM a st k else codeM b st k
  |some (.bool t)=>bif t then codeM a (st.learnO c true) k else codeM b (st.learnO c false) k
  |_=>none
 |.block id c,_,st,k=>codeM c st fun e st=>match e with
  |.exit i=>bif Nat.beq i id then k .normal st else k (.exit i) st
  |e=>k e st
 |.loop c,_,st,k=>match look A.loops (firstId' c) with
  |some q=>match packW R (wrC E c) st q.sh with
   |some p=>(loopF (firstId' c) (wrC E c) (base (wrC E c) q.K q.O .ro st) q.sh q.outs (fun st k=>codeM c st k) n p).bind (unpackOut R (base (wrC E c) q.K q.O (fun b=>b) st) k q.outs)
   |none=>none
  |none=>unrF (fun st k=>codeM c st k) 130 st k
 |.rangeFunc f ps a c,_,st,k=>match look A.loops (firstId' c) with
  |some q=>match evM [] st f with
   |some (.fn g u v)=>bif disjO q.O q.sh.ob then (match iterM st I g u v with
    |some ⟨el,xs,oo,kq⟩=>bif okI oo (ps.toList++wrC E a++wrC E c) q.sh.ob&& (bif kq then quietC E a&& quietC E c else true) then (match packW R (ps.toList++wrC E a++wrC E c) st.obs q.sh with
     |some p=>(xs.bind fun xs=>foldF (firstId' c) (ps.toList++wrC E a++wrC E c) (base (addW oo (ps.toList++wrC E a++wrC E c)) q.K q.O .ro st) q.sh q.outs (fun x st k=>match putPs st ps.toList (upL R .sh el x) with
       |some st=>codeM a st fun e st=>match e with
        |.normal=>codeM c st k
        |_=>none
       |none=>none) xs p).bind (unpackOut R (base (addW oo (ps.toList++wrC E a++wrC E c)) q.K q.O (fun b=>b) st) k q.outs)
     |none=>none) else none
    |none=>none) else none
   |_=>none
  |none=>none
 |.scope c,_,st,k=>codeM c st k
 |.label _,_,st,k=>k .normal st
 |.exit i,_,st,k=>k (.exit i) st
 |.ret,_,st,k=>k .ret st
 |_,_,_,_=>none
def resM (st:MS R.T):List ResultVar->Option (List (TV R.T))
 | []=>some []
 |.tmp t::l=>match evM [] st (.tmp t) with
  |some v=>match resM st l with
   |some vs=>some (v::vs)
   |none=>none
  |none=>none
 |.cell a t::l=>match evM [] st (.tmp a) with
  |some (.ref o off)=>match rdOb st o with
   |some (.cells cs)=>match ldM E t cs off with
    |some v=>match resM st l with
     |some vs=>some (v::vs)
     |none=>none
    |none=>none
   |some (.sg ss)=>match ldG E R t ss off with
    |some v=>match resM st l with
     |some vs=>some (v::vs)
     |none=>none
    |none=>none
   |_=>none
  |_=>none
def initF {T:Nat->Type}:Nat->List (TV T)->List (Nat×TV T)
 |_,[]=>[]
 |i,v::l=>(i,v)::initF (i+1) l
def funM (fn:Func) (args res:List Sk) (p:PayL R.T args):Option (PayL R.T res):=
 match fn.body with
 |some c=>codeM E R n om F I A c ⟨initF 0 (upL R .sh args p),[]⟩ fun e st=>match e with
  |.exit _=>none
  |_=>match resM E R st fn.results.toList with
   |some vs=>bif cSkL res&& Nat.ble (depL res) 16 then pkL R res (cloMs st vs) else none
   |none=>none
 |none=>none
def wv1 {T:Nat->Type} (st:MS T) (k:Sk) (v:TV T):TV T:=match k with
 |.sub _ _=>match asW st v with
  |some (o,t,a,b)=>.sub o t a b
  |none=>v
 |_=>v
def wvs {T:Nat->Type} (st:MS T):List Sk->List (TV T)->List (TV T)
 |k::l,v::vs=>wv1 st k v::wvs st l vs
 |_,vs=>vs
def funI (fn:Func) (args:List Sk) (obs:List (Nat×ObSk)) (res:List Sk) (p:PayL R.T args) (q:PayOs R.T obs):Option (PayL R.T res×PayOs R.T obs):=
 match fn.body with
 |some c=>codeM E R n om F I A c ⟨initF 0 (upL R .any args p),upOs R obs q⟩ fun e st=>match e with
  |.exit _=>none
  |_=>match resM E R st fn.results.toList with
   |some vs=>match pkL R res (wvs st res vs) with
    |some y=>match pkOs R st.ob obs with
     |some q'=>some (y,q')
     |none=>none
    |none=>none
   |none=>none
 |none=>none
def newOf (st:MS R.T):(k:NK)->TV R.T->Option (PayN R.T k)
 |.no,_=>none
 |.arr t,v=>match v with
  |.vw p t'=>if t'=t then (bif Nat.blt p F0 then (match rdOb st p with
   |some (.arr _ l)=>castL R l
   |_=>none) else none) else none
  |v=>bif isE v then some [] else none
 |.fnc g a b cs,v=>match v with
  |.fn g' a' (.ref p off::b')=>bif Nat.beq g' g&& (Nat.beq off 0&& (Nat.blt p F0&& (cSkL a&& (cSkL b&& dSk cs))))&& (stL a'&& stL b'&& Nat.ble (depL a) 18&& Nat.ble (depL b) 18) then (match rdOb st p with
   |some (.cells c)=>match pkL R a a',pkL R b b',pkL R cs c with
    |some x,some y,some z=>some (x,y,z)
    |_,_,_=>none
   |_=>none) else none
  |_=>none
def funN (fn:Func) (args:List Sk) (obs:List (Nat×ObSk)) (nk:NK) (ob2:List (Nat×ObSk)) (p:PayL R.T args) (q:PayOs R.T obs):Option (PayN R.T nk×PayOs R.T ob2):=
 match fn.body with
 |some c=>codeM E R n om F I A c ⟨initF 0 (upFL R args p),upOs R obs q⟩ fun e st=>match e with
  |.exit _=>none
  |_=>match resM E R st fn.results.toList with
   |some [v]=>match newOf R st nk v with
    |some y=>match pkOs R st.ob ob2 with
     |some q'=>some (y,q')
     |none=>none
    |none=>none
   |_=>none
 |none=>none
end
end Aq
end
section
namespace Aq
open Go
structure Cx where
 om:Bool
 dp:Nat
 lo:Nat
 fl:Nat->Option Loc
 lt:∀o L,fl o=some L->F0<=o/\L.1<dp
 inj:∀o p L,fl o=some L->fl p=some L->o=p
def Cx.lc (c:Cx) (o:Nat):Loc:=match c.fl o with
 |some L=>L
 |none=>(c.dp,o)
theorem Cx.lF (c:Cx) {o:Nat} (h:o<F0):c.lc o=(c.dp,o):=by
 unfold Cx.lc
 split
 ·rename_i L hL
  have:=(c.lt _ _ hL).1
  omega
 ·rfl
theorem Cx.pI (c:Cx) {o p:Nat} (h:c.lc o=c.lc p):o=p:=by
 unfold Cx.lc at h
 split at h<;>split at h
 ·rename_i L h1 _ M h2;subst h;exact c.inj _ _ _ h1 h2
 ·rename_i L h1 _ h2;have:=(c.lt _ _ h1).2;rw[h] at this;exact absurd this (Nat.lt_irrefl _)
 ·rename_i h1 _ L h2;have:=(c.lt _ _ h2).2;rw[<-h] at this;exact absurd this (Nat.lt_irrefl _)
 ·exact congrArg Prod.snd h
theorem Cx.Cc (c:Cx) {o p:Nat} (h:o≠p):c.lc o≠c.lc p:=fun e=>h (c.pI e)
theorem Cx.gZ (c:Cx) (o:Nat):(c.lc o).1<=c.dp:=by
 unfold Cx.lc
 split
 ·rename_i L hL;exact Nat.le_of_lt (c.lt _ _ hL).2
 ·exact Qt _
def Cx.out (c:Cx) (L:Loc):Prop:=∀o,L≠c.lc o
structure ak where
 ob:Nat->Option Nat
 tk:Nat->Option Nat
 ln:Nat->Nat
 om:Cx
section
variable (R:Reg)
def dO:Ty->Bool
 |.st _=>false
 |_=>true
structure RegOK:Prop where
 of_to:∀n p,R.of n (R.to n p)=p
 enc:∀n x,R.enc n x= .agg (encs R (R.lf n) (R.of n x))
 leaf:∀n,(R.lf n).all dO=true
 pc:∀n x,pclean (R.enc n x)=true
def mW (ρ:ak) (top:Nat->Nat) (sz len:Nat):Cp->Cap->Prop
 |.any,_=>True
 |.sh,c=>c= .sh
 |.nil,c=>c= .nil
 |.full,c=>c= .full
 |.own t,c=>c= .nil\/c= .full\/∃s,c= .own sz s/\ρ.tk t=some s/\top s=len
mutual
def Rl (ρ:ak) (top:Nat->Nat):TV R.T->V->Prop
 |.int k n,v=>v= .int k n
 |.bool b,v=>v= .bool b
 |.blit b,v=>v= .bool b
 |.str s,v=>v= .str s
 |.nilp,v=>v= .nilp
 |.nilf,v=>v= .nilf
 |.nilm,v=>v= .nilm
 |.nili,v=>v= .nili
 |.nils,v=>v= .lst .nil []
 |.agg cs,v=>∃l,v= .agg l/\RlL ρ top cs l
 |.tup cs,v=>∃l,v= .tup l/\RlL ρ top cs l
 |.lst c t l,v=>∃c',v= .lst c' (l.map (encD R t))/\mW ρ top (szD R t) l.length c c'
 |.ref o off,v=>∃s,ρ.ob o=some s/\v= .ref (ρ.om.lc o) s off
 |.cref cs off,v=>∃l,v= .cref l off/\RlL ρ top cs l
 |.mapr o,v=>∃s,ρ.ob o=some s/\v= .mapr (ρ.om.lc o) s
 |.mapc k e m,v=>v= .mapc (m.map fun p=>encD R k p.1) (m.map fun p=>encD R e p.2)
 |.fn f a b,v=>∃a' b',v= .fn (.func f) a' b'/\RlL ρ top a a'/\RlL ρ top b b'
 |.opt _ _ _,_=>False
 |.vw o t,v=>(∃s,ρ.ob o=some s/\v= .vw (ρ.om.lc o) s 0 (ρ.ln o) (ρ.ln o) (szD R t) (isSt t))\/(ρ.ln o=0/\(v= .lst .nil []\/v= .lst .full []))
 |.sub o t a b,v=>0<=a/\a<=b/\b<=ρ.ln o/\((∃s cp,ρ.ob o=some s/\(b-a).toNat<=cp/\v= .vw (ρ.om.lc o) s (a.toNat*szD R t) (b-a).toNat cp (szD R t) (isSt t))\/(a=b/\∃c,v= .lst c []))
 |.eref o t i off,v=>∃s,ρ.ob o=some s/\0<=i/\v= .ref (ρ.om.lc o) s (i.toNat*szD R t+off)
 |.sg ss,v=>v= .agg (sgV ss)
 |.sv o off k n lo hi,v=>∃s,ρ.ob o=some s/\svB n lo hi=true/\v= .vw (ρ.om.lc o) s (off+(loI lo).toNat) ((hiI n hi).toNat-(loI lo).toNat) (n-(loI lo).toNat) 1 false
 |.sel o off k n i m,v=>∃s,ρ.ob o=some s/\0<=i/\i.toNat+m<=n/\v= .ref (ρ.om.lc o) s (off+i.toNat)
 |.gel k n x i,v=>0<=i/\i<n/\v= .cref (x.l.map (V.int k)) i.toNat
 |.undef,v=>v=undefV
 |.gone,_=>True
def RlL (ρ:ak) (top:Nat->Nat):List (TV R.T)->List V->Prop
 | [],l=>l=[]
 |t::ts,l=>∃v vs,l=v::vs/\Rl ρ top t v/\RlL ρ top ts vs
end
variable {R}
variable {ρ ρ':ak} {top top':Nat->Nat}
theorem RlL.inv_nil {vs:List V} (h:RlL R ρ top [] vs):vs=[]:=by unfold RlL at h;exact h
theorem RlL.inv_cons {t:TV R.T} {ts:List (TV R.T)} {vs:List V} (h:RlL R ρ top (t::ts) vs):∃v l,vs=v::l/\Rl R ρ top t v/\RlL R ρ top ts l:=by unfold RlL at h;exact h
theorem Rl.inv_int {k:IntKind} {n:Int} {v:V} (h:Rl R ρ top (.int k n) v):v= .int k n:=by unfold Rl at h;exact h
theorem Rl.fA {b:Bool} {v:V} (h:Rl R ρ top (.bool b) v):v= .bool b:=by unfold Rl at h;exact h
theorem Rl.ig {b:Bool} {v:V} (h:Rl R ρ top (.blit b) v):v= .bool b:=by unfold Rl at h;exact h
theorem Rl.dH {b:List UInt8} {v:V} (h:Rl R ρ top (.str b) v):v= .str b:=by unfold Rl at h;exact h
theorem Rl.eP {v:V} (h:Rl R ρ top .nils v):v= .lst .nil []:=by unfold Rl at h;exact h
theorem Rl.bY {cs:List (TV R.T)} {v:V} (h:Rl R ρ top (.agg cs) v):∃l,v= .agg l/\RlL R ρ top cs l:=by unfold Rl at h;exact h
theorem Rl.mX {cs:List (TV R.T)} {v:V} (h:Rl R ρ top (.tup cs) v):∃l,v= .tup l/\RlL R ρ top cs l:=by unfold Rl at h;exact h
theorem Rl.bW {c:Cp} {t:Ty} {l:List (Den R.T t)} {v:V} (h:Rl R ρ top (.lst c t l) v):∃c',v= .lst c' (l.map (encD R t))/\mW ρ top (szD R t) l.length c c':=by unfold Rl at h;exact h
theorem Rl.dY {o off:Nat} {v:V} (h:Rl R ρ top (.ref o off) v):∃s,ρ.ob o=some s/\v= .ref (ρ.om.lc o) s off:=by unfold Rl at h;exact h
theorem Rl.gy {cs:List (TV R.T)} {off:Nat} {v:V} (h:Rl R ρ top (.cref cs off) v):∃l,v= .cref l off/\RlL R ρ top cs l:=by unfold Rl at h;exact h
theorem Rl.jH {o:Nat} {v:V} (h:Rl R ρ top (.mapr o) v):∃s,ρ.ob o=some s/\v= .mapr (ρ.om.lc o) s:=by unfold Rl at h;exact h
theorem Rl.ku {k e:Ty} {m:List (Den R.T k×Den R.T e)} {v:V} (h:Rl R ρ top (.mapc k e m) v):v= .mapc (m.map fun p=>encD R k p.1) (m.map fun p=>encD R e p.2):=by unfold Rl at h;exact h
theorem Rl.dn {f:Nat} {a b:List (TV R.T)} {v:V} (h:Rl R ρ top (.fn f a b) v):∃a' b',v= .fn (.func f) a' b'/\RlL R ρ top a a'/\RlL R ρ top b b':=by unfold Rl at h;exact h
theorem Rl.jl {o:Nat} {t:Ty} {v:V} (h:Rl R ρ top (.vw o t) v):(∃s,ρ.ob o=some s/\v= .vw (ρ.om.lc o) s 0 (ρ.ln o) (ρ.ln o) (szD R t) (isSt t))\/(ρ.ln o=0/\(v= .lst .nil []\/v= .lst .full [])):=by unfold Rl at h;exact h
theorem Rl.jI {o:Nat} {t:Ty} {a b:Int} {v:V} (h:Rl R ρ top (.sub o t a b) v):0<=a/\a<=b/\b<=ρ.ln o/\((∃s cp,ρ.ob o=some s/\(b-a).toNat<=cp/\v= .vw (ρ.om.lc o) s (a.toNat*szD R t) (b-a).toNat cp (szD R t) (isSt t))\/(a=b/\∃c,v= .lst c [])):=by unfold Rl at h;exact h
theorem Rl.lG {o off:Nat} {t:Ty} {i:Int} {v:V} (h:Rl R ρ top (.eref o t i off) v):∃s,ρ.ob o=some s/\0<=i/\v= .ref (ρ.om.lc o) s (i.toNat*szD R t+off):=by unfold Rl at h;exact h
theorem Rl.mY {ss:List Sg} {v:V} (h:Rl R ρ top (.sg ss) v):v= .agg (sgV ss):=by unfold Rl at h;exact h
theorem Rl.kC {o off n:Nat} {k:IntKind} {lo hi:Option Int} {v:V} (h:Rl R ρ top (.sv o off k n lo hi) v):∃s,ρ.ob o=some s/\svB n lo hi=true/\v= .vw (ρ.om.lc o) s (off+(loI lo).toNat) ((hiI n hi).toNat-(loI lo).toNat) (n-(loI lo).toNat) 1 false:=by unfold Rl at h;exact h
theorem Rl.pJ {o off n m:Nat} {k:IntKind} {i:Int} {v:V} (h:Rl R ρ top (.sel o off k n i m) v):∃s,ρ.ob o=some s/\0<=i/\i.toNat+m<=n/\v= .ref (ρ.om.lc o) s (off+i.toNat):=by unfold Rl at h;exact h
theorem Rl.sI {n:Nat} {k:IntKind} {x:Vec n} {i:Int} {v:V} (h:Rl R ρ top (.gel k n x i) v):0<=i/\i<n/\v= .cref (x.l.map (V.int k)) i.toNat:=by unfold Rl at h;exact h
theorem Rl.Ce {v:V} (h:Rl R ρ top .undef v):v=undefV:=by unfold Rl at h;exact h
theorem Rl.Cg {j:Nat} {w:Bool} {x:TV R.T} {v:V} (h:Rl R ρ top (.opt j w x) v):False:=by unfold Rl at h;exact h
theorem RlL.nil':RlL R ρ top [] []:=rfl
theorem RlL.cons' {t:TV R.T} {ts:List (TV R.T)} {v:V} {vs:List V} (h:Rl R ρ top t v) (h':RlL R ρ top ts vs):RlL R ρ top (t::ts) (v::vs):=⟨v,vs,rfl,h,h'⟩
theorem RlL.length:∀{ts:List (TV R.T)} {vs:List V},RlL R ρ top ts vs->vs.length=ts.length
 | [],_,h=>by cases h;rfl
 |_::ts,_,⟨v,vs,e,_,h'⟩=>by subst e;simp[RlL.length h']
theorem RlL.append:∀{ts ts':List (TV R.T)} {vs vs':List V},RlL R ρ top ts vs->RlL R ρ top ts' vs'->RlL R ρ top (ts++ts') (vs++vs')
 | [],_,_,_,h,h2=>by cases h;exact h2
 |_::ts,_,_,_,⟨v,vs,e,h1,h'⟩,h2=>by subst e;exact .cons' h1 (RlL.append h' h2)
theorem RlL.drop:∀(n:Nat) {ts:List (TV R.T)} {vs:List V},RlL R ρ top ts vs->RlL R ρ top (ts.drop n) (vs.drop n)
 |0,_,_,h=>by simpa using h
 |n+1,[],_,h=>by cases h;simp;rfl
 |n+1,_::ts,_,⟨v,vs,e,h1,h'⟩=>by subst e;simpa using RlL.drop n h'
theorem RlL.take:∀(n:Nat) {ts:List (TV R.T)} {vs:List V},RlL R ρ top ts vs->RlL R ρ top (ts.take n) (vs.take n)
 |0,_,_,h=>by simp;rfl
 |n+1,[],_,h=>by cases h;simp;rfl
 |n+1,_::ts,_,⟨v,vs,e,h1,h'⟩=>by subst e;simpa using .cons' h1 (RlL.take n h')
theorem RlL.get:∀{ts:List (TV R.T)} {vs:List V} {i:Nat} {t:TV R.T},RlL R ρ top ts vs->ts[i]? =some t->∃v,vs[i]? =some v/\Rl R ρ top t v
 | [],_,_,_,_,h=>by simp at h
 |_::ts,_,0,_,⟨v,vs,e,h1,h'⟩,h=>by subst e;simp at h;subst h;exact⟨v,by simp,h1⟩
 |_::ts,_,i+1,_,⟨v,vs,e,h1,h'⟩,h=>by subst e;simpa using RlL.get h' (by simpa using h)
mutual
theorem Rl.wk (t:Nat) (ho:ρ'.ob=ρ.ob/\ρ'.ln=ρ.ln/\ρ'.om=ρ.om) (ht:∀u s,u≠t->ρ.tk u=some s->ρ'.tk u=some s/\top' s=top s):∀(x:TV R.T) (v:V),Rl R ρ top x v->Rl R ρ' top' (wk t x) v
 |.lst (.own u) ty l,v,h=>by
  obtain⟨c',hv,hc⟩:=h
  unfold Aq.wk
  by_cases e:Nat.beq u t=true
  ·rw[e,cond_true];exact⟨c',hv,trivial⟩
  ·have e':Nat.beq u t=false:=Bool.eq_false_iff.2 e
   rw[e',cond_false]
   refine⟨c',hv,?_⟩
   rcases hc with hc|hc| ⟨s,h1,h2,h3⟩
   ·exact .inl hc
   ·exact .inr (.inl hc)
   ·have hne:u≠t:=fun h=>e (by rw[h];exact Rc t)
    have:=ht u s hne h2
    exact .inr (.inr ⟨s,h1,this.1,by rw[this.2];exact h3⟩)
 |.lst .any ty l,v,h=>by obtain⟨c',hv,hc⟩:=h;exact⟨c',hv,trivial⟩
 |.lst .sh ty l,v,h=>by obtain⟨c',hv,hc⟩:=h;exact⟨c',hv,hc⟩
 |.lst .nil ty l,v,h=>by obtain⟨c',hv,hc⟩:=h;exact⟨c',hv,hc⟩
 |.lst .full ty l,v,h=>by obtain⟨c',hv,hc⟩:=h;exact⟨c',hv,hc⟩
 |.agg cs,v,h=>by obtain⟨l,hv,hl⟩:=h;exact⟨l,hv,RlL.wk t ho ht cs l hl⟩
 |.tup cs,v,h=>by obtain⟨l,hv,hl⟩:=h;exact⟨l,hv,RlL.wk t ho ht cs l hl⟩
 |.cref cs off,v,h=>by obtain⟨l,hv,hl⟩:=h;exact⟨l,hv,RlL.wk t ho ht cs l hl⟩
 |.fn f a b,v,h=>by obtain⟨a',b',hv,ha,hb⟩:=h;exact⟨a',b',hv,RlL.wk t ho ht a a' ha,RlL.wk t ho ht b b' hb⟩
 |.ref o off,v,h=>by obtain⟨s,h1,h2⟩:=h;exact⟨s,by rw[ho.1];exact h1,by rw[ho.2.2];exact h2⟩
 |.mapr o,v,h=>by obtain⟨s,h1,h2⟩:=h;exact⟨s,by rw[ho.1];exact h1,by rw[ho.2.2];exact h2⟩
 |.vw o ty,v,h=>by
  rcases h with ⟨s,h1,h2⟩| ⟨h1,h2⟩
  ·exact .inl ⟨s,by rw[ho.1];exact h1,by rw[ho.2.1,ho.2.2];exact h2⟩
  ·exact .inr ⟨by rw[ho.2.1];exact h1,h2⟩
 |.sub o ty a b,v,h=>by
  obtain⟨k0,k1,k2,h⟩:=h
  refine⟨k0,k1,by rw[ho.2.1];exact k2,?_⟩
  rcases h with ⟨s,cp,h1,h2,h3⟩|h
  ·exact .inl ⟨s,cp,by rw[ho.1];exact h1,h2,by rw[ho.2.2];exact h3⟩
  ·exact .inr h
 |.eref o ty i off,v,h=>by obtain⟨s,h1,h2⟩:=h;exact⟨s,by rw[ho.1];exact h1,by rw[ho.2.2];exact h2⟩
 |.sv o _ _ _ _ _,v,h=>by obtain⟨s,h1,h2⟩:=h;exact⟨s,by rw[ho.1];exact h1,by rw[ho.2.2];exact h2⟩
 |.sel o _ _ _ _ _,v,h=>by obtain⟨s,h1,h2⟩:=h;exact⟨s,by rw[ho.1];exact h1,by rw[ho.2.2];exact h2⟩
 |.sg _,_,h=>h
 |.gel _ _ _ _,_,h=>h
 |.opt _ _ _,_,h=>h.elim
 |.int _ _,_,h=>h
 |.bool _,_,h=>h
 |.blit _,_,h=>h
 |.str _,_,h=>h
 |.nilp,_,h=>h
 |.nilf,_,h=>h
 |.nilm,_,h=>h
 |.nili,_,h=>h
 |.nils,_,h=>h
 |.mapc _ _ _,_,h=>h
 |.undef,_,h=>h
 |.gone,_,h=>h
theorem RlL.wk (t:Nat) (ho:ρ'.ob=ρ.ob/\ρ'.ln=ρ.ln/\ρ'.om=ρ.om) (ht:∀u s,u≠t->ρ.tk u=some s->ρ'.tk u=some s/\top' s=top s):∀(x:List (TV R.T)) (v:List V),RlL R ρ top x v->RlL R ρ' top' (wkL t x) v
 | [],_,h=>h
 |x::xs,_,⟨v,vs,e,h1,h2⟩=>⟨v,vs,e,Rl.wk t ho ht x v h1,RlL.wk t ho ht xs vs h2⟩
end
mutual
theorem Rl.kill (o:Nat) (ho:∀p,p≠o->ρ'.ob p=ρ.ob p/\ρ'.ln p=ρ.ln p) (ht:ρ'.tk=ρ.tk) (hx:ρ'.om=ρ.om):∀(x:TV R.T) (v:V),ment o x=false->Rl R ρ top x v->Rl R ρ' top x v
 |.lst c ty l,v,_,h=>by
  obtain⟨c',hv,hc⟩:=h
  refine⟨c',hv,?_⟩
  cases c<;>try exact hc
  rcases hc with hc|hc| ⟨s,h1,h2,h3⟩
  ·exact .inl hc
  ·exact .inr (.inl hc)
  ·exact .inr (.inr ⟨s,h1,by rw[ht];exact h2,h3⟩)
 |.agg cs,v,hm,h=>by obtain⟨l,hv,hl⟩:=h;exact⟨l,hv,RlL.kill o ho ht hx cs l hm hl⟩
 |.tup cs,v,hm,h=>by obtain⟨l,hv,hl⟩:=h;exact⟨l,hv,RlL.kill o ho ht hx cs l hm hl⟩
 |.cref cs off,v,hm,h=>by obtain⟨l,hv,hl⟩:=h;exact⟨l,hv,RlL.kill o ho ht hx cs l hm hl⟩
 |.fn f a b,v,hm,h=>by
  obtain⟨a',b',hv,ha,hb⟩:=h
  unfold ment at hm
  rw[QY] at hm
  exact⟨a',b',hv,RlL.kill o ho ht hx a a' hm.1 ha,RlL.kill o ho ht hx b b' hm.2 hb⟩
 |.ref p off,v,hm,h=>by
  obtain⟨s,h1,h2⟩:=h
  unfold ment at hm
  exact⟨s,((ho p (fun e=>by rw[e,Rc] at hm;cases hm)).1.trans h1),by rw[hx];exact h2⟩
 |.mapr p,v,hm,h=>by
  obtain⟨s,h1,h2⟩:=h
  unfold ment at hm
  exact⟨s,((ho p (fun e=>by rw[e,Rc] at hm;cases hm)).1.trans h1),by rw[hx];exact h2⟩
 |.vw p ty,v,hm,h=>by
  unfold ment at hm
  obtain⟨k1,k2⟩:=ho p (fun e=>by rw[e,Rc] at hm;cases hm)
  rcases h with ⟨s,h1,h2⟩| ⟨h1,h2⟩
  ·exact .inl ⟨s,k1.trans h1,by rw[k2,hx];exact h2⟩
  ·exact .inr ⟨by rw[k2];exact h1,h2⟩
 |.sub p ty a b,v,hm,h=>by
  unfold ment at hm
  obtain⟨k1,k2⟩:=ho p (fun e=>by rw[e,Rc] at hm;cases hm)
  obtain⟨g0,g1,g2,h⟩:=h
  refine⟨g0,g1,by rw[k2];exact g2,?_⟩
  rcases h with ⟨s,cp,h1,h2,h3⟩|h
  ·exact .inl ⟨s,cp,k1.trans h1,h2,by rw[hx];exact h3⟩
  ·exact .inr h
 |.eref p ty i off,v,hm,h=>by
  obtain⟨s,h1,h2⟩:=h
  unfold ment at hm
  exact⟨s,((ho p (fun e=>by rw[e,Rc] at hm;cases hm)).1.trans h1),by rw[hx];exact h2⟩
 |.sv p _ _ _ _ _,v,hm,h=>by
  obtain⟨s,h1,h2⟩:=h
  unfold ment at hm
  exact⟨s,((ho p (fun e=>by rw[e,Rc] at hm;cases hm)).1.trans h1),by rw[hx];exact h2⟩
 |.sel p _ _ _ _ _,v,hm,h=>by
  obtain⟨s,h1,h2⟩:=h
  unfold ment at hm
  exact⟨s,((ho p (fun e=>by rw[e,Rc] at hm;cases hm)).1.trans h1),by rw[hx];exact h2⟩
 |.sg _,_,_,h=>h
 |.gel _ _ _ _,_,_,h=>h
 |.opt _ _ _,_,_,h=>h.elim
 |.int _ _,_,_,h=>h
 |.bool _,_,_,h=>h
 |.blit _,_,_,h=>h
 |.str _,_,_,h=>h
 |.nilp,_,_,h=>h
 |.nilf,_,_,h=>h
 |.nilm,_,_,h=>h
 |.nili,_,_,h=>h
 |.nils,_,_,h=>h
 |.mapc _ _ _,_,_,h=>h
 |.undef,_,_,h=>h
 |.gone,_,_,h=>h
theorem RlL.kill (o:Nat) (ho:∀p,p≠o->ρ'.ob p=ρ.ob p/\ρ'.ln p=ρ.ln p) (ht:ρ'.tk=ρ.tk) (hx:ρ'.om=ρ.om):∀(x:List (TV R.T)) (v:List V),mentL o x=false->RlL R ρ top x v->RlL R ρ' top x v
 | [],_,_,h=>h
 |x::xs,_,hm,⟨v,vs,e,h1,h2⟩=>by
  unfold mentL at hm
  rw[QY] at hm
  exact⟨v,vs,e,Rl.kill o ho ht hx x v hm.1 h1,RlL.kill o ho ht hx xs vs hm.2 h2⟩
end
section
variable (hR:RegOK R)
include hR
def mZ (v w:V):Prop:=aP v=w/\er v=w/\pclean w=true/\(∀n σ,closeV (n+2) σ v=some w)/\oneCell v=true/\v.cells=[v]
omit hR in
theorem LZ {v:V} (h:∀cs,v≠ .agg cs):er v=aP v:=by cases v<;>first|rfl|exact absurd rfl (h _)
theorem fK:∀(t:Ty) (x:Den R.T t),pclean (encD R t x)=true
 |.int _,x=>by simp[encD,pclean]
 |.bool,x=>by simp[encD,pclean]
 |.str,x=>by simp[encD,pclean]
 |.slice t,x=>sG (fK t) x
 |.st n,x=>hR.pc n x
theorem Ch (c:Cp) (hc:mW ρ top 1 0 c .sh/\(c= .any\/c= .sh)):∀(t:Ty) (x:Den R.T t),dO t=true->Rl R ρ top (tv1 R c t x) (encD R t x)
 |.int _,x,_=>rfl
 |.bool,x,_=>rfl
 |.str,x,_=>rfl
 |.slice t,x,_=>⟨.sh,rfl,by rcases hc.2 with rfl|rfl<;>first|trivial|rfl⟩
 |.st n,x,h=>by simp[dO] at h
theorem Ci (c:Cp) (hc:mW ρ top 1 0 c .sh/\(c= .any\/c= .sh)):∀(l:List Ty) (p:PayT R.T l),l.all dO=true->RlL R ρ top (tvs R c l p) (encs R l p)
 | [],_,_=>rfl
 | [t],x,h=>.cons' (Ch hR c hc t x (by simpa using h)) rfl
 |t::u::l,p,h=>by
  rw[List.all_cons,iP] at h
  exact .cons' (Ch hR c hc t p.1 h.1) (Ci c hc (u::l) p.2 h.2)
theorem sJ (c:Cp) (hc:c= .any\/c= .sh):∀(t:Ty) (x:Den R.T t),Rl R ρ top (tvD R c t x) (encD R t x)
 |.int _,x=>rfl
 |.bool,x=>rfl
 |.str,x=>rfl
 |.slice t,x=>⟨.sh,rfl,by rcases hc with rfl|rfl<;>first|trivial|rfl⟩
 |.st n,x=>⟨_,hR.enc n x,Ci hR c ⟨by rcases hc with rfl|rfl<;>first|trivial|rfl,hc⟩ _ _ (hR.leaf n)⟩
theorem Cj (t:Ty) (x:Den R.T t):Rl R ρ top (tvD R .sh t x) (encD R t x):=sJ hR .sh (.inr rfl) t x
omit hR in
theorem L6 (k:IntKind) (n:Int):mZ (.int k n) (.int k n):=⟨rfl,rfl,by simp[pclean],fun n σ=>wJ (n+1) _ _,rfl,rfl⟩
omit hR in
theorem L8 (b:Bool):mZ (.bool b) (.bool b):=⟨rfl,rfl,by simp[pclean],fun n σ=>wK (n+1) _,rfl,rfl⟩
omit hR in
theorem L9 (b:List UInt8):mZ (.str b) (.str b):=⟨rfl,rfl,by simp[pclean],fun n σ=>wL (n+1) _,rfl,rfl⟩
theorem Ma (c:Cap) (t:Ty) (l:List (Den R.T t)):mZ (.lst c (l.map (encD R t))) (encD R (.slice t) l):=⟨rfl,rfl,fK hR (.slice _) _,fun n σ=>kr _ _ (fK hR _),rfl,rfl⟩
omit hR in
theorem wQ {k:IntKind} {x:Int} {tv:TV R.T} {v:V} (h:unInt R k tv=some x) (hr:Rl R ρ top tv v):v= .int k x:=by
 unfold unInt at h
 split at h
 ·split at h
  ·rename_i e;cases e;cases h;exact hr.inv_int
  ·cases h
 ·cases h
omit hR in
theorem wR {x:Bool} {tv:TV R.T} {v:V} (h:unBool R tv=some x) (hr:Rl R ρ top tv v):v= .bool x:=by
 unfold unBool at h
 split at h<;>cases h
 ·exact hr.fA
 ·exact hr.ig
omit hR in
theorem wT {x:List UInt8} {tv:TV R.T} {v:V} (h:unStr R tv=some x) (hr:Rl R ρ top tv v):v= .str x:=by
 unfold unStr at h
 split at h<;>cases h
 exact hr.dH
omit hR in
theorem iq {t u:Ty} {l:List (Den R.T t)} {m:List (Den R.T u)} (h:castL R l=some m):t=u/\HEq l m:=by
 unfold castL at h
 split at h
 ·rename_i e;subst e;cases h;exact⟨rfl,HEq.rfl⟩
 ·cases h
omit hR in
theorem Ck {t:Ty} {x:List (Den R.T t)} {tv:TV R.T} {v:V} (h:unSl R t tv=some x) (hr:Rl R ρ top tv v):∃c,v= .lst c (x.map (encD R t)):=by
 unfold unSl at h
 split at h
 ·obtain⟨e,e2⟩:=iq h;subst e;cases e2
  obtain⟨c',hv,hc⟩:=hr.bW
  exact⟨c',hv⟩
 ·cases h;exact⟨.nil,hr.eP⟩
 ·cases h
theorem ng {t:Ty} {x:Den R.T t} {tv:TV R.T} {v:V} (h:un1 R t tv=some x) (hr:Rl R ρ top tv v):mZ v (encD R t x):=by
 cases t with
 |int k=>rw[wQ h hr];exact L6 _ _
 |bool=>rw[wR h hr];exact L8 _
 |str=>rw[wT h hr];exact L9 _
 |slice t=>obtain⟨c,hv⟩:=Ck h hr;rw[hv];exact Ma hR _ _ _
 |st n=>cases h
theorem Mc {t:Ty} {x:Den R.T t} {cs:List (TV R.T)} {vs:List V} (h:un1 R t (hd1 R cs)=some x) (hr:RlL R ρ top cs vs):∃v,vs=[v]/\mZ v (encD R t x):=by
 cases cs with
 |nil=>cases t<;>cases h
 |cons c cs=>
  cases cs with
  |nil=>
   obtain⟨v,l,rfl,h1,h2⟩:=hr.inv_cons
   rw[h2.inv_nil]
   exact⟨v,rfl,ng hR h h1⟩
  |cons c' cs=>cases t<;>cases h
theorem Cm:∀(l:List Ty) (p:PayT R.T l) (cs:List (TV R.T)) (vs:List V),uns R l cs=some p->RlL R ρ top cs vs->
 vs.map aP=encs R l p/\(∀n σ,vs.mapM (closeV (n+2) σ)=some (encs R l p))/\pcleanL (encs R l p)=true/\vs.all (fun v=>oneCell v)=true
 | [],p,cs,vs,h,hr=>by
   cases cs with
   |nil=>rw[hr.inv_nil];exact⟨rfl,fun _ _=>rfl,by simp[encs,pcleanL],rfl⟩
   |cons c cs=>cases h
 | [t],p,cs,vs,h,hr=>by
   obtain⟨v,rfl,a,b,c,d,e,_⟩:=Mc hR (show un1 R t (hd1 R cs)=some p from h) hr
   exact⟨by simp[encs,a],fun n σ=>by simp[encs,d],by simp[encs,pcleanL,c],by simp[e]⟩
 |t::u::l,p,cs,vs,h,hr=>by
  cases cs with
  |nil=>cases h
  |cons c cs=>
   obtain⟨v,vs,rfl,h1,h2⟩:=hr.inv_cons
   unfold uns at h
   cases hu:un1 R t c with
   |none=>simp only[hu] at h;cases h
   |some y=>
    cases hs:uns R (u::l) cs with
    |none=>simp only[hu,hs] at h;cases h
    |some q=>
     simp only[hu,hs] at h
     obtain rfl:=QL h
     obtain⟨a,b,c,d,e,_⟩:=ng hR hu h1
     obtain⟨a',d',c',o'⟩:=Cm (u::l) q cs vs hs h2
     exact⟨by simp[encs,a,a'],fun n σ=>by simp[encs,d,d'],by simp[encs,pcleanL,c,c'],by simp[e,o']⟩
omit hR in
theorem wU:∀(l:List Ty) (p:PayT R.T l),(encs R l p).length=l.length
 | [],_=>rfl
 | [_],_=>rfl
 |_::u::l,p=>by show (encs R (u::l) p.2).length+1=_;rw[wU];rfl
omit hR in
theorem wV {n:Nat} {σ:Sig} (cs:List V):closeV (n+3) σ (.agg cs)=(cs.mapM (closeV (n+2) σ)).map .agg:=by
 by_cases hp:pclean (.agg cs)=true
 ·rw[closeV_clean hp]
  have:∀cs:List V,pcleanL cs=true->cs.mapM (closeV (n+2) σ)=some cs:=by
   intro cs
   induction cs with
   |nil=>intro _;rfl
   |cons a l ih=>
    intro h
    simp only[pcleanL,iP] at h
    rw[QH,closeV_clean h.1,ih h.2];rfl
  rw[this cs (by simpa [pclean] using hp)];rfl
 ·conv=>lhs;unfold closeV
  simp only[hp,if_false,Qv]
theorem wW {t:Ty} {x:Den R.T t} {tv:TV R.T} {v:V} (h:unD R t tv=some x) (hr:Rl R ρ top tv v):
 er v=encD R t x/\pclean (encD R t x)=true/\(∀n σ,closeV (n+3) σ v=some (encD R t x))/\v.cells.length=szD R t/\oneCells v.cells=true:=by
 cases t with
 |st n=>
  change unSt R n tv=some x at h
  unfold unSt at h
  split at h
  ·rename_i cs
   split at h
   ·rename_i p hp
    obtain rfl:=QL h
    obtain⟨l,hv,hl⟩:=hr.bY
    subst hv
    obtain⟨a,d,c,o⟩:=Cm hR _ _ _ _ hp hl
    have he:encD R (.st n) (R.to n p)= .agg (encs R (R.lf n) p):=by
     show R.enc n (R.to n p)=_
     rw[hR.enc,hR.of_to]
    refine⟨?_,fK hR (.st n) _,fun k σ=>?_,?_,o⟩
    ·rw[he];show V.agg (l.map aP)=_;rw[a]
    ·rw[he,wV,d k σ];rfl
    ·show l.length=_
     have:=congrArg List.length a
     rw[Qy] at this
     rw[this];exact wU _ _
   ·cases h
  ·cases h
 |int k=>
  obtain⟨a,b,c,d,e,f⟩:=ng hR (t:=.int k) h hr
  exact⟨b,c,fun n σ=>d (n+1) σ,by rw[f];rfl,by rw[f];simp[oneCells,e]⟩
 |bool=>
  obtain⟨a,b,c,d,e,f⟩:=ng hR (t:=.bool) h hr
  exact⟨b,c,fun n σ=>d (n+1) σ,by rw[f];rfl,by rw[f];simp[oneCells,e]⟩
 |str=>
  obtain⟨a,b,c,d,e,f⟩:=ng hR (t:=.str) h hr
  exact⟨b,c,fun n σ=>d (n+1) σ,by rw[f];rfl,by rw[f];simp[oneCells,e]⟩
 |slice t=>
  obtain⟨a,b,c,d,e,f⟩:=ng hR (t:=.slice t) h hr
  exact⟨b,c,fun n σ=>d (n+1) σ,by rw[f];rfl,by rw[f];simp[oneCells,e]⟩
end
end
end Aq
end
