/- Part of the proof of a law. -/
import Derived.Test.YtdcnajadcbedkaaGreatDoorS706
set_option linter.all false
set_option linter.unusedSimpArgs false
set_option linter.unusedSectionVars false
section
namespace Aq
open Go
inductive dh (R:gy) where
 |t (v:TV R.T)
 |c (b:Bool) (v:TV R.T)
 |w (v:TV R.T) (st:MS R.T)
 |wc (b:Bool) (v:TV R.T) (st:MS R.T)
 |p (α:Type) (d:α) (o:Option α) (f:α→TV R.T)
section
variable (E:Env) (R:gy)
def GY {T:Nat→Type} (agg:Bool) (n:Nat) (cs:List (TV T)) (off:Nat):Option (TV T):=
 bif agg then (bif Nat.ble (off+n) cs.length then some (.agg ((cs.drop off).take n)) else none) else cs[off]?
def jG {T:Nat→Type} (t:TypeId) (cs:List (TV T)) (off:Nat):Option (TV T):=
 match fZ E.P t with
 |some a=>match bq E.P t with
  |some n=>GY a n cs off
  |none=>none
 |none=>none
def zA {T:Nat→Type} (cs:List (TV T)) (off:Nat) (vs:List (TV T)):List (TV T):=cs.take off++vs++cs.drop (off+vs.length)
def GZ {T:Nat→Type} (place:Nat→Option (Nat×Nat)) (cells:List (TV T)):List (Nat×TV T)→Option (List (TV T))
 | []=>some cells
 | (i,v)::rest=>match place i with
   |none=>none
   |some (off,size)=>bif Nat.beq v.cells.length size&& Nat.ble (off+size) cells.length&& uZ v then GZ place (zA cells off v.cells) rest else none
def sW {T:Nat→Type} (t:TypeId):Option (TV T):=match E.P.info? t with
 |some i=>match i.zero with
  |some z=>zn z
  |none=>none
 |none=>none
def bM {T:Nat→Type}:TV T→Option Bool
 |.bool a=>some a
 |.fO a=>some a
 |_=>none
def G5 {T:Nat→Type} (x y:TV T):Option Bool:=match bM x,bM y with
 |some a,some b=>some (a==b)
 |_,_=>none
def zB {T:Nat→Type} (eq:TypeId→TV T→TV T→Option Bool) (xs ys:List (TV T)):List Field→Option Bool
 | []=>some true
 |f::fs=>if f.name= "_" then zB eq xs ys fs else
  match jG E f.type xs f.offset with
  |none=>none
  |some a=>match jG E f.type ys f.offset with
   |none=>none
   |some b=>match eq f.type a b with
    |none=>none
    |some r=>match zB eq xs ys fs with
     |none=>none
     |some q=>some (r&& q)
def CU {T:Nat→Type} (eq:TypeId→TV T→TV T→Option Bool) (e:TypeId) (sz:Nat) (xs ys:List (TV T)):List Nat→Option Bool
 | []=>some true
 |i::is=>match jG E e xs (i*sz) with
  |none=>none
  |some a=>match jG E e ys (i*sz) with
   |none=>none
   |some b=>match eq e a b with
    |none=>none
    |some r=>match CU eq e sz xs ys is with
     |none=>none
     |some q=>some (r&& q)
def zC {T:Nat→Type}:Nat→TypeId→TV T→TV T→Option Bool
 |0,_,_,_=>none
 |d+1,t,x,y=>
  match E.P.underlying t,x,y with
  |some (.struct fs),.agg xs,.agg ys=>if E.P.stoodInHeld t then none else zB E (zC d) xs ys fs.toList
  |some (.array n e),.agg xs,.agg ys=>match bq E.P e with
   |some sz=>CU E (zC d) e sz xs ys (List.range n)
   |none=>none
  |some (.struct _),_,_=>none
  |some (.array _ _),_,_=>none
  |some .bool,x,y=>G5 x y
  |some (.int _),.int k a,.int k' b=>if k=k' then some (a==b) else none
  |some .string,.str a,.str b=>some (a==b)
  |_,_,_=>none
def G6 {T:Nat→Type} (t:TypeId) (x y:TV T):Option Bool:=
 match E.P.underlying t,x,y with
 |some (.struct _),.agg a,.agg b=>if E.P.eqGuardType E.P.depth t then none else zC E 8 t (.agg a) (.agg b)
 |some (.array _ _),.agg a,.agg b=>if E.P.eqGuardType E.P.depth t then none else zC E 8 t (.agg a) (.agg b)
 |some (.func ..),.dY,.dY=>some true
 |some (.func ..),.dY,.fn _ _ _=>some false
 |some (.func ..),.fn _ _ _,.dY=>some false
 |some .bool,x,y=>G5 x y
 |_,_,_=>none
def G7 (op:BinOp) (k:IntKind) (x y:Int):Option (dh R):=
 match op with
 |.add=>some (.t (.int k (k.wrap (x+y))))
 |.sub=>some (.t (.int k (k.wrap (x-y))))
 |.mul=>some (.t (.int k (k.wrap (x*y))))
 |.quo=>some (.c (!(y==0)) (.int k (k.wrap (x.tdiv y))))
 |.rem=>some (.c (!(y==0)) (.int k (x.tmod y)))
 |.and=>some (.t (.int k (k.wrap (BitVec.ofInt k.bits x&&& BitVec.ofInt k.bits y).toNat)))
 |.or=>some (.t (.int k (k.wrap (BitVec.ofInt k.bits x|||BitVec.ofInt k.bits y).toNat)))
 |.xor=>some (.t (.int k (k.wrap (BitVec.ofInt k.bits x^^^BitVec.ofInt k.bits y).toNat)))
 |.andNot=>some (.t (.int k (k.wrap (BitVec.ofInt k.bits x&&& ~~~BitVec.ofInt k.bits y).toNat)))
 |.eql=>some (.t (.bool (x==y)))
 |.neq=>some (.t (.bool (x !=y)))
 |.lss=>some (.t (.bool (decide (x<y))))
 |.leq=>some (.t (.bool (decide (x≤y))))
 |.gtr=>some (.t (.bool (decide (x>y))))
 |.geq=>some (.t (.bool (decide (x≥y))))
 |_=>none
def ME (op:BinOp) (k:IntKind) (x y:Int):Option (dh R):=
 match op with
 |.shl=>some (.c (decide (0≤y)) (.int k (k.wrap (x*2^min y.toNat k.bits))))
 |.shr=>some (.c (decide (0≤y)) (.int k (x.fdiv (2^min y.toNat k.bits))))
 |_=>none
def MF (op:BinOp) (x y:List UInt8):Option (dh R):=
 match op with
 |.add=>some (.c (decide (((x.length+y.length:Nat):Int)≤IntKind.i64.max)) (.str (x++y)))
 |.eql=>some (.t (.bool (x==y)))
 |.neq=>some (.t (.bool (!(x==y))))
 |.lss=>some (.t (.bool (Op.bytesLess x y)))
 |.leq=>some (.t (.bool (Op.bytesLess x y||x==y)))
 |.gtr=>some (.t (.bool (!(Op.bytesLess x y||x==y))))
 |.geq=>some (.t (.bool (!(Op.bytesLess x y))))
 |_=>none
def zD:BinOp→Bool
 |.shl=>true
 |.shr=>true
 |_=>false
def MG (op:BinOp) (t:TypeId) (x y:TV R.T):Option (dh R):=
 match x,y with
 |.int k a,.int k' b=>bif zD op then ME R op k a b else (if k=k' then G7 R op k a b else none)
 |.str a,.str b=>MF R op a b
 |x,y=>match op with
  |.eql=>match G6 E t x y with
   |some b=>some (.t (.bool b))
   |none=>none
  |.neq=>match G6 E t x y with
   |some b=>some (.t (.bool (!b)))
   |none=>none
  |_=>none
def MH (op:UnOp) (x:TV R.T):Option (dh R):=
 match op,x with
 |.neg,.int k n=>some (.t (.int k (k.wrap (0-n))))
 |.xor,.int k n=>G7 R .xor k (if k.signed then-1 else k.max) n
 |.not,.bool b=>some (.t (.bool (!b)))
 |.not,.fO b=>some (.t (.fO (!b)))
 |_,_=>none
def G8 (src dst:TypeId) (x:TV R.T):Option (dh R):=
 match E.P.underlying src,E.P.underlying dst,x with
 |some _,some (.int k),.int _ n=>some (.t (.int k (k.wrap n)))
 |some _,some .string,.str s=>some (.t (.str s))
 |some _,some (.slice e),.str s=>match E.P.underlying e with
  |some (.int .u8)=>some (.t (.aj .any (.int .u8) (s.map fun b=>((b.toNat:Nat):Int))))
  |_=>none
 |some (.slice e),some .string,.aj _ (.int .u8) l=>match E.P.underlying e with
  |some (.int .u8)=>some (.t (.str (List.map (fun n:Int=>UInt8.ofNat n.toNat) l)))
  |_=>none
 |some (.slice e),some .string,.d9=>match E.P.underlying e with
  |some (.int .u8)=>some (.t (.str []))
  |_=>none
 |_,_,_=>none
def gL (i:Int) (n:Nat):Bool:=decide (0≤i∧i≤n)
def zF:Option (TV R.T)→Option (Option Int)
 |none=>some none
 |some (.int _ n)=>some (some n)
 |_=>none
def nV {α:Type} (l:List α):Option Int→Option Int→List α
 |none,none=>l
 |some i,none=>l.drop i.toNat
 |none,some j=>l.take j.toNat
 |some i,some j=>(l.take j.toNat).drop i.toNat
def MI (n:Nat):Option Int→Option Int→Bool
 |none,none=>true
 |some i,none=>gL i n
 |none,some j=>gL j n
 |some i,some j=>gL j n&& gL i j.toNat
def vg (t:TypeId) (x:TV R.T) (lo hi:Option (TV R.T)):Option (dh R):=
 match zF R lo,zF R hi with
 |some lo,some hi=>match E.P.underlying t,x with
  |some .string,.str s=>some (.c (MI s.length lo hi) (.str (nV s lo hi)))
  |some (.slice e),.aj _ u l=>match bq E.P e with
   |some sz=>bif Nat.beq sz (bL R u) then some (.c (MI l.length lo hi) (.aj .any u (nV l lo hi))) else none
   |none=>none
  |_,_=>none
 |_,_=>none
def Tn {T:Nat→Type} (t:TypeId) (f:Nat) (x:TV T):Option (TV T):=
 match lU E.P t f with
 |some (o,_)=>match x with
  |.ref p off=>some (.ref p (off+o))
  |.aI cs off=>some (.aI cs (off+o))
  |.jk p t i off=>some (.jk p t i (off+o))
  |_=>none
 |none=>none
def j4 (R:gy):(t:Ty)→Den R.T t→Den R.T t→Bool
 |.int _=>fun (a b:Int)=>a==b
 |.bool=>fun (a b:Bool)=>a==b
 |.str=>fun (a b:List UInt8)=>a==b
 |.slice _=>fun _ _=>false
 |.st _=>fun _ _=>false
def sZ (t:TypeId) (k:Ty):Bool:=match E.P.underlying t,k with
 |some (.int _),.int _=>true
 |some .string,.str=>true
 |some .bool,.bool=>true
 |_,_=>false
def wY {α β:Type} (eq:α→α→Bool) (x:α):List (α×β)→Option β
 | []=>none
 | (a,v)::m=>bif eq x a then some v else wY eq x m
def vk {α β:Type} (eq:α→α→Bool) (x:α) (v:β):List (α×β)→List (α×β)
 | []=>[(x,v)]
 | (a,w)::m=>bif eq x a then (x,v)::m else (a,w)::vk eq x v m
def Tq {α:Type} (d:α):Option α→α
 |some x=>x
 |none=>d
def Tt (t:Ty) (v:TV R.T):Option (Den R.T t):=bif jw v then mW R t v else none
def CV (t:TypeId) (k e:Ty) (m:List (Den R.T k×Den R.T e)) (x:TV R.T) (ok:Bool):Option (dh R):=
 match pz E.P t with
 |some (kt,et)=>bif sZ E kt k then (match sW (T:=R.T) E et with
  |some z=>match mW R e z,mW R k x with
   |some z,some x=>some (.t (bif ok then .aZ [eU R .any e (Tq z (wY (j4 R k) x m)),.bool (wY (j4 R k) x m).isSome] else eU R .any e (Tq z (wY (j4 R k) x m))))
   |_,_=>none
  |none=>none) else none
 |none=>none
def G9 (t:TypeId) (m x:TV R.T) (ok:Bool) (st:MS R.T):Option (dh R):=
 match m with
 |.bB o=>match kX st o with
  |some (.map k e m)=>CV E R t k e m x ok
  |_=>none
 |.bR k e m=>CV E R t k e m x ok
 |.dQ=>match pz E.P t with
  |some (kt,et)=>match R.ty kt,R.ty et with
   |some k,some e=>CV E R t k e [] x ok
   |_,_=>none
  |none=>none
 |_=>none
def He {T:Nat→Type}:TV T→TV T→Option Bool
 |.int k a,.int k' b=>if k=k' then some (a==b) else none
 |.str a,.str b=>some (a==b)
 |_,_=>none
def Hf {T:Nat→Type} (t:TypeId):TV T→Bool:=fun v=>match E.P.underlying t,v with
 |some (.int _),.int _ _=>true
 |some .string,.str _=>true
 |_,_=>false
def Hg {T:Nat→Type} (x v:TV T):List (TV T)→List (TV T)→Option (List (TV T)×List (TV T))
 | [],[]=>some ([x],[v])
 |a::ks,w::vs=>match He x a with
  |some b=>bif b then some (x::ks,v::vs) else (match Hg x v ks vs with
   |some (ks,vs)=>some (a::ks,w::vs)
   |none=>none)
  |none=>none
 |_,_=>none
def zG (t:TypeId) (m x v:TV R.T) (st:MS R.T):Option (dh R):=
 match m with
 |.bB o=>match look st.ob o with
  |some (.map k e m)=>match pz E.P t with
   |some (kt,_)=>bif sZ E kt k then (match mW R k x,Tt R e v with
    |some x,some v=>some (.w .undef (st.set o (.map k e (vk (j4 R k) x v m))))
    |_,_=>none) else none
   |none=>none
  |some (.smap ks vs)=>match pz E.P t with
   |some (kt,_)=>bif Hf E kt x then (match Hg x v ks vs with
    |some (ks,vs)=>some (.w .undef (st.set o (.smap ks vs)))
    |none=>none) else none
   |none=>none
  |_=>none
 |_=>none
def gD:Ty→Bool
 |.st _=>true
 |_=>false
def zH (t:TypeId):Option (TypeId×Ty×Nat×Nat):=
 match gN E.P t with
 |some e=>match R.ty e,bq E.P e,nG E.P e,fZ E.P e,fK E.P e with
  |some u,some sz,some cu,some ag,some z=>bif Nat.beq sz (bL R u)&& Nat.blt 0 sz&& (ag||Nat.beq sz 1)&& Nat.beq z.cells.length sz&& (ag==gD u) then some (e,u,sz,cu) else none
  |_,_,_,_,_=>none
 |none=>none
def vo (t:Ty) (n:Nat):List (Nat×TV R.T)→Option (List (Den R.T t))
 | []=>some []
 | (i,v)::l=>bif Nat.beq i n then (match mW R t v with
   |some x=>match vo t (n+1) l with
    |some y=>some (x::y)
    |none=>none
   |none=>none) else none
def MJ (t:TypeId) (len:Nat) (ps:List (Nat×TV R.T)):Option (dh R):=
 match zH E R t with
 |some (_,u,sz,_)=>bif Nat.ble (len*sz) (2^24)&& Nat.beq ps.length len then (match vo R u 0 ps with
  |some l=>some (.t (.aj .full u l))
  |none=>none) else none
 |none=>none
def CX (u:Ty):TV R.T→Option (List (Den R.T u))
 |.aj _ _ l=>oP R l
 |.d9=>some []
 |.str s=>oP (t:=.int .u8) (u:=u) R (s.map fun b=>((b.toNat:Nat):Int))
 |_=>none
def Tv (u:Ty) (d:Nat):TV R.T→Option (Nat×List (Den R.T u))
 |.aj .nil _ l=>match oP R l with
  |some l=>some (d,l)
  |none=>none
 |.aj .full _ l=>match oP R l with
  |some l=>some (d,l)
  |none=>none
 |.aj (.own t) _ l=>match oP R l with
  |some l=>some (t,l)
  |none=>none
 |.d9=>some (d,[])
 |_=>none
def zI (t:TypeId):Bool:=match E.P.underlying t with
 |some (.slice _)=>true
 |some .string=>true
 |_=>false
def CY (d:Option Nat) (t u:TypeId) (x y:TV R.T) (st:MS R.T):Option (dh R):=
 match d with
 |some d=>match zH E R t with
  |some (_,τ,_,cu)=>bif zI E u then (match Tv R τ d x,CX R τ y with
   |some (tk,l),some l'=>some (.wc (eD (l.length+l'.length) cu) (.aj (.own tk) τ (l++l')) (st.wk tk))
   |_,_=>none) else none
  |none=>none
 |none=>none
def CZ (d:Option Nat) (t u:TypeId) (x y:TV R.T) (st:MS R.T):Option (dh R):=
 match d with
 |some d=>match zH E R t with
  |some (_,τ,_,cu)=>bif zI E u then (match CX R τ y with
   |some l'=>match x with
    |.vw o τ0=>if τ0=τ then (match look st.ob o with
     |some (.arr τ' l)=>match l',oP R (u:=τ) l with
      |a::l',some l=>some (.wc (eD (l.length+(a::l').length) cu) (.vw d τ) ((st.del o).new d (.arr τ (l++a::l'))))
      |_,_=>none
     |_=>none) else none
    |x=>bif zy x then some (.wc (eD l'.length cu) (.vw d τ) (st.new d (.arr τ l'))) else none
   |none=>none) else none
  |none=>none
 |none=>none
def MK (om:Bool) (d:Option Nat) (t:TypeId) (n m:TV R.T) (st:MS R.T):Option (dh R):=
 match d,zH E R t,n,m with
 |some d,some (e,τ,_,cu),.int _ n,.int _ m=>match sW (T:=R.T) E e with
  |some z=>match mW R τ z with
   |some z=>bif om then some (.wc (decide (0≤n∧n=m∧m≤2^47)&& eD m.toNat cu) (.vw d τ) (st.new d (.arr τ (List.replicate n.toNat z))))
    else some (.wc (decide (n=0∧0≤m∧m≤2^47)&& eD m.toNat cu) (.aj (.own d) τ []) (st.wk d))
   |none=>none
  |none=>none
 |_,_,_,_=>none
def zJ {T:Nat→Type} (mx:Bool):TV T→List (TV T)→Option (TV T)
 |x,[]=>some x
 |.int k a,.int k' b::l=>if k=k' then zJ mx (.int k (bif mx then imax a b else jW a b)) l else none
 |_,_=>none
def ML {T:Nat→Type} (t:TypeId) (x:TV T) (st:MS T):Option Nat:=
 match E.P.underlying t,x with
 |some (.slice _),.aj _ _ l=>some l.length
 |some (.slice _),.d9=>some 0
 |some (.slice _),.vw o _=>match kX st o with
  |some (.arr _ l)=>some l.length
  |_=>none
 |some .string,.str s=>some s.length
 |some (.map _ _),.bB o=>match kX st o with
  |some (.map _ _ m)=>some m.length
  |_=>none
 |some (.map _ _),.bR _ _ m=>some m.length
 |some (.map _ _),.dQ=>some 0
 |some (.array n _),_=>some n
 |_,_=>none
def blt (om:Bool) (d:Option Nat) (b:Builtin) (tys:Array TypeId) (args:List (TV R.T)) (st:MS R.T):Option (dh R):=
 match b,args with
 |.len,[x]=>match tys[0]? with
  |some t=>match ML E t x st with
   |some n=>some (.t (.int .i64 ((n:Nat):Int)))
   |none=>none
  |none=>none
 |.append,[x,y]=>match tys[0]?,tys[1]? with
  |some t,some u=>bif om then CZ E R d t u x y st else CY E R d t u x y st
  |_,_=>none
 |.min,x::l=>match zJ false x l with
  |some v=>some (.t v)
  |none=>none
 |.max,x::l=>match zJ true x l with
  |some v=>some (.t v)
  |none=>none
 |_,_=>none
def Tw:List (TV R.T)→TV R.T
 | [v]=>v
 |vs=>.aZ vs
def findF (args bP:List (TV R.T)):List (FR R)→Option (dh R)
 | []=>none
 |r::l=>match fB R r.args bP with
  |some p=>bif gT r.args&& Nat.ble (mZ r.args) 18&& gT r.res&& (u6 args||zu r.res) then some (.p (aH R.T r.res) r.d (r.F p) fun x=>Tw R (iC R .sh r.res x)) else none
  |none=>findF args bP l
def MN (t:TypeId) (x i:TV R.T):Option (dh R):=
 match E.P.underlying t,x,i with
 |some (.slice e),.aj _ u l,.int _ n=>match bq E.P e with
  |some sz=>bif Nat.beq sz (bL R u) then some (.p (Den R.T u) (zk R u) (dx l n) fun y=>.aI (eU R .sh u y).cells 0) else none
  |none=>none
 |some (.array n e),.ref o off,.int _ k=>match bq E.P e with
  |some sz=>some (.c (decide (0≤k∧k<n)) (.ref o (off+k.toNat*sz)))
  |none=>none
 |some (.array n e),.aI cs off,.int _ k=>match bq E.P e with
  |some sz=>some (.c (decide (0≤k∧k<n)) (.aI cs (off+k.toNat*sz)))
  |none=>none
 |_,_,_=>none
def MO (t:TypeId) (o:Nat) (τ:Ty) (i:TV R.T) (st:MS R.T):Option (dh R):=
 match E.P.underlying t,i with
 |some (.slice e),.int _ n=>match bq E.P e with
  |some sz=>bif Nat.beq sz (bL R τ) then (match kX st o with
   |some (.arr _ l)=>some (.c (decide (0≤n∧n< ((l.length:Nat):Int))) (.jk o τ n 0))
   |_=>none) else none
  |none=>none
 |_,_=>none
def adj {T:Nat→Type}:Option (TV T)→TV T
 |some v=>v
 |none=>.gone
def MP (t:TypeId) (τ:Ty) (i:Int) (off:Nat) (o:Ob R.T):Option (dh R):=
 match o with
 |.arr τ' l=>match oP R (u:=τ) l with
  |some l=>bif (jG E t (eU R .any τ (zk R τ)).cells off).isSome then some (.p (Den R.T τ) (zk R τ) (dx l i) fun y=>adj (jG E t (eU R .any τ y).cells off)) else none
  |none=>none
 |_=>none
def MQ (τ:Ty) (cs:List (TV R.T)):Option (Den R.T τ):=match τ with
 |.st n=>wT R n (.agg cs)
 |.int k=>nS R (.int k) (hd1 R cs)
 |.bool=>nS R .bool (hd1 R cs)
 |.str=>nS R .str (hd1 R cs)
 |.slice t=>nS R (.slice t) (hd1 R cs)
def MR (t:TypeId) (x i:TV R.T):Option (dh R):=
 match E.P.underlying t,x,i with
 |some .string,.str s,.int _ n=>some (.p UInt8 0 (dx s n) fun b=>.int .u8 ((b.toNat:Nat):Int))
 |_,_,_=>none
def zK {T:Nat→Type} (c:Bool):TV T→TV T→Option (TV T)
 |.int k a,.int k' b=>if k=k' then some (.int k (bif c then a else b)) else none
 |.bool a,.bool b=>some (.bool (bif c then a else b))
 |.bool a,.fO b=>some (.bool (bif c then a else b))
 |.fO a,.bool b=>some (.bool (bif c then a else b))
 |.fO a,.fO b=>some (.bool (bif c then a else b))
 |.str a,.str b=>some (.str (bif c then a else b))
 |_,_=>none
def Tx (P:Program):Nat→TypeId→Option (List iJ)
 |0,_=>none
 |n+1,t=>match P.underlying t with
  |some (.int k)=>some [.i k]
  |some (.array m e)=>match P.underlying e with
   |some (.int k)=>some [.a k m]
   |_=>none
  |some (.struct fs)=>fs.toList.foldr (fun f acc=>match Tx P n f.type,acc with
   |some a,some b=>some (a++b)
   |_,_=>none) (some [])
  |_=>none
def Tz:List iJ→Bool
 | []=>false
 |.a _ _::_=>true
 |_::l=>Tz l
def TA (t:TypeId):Option (List iJ):=match R.ty t with
 |some _=>none
 |none=>match Tx E.P 4 t with
  |some ks=>bif Tz ks then some ks else none
  |none=>none
def Sg.sk:Sg→iJ
 |.i k _=>.i k
 |.a k n _=>.a k n
def Hl:iJ→Sg
 |.i k=>.i k 0
 |.a k n=>.a k n (Vec.rep n 0)
def wZ {T:Nat→Type} (k:IntKind):List (TV T)→Bool
 | []=>true
 |.int k' x::l=>(if k'=k then (if x=0 then true else false) else false)&& wZ k l
 |_=>false
def zL {T:Nat→Type}:List iJ→List (TV T)→Bool
 | [],[]=>true
 |.i k::l,v::vs=>wZ k [v]&& zL l vs
 |.a k n::l,vs=>Nat.ble n vs.length&& wZ k (vs.take n)&& zL l (vs.drop n)
 |_,_=>false
def vB {T:Nat→Type}:List iJ→List (TV T)→Option (List Sg)
 | [],[]=>some []
 |.i k::l,.int k' x::vs=>if k'=k then (match vB l vs with
  |some r=>some (.i k x::r)
  |none=>none) else none
 |.a k n::l,vs=>match wV k (vs.take n) with
  |some xs=>bif Nat.beq xs.length n then (match vB l (vs.drop n) with
   |some r=>some (.a k n (Vec.lit n xs)::r)
   |none=>none) else none
  |none=>none
 |_,_=>none
def C8 {T:Nat→Type}:List Sg→List (TV T)
 | []=>[]
 |.i k x::l=>.int k x::C8 l
 |.a k n v::l=>(List.range n).map (fun j=>TV.int k (v.nth j))++C8 l
def zM:List iJ→List iJ→Bool
 | [],[]=>true
 |.i k::l,.i k'::l'=>(if k=k' then true else false)&& zM l l'
 |.a k n::l,.a k' n'::l'=>(if k=k' then true else false)&& Nat.beq n n'&& zM l l'
 |_,_=>false
def Ho {T:Nat→Type} (ks:List iJ):TV T→Option (List Sg)
 |.sg ss=>bif zM ks (ss.map Sg.sk) then some ss else none
 |.agg cs=>vB ks cs
 |.int k x=>match ks with
  | [.i k']=>if k'=k then some [.i k x] else none
  |_=>none
 |_=>none
def Hq (t:TypeId) (ss:List Sg) (off:Nat):Option (TV R.T):=
 match mY ss off,bq E.P t,fZ E.P t with
 |some (_,rest),some sz,some ag=>match mY rest sz with
  |some (mid,_)=>bif ag then (match R.ty t with
   |none=>some (.sg mid)
   |some _=>some (.agg (C8 mid))) else (match mid with
   | [.i k x]=>some (.int k x)
   |_=>none)
  |none=>none
 |_,_,_=>none
def MU (t:TypeId) (k:IntKind) (m:Nat) (n:Nat) (v:Vec n) (i:Int):Option (TV R.T):=
 match ow E.P t,bq E.P t,fZ E.P t with
 |some (m',e),some sz,some true=>bif Nat.beq m' m&& Nat.beq sz m then (match R.ty t with
  |none=>some (.sg [.a k m (v.slc i m)])
  |some _=>some (.agg ((List.range m).map fun j=>.int k (v.nth (i.toNat+j))))) else none
 |_,_,_=>none
def oW (t:TypeId):Bool:=match bq E.P t,fZ E.P t with
 |some sz,some ag=>Nat.beq sz 1&& !ag
 |_,_=>false
def Hr (k:IntKind):List V→List Int→Bool
 | [],[]=>true
 |.int k' x::l,y::m=>(if k'=k then (if x=y then true else false) else false)&& Hr k l m
 |_,_=>false
def Ht (g:Nat) (t:TypeId):Option ((k:IntKind)×(n:Nat)×Vec n):=
 match E.glob g,R.gl g,ow E.P t,bq E.P t,fZ E.P t with
 |some cs,some ⟨k,n,v⟩,some (m,e),some sz,some ag=>bif ag&& Nat.beq m n&& Nat.beq sz n&& oW E e&& Hr k cs v.l then some ⟨k,n,v⟩ else none
 |_,_,_,_,_=>none
def dM (i:Int) (n:Nat):Bool:=decide (0≤i∧i<n)
def l7 (n:Nat):Option Int→Option Int→Bool
 |none,none=>true
 |some i,none=>decide (0≤i∧(i<n∨i=0))
 |none,some j=>decide (0≤j∧j≤n)
 |some i,some j=>decide (0≤i∧i≤j∧j≤n∧(i<j∨i=0))
def bY:Option Int→Int
 |some i=>i
 |none=>0
def fC (n:Nat):Option Int→Int
 |some i=>i
 |none=>n
def vC (t:TypeId) (x:TV R.T) (lo hi:Option (TV R.T)) (st:MS R.T):Option (dh R):=
 match x,zF R lo,zF R hi,ow E.P t with
 |.ref o off,some lo,some hi,some (n,e)=>bif oW E e then (match kX st o with
  |some (.sg ss)=>match mY ss off with
   |some (_,.a k n' _::_)=>bif Nat.beq n' n then some (.c (l7 n lo hi) (.sv o off k n lo hi)) else none
   |_=>none
  |some (.cells cs)=>match (cs.drop off) with
   |.int k _::_=>bif Nat.ble (off+n) cs.length then some (.c (l7 n lo hi) (.sv o off k n lo hi)) else none
   |_=>none
  |_=>none) else none
 |_,_,_,_=>none
def TB (d:Option Nat):Bool:=match d with
 |some d=>E.own F0 d
 |none=>false
def nW (g:List (Nat×Bool)) (d:Option Nat) (o:Op) (st:MS R.T):Option (dh R):=
 match o with
 |.alloc t=>match d,TA E R t,sW (T:=R.T) E t with
  |some d,some ks,some (.agg cs)=>bif zL ks cs then some (.w (.ref d 0) (st.new d (.sg (ks.map Hl)))) else none
  |_,_,_=>none
 |.box t x=>bif E.qY t then none else match d,TA E R t,aV g st x with
  |some d,some ks,some v=>match Ho ks v with
   |some ss=>some (.w (.ref d 0) (st.new d (.sg ss)))
   |none=>none
  |_,_,_=>none
 |.load t a=>match a with
  |.global gl=>match Ht E R gl t with
   |some ⟨k,n,v⟩=>some (.t (.sg [.a k n v]))
   |none=>none
  |a=>match aV g st a with
   |some (.ref o off)=>match kX st o with
    |some (.sg ss)=>match Hq E R t ss off with
     |some v=>some (.t v)
     |none=>none
    |_=>none
   |some (.sel o off k n i m)=>match kX st o with
    |some (.sg ss)=>match mY ss off with
     |some (_,.a k' n' v::_)=>if k'=k then (bif Nat.beq n' n then (bif Nat.beq m 1&& oW E t then some (.t (.int k (v.at' i))) else (match MU E R t k m n' v i with
      |some v=>some (.t v)
      |none=>none)) else none) else none
     |_=>none
    |_=>none
   |some (.oN k n v i)=>bif oW E t then some (.t (.int k (v.at' i))) else none
   |_=>none
 |.store t a x=>match aV g st a,aV g st x with
  |some (.ref o off),some v=>match look st.ob o,bq E.P t with
   |some (.sg ss),some sz=>match mY ss off with
    |some (pre,rest)=>match mY rest sz with
     |some (mid,post)=>match Ho (mid.map Sg.sk) v with
      |some mid'=>some (.w .undef (st.set o (.sg (pre++(mid'++post)))))
      |none=>none
     |none=>none
    |none=>none
   |_,_=>none
  |some (.sel o off k n i m),some (.int k' y)=>match look st.ob o with
   |some (.sg ss)=>match mY ss off with
    |some (pre,.a k2 n' v::post)=>if k2=k then (if k'=k then (bif Nat.beq n' n&& Nat.beq m 1&& oW E t then some (.w .undef (st.set o (.sg (pre++(.a k n' (v.set i y)::post))))) else none) else none) else none
    |_=>none
   |_=>none
  |_,_=>none
 |.indexAddr t x i=>match ow E.P t,aV g st i with
  |some (n,e),some (.int _ i)=>bif oW E e then (match x with
   |.global gl=>match Ht E R gl t with
    |some ⟨k,n,v⟩=>some (.c (dM i n) (.oN k n v i))
    |none=>none
   |x=>match aV g st x with
    |some (.ref o off)=>match kX st o with
     |some (.sg ss)=>match mY ss off with
      |some (_,.a k n' _::_)=>bif Nat.beq n' n then some (.c (dM i n) (.sel o off k n i 1)) else none
      |_=>none
     |_=>none
    |_=>none) else none
  |_,_=>none
 |.index t x i=>match ow E.P t,aV g st x,aV g st i with
  |some (n,e),some (.sg [.a k n' v]),some (.int _ i)=>bif oW E e&& Nat.beq n' n then some (.c (dM i n) (.int k (v.at' i))) else none
  |_,_,_=>none
 |.slice t x lo hi none=>match aV g st x with
  |some x=>match lo,hi with
   |none,none=>vC E R t x none none st
   |some lo,none=>match aV g st lo with
    |some lo=>vC E R t x (some lo) none st
    |none=>none
   |none,some hi=>match aV g st hi with
    |some hi=>vC E R t x none (some hi) st
    |none=>none
   |some lo,some hi=>match aV g st lo,aV g st hi with
    |some lo,some hi=>vC E R t x (some lo) (some hi) st
    |_,_=>none
  |none=>none
 |.slice t x lo (some hi) (some mx)=>match aV g st x,aV g st hi,aV g st mx,E.P.underlying t with
  |some (.aj _ u l),some (.int _ h),some (.int _ m),some (.slice e)=>match bq E.P e with
   |some sz=>bif Nat.beq sz (bL R u) then (match lo with
    |none=>bif TB E d then some (.c (gL m l.length&& (gL h m.toNat&& (h==m))) (.aj .full u (nV l none (some h)))) else some (.c (gL m l.length&& gL h m.toNat) (.aj .any u (nV l none (some h))))
    |some lo=>match aV g st lo with
     |some (.int _ a)=>some (.c (gL m l.length&& (gL h m.toNat&& gL a h.toNat)) (.aj .any u (nV l (some a) (some h))))
     |_=>none) else none
   |none=>none
  |_,_,_,_=>none
 |.convert a b x=>match aV g st x with
  |some (.sv o off k n lo hi)=>match E.P.underlying a,E.P.underlying b with
   |some (.slice e),some .string=>match E.P.underlying e,k with
    |some (.int .u8),.u8=>match GU st o off .u8 n lo hi with
     |some l=>some (.t (.str (List.map (fun n:Int=>UInt8.ofNat n.toNat) l)))
     |none=>none
    |_,_=>none
   |_,_=>none
  |_=>none
 |.sliceToArrayPointer t x=>match ow E.P t,aV g st x with
  |some (m,e),some (.sv o off k n lo hi)=>some (.c (decide (0<m∧m≤fC n hi-bY lo)) (.sel o off k n (bY lo) m))
  |_,_=>none
 |.call c=>match c.callee,lN g st c.args.toList with
  |.builtin .copy,some [.sv o off k n lo hi,y]=>match c.argTypes[0]? with
   |some t=>match gN E.P t with
    |some e=>bif oW E e then (match CX R (.int k) y,look st.ob o with
     |some l,some (.sg ss)=>match mY ss off with
      |some (pre,.a k' n' v::post)=>if k'=k then (bif Nat.beq n' n then
        some (.w (.int .i64 (((l.take (fC n hi-bY lo).toNat).length:Nat):Int)) (st.set o (.sg (pre++(.a k n' (v.pU (bY lo) (l.take (fC n hi-bY lo).toNat))::post))))) else none) else none
      |_=>none
     |_,_=>none) else none
    |none=>none
   |none=>none
  |_,_=>none
 |_=>none
def oZ (om:Bool) (F:Nat→List (FR R)) (g:List (Nat×Bool)) (d:Option Nat) (o:Op) (st:MS R.T):Option (dh R):=
 match o with
 |.move x=>match aV g st x with
  |some v=>some (.t v)
  |none=>none
 |.assign x=>match aV g st x with
  |some v=>some (.t v)
  |none=>none
 |.pick c a b=>match c with
  |.tmp j=>match aV g st c with
   |some (.bool t)=>match aV ((j,true)::g) st a,aV ((j,false)::g) st b with
    |some x,some y=>match zK t x y with
     |some v=>some (.t v)
     |none=>none
    |_,_=>none
   |some (.fO t)=>match aV g st (bif t then a else b) with
    |some v=>some (.t v)
    |none=>none
   |_=>none
  |_=>none
 |.alloc t=>match d,sW E t with
  |some d,some z=>bif uY z.cells&& !(kV d z.cells) then some (.w (.ref d 0) (st.new d (.cells z.cells))) else none
  |_,_=>none
 |.box t x=>bif E.qY t then (match aV g st x with
  |some v=>bif jw v&& uZ v then some (.t (.aI v.cells 0)) else none
  |none=>none) else match d,aV g st x with
  |some d,some v=>bif uY v.cells&& uZ v&& !(kV d v.cells) then some (.w (.ref d 0) (st.new d (.cells v.cells))) else none
  |_,_=>none
 |.build t parts=>match yH E t,sW (T:=R.T) E t,zo g st parts.toList with
  |some pl,some z,some ps=>match GZ pl z.cells ps with
   |some cs=>some (.t (.agg cs))
   |none=>none
  |_,_,_=>none
 |.buildSlice t len parts=>match zo g st parts.toList with
  |some ps=>MJ E R t len ps
  |none=>none
 |.load t a=>match aV g st a with
  |some (.ref o off)=>match kX st o with
   |some (.cells cs)=>match jG E t cs off with
    |some v=>some (.t v)
    |none=>none
   |_=>none
  |some (.aI cs off)=>match jG E t cs off with
   |some v=>some (.t v)
   |none=>none
  |some (.jk o τ i off)=>match kX st o with
   |some b=>MP E R t τ i off b
   |none=>none
  |_=>none
 |.store t a x=>match aV g st a,aV g st x with
  |some (.ref o off),some v=>match look st.ob o,bq E.P t with
   |some (.cells cs),some sz=>bif Nat.beq v.cells.length sz&& Nat.ble (off+v.cells.length) cs.length&& uY v.cells&& uZ v then
     some (.w .undef (st.set o (.cells (zA cs off v.cells)))) else none
   |_,_=>none
  |_,_=>none
 |.nilCheck x=>match aV g st x with
  |some (.ref o off)=>some (.t (.ref o off))
  |some (.aI cs off)=>some (.t (.aI cs off))
  |some (.jk o τ i off)=>some (.t (.jk o τ i off))
  |some (.fn f a b)=>some (.t (.fn f a b))
  |_=>none
 |.binOp op t x y _=>match aV g st x,aV g st y with
  |some x,some y=>MG E R op t x y
  |_,_=>none
 |.unOp op _ x=>match aV g st x with
  |some x=>MH R op x
  |none=>none
 |.convert a b x=>match aV g st x with
  |some x=>G8 E R a b x
  |none=>none
 |.makeFunc (.func f) a b=>match lN g st a.toList,lN g st b.toList with
  |some a,some b=>some (.t (.fn f a b))
  |_,_=>none
 |.makeMap t none=>match d,pz E.P t with
  |some d,some (k,e)=>match R.ty k,R.ty e with
   |some k,some e=>some (.w (.bB d) (st.new d (.map k e [])))
   |_,_=>some (.w (.bB d) (st.new d (.smap [] [])))
  |_,_=>none
 |.makeSlice t l c=>match aV g st l,aV g st c with
  |some n,some m=>MK E R om d t n m st
  |_,_=>none
 |.slice t x lo hi none=>match aV g st x with
  |some x=>match lo,hi with
   |none,none=>vg E R t x none none
   |some lo,none=>match aV g st lo with
    |some lo=>vg E R t x (some lo) none
    |none=>none
   |none,some hi=>match aV g st hi with
    |some hi=>vg E R t x none (some hi)
    |none=>none
   |some lo,some hi=>match aV g st lo,aV g st hi with
    |some lo,some hi=>vg E R t x (some lo) (some hi)
    |_,_=>none
  |none=>none
 |.fieldAddr t x f=>match aV g st x with
  |some x=>match Tn E t f x with
   |some v=>some (.t v)
   |none=>none
  |none=>none
 |.field t x f=>match lU E.P t f,aV g st x with
  |some (o,u),some (.agg cs)=>match jG E u cs o with
   |some v=>some (.t v)
   |none=>none
  |_,_=>none
 |.indexAddr t x i=>match aV g st x,aV g st i with
  |some (.vw o τ),some i=>MO E R t o τ i st
  |some x,some i=>MN E R t x i
  |_,_=>none
 |.index t x i=>match aV g st x,aV g st i with
  |some x,some i=>MR E R t x i
  |_,_=>none
 |.lookup t x i ok=>match aV g st x,aV g st i with
  |some x,some i=>G9 E R t x i ok st
  |_,_=>none
 |.mapUpdate t m k v=>match aV g st m,aV g st k,aV g st v with
  |some m,some k,some v=>zG E R t m k v st
  |_,_,_=>none
 |.insert t m k v=>match aV g st m,aV g st k,aV g st v with
  |some m,some k,some v=>zG E R t m k v st
  |_,_,_=>none
 |.extract x i=>match aV g st x with
  |some (.aZ vs)=>match vs[i]? with
   |some v=>some (.t v)
   |none=>none
  |_=>none
 |.call c=>match c.callee with
  |.builtin b=>match lN g st c.args.toList with
   |some vs=>blt E R om d b c.argTypes vs st
   |none=>none
  |.value f=>match aV g st f,lN g st c.args.toList with
   |some (.fn f a b),some vs=>bif E.imp f then none else findF R (a++vs++b) (l6 st (a++vs++b)) (F f)
   |_,_=>none
  |_=>none
 |_=>none
def rG (om:Bool) (F:Nat→List (FR R)) (g:List (Nat×Bool)) (d:Option Nat) (o:Op) (st:MS R.T):Option (dh R):=
 match nW E R g d o st with
 |some r=>some r
 |none=>oZ E R om F g d o st
inductive Gd where
 |no
 |run
 |skip
 |dyn (j:Nat) (w:Bool) (c:Bool) (g:List (Nat×Bool))
def zN (b w:Bool):Bool:=bif w then b else !b
def MV (a b:Bool):Bool:=bif a then b else false
def lQ {T:Nat→Type} (st:MS T):Nat→Nat→Bool→Option (Bool×List (Nat×Bool))
 |0,_,_=>none
 |n+1,j,w=>match look st.fr j with
  |some (.bool b)=>some (zN b w,[(j,w)])
  |some (.opt i u (.bool b))=>match lQ st n i u with
   |some (c,g)=>some (MV c (zN b w),(j,w)::g)
   |none=>none
  |some (.opt i u (.fO b))=>match lQ st n i u with
   |some (c,g)=>some (MV c (zN b w),(j,w)::g)
   |none=>none
  |_=>none
def Hu {T:Nat→Type} (all:List Oper) (st:MS T) (o:Oper):Gd:=
 match o.guard with
 |none=>.run
 |some (j,w)=>match all[j]? with
  |some p=>match p.dst with
   |some t=>match look st.fr t with
    |some (.fO b)=>bif b==w then .run else .skip
    |some .undef=>.skip
    |_=>match lQ st 12 t w with
     |some (c,g)=>.dyn t w c g
     |none=>.no
   |none=>.skip
  |none=>.skip
def MS.kL {T:Nat→Type} (st:MS T):List (Nat×Bool)→MS T
 | []=>st
 | (j,w)::g=>(st.kL g).learn j w
def MS.tq {T:Nat→Type} (st:MS T):List (Nat×Bool)→MS T
 | [(j,w)]=>st.learn j (!w)
 |_=>st
def fD {α:Type} (c:Bool) (o:Option α) (d:α):Option α:=bif c then o else some d
def MW (st:MS R.T) (t:TypeId) (m x:Operand):Option (List (TV R.T)×List (TV R.T)×TV R.T×TV R.T):=
 match aV [] st m with
 |some (.bB o)=>match kX st o with
  |some (.smap ks vs)=>match aV [] st x,pz E.P t with
   |some x,some (kt,et)=>match sW (T:=R.T) E et with
    |some z=>bif Hf E kt x then some (ks,vs,x,z) else none
    |none=>none
   |_,_=>none
  |_=>none
 |_=>none
def Hw {T:Nat→Type} {β:Type} (x:TV T):List (TV T)→List (TV T)→TV T→(TV T→Bool→Option β)→Option β
 | [],[],z,k=>k z false
 |a::ks,v::vs,z,k=>match He x a with
  |some b=>bif b then k v true else Hw x ks vs z k
  |none=>none
 |_,_,_,_=>none
section
variable (om:Bool) {β:Type} (F:Nat→List (FR R))
def MX (t:TypeId) (a x:Operand) (st:MS R.T):Option ((τ:Ty)×Nat×Int×Nat×List (Den R.T τ)×TV R.T):=
 match aV [] st a,aV [] st x with
 |some (.jk o τ i off),some v=>match look st.ob o,bq E.P t with
  |some (.arr τ' l),some sz=>match oP R (u:=τ) l with
   |some l=>bif Nat.beq v.cells.length sz&& Nat.ble (off+v.cells.length) (bL R τ)&& uY v.cells&& uZ v then some ⟨τ,o,i,off,l,v⟩ else none
   |none=>none
  |_,_=>none
 |_,_=>none
def w9 {α:Type} (l:List α) (i:Int) (y:α):List α:=l.set i.toNat y
def runM (o:Oper) (st:MS R.T) (k:MS R.T→Option β):Option β:=
 match o.op with
 |.pick c a b=>match aV [] st c with
  |some (.fO t)=>match aV [] st (bif t then a else b) with
   |some v=>k (st.dR o.dst v)
   |none=>none
  |some (.bool t)=>match c with
   |.tmp j=>match aV [(j,true)] st a,aV [(j,false)] st b with
    |some x,some y=>match zK t x y with
     |some v=>k (st.dR o.dst v)
     |none=>bif t then k ((st.learn j true).dR o.dst x) else k ((st.learn j false).dR o.dst y)
    |_,_=>none
   |_=>none
  |_=>none
 |.store t a x=>match MX E R t a x st with
  |some ⟨τ,p,i,off,l,v⟩=>(dx l i).bind fun y=>match MQ R τ (zA (eU R .any τ y).cells off v.cells) with
   |some y'=>k ((st.set p (.arr τ (w9 l i y'))).dR o.dst .undef)
   |none=>none
  |none=>match rG E R om F [] o.dst (.store t a x) st with
   |some (.w v st')=>k (st'.dR o.dst v)
   |_=>none
 |.lookup t m x ok=>match MW E R st t m x with
  |some (ks,vs,x,z)=>Hw x ks vs z fun v b=>k (st.dR o.dst (bif ok then .aZ [v,.fO b] else v))
  |none=>match rG E R om F [] o.dst (.lookup t m x ok) st with
   |some (.t v)=>k (st.dR o.dst v)
   |_=>none
 |op=>match rG E R om F [] o.dst op st with
  |some (.t v)=>k (st.dR o.dst v)
  |some (.c b v)=>bif b then k (st.dR o.dst v) else none
  |some (.w v st')=>k (st'.dR o.dst v)
  |some (.wc b v st')=>bif b then k (st'.dR o.dst v) else none
  |some (.p _ _ x f)=>x.bind fun a=>k (st.dR o.dst (f a))
  |none=>none
def adk (b c:Bool):Bool:=bif b then c else true
def MZ (o:Oper) (j:Nat) (w c:Bool) (g:List (Nat×Bool)) (st:MS R.T) (k:MS R.T→Option β):Option β:=
 match o.dst with
 |some d=>match (bif aO d (g.map (·.1)) then none else rG E R om F g o.dst o.op st) with
  |some (.t v)=>k (st.put d (.opt j w v))
  |some (.c b v)=>bif adk c b then k (st.put d (.opt j w v)) else none
  |some (.p _ z x f)=>(fD c x z).bind fun a=>k (st.put d (.opt j w (f a)))
  |_=>bif c then runM E R om F o (st.kL g) k else k ((st.tq g).dR o.dst .undef)
 |none=>bif c then runM E R om F o (st.kL g) k else k ((st.tq g).dR o.dst .undef)
def ng {T:Nat→Type} (st:MS T) (o:Oper):Bool:=match o.op with
 |.call c=>match c.callee with
  |.value f=>match aV [] st f with
   |some (.fn g _ _)=>match o.dst with
    |some d=>E.own g d
    |none=>false
   |_=>true
  |_=>false
 |_=>false
def adl:List Sk→Bool
 |.d9::k::l=>gT (k::l)
 |_=>false
def zO (args bP:List (TV R.T)):List (FR R)→Option ((τ:Ty)×Option (List (Den R.T τ)))
 | []=>none
 | ⟨as,[.d (.slice τ)],G,_,true⟩::l=>match fB R as bP with
   |some p=>bif (gT as||adl as)&& Nat.ble (mZ as) 18&& u6 args then some ⟨τ,G p⟩ else none
   |none=>zO args bP l
 |_::l=>zO args bP l
def M0 (o:Oper) (st:MS R.T) (k:MS R.T→Option β):Option β:=match o.op,o.dst with
 |.call c,some d=>match c.callee with
  |.value f=>match aV [] st f,lN [] st c.args.toList with
   |some (.fn g a b),some vs=>match zO R (a++vs++b) (l6 st (a++vs++b)) (F g) with
    |some ⟨τ,x⟩=>x.bind fun l=>k ((st.wk d).put d (.aj (.own d) τ l))
    |none=>none
   |_,_=>none
  |_=>none
 |_,_=>none
def zP (o:Nat) (l:List Nat):List Nat:=bif aO o l then l else l++[o]
mutual
def adn {T:Nat→Type}:TV T→List Nat→List Nat
 |.ref o _,l=>zP o l
 |.bB o,l=>zP o l
 |.vw o _,l=>zP o l
 |.jk o _ _ _,l=>zP o l
 |.sv o _ _ _ _ _,l=>zP o l
 |.sel o _ _ _ _ _,l=>zP o l
 |.agg cs,l=>pW cs l
 |.aZ cs,l=>pW cs l
 |.aI cs _,l=>pW cs l
 |.fn _ a b,l=>pW b (pW a l)
 |_,l=>l
def pW {T:Nat→Type}:List (TV T)→List Nat→List Nat
 | [],l=>l
 |v::vs,l=>pW vs (adn v l)
end
mutual
def tu {T:Nat→Type} (m:List (Nat×Nat)):TV T→TV T
 |.ref o off=>match look m o with
  |some p=>.ref p off
  |none=>.gone
 |.bB o=>match look m o with
  |some p=>.bB p
  |none=>.gone
 |.vw o t=>match look m o with
  |some p=>.vw p t
  |none=>.gone
 |.jk o t i off=>match look m o with
  |some p=>.jk p t i off
  |none=>.gone
 |.sv o off k n lo hi=>match look m o with
  |some p=>.sv p off k n lo hi
  |none=>.gone
 |.sel o off k n i j=>match look m o with
  |some p=>.sel p off k n i j
  |none=>.gone
 |.aj c t l=>match c with
  |.own _=>.aj .any t l
  |c=>.aj c t l
 |.agg cs=>.agg (vD m cs)
 |.aZ cs=>.aZ (vD m cs)
 |.aI cs off=>.aI (vD m cs) off
 |.fn f a b=>.fn f (vD m a) (vD m b)
 |v=>v
def vD {T:Nat→Type} (m:List (Nat×Nat)):List (TV T)→List (TV T)
 | []=>[]
 |v::vs=>tu m v::vD m vs
end
def jy:List Nat→Nat→List (Nat×Nat)
 | [],_=>[]
 |o::l,n=>(o,n)::jy l (n+1)
def xg:List Nat→Bool
 | []=>true
 |o::l=> !(aO o l)&& xg l
def zQ {T:Nat→Type} (st:MS T):List (Nat×Nat)→List (Nat×Ob T)
 | []=>[]
 | (o,p)::m=>match look st.ob o with
   |some x=>(p,x)::zQ st m
   |none=>zQ st m
def pX {T:Nat→Type}:List (Nat×Nat)→List (Nat×Ob T)→List (Nat×Ob T)
 | [],_=>[]
 | (o,p)::m,l=>match look l p with
   |some y=>(o,y)::pX m l
   |none=>pX m l
def zR:List (Nat×Nat)→List (Nat×jF)→Bool
 | [],[]=>true
 | (_,p)::m,(q,_)::l=>Nat.beq p q&& zR m l
 |_,_=>false
def zS:List Sk→Bool
 | []=>true
 |.d (.int _)::l=>zS l
 |.d .bool::l=>zS l
 |.d .str::l=>zS l
 |_=>false
def M4:List Sk→Bool
 | []=>true
 |.d _::l=>M4 l
 |_=>false
def okO:jF→Bool
 |.cells l=>M4 l
 |_=>true
def rH:List (Nat×jF)→Bool
 | []=>true
 | (_,k)::l=>okO k&& rH l
def Hy (m:List (Nat×Nat)) (A:List (TV R.T)) (B:List (Nat×Ob R.T)):List (FM R)→Option ((r:FM R)×Option (aH R.T r.res×mV R.T r.obs))
 | []=>none
 |r::l=>match fB R r.args A,lg R B r.obs with
  |some p,some q=>bif zR m r.obs&& (zS r.res&& rH r.obs) then some ⟨r,r.F p q⟩ else none
  |_,_=>Hy m A B l
def TD {T:Nat→Type}:List (TV T)→TV T
 | [v]=>v
 |vs=>.aZ vs
def pY {T:Nat→Type} (st:MS T) (o:Oper):Bool:=match o.op with
 |.call c=>match c.callee with
  |.value f=>match aV [] st f with
   |some (.fn g _ _)=>E.imp g
   |_=>false
  |_=>false
 |_=>false
def qL (o:Oper):Bool:=match o.op with
 |.call c=>match c.callee with
  |.value (.func g)=> !(E.imp g)
  |.value _=>false
  |_=>true
 |_=>true
def xk (M:Nat→List (FM R)) (o:Oper) (st:MS R.T) (k:MS R.T→Option β):Option β:=match o.op with
 |.call c=>match c.callee with
  |.value f=>match aV [] st f,lN [] st c.args.toList with
   |some (.fn g a b),some vs=>bif xg (pW (a++vs++b) []) then (match Hy R (jy (pW (a++vs++b) []) F0) (vD (jy (pW (a++vs++b) []) F0) (a++vs++b)) (zQ st (jy (pW (a++vs++b) []) F0)) (M g) with
    |some ⟨r,x⟩=>x.bind fun y=>k (MS.dR ⟨st.fr,pX (jy (pW (a++vs++b) []) F0) (jO R r.obs y.2)++st.ob⟩ o.dst (TD (iC R .any r.res y.1)))
    |none=>none) else none
   |_,_=>none
  |_=>none
 |_=>none
variable (M:Nat→List (FM R))
def qM (all:List Oper):List Oper→MS R.T→(MS R.T→Option β)→Option β
 | [],st,k=>k st
 |o::os,st,k=>match Hu all st o with
  |.run=>bif ng E st o then M0 R F o st (fun st=>qM all os st k) else (bif pY E st o then xk R M o st (fun st=>qM all os st k) else runM E R om F o st (fun st=>qM all os st k))
  |.skip=>qM all os (st.dR o.dst .undef) k
  |.dyn j w c g=>bif ng E st o||ng E (st.kL g) o then none else (bif pY E (st.kL g) o then (bif c then xk R M o (st.kL g) (fun st=>qM all os st k) else qM all os ((st.tq g).dR o.dst .undef) k) else MZ E R om F o j w c g st (fun st=>qM all os st k))
  |.no=>none
def TF {T:Nat→Type}:TV T→List Key
 |.ref o _=>[.obj (1,o)]
 |.bB o=>[.obj (1,o)]
 |.jk o _ _ _=>[.obj (1,o)]
 |.sv o _ _ _ _ _=>[.obj (1,o)]
 |.sel o _ _ _ _ _=>[.obj (1,o)]
 |_=>[]
def tC {T:Nat→Type} (st:MS T) (x:Operand):List Key:=match aV [] st x with
 |some v=>TF v
 |none=>[]
def Hz (o:Oper):List Key:=match o.dst with
 |some t=>[.obj (1,t)]
 |none=>[]
def HV {T:Nat→Type}:List (TV T)→Bool
 | []=>false
 |.sv _ _ _ _ _ _::_=>true
 |_::l=>HV l
def C9 (om:Bool) {T:Nat→Type} (st:MS T) (o:Oper):bD:=
 match o.op with
 |.move _|.assign _|.pick .. |.build .. |.buildSlice .. |.nilCheck _|.binOp .. |.unOp .. |.makeInterface .. |.makeFunc .. |.fieldAddr .. |.field .. |.indexAddr .. |.index .. |.extract ..
 |.sliceToArrayPointer .. =>lI []
 |.convert _ _ x|.slice _ x _ _ _|.load _ x|.lookup _ x _ _=>lI (tC st x)
 |.alloc _|.box .. |.makeMap .. =>kF (Hz o)
 |.makeSlice .. =>kF (.top::Hz o)
 |.store _ a _=>kF (tC st a)
 |.mapUpdate _ m _ _|.insert _ m _ _=>kF (tC st m)
 |.call c=>match c.callee with
  |.builtin b=>match b with
   |.len|.cap|.min|.max=>lI (c.args.toList.flatMap fun x=>tC st x)
   |.append=>bif om then dZ else ⟨false,false,c.args.toList.flatMap fun x=>tC st x,[.top]⟩
   |_=>dZ
  |.value f=>match aV [] st f with
   |some (.fn g a b)=>if E.imp g then dZ else (match lN [] st c.args.toList with
    |some vs=>if u6 (a++vs++b) then lI [] else ⟨true,false,[],[]⟩
    |none=>dZ)
   |_=>dZ
  |_=>dZ
 |_=>dZ
def ni (om:Bool) {T:Nat→Type} (all:List Oper) (st:MS T) (o:Oper) (wanted:Bool):bD:=
 if wanted then let f:=C9 E om st o;⟨f.qz,f.mJ,qA all o++f.t,kG o++f.w⟩
 else ⟨false,false,qA all o,kG o⟩
def zT {T:Nat→Type}:TV T→Bool
 |.gone=>false
 |.opt _ _ _=>false
 |.vw _ _=>false
 |_=>true
def vE {T:Nat→Type} (st:MS T) (o:Oper):Bool:= !(ng E st o)&&
 match o.op with
 |.call c=>match c.callee with
  |.value f=>match aV [] st f,lN [] st c.args.toList with
   |some (.fn _ a b),some vs=>u6 (a++vs++b)||HV (a++vs++b)
   |_,_=>false
  |.builtin _=>match lN [] st c.args.toList with
   |some vs=>vs.all zT
   |none=>false
  |_=>true
 |_=>true
def Key.nm:Key→Key
 |.obj l=>.obj (1,l.2)
 |k=>k
def bD.nm (f:bD):bD:=⟨f.qz,f.mJ,f.t.map Key.nm,f.w.map Key.nm⟩
def nX (ms:List Nat) (all:List Oper):List Oper→MS R.T→List bD→(MS R.T→Option β)→Option β
 | [],st,fs,k=>bif sN ms (fs.map bD.nm) then k st else none
 |o::os,st,fs,k=>match Hu all st o with
  |.run=>bif pY E st o then (bif ng E st o then none else xk R M o st (fun st'=>nX ms all os st' (fs++[ni E om all st o true]) k)) else bif !(vE E st o) then none else runM E R om F o st (fun st'=>nX ms all os st' (fs++[ni E om all st o true]) k)
  |.skip=>nX ms all os (st.dR o.dst .undef) (fs++[ni E om all st o false]) k
  |.dyn _ _ c g=>bif c then (bif pY E (st.kL g) o then (bif ng E (st.kL g) o then none else xk R M o (st.kL g) (fun st'=>nX ms all os st' (fs++[ni E om all (st.kL g) o true]) k)) else bif !(vE E (st.kL g) o) then none else runM E R om F o (st.kL g) (fun st'=>nX ms all os st' (fs++[ni E om all (st.kL g) o true]) k))
   else nX ms all os ((st.tq g).dR o.dst .undef) (fs++[ni E om all st o false]) k
  |.no=>none
end
def iO {R:gy} (key:Nat) (W:List Nat) (b:MS R.T) (sh:Shape) (outs:List (Ex×Shape)) (body:{β:Type}→MS R.T→(Ex→MS R.T→Option β)→Option β):Nat→nR R.T sh→Option (Out R.T outs)
 |0,_=>none
 |m+1,p=>body (b.over (unpack R sh p)) fun e st=>match e with
  |.normal=>match jP R W st sh with
   |some p=>iO key W b sh outs body m p
   |none=>none
  |e=>pV R W e st outs
def MS.obs {T:Nat→Type} (st:MS T):MS T:=⟨[],st.ob⟩
def Da {R:gy} {β:Type} (body:MS R.T→(Ex→MS R.T→Option β)→Option β):Nat→MS R.T→(Ex→MS R.T→Option β)→Option β
 |0,_,_=>none
 |m+1,st,k=>body st fun e st'=>match e with
  |.normal=>Da body m st' k
  |e=>k e st'
def zU {R:gy} {X:Type} (key:Nat) (W:List Nat) (b:MS R.T) (sh:Shape) (outs:List (Ex×Shape)) (body:{β:Type}→X→MS R.T→(Ex→MS R.T→Option β)→Option β):List X→nR R.T sh→Option (Out R.T outs)
 | [],p=>pV R W .normal (unpack R sh p).obs outs
 |x::xs,p=>body x (b.over (unpack R sh p)) fun e st=>match e with
  |.normal=>match jP R W st.obs sh with
   |some p=>zU key W b sh outs body xs p
   |none=>none
  |e=>pV R W e st.obs outs
def Db {R:gy} (a b:List (TV R.T)):List (FI R)→Option ((el:List Sk)×Option (List (aH R.T el)))
 | []=>none
 |i::l=>match fB R i.a a,fB R i.b b with
  |some pa,some pb=>bif gT i.a&& gT i.b&& gT i.el&& Nat.ble (mZ i.a) 18&& Nat.ble (mZ i.b) 18 then some ⟨i.el,i.F pa pb⟩ else none
  |_,_=>Db a b l
def xq (O:List Nat):List (Nat×jF)→Bool
 | []=>true
 | (o,_)::l=> !(aO o O)&& xq O l
def xu {T:Nat→Type} (st:MS T):List Nat→List (TV T)→Option (MS T)
 | [],[]=>some st
 |i::l,v::vs=>xu (st.put i v) l vs
 |_,_=>none
def iV:List Oper→List Nat
 | []=>[]
 |o::l=>match o.dst with
  |some d=>d::iV l
  |none=>iV l
def aN:Code→List Nat
 |.region _ ops _=>iV ops.toList
 |.seq a b=>aN a++aN b
 |.cond _ a b=>aN a++aN b
 |.block _ c=>aN c
 |.loop c=>aN c
 |.rangeFunc _ ps a b=>ps.toList++aN a++aN b
 |_=>[]
def lS:Code→Nat
 |.region i _ _=>i
 |.seq a _=>lS a
 |.loop a=>lS a
 |.block _ a=>lS a
 |.rangeFunc _ _ _ b=>lS b
 |_=>0
def gU:Code→Bool
 |.region _ ops _=>ops.toList.all (qL E)
 |.seq a b=>gU a&& gU b
 |.cond _ a b=>gU a&& gU b
 |.block _ c=>gU c
 |.loop c=>gU c
 |.rangeFunc _ _ _ _=>false
 |_=>true
variable (n:Nat) (om:Bool) (F:Nat→List (FR R)) (I:IR R) (A:dz)
def bS:Code→{β:Type}→MS R.T→(Ex→MS R.T→Option β)→Option β
 |.skip,_,st,k=>k .normal st
 |.region _ ops dr,_,st,k=>bif dr then (bif mK ops.toList then nX E R om F I.im (nK ops.toList) ops.toList ops.toList st [] (fun st=>k .normal st) else none) else qM E R om F I.im ops.toList ops.toList st (fun st=>k .normal st)
 |.seq a b,_,st,k=>
  match look A.joins (lS b) with
  |none=>bS a st fun e st=>match e with
   |.normal=>bS b st k
   |e=>k e st
  |some q=>(bS (β:=Out R.T q.outs) a ((base (aN a) q.K q.O .ro st).over st) fun e st=>pV R (aN a) e st q.outs).bind (rF R (base (aN a) q.K q.O (fun b=>b) st) (fun e st=>match e with
   |.normal=>bS b st k
   |e=>k e st) q.outs)
 |.cond c a b,_,st,k=>match aV [] st c with
  |some (.fO t)=>bif t then bS a st k else bS b st k
  |some (.bool t)=>bif t then bS a (st.zl c true) k else bS b (st.zl c false) k
  |_=>none
 |.block id c,_,st,k=>bS c st fun e st=>match e with
  |.exit i=>bif Nat.beq i id then k .normal st else k (.exit i) st
  |e=>k e st
 |.loop c,_,st,k=>match look A.loops (lS c) with
  |some q=>match jP R (aN c) st q.sh with
   |some p=>(iO (lS c) (aN c) (base (aN c) q.K q.O .ro st) q.sh q.outs (fun st k=>bS c st k) n p).bind (rF R (base (aN c) q.K q.O (fun b=>b) st) k q.outs)
   |none=>none
  |none=>Da (fun st k=>bS c st k) 130 st k
 |.rangeFunc f ps a c,_,st,k=>match look A.loops (lS c) with
  |some q=>match aV [] st f with
   |some (.fn g u v)=>bif nT u&& nT v&& xq q.O q.sh.ob&& gU E a&& gU E c then (match Db u v (I.it g) with
    |some ⟨el,xs⟩=>match jP R (ps.toList++aN a++aN c) st.obs q.sh with
     |some p=>(xs.bind fun xs=>zU (lS c) (ps.toList++aN a++aN c) (base (ps.toList++aN a++aN c) q.K q.O .ro st) q.sh q.outs (fun x st k=>match xu st ps.toList (iC R .sh el x) with
       |some st=>bS a st fun e st=>match e with
        |.normal=>bS c st k
        |_=>none
       |none=>none) xs p).bind (rF R (base (ps.toList++aN a++aN c) q.K q.O (fun b=>b) st) k q.outs)
     |none=>none
    |none=>none) else none
   |_=>none
  |none=>none
 |.exit i,_,st,k=>k (.exit i) st
 |.ret,_,st,k=>k .ret st
 |_,_,_,_=>none
def rJ (st:MS R.T):List ResultVar→Option (List (TV R.T))
 | []=>some []
 |.tmp t::l=>match aV [] st (.tmp t) with
  |some v=>match rJ st l with
   |some vs=>some (v::vs)
   |none=>none
  |none=>none
 |.cell a t::l=>match aV [] st (.tmp a) with
  |some (.ref o off)=>match kX st o with
   |some (.cells cs)=>match jG E t cs off with
    |some v=>match rJ st l with
     |some vs=>some (v::vs)
     |none=>none
    |none=>none
   |some (.sg ss)=>match Hq E R t ss off with
    |some v=>match rJ st l with
     |some vs=>some (v::vs)
     |none=>none
    |none=>none
   |_=>none
  |_=>none
def xw {T:Nat→Type}:Nat→List (TV T)→List (Nat×TV T)
 |_,[]=>[]
 |i,v::l=>(i,v)::xw (i+1) l
def dK (fn:Func) (args res:List Sk) (p:aH R.T args):Option (aH R.T res):=
 match fn.body with
 |some c=>bS E R n om F I A c ⟨xw 0 (iC R .sh args p),[]⟩ fun e st=>match e with
  |.exit _=>none
  |_=>match rJ E R st fn.results.toList with
   |some vs=>bif gT res&& Nat.ble (mZ res) 16 then fB R res (l6 st vs) else none
   |none=>none
 |none=>none
def M5 {T:Nat→Type}:TV T→Bool
 |.aj (.own _) _ _=>true
 |.aj .full _ _=>true
 |.d9=>true
 |_=>false
def M6 (fn:Func) (args:List Sk) (τ:Ty) (p:aH R.T args):Option (List (Den R.T τ)):=
 match fn.body with
 |some c=>bS E R n om F I A c ⟨xw 0 (iC R .sh args p),[]⟩ fun e st=>match e with
  |.exit _=>none
  |_=>match rJ E R st fn.results.toList with
   |some [v]=>bif M5 v then wS R τ v else none
   |_=>none
 |none=>none
end
end Aq
end
section
namespace Aq
open Go
set_option linter.unusedSectionVars false
set_option linter.unusedVariables false
structure Cx where
 om:Bool
 dp:Nat
 lo:Nat
 fl:Nat→Option Loc
 lt:∀o L,fl o=some L→F0≤o∧L.1<dp
 inj:∀o p L,fl o=some L→fl p=some L→o=p
def Cx.lc (c:Cx) (o:Nat):Loc:=match c.fl o with
 |some L=>L
 |none=>(c.dp,o)
theorem Cx.ado (c:Cx) {o:Nat} (h:o<F0):c.lc o=(c.dp,o):=by
 unfold Cx.lc
 split
 ·rename_i L hL
  have:=(c.lt _ _ hL).1
  omega
 ·rfl
theorem Cx.M7 (c:Cx) {o p:Nat} (h:c.lc o=c.lc p):o=p:=by
 unfold Cx.lc at h
 split at h<;>split at h
 ·rename_i L h1 _ M h2;subst h;exact c.inj _ _ _ h1 h2
 ·rename_i L h1 _ h2;have:=(c.lt _ _ h1).2;rw[h] at this;exact absurd this (Nat.lt_irrefl _)
 ·rename_i h1 _ L h2;have:=(c.lt _ _ h2).2;rw[←h] at this;exact absurd this (Nat.lt_irrefl _)
 ·exact congrArg Prod.snd h
theorem Cx.TG (c:Cx) {o p:Nat} (h:o≠p):c.lc o≠c.lc p:=fun e=>h (c.M7 e)
theorem Cx.zV (c:Cx) (o:Nat):(c.lc o).1≤c.dp:=by
 unfold Cx.lc
 split
 ·rename_i L hL;exact Nat.le_of_lt (c.lt _ _ hL).2
 ·exact Nat.le_refl _
def Cx.out (c:Cx) (L:Loc):Prop:=∀o,L≠c.lc o
structure aK where
 ob:Nat→Option Nat
 tk:Nat→Option Nat
 ln:Nat→Nat
 om:Cx
section
variable (R:gy)
def l8:Ty→Bool
 |.st _=>false
 |_=>true
structure l9:Prop where
 Dc:∀n p,R.of n (R.to n p)=p
 enc:∀n x,R.enc n x= .agg (encs R (R.lf n) (R.of n x))
 leaf:∀n,(R.lf n).all l8=true
 pc:∀n x,aD (R.enc n x)=true
def zW (ρ:aK) (top:Nat→Nat) (sz len:Nat):Cp→Cap→Prop
 |.any,_=>True
 |.sh,c=>c= .sh
 |.nil,c=>c= .nil
 |.full,c=>c= .full
 |.own t,c=>c= .nil∨c= .full∨∃s,c= .own sz s∧ρ.tk t=some s∧top s=len
mutual
def Rl (ρ:aK) (top:Nat→Nat):TV R.T→V→Prop
 |.int k n,v=>v= .int k n
 |.bool b,v=>v= .bool b
 |.fO b,v=>v= .bool b
 |.str s,v=>v= .str s
 |.eH,v=>v= .eH
 |.dY,v=>v= .dY
 |.dQ,v=>v= .dQ
 |.fG,v=>v= .fG
 |.d9,v=>v= .aj .nil []
 |.agg cs,v=> ∃l,v= .agg l∧au ρ top cs l
 |.aZ cs,v=> ∃l,v= .aZ l∧au ρ top cs l
 |.aj c t l,v=> ∃c',v= .aj c' (l.map (aF R t))∧zW ρ top (bL R t) l.length c c'
 |.ref o off,v=> ∃s,ρ.ob o=some s∧v= .ref (ρ.om.lc o) s off
 |.aI cs off,v=> ∃l,v= .aI l off∧au ρ top cs l
 |.bB o,v=> ∃s,ρ.ob o=some s∧v= .bB (ρ.om.lc o) s
 |.bR k e m,v=>v= .bR (m.map fun p=>aF R k p.1) (m.map fun p=>aF R e p.2)
 |.fn f a b,v=> ∃a' b',v= .fn (.func f) a' b'∧au ρ top a a'∧au ρ top b b'
 |.opt _ _ _,_=>False
 |.vw o t,v=>(∃s,ρ.ob o=some s∧v= .vw (ρ.om.lc o) s 0 (ρ.ln o) (ρ.ln o) (bL R t) (gD t))∨(ρ.ln o=0∧(v= .aj .nil []∨v= .aj .full []))
 |.jk o t i off,v=> ∃s,ρ.ob o=some s∧0≤i∧v= .ref (ρ.om.lc o) s (i.toNat*bL R t+off)
 |.sg ss,v=>v= .agg (bn ss)
 |.sv o off k n lo hi,v=> ∃s,ρ.ob o=some s∧l7 n lo hi=true∧v= .vw (ρ.om.lc o) s (off+(bY lo).toNat) ((fC n hi).toNat-(bY lo).toNat) (n-(bY lo).toNat) 1 false
 |.sel o off k n i m,v=> ∃s,ρ.ob o=some s∧0≤i∧i.toNat+m≤n∧v= .ref (ρ.om.lc o) s (off+i.toNat)
 |.oN k n x i,v=>0≤i∧i<n∧v= .aI (x.l.map (V.int k)) i.toNat
 |.undef,v=>v=aA
 |.gone,_=>True
def au (ρ:aK) (top:Nat→Nat):List (TV R.T)→List V→Prop
 | [],l=>l=[]
 |t::ts,l=> ∃v vs,l=v::vs∧Rl ρ top t v∧au ρ top ts vs
end
variable {R}
variable {ρ ρ':aK} {top top':Nat→Nat}
theorem au.eX {vs:List V} (h:au R ρ top [] vs):vs=[]:=by unfold au at h;exact h
theorem au.dA {t:TV R.T} {ts:List (TV R.T)} {vs:List V} (h:au R ρ top (t::ts) vs):∃v l,vs=v::l∧Rl R ρ top t v∧au R ρ top ts l:=by unfold au at h;exact h
theorem Rl.fE {k:IntKind} {n:Int} {v:V} (h:Rl R ρ top (.int k n) v):v= .int k n:=by unfold Rl at h;exact h
theorem Rl.o7 {b:Bool} {v:V} (h:Rl R ρ top (.bool b) v):v= .bool b:=by unfold Rl at h;exact h
theorem Rl.qN {b:Bool} {v:V} (h:Rl R ρ top (.fO b) v):v= .bool b:=by unfold Rl at h;exact h
theorem Rl.lq {b:List UInt8} {v:V} (h:Rl R ρ top (.str b) v):v= .str b:=by unfold Rl at h;exact h
theorem Rl.nY {v:V} (h:Rl R ρ top .d9 v):v= .aj .nil []:=by unfold Rl at h;exact h
theorem Rl.jA {cs:List (TV R.T)} {v:V} (h:Rl R ρ top (.agg cs) v):∃l,v= .agg l∧au R ρ top cs l:=by unfold Rl at h;exact h
theorem Rl.HY {cs:List (TV R.T)} {v:V} (h:Rl R ρ top (.aZ cs) v):∃l,v= .aZ l∧au R ρ top cs l:=by unfold Rl at h;exact h
theorem Rl.jQ {c:Cp} {t:Ty} {l:List (Den R.T t)} {v:V} (h:Rl R ρ top (.aj c t l) v):∃c',v= .aj c' (l.map (aF R t))∧zW ρ top (bL R t) l.length c c':=by unfold Rl at h;exact h
theorem Rl.nk {o off:Nat} {v:V} (h:Rl R ρ top (.ref o off) v):∃s,ρ.ob o=some s∧v= .ref (ρ.om.lc o) s off:=by unfold Rl at h;exact h
theorem Rl.rM {cs:List (TV R.T)} {off:Nat} {v:V} (h:Rl R ρ top (.aI cs off) v):∃l,v= .aI l off∧au R ρ top cs l:=by unfold Rl at h;exact h
theorem Rl.tH {o:Nat} {v:V} (h:Rl R ρ top (.bB o) v):∃s,ρ.ob o=some s∧v= .bB (ρ.om.lc o) s:=by unfold Rl at h;exact h
theorem Rl.zX {k e:Ty} {m:List (Den R.T k×Den R.T e)} {v:V} (h:Rl R ρ top (.bR k e m) v):v= .bR (m.map fun p=>aF R k p.1) (m.map fun p=>aF R e p.2):=by unfold Rl at h;exact h
theorem Rl.mg {f:Nat} {a b:List (TV R.T)} {v:V} (h:Rl R ρ top (.fn f a b) v):∃a' b',v= .fn (.func f) a' b'∧au R ρ top a a'∧au R ρ top b b':=by unfold Rl at h;exact h
theorem Rl.zY {o:Nat} {t:Ty} {v:V} (h:Rl R ρ top (.vw o t) v):(∃s,ρ.ob o=some s∧v= .vw (ρ.om.lc o) s 0 (ρ.ln o) (ρ.ln o) (bL R t) (gD t))∨(ρ.ln o=0∧(v= .aj .nil []∨v= .aj .full [])):=by unfold Rl at h;exact h
theorem Rl.xA {o off:Nat} {t:Ty} {i:Int} {v:V} (h:Rl R ρ top (.jk o t i off) v):∃s,ρ.ob o=some s∧0≤i∧v= .ref (ρ.om.lc o) s (i.toNat*bL R t+off):=by unfold Rl at h;exact h
theorem Rl.Df {ss:List Sg} {v:V} (h:Rl R ρ top (.sg ss) v):v= .agg (bn ss):=by unfold Rl at h;exact h
theorem Rl.vF {o off n:Nat} {k:IntKind} {lo hi:Option Int} {v:V} (h:Rl R ρ top (.sv o off k n lo hi) v):∃s,ρ.ob o=some s∧l7 n lo hi=true∧v= .vw (ρ.om.lc o) s (off+(bY lo).toNat) ((fC n hi).toNat-(bY lo).toNat) (n-(bY lo).toNat) 1 false:=by unfold Rl at h;exact h
theorem Rl.Dh {o off n m:Nat} {k:IntKind} {i:Int} {v:V} (h:Rl R ρ top (.sel o off k n i m) v):∃s,ρ.ob o=some s∧0≤i∧i.toNat+m≤n∧v= .ref (ρ.om.lc o) s (off+i.toNat):=by unfold Rl at h;exact h
theorem Rl.HZ {n:Nat} {k:IntKind} {x:Vec n} {i:Int} {v:V} (h:Rl R ρ top (.oN k n x i) v):0≤i∧i<n∧v= .aI (x.l.map (V.int k)) i.toNat:=by unfold Rl at h;exact h
theorem Rl.TH {v:V} (h:Rl R ρ top .undef v):v=aA:=by unfold Rl at h;exact h
theorem Rl.TI {j:Nat} {w:Bool} {x:TV R.T} {v:V} (h:Rl R ρ top (.opt j w x) v):False:=by unfold Rl at h;exact h
theorem au.nil':au R ρ top [] []:=rfl
theorem au.cons' {t:TV R.T} {ts:List (TV R.T)} {v:V} {vs:List V} (h:Rl R ρ top t v) (h':au R ρ top ts vs):au R ρ top (t::ts) (v::vs):=⟨v,vs,rfl,h,h'⟩
theorem au.length:∀{ts:List (TV R.T)} {vs:List V},au R ρ top ts vs→vs.length=ts.length
 | [],_,h=>by cases h;rfl
 |_::ts,_,⟨v,vs,e,_,h'⟩=>by subst e;simp[au.length h']
theorem au.append:∀{ts ts':List (TV R.T)} {vs vs':List V},au R ρ top ts vs→au R ρ top ts' vs'→au R ρ top (ts++ts') (vs++vs')
 | [],_,_,_,h,h2=>by cases h;exact h2
 |_::ts,_,_,_,⟨v,vs,e,h1,h'⟩,h2=>by subst e;exact .cons' h1 (au.append h' h2)
theorem au.drop:∀(n:Nat) {ts:List (TV R.T)} {vs:List V},au R ρ top ts vs→au R ρ top (ts.drop n) (vs.drop n)
 |0,_,_,h=>by simpa using h
 |n+1,[],_,h=>by cases h;simp;rfl
 |n+1,_::ts,_,⟨v,vs,e,h1,h'⟩=>by subst e;simpa using au.drop n h'
theorem au.take:∀(n:Nat) {ts:List (TV R.T)} {vs:List V},au R ρ top ts vs→au R ρ top (ts.take n) (vs.take n)
 |0,_,_,h=>by simp;rfl
 |n+1,[],_,h=>by cases h;simp;rfl
 |n+1,_::ts,_,⟨v,vs,e,h1,h'⟩=>by subst e;simpa using .cons' h1 (au.take n h')
theorem au.get:∀{ts:List (TV R.T)} {vs:List V} {i:Nat} {t:TV R.T},au R ρ top ts vs→ts[i]? =some t→∃v,vs[i]? =some v∧Rl R ρ top t v
 | [],_,_,_,_,h=>by simp at h
 |_::ts,_,0,_,⟨v,vs,e,h1,h'⟩,h=>by subst e;simp at h;subst h;exact⟨v,by simp,h1⟩
 |_::ts,_,i+1,_,⟨v,vs,e,h1,h'⟩,h=>by subst e;simpa using au.get h' (by simpa using h)
mutual
theorem Rl.wk (t:Nat) (ho:ρ'.ob=ρ.ob∧ρ'.ln=ρ.ln∧ρ'.om=ρ.om) (ht:∀u s,u≠t→ρ.tk u=some s→ρ'.tk u=some s∧top' s=top s):∀(x:TV R.T) (v:V),Rl R ρ top x v→Rl R ρ' top' (wk t x) v
 |.aj (.own u) ty l,v,h=>by
  obtain⟨c',hv,hc⟩:=h
  unfold Aq.wk
  by_cases e:Nat.beq u t=true
  ·rw[e,cond_true];exact⟨c',hv,trivial⟩
  ·have e':Nat.beq u t=false:=Bool.eq_false_iff.2 e
   rw[e',cond_false]
   refine⟨c',hv, ?_⟩
   rcases hc with hc|hc| ⟨s,h1,h2,h3⟩
   ·exact .inl hc
   ·exact .inr (.inl hc)
   ·have hne:u≠t:=fun h=>e (by rw[h];exact Nat.beq_refl t)
    have:=ht u s hne h2
    exact .inr (.inr ⟨s,h1,this.1,by rw[this.2];exact h3⟩)
 |.aj .any ty l,v,h=>by obtain⟨c',hv,hc⟩:=h;exact⟨c',hv,trivial⟩
 |.aj .sh ty l,v,h=>by obtain⟨c',hv,hc⟩:=h;exact⟨c',hv,hc⟩
 |.aj .nil ty l,v,h=>by obtain⟨c',hv,hc⟩:=h;exact⟨c',hv,hc⟩
 |.aj .full ty l,v,h=>by obtain⟨c',hv,hc⟩:=h;exact⟨c',hv,hc⟩
 |.agg cs,v,h=>by obtain⟨l,hv,hl⟩:=h;exact⟨l,hv,au.wk t ho ht cs l hl⟩
 |.aZ cs,v,h=>by obtain⟨l,hv,hl⟩:=h;exact⟨l,hv,au.wk t ho ht cs l hl⟩
 |.aI cs off,v,h=>by obtain⟨l,hv,hl⟩:=h;exact⟨l,hv,au.wk t ho ht cs l hl⟩
 |.fn f a b,v,h=>by obtain⟨a',b',hv,ha,hb⟩:=h;exact⟨a',b',hv,au.wk t ho ht a a' ha,au.wk t ho ht b b' hb⟩
 |.ref o off,v,h=>by obtain⟨s,h1,h2⟩:=h;exact⟨s,by rw[ho.1];exact h1,by rw[ho.2.2];exact h2⟩
 |.bB o,v,h=>by obtain⟨s,h1,h2⟩:=h;exact⟨s,by rw[ho.1];exact h1,by rw[ho.2.2];exact h2⟩
 |.vw o ty,v,h=>by
  rcases h with ⟨s,h1,h2⟩| ⟨h1,h2⟩
  ·exact .inl ⟨s,by rw[ho.1];exact h1,by rw[ho.2.1,ho.2.2];exact h2⟩
  ·exact .inr ⟨by rw[ho.2.1];exact h1,h2⟩
 |.jk o ty i off,v,h=>by obtain⟨s,h1,h2⟩:=h;exact⟨s,by rw[ho.1];exact h1,by rw[ho.2.2];exact h2⟩
 |.sv o _ _ _ _ _,v,h=>by obtain⟨s,h1,h2⟩:=h;exact⟨s,by rw[ho.1];exact h1,by rw[ho.2.2];exact h2⟩
 |.sel o _ _ _ _ _,v,h=>by obtain⟨s,h1,h2⟩:=h;exact⟨s,by rw[ho.1];exact h1,by rw[ho.2.2];exact h2⟩
 |.sg _,_,h=>h
 |.oN _ _ _ _,_,h=>h
 |.opt _ _ _,_,h=>h.elim
 |.int _ _,_,h=>h
 |.bool _,_,h=>h
 |.fO _,_,h=>h
 |.str _,_,h=>h
 |.eH,_,h=>h
 |.dY,_,h=>h
 |.dQ,_,h=>h
 |.fG,_,h=>h
 |.d9,_,h=>h
 |.bR _ _ _,_,h=>h
 |.undef,_,h=>h
 |.gone,_,h=>h
theorem au.wk (t:Nat) (ho:ρ'.ob=ρ.ob∧ρ'.ln=ρ.ln∧ρ'.om=ρ.om) (ht:∀u s,u≠t→ρ.tk u=some s→ρ'.tk u=some s∧top' s=top s):∀(x:List (TV R.T)) (v:List V),au R ρ top x v→au R ρ' top' (rD t x) v
 | [],_,h=>h
 |x::xs,_,⟨v,vs,e,h1,h2⟩=>⟨v,vs,e,Rl.wk t ho ht x v h1,au.wk t ho ht xs vs h2⟩
end
mutual
theorem Rl.kill (o:Nat) (ho:∀p,p≠o→ρ'.ob p=ρ.ob p∧ρ'.ln p=ρ.ln p) (ht:ρ'.tk=ρ.tk) (hx:ρ'.om=ρ.om):∀(x:TV R.T) (v:V),jX o x=false→Rl R ρ top x v→Rl R ρ' top x v
 |.aj c ty l,v,_,h=>by
  obtain⟨c',hv,hc⟩:=h
  refine⟨c',hv, ?_⟩
  cases c<;>try exact hc
  rcases hc with hc|hc| ⟨s,h1,h2,h3⟩
  ·exact .inl hc
  ·exact .inr (.inl hc)
  ·exact .inr (.inr ⟨s,h1,by rw[ht];exact h2,h3⟩)
 |.agg cs,v,hm,h=>by obtain⟨l,hv,hl⟩:=h;exact⟨l,hv,au.kill o ho ht hx cs l hm hl⟩
 |.aZ cs,v,hm,h=>by obtain⟨l,hv,hl⟩:=h;exact⟨l,hv,au.kill o ho ht hx cs l hm hl⟩
 |.aI cs off,v,hm,h=>by obtain⟨l,hv,hl⟩:=h;exact⟨l,hv,au.kill o ho ht hx cs l hm hl⟩
 |.fn f a b,v,hm,h=>by
  obtain⟨a',b',hv,ha,hb⟩:=h
  unfold jX at hm
  rw[Bool.or_eq_false_iff] at hm
  exact⟨a',b',hv,au.kill o ho ht hx a a' hm.1 ha,au.kill o ho ht hx b b' hm.2 hb⟩
 |.ref p off,v,hm,h=>by
  obtain⟨s,h1,h2⟩:=h
  unfold jX at hm
  exact⟨s,((ho p (fun e=>by rw[e,Nat.beq_refl] at hm;cases hm)).1.trans h1),by rw[hx];exact h2⟩
 |.bB p,v,hm,h=>by
  obtain⟨s,h1,h2⟩:=h
  unfold jX at hm
  exact⟨s,((ho p (fun e=>by rw[e,Nat.beq_refl] at hm;cases hm)).1.trans h1),by rw[hx];exact h2⟩
 |.vw p ty,v,hm,h=>by
  unfold jX at hm
  obtain⟨k1,k2⟩:=ho p (fun e=>by rw[e,Nat.beq_refl] at hm;cases hm)
  rcases h with ⟨s,h1,h2⟩| ⟨h1,h2⟩
  ·exact .inl ⟨s,k1.trans h1,by rw[k2,hx];exact h2⟩
  ·exact .inr ⟨by rw[k2];exact h1,h2⟩
 |.jk p ty i off,v,hm,h=>by
  obtain⟨s,h1,h2⟩:=h
  unfold jX at hm
  exact⟨s,((ho p (fun e=>by rw[e,Nat.beq_refl] at hm;cases hm)).1.trans h1),by rw[hx];exact h2⟩
 |.sv p _ _ _ _ _,v,hm,h=>by
  obtain⟨s,h1,h2⟩:=h
  unfold jX at hm
  exact⟨s,((ho p (fun e=>by rw[e,Nat.beq_refl] at hm;cases hm)).1.trans h1),by rw[hx];exact h2⟩
 |.sel p _ _ _ _ _,v,hm,h=>by
  obtain⟨s,h1,h2⟩:=h
  unfold jX at hm
  exact⟨s,((ho p (fun e=>by rw[e,Nat.beq_refl] at hm;cases hm)).1.trans h1),by rw[hx];exact h2⟩
 |.sg _,_,_,h=>h
 |.oN _ _ _ _,_,_,h=>h
 |.opt _ _ _,_,_,h=>h.elim
 |.int _ _,_,_,h=>h
 |.bool _,_,_,h=>h
 |.fO _,_,_,h=>h
 |.str _,_,_,h=>h
 |.eH,_,_,h=>h
 |.dY,_,_,h=>h
 |.dQ,_,_,h=>h
 |.fG,_,_,h=>h
 |.d9,_,_,h=>h
 |.bR _ _ _,_,_,h=>h
 |.undef,_,_,h=>h
 |.gone,_,_,h=>h
theorem au.kill (o:Nat) (ho:∀p,p≠o→ρ'.ob p=ρ.ob p∧ρ'.ln p=ρ.ln p) (ht:ρ'.tk=ρ.tk) (hx:ρ'.om=ρ.om):∀(x:List (TV R.T)) (v:List V),kV o x=false→au R ρ top x v→au R ρ' top x v
 | [],_,_,h=>h
 |x::xs,_,hm,⟨v,vs,e,h1,h2⟩=>by
  unfold kV at hm
  rw[Bool.or_eq_false_iff] at hm
  exact⟨v,vs,e,Rl.kill o ho ht hx x v hm.1 h1,au.kill o ho ht hx xs vs hm.2 h2⟩
end
section
variable (hR:l9 R)
include hR
def zZ (v w:V):Prop:=eY v=w∧er v=w∧aD w=true∧(∀n σ,aL (n+2) σ v=some w)∧oneCell v=true∧v.cells=[v]
omit hR in
theorem adp {v:V} (h:∀cs,v≠ .agg cs):er v=eY v:=by cases v<;>first|rfl|exact absurd rfl (h _)
theorem nu:∀(t:Ty) (x:Den R.T t),aD (aF R t x)=true
 |.int _,x=>by simp[aF,aD]
 |.bool,x=>by simp[aF,aD]
 |.str,x=>by simp[aF,aD]
 |.slice t,x=>CG (nu t) x
 |.st n,x=>hR.pc n x
theorem TJ (c:Cp) (hc:zW ρ top 1 0 c .sh∧(c= .any∨c= .sh)):∀(t:Ty) (x:Den R.T t),l8 t=true→Rl R ρ top (uW R c t x) (aF R t x)
 |.int _,x,_=>rfl
 |.bool,x,_=>rfl
 |.str,x,_=>rfl
 |.slice t,x,_=>⟨.sh,rfl,by rcases hc.2 with rfl|rfl<;>first|trivial|rfl⟩
 |.st n,x,h=>by simp[l8] at h
theorem TK (c:Cp) (hc:zW ρ top 1 0 c .sh∧(c= .any∨c= .sh)):∀(l:List Ty) (p:lK R.T l),l.all l8=true→au R ρ top (iU R c l p) (encs R l p)
 | [],_,_=>rfl
 | [t],x,h=>.cons' (TJ hR c hc t x (by simpa using h)) rfl
 |t::u::l,p,h=>by
  rw[List.all_cons,Bool.and_eq_true] at h
  exact .cons' (TJ hR c hc t p.1 h.1) (TK c hc (u::l) p.2 h.2)
theorem H6 (c:Cp) (hc:c= .any∨c= .sh):∀(t:Ty) (x:Den R.T t),Rl R ρ top (eU R c t x) (aF R t x)
 |.int _,x=>rfl
 |.bool,x=>rfl
 |.str,x=>rfl
 |.slice t,x=>⟨.sh,rfl,by rcases hc with rfl|rfl<;>first|trivial|rfl⟩
 |.st n,x=>⟨_,hR.enc n x,TK hR c ⟨by rcases hc with rfl|rfl<;>first|trivial|rfl,hc⟩ _ _ (hR.leaf n)⟩
theorem TL (t:Ty) (x:Den R.T t):Rl R ρ top (eU R .sh t x) (aF R t x):=H6 hR .sh (.inr rfl) t x
omit hR in
theorem adq (k:IntKind) (n:Int):zZ (.int k n) (.int k n):=⟨rfl,rfl,by simp[aD],fun n σ=>Mh (n+1) _ _,rfl,rfl⟩
omit hR in
theorem adr (b:Bool):zZ (.bool b) (.bool b):=⟨rfl,rfl,by simp[aD],fun n σ=>Mi (n+1) _,rfl,rfl⟩
omit hR in
theorem ads (b:List UInt8):zZ (.str b) (.str b):=⟨rfl,rfl,by simp[aD],fun n σ=>Mj (n+1) _,rfl,rfl⟩
theorem adt (c:Cap) (t:Ty) (l:List (Den R.T t)):zZ (.aj c (l.map (aF R t))) (aF R (.slice t) l):=⟨rfl,rfl,nu hR (.slice _) _,fun n σ=>uU _ _ (nu hR _),rfl,rfl⟩
omit hR in
theorem M8 {k:IntKind} {x:Int} {tv:TV R.T} {v:V} (h:GL R k tv=some x) (hr:Rl R ρ top tv v):v= .int k x:=by
 unfold GL at h
 split at h
 ·split at h
  ·rename_i e;cases e;cases h;exact hr.fE
  ·cases h
 ·cases h
omit hR in
theorem M9 {x:Bool} {tv:TV R.T} {v:V} (h:GN R tv=some x) (hr:Rl R ρ top tv v):v= .bool x:=by
 unfold GN at h
 split at h<;>cases h
 ·exact hr.o7
 ·exact hr.qN
omit hR in
theorem Na {x:List UInt8} {tv:TV R.T} {v:V} (h:GQ R tv=some x) (hr:Rl R ρ top tv v):v= .str x:=by
 unfold GQ at h
 split at h<;>cases h
 exact hr.lq
omit hR in
theorem p8 {t u:Ty} {l:List (Den R.T t)} {m:List (Den R.T u)} (h:oP R l=some m):t=u∧HEq l m:=by
 unfold oP at h
 split at h
 ·rename_i e;subst e;cases h;exact⟨rfl,HEq.rfl⟩
 ·cases h
omit hR in
theorem TM {t:Ty} {x:List (Den R.T t)} {tv:TV R.T} {v:V} (h:wS R t tv=some x) (hr:Rl R ρ top tv v):∃c,v= .aj c (x.map (aF R t)):=by
 unfold wS at h
 split at h
 ·obtain⟨e,e2⟩:=p8 h;subst e;cases e2
  obtain⟨c',hv,hc⟩:=hr.jQ
  exact⟨c',hv⟩
 ·cases h;exact⟨.nil,hr.nY⟩
 ·cases h
theorem z8 {t:Ty} {x:Den R.T t} {tv:TV R.T} {v:V} (h:nS R t tv=some x) (hr:Rl R ρ top tv v):zZ v (aF R t x):=by
 cases t with
 |int k=>rw[M8 h hr];exact adq _ _
 |bool=>rw[M9 h hr];exact adr _
 |str=>rw[Na h hr];exact ads _
 |slice t=>obtain⟨c,hv⟩:=TM h hr;rw[hv];exact adt hR _ _ _
 |st n=>cases h
theorem adu {t:Ty} {x:Den R.T t} {cs:List (TV R.T)} {vs:List V} (h:nS R t (hd1 R cs)=some x) (hr:au R ρ top cs vs):∃v,vs=[v]∧zZ v (aF R t x):=by
 cases cs with
 |nil=>cases t<;>cases h
 |cons c cs=>
  cases cs with
  |nil=>
   obtain⟨v,l,rfl,h1,h2⟩:=hr.dA
   rw[h2.eX]
   exact⟨v,rfl,z8 hR h h1⟩
  |cons c' cs=>cases t<;>cases h
theorem TN:∀(l:List Ty) (p:lK R.T l) (cs:List (TV R.T)) (vs:List V),uX R l cs=some p→au R ρ top cs vs→
 vs.map eY=encs R l p∧(∀n σ,vs.mapM (aL (n+2) σ)=some (encs R l p))∧aP (encs R l p)=true∧vs.all (fun v=>oneCell v)=true
 | [],p,cs,vs,h,hr=>by
   cases cs with
   |nil=>rw[hr.eX];exact⟨rfl,fun _ _=>rfl,by simp[encs,aP],rfl⟩
   |cons c cs=>cases h
 | [t],p,cs,vs,h,hr=>by
   obtain⟨v,rfl,a,b,c,d,e,_⟩:=adu hR (show nS R t (hd1 R cs)=some p from h) hr
   exact⟨by simp[encs,a],fun n σ=>by simp[encs,d],by simp[encs,aP,c],by simp[e]⟩
 |t::u::l,p,cs,vs,h,hr=>by
  cases cs with
  |nil=>cases h
  |cons c cs=>
   obtain⟨v,vs,rfl,h1,h2⟩:=hr.dA
   unfold uX at h
   cases hu:nS R t c with
   |none=>simp only[hu] at h;cases h
   |some y=>
    cases hs:uX R (u::l) cs with
    |none=>simp only[hu,hs] at h;cases h
    |some q=>
     simp only[hu,hs] at h
     obtain rfl:=Option.some.inj h
     obtain⟨a,b,c,d,e,_⟩:=z8 hR hu h1
     obtain⟨a',d',c',o'⟩:=TN (u::l) q cs vs hs h2
     exact⟨by simp[encs,a,a'],fun n σ=>by simp[encs,d,d'],by simp[encs,aP,c,c'],by simp[e,o']⟩
omit hR in
theorem Nb:∀(l:List Ty) (p:lK R.T l),(encs R l p).length=l.length
 | [],_=>rfl
 | [_],_=>rfl
 |_::u::l,p=>by show (encs R (u::l) p.2).length+1=_;rw[Nb];rfl
omit hR in
theorem Nc {n:Nat} {σ:ah} (cs:List V):aL (n+3) σ (.agg cs)=(cs.mapM (aL (n+2) σ)).map .agg:=by
 by_cases hp:aD (.agg cs)=true
 ·rw[ji hp]
  have:∀cs:List V,aP cs=true→cs.mapM (aL (n+2) σ)=some cs:=by
   intro cs
   induction cs with
   |nil=>intro _;rfl
   |cons a l ih=>
    intro h
    simp only[aP,Bool.and_eq_true] at h
    rw[List.mapM_cons,ji h.1,ih h.2];rfl
  rw[this cs (by simpa [aD] using hp)];rfl
 ·conv=>lhs;unfold aL
  simp only[hp,if_false,Bool.false_eq_true]
theorem Nf {t:Ty} {x:Den R.T t} {tv:TV R.T} {v:V} (h:mW R t tv=some x) (hr:Rl R ρ top tv v):
 er v=aF R t x∧aD (aF R t x)=true∧(∀n σ,aL (n+3) σ v=some (aF R t x))∧v.cells.length=bL R t∧aW v.cells=true:=by
 cases t with
 |st n=>
  change wT R n tv=some x at h
  unfold wT at h
  split at h
  ·rename_i cs
   split at h
   ·rename_i p hp
    obtain rfl:=Option.some.inj h
    obtain⟨l,hv,hl⟩:=hr.jA
    subst hv
    obtain⟨a,d,c,o⟩:=TN hR _ _ _ _ hp hl
    have he:aF R (.st n) (R.to n p)= .agg (encs R (R.lf n) p):=by
     show R.enc n (R.to n p)=_
     rw[hR.enc,hR.Dc]
    refine⟨?_,nu hR (.st n) _,fun k σ=> ?_, ?_,o⟩
    ·rw[he];show V.agg (l.map eY)=_;rw[a]
    ·rw[he,Nc,d k σ];rfl
    ·show l.length=_
     have:=congrArg List.length a
     rw[List.length_map] at this
     rw[this];exact Nb _ _
   ·cases h
  ·cases h
 |int k=>
  obtain⟨a,b,c,d,e,f⟩:=z8 hR (t:=.int k) h hr
  exact⟨b,c,fun n σ=>d (n+1) σ,by rw[f];rfl,by rw[f];simp[aW,e]⟩
 |bool=>
  obtain⟨a,b,c,d,e,f⟩:=z8 hR (t:=.bool) h hr
  exact⟨b,c,fun n σ=>d (n+1) σ,by rw[f];rfl,by rw[f];simp[aW,e]⟩
 |str=>
  obtain⟨a,b,c,d,e,f⟩:=z8 hR (t:=.str) h hr
  exact⟨b,c,fun n σ=>d (n+1) σ,by rw[f];rfl,by rw[f];simp[aW,e]⟩
 |slice t=>
  obtain⟨a,b,c,d,e,f⟩:=z8 hR (t:=.slice t) h hr
  exact⟨b,c,fun n σ=>d (n+1) σ,by rw[f];rfl,by rw[f];simp[aW,e]⟩
end
end
end Aq
end
