/- Part of the proof of a law. -/
import Derived.Test.YtdcnajadcbedkaaGreatDoorS806
set_option linter.all false
set_option linter.unusedSimpArgs false
set_option linter.unusedSectionVars false
section
namespace Aq
open Go
inductive dG (R:fU) where
 |t (v:TV R.T)
 |c (b:Bool) (v:TV R.T)
 |w (v:TV R.T) (st:MS R.T)
 |wc (b:Bool) (v:TV R.T) (st:MS R.T)
 |p (α:Type) (d:α) (o:Option α) (f:α→TV R.T)
section
variable (E:Env) (R:fU)
def H7 {T:Nat→Type} (agg:Bool) (n:Nat) (cs:List (TV T)) (off:Nat):Option (TV T):=
 bif agg then (bif Nat.ble (off+n) cs.length then some (.agg ((cs.drop off).take n)) else none) else cs[off]?
def jD {T:Nat→Type} (t:TypeId) (cs:List (TV T)) (off:Nat):Option (TV T):=
 match fP E.P t with
 |some a=>match bJ E.P t with
  |some n=>H7 a n cs off
  |none=>none
 |none=>none
def yZ {T:Nat→Type} (cs:List (TV T)) (off:Nat) (vs:List (TV T)):List (TV T):=cs.take off++vs++cs.drop (off+vs.length)
def H8 {T:Nat→Type} (place:Nat→Option (Nat×Nat)) (cells:List (TV T)):List (Nat×TV T)→Option (List (TV T))
 | []=>some cells
 | (i,v)::rest=>match place i with
   |none=>none
   |some (off,size)=>bif Nat.beq v.cells.length size&& Nat.ble (off+size) cells.length&& uU v then H8 place (yZ cells off v.cells) rest else none
def sK {T:Nat→Type} (t:TypeId):Option (TV T):=match E.P.info? t with
 |some i=>match i.zero with
  |some z=>yR z
  |none=>none
 |none=>none
def bM {T:Nat→Type}:TV T→Option Bool
 |.bool a=>some a
 |.fH a=>some a
 |_=>none
def H9 {T:Nat→Type} (x y:TV T):Option Bool:=match bM x,bM y with
 |some a,some b=>some (a==b)
 |_,_=>none
def y5 {T:Nat→Type} (eq:TypeId→TV T→TV T→Option Bool) (xs ys:List (TV T)):List Field→Option Bool
 | []=>some true
 |f::fs=>if f.name= "_" then y5 eq xs ys fs else
  match jD E f.type xs f.offset with
  |none=>none
  |some a=>match jD E f.type ys f.offset with
   |none=>none
   |some b=>match eq f.type a b with
    |none=>none
    |some r=>match y5 eq xs ys fs with
     |none=>none
     |some q=>some (r&& q)
def Cw {T:Nat→Type} (eq:TypeId→TV T→TV T→Option Bool) (e:TypeId) (sz:Nat) (xs ys:List (TV T)):List Nat→Option Bool
 | []=>some true
 |i::is=>match jD E e xs (i*sz) with
  |none=>none
  |some a=>match jD E e ys (i*sz) with
   |none=>none
   |some b=>match eq e a b with
    |none=>none
    |some r=>match Cw eq e sz xs ys is with
     |none=>none
     |some q=>some (r&& q)
def y7 {T:Nat→Type}:Nat→TypeId→TV T→TV T→Option Bool
 |0,_,_,_=>none
 |d+1,t,x,y=>
  match E.P.underlying t,x,y with
  |some (.struct fs),.agg xs,.agg ys=>if E.P.stoodInHeld t then none else y5 E (y7 d) xs ys fs.toList
  |some (.array n e),.agg xs,.agg ys=>match bJ E.P e with
   |some sz=>Cw E (y7 d) e sz xs ys (List.range n)
   |none=>none
  |some (.struct _),_,_=>none
  |some (.array _ _),_,_=>none
  |some .bool,x,y=>H9 x y
  |some (.int _),.int k a,.int k' b=>if k=k' then some (a==b) else none
  |some .string,.str a,.str b=>some (a==b)
  |_,_,_=>none
def Ia {T:Nat→Type} (t:TypeId) (x y:TV T):Option Bool:=
 match E.P.underlying t,x,y with
 |some (.struct _),.agg a,.agg b=>if E.P.eqGuardType E.P.depth t then none else y7 E 8 t (.agg a) (.agg b)
 |some (.array _ _),.agg a,.agg b=>if E.P.eqGuardType E.P.depth t then none else y7 E 8 t (.agg a) (.agg b)
 |some (.func ..),.dU,.dU=>some true
 |some (.func ..),.dU,.fn _ _ _=>some false
 |some (.func ..),.fn _ _ _,.dU=>some false
 |some .bool,x,y=>H9 x y
 |_,_,_=>none
def Ib (op:BinOp) (k:IntKind) (x y:Int):Option (dG R):=
 match op with
 |.add=>some (.t (.int k (k.wrap (x+y))))
 |.sub=>some (.t (.int k (k.wrap (x-y))))
 |.mul=>some (.t (.int k (k.wrap (x*y))))
 |.quo=>some (.c (!(y==0)) (.int k (k.wrap (x.tdiv y))))
 |.rem=>some (.c (!(y==0)) (.int k (x.tmod y)))
 |.and=>some (.t (.int k (k.wrap (BitVec.ofInt k.bits x&&& BitVec.ofInt k.bits y).toNat)))
 |.or=>some (.t (.int k (k.wrap (BitVec.ofInt k.bits x|||BitVec.ofInt k.bits y).toNat)))
 |.xor=>some (.t (.int k (k.wrap (BitVec.ofInt k.bits x^^^BitVec.ofInt k.bits y).toNat)))
 |.andNot=>some (.t (.int k (k.wrap (BitVec.ofInt k.bits x&&& ~~~BitVec.ofInt k.bits y).toNat)))
 |.eql=>some (.t (.bool (x==y)))
 |.neq=>some (.t (.bool (x !=y)))
 |.lss=>some (.t (.bool (decide (x<y))))
 |.leq=>some (.t (.bool (decide (x≤y))))
 |.gtr=>some (.t (.bool (decide (x>y))))
 |.geq=>some (.t (.bool (decide (x≥y))))
 |_=>none
def Oc (op:BinOp) (k:IntKind) (x y:Int):Option (dG R):=
 match op with
 |.shl=>some (.c (decide (0≤y)) (.int k (k.wrap (x*2^min y.toNat k.bits))))
 |.shr=>some (.c (decide (0≤y)) (.int k (x.fdiv (2^min y.toNat k.bits))))
 |_=>none
def Od (op:BinOp) (x y:List UInt8):Option (dG R):=
 match op with
 |.add=>some (.c (decide (((x.length+y.length:Nat):Int)≤IntKind.i64.max)) (.str (x++y)))
 |.eql=>some (.t (.bool (x==y)))
 |.neq=>some (.t (.bool (!(x==y))))
 |.lss=>some (.t (.bool (Op.bytesLess x y)))
 |.leq=>some (.t (.bool (Op.bytesLess x y||x==y)))
 |.gtr=>some (.t (.bool (!(Op.bytesLess x y||x==y))))
 |.geq=>some (.t (.bool (!(Op.bytesLess x y))))
 |_=>none
def y8:BinOp→Bool
 |.shl=>true
 |.shr=>true
 |_=>false
def Oe (op:BinOp) (t:TypeId) (x y:TV R.T):Option (dG R):=
 match x,y with
 |.int k a,.int k' b=>bif y8 op then Oc R op k a b else (if k=k' then Ib R op k a b else none)
 |.str a,.str b=>Od R op a b
 |x,y=>match op with
  |.eql=>match Ia E t x y with
   |some b=>some (.t (.bool b))
   |none=>none
  |.neq=>match Ia E t x y with
   |some b=>some (.t (.bool (!b)))
   |none=>none
  |_=>none
def Og (op:UnOp) (x:TV R.T):Option (dG R):=
 match op,x with
 |.neg,.int k n=>some (.t (.int k (k.wrap (0-n))))
 |.xor,.int k n=>Ib R .xor k (if k.signed then-1 else k.max) n
 |.not,.bool b=>some (.t (.bool (!b)))
 |.not,.fH b=>some (.t (.fH (!b)))
 |_,_=>none
def Ic (src dst:TypeId) (x:TV R.T):Option (dG R):=
 match E.P.underlying src,E.P.underlying dst,x with
 |some _,some (.int k),.int _ n=>some (.t (.int k (k.wrap n)))
 |some _,some .string,.str s=>some (.t (.str s))
 |some _,some (.slice e),.str s=>match E.P.underlying e with
  |some (.int .u8)=>some (.t (.aj .any (.int .u8) (s.map fun b=>((b.toNat:Nat):Int))))
  |_=>none
 |some (.slice e),some .string,.aj _ (.int .u8) l=>match E.P.underlying e with
  |some (.int .u8)=>some (.t (.str (List.map (fun n:Int=>UInt8.ofNat n.toNat) l)))
  |_=>none
 |some (.slice e),some .string,.dW=>match E.P.underlying e with
  |some (.int .u8)=>some (.t (.str []))
  |_=>none
 |_,_,_=>none
def fI (i:Int) (n:Nat):Bool:=decide (0≤i∧i≤n)
def y9:Option (TV R.T)→Option (Option Int)
 |none=>some none
 |some (.int _ n)=>some (some n)
 |_=>none
def nN {α:Type} (l:List α):Option Int→Option Int→List α
 |none,none=>l
 |some i,none=>l.drop i.toNat
 |none,some j=>l.take j.toNat
 |some i,some j=>(l.take j.toNat).drop i.toNat
def Oh (n:Nat):Option Int→Option Int→Bool
 |none,none=>true
 |some i,none=>fI i n
 |none,some j=>fI j n
 |some i,some j=>fI j n&& fI i j.toNat
def uX (t:TypeId) (x:TV R.T) (lo hi:Option (TV R.T)):Option (dG R):=
 match y9 R lo,y9 R hi with
 |some lo,some hi=>match E.P.underlying t,x with
  |some .string,.str s=>some (.c (Oh s.length lo hi) (.str (nN s lo hi)))
  |some (.slice e),.aj _ u l=>match bJ E.P e with
   |some sz=>bif Nat.beq sz (bW R u) then some (.c (Oh l.length lo hi) (.aj .any u (nN l lo hi))) else none
   |none=>none
  |_,_=>none
 |_,_=>none
def VR {T:Nat→Type} (t:TypeId) (f:Nat) (x:TV T):Option (TV T):=
 match lK E.P t f with
 |some (o,_)=>match x with
  |.ref p off=>some (.ref p (off+o))
  |.aI cs off=>some (.aI cs (off+o))
  |.jk p t i off=>some (.jk p t i (off+o))
  |_=>none
 |none=>none
def jY (R:fU):(t:Ty)→Den R.T t→Den R.T t→Bool
 |.int _=>fun (a b:Int)=>a==b
 |.bool=>fun (a b:Bool)=>a==b
 |.str=>fun (a b:List UInt8)=>a==b
 |.slice _=>fun _ _=>false
 |.st _=>fun _ _=>false
def sM (t:TypeId) (k:Ty):Bool:=match E.P.underlying t,k with
 |some (.int _),.int _=>true
 |some .string,.str=>true
 |some .bool,.bool=>true
 |_,_=>false
def wN {α β:Type} (eq:α→α→Bool) (x:α):List (α×β)→Option β
 | []=>none
 | (a,v)::m=>bif eq x a then some v else wN eq x m
def uY {α β:Type} (eq:α→α→Bool) (x:α) (v:β):List (α×β)→List (α×β)
 | []=>[(x,v)]
 | (a,w)::m=>bif eq x a then (x,v)::m else (a,w)::uY eq x v m
def VT {α:Type} (d:α):Option α→α
 |some x=>x
 |none=>d
def VU (t:Ty) (v:TV R.T):Option (Den R.T t):=bif jw v then mJ R t v else none
def Cy (t:TypeId) (k e:Ty) (m:List (Den R.T k×Den R.T e)) (x:TV R.T) (ok:Bool):Option (dG R):=
 match o7 E.P t with
 |some (kt,et)=>bif sM E kt k then (match sK (T:=R.T) E et with
  |some z=>match mJ R e z,mJ R k x with
   |some z,some x=>some (.t (bif ok then .bA [eG R .any e (VT z (wN (jY R k) x m)),.bool (wN (jY R k) x m).isSome] else eG R .any e (VT z (wN (jY R k) x m))))
   |_,_=>none
  |none=>none) else none
 |none=>none
def Ie (t:TypeId) (m x:TV R.T) (ok:Bool) (st:MS R.T):Option (dG R):=
 match m with
 |.bN o=>match kS st o with
  |some (.map k e m)=>Cy E R t k e m x ok
  |_=>none
 |.cK k e m=>Cy E R t k e m x ok
 |.dP=>match o7 E.P t with
  |some (kt,et)=>match R.ty kt,R.ty et with
   |some k,some e=>Cy E R t k e [] x ok
   |_,_=>none
  |none=>none
 |_=>none
def Ig {T:Nat→Type}:TV T→TV T→Option Bool
 |.int k a,.int k' b=>if k=k' then some (a==b) else none
 |.str a,.str b=>some (a==b)
 |_,_=>none
def Ih {T:Nat→Type} (t:TypeId):TV T→Bool:=fun v=>match E.P.underlying t,v with
 |some (.int _),.int _ _=>true
 |some .string,.str _=>true
 |_,_=>false
def Ii {T:Nat→Type} (x v:TV T):List (TV T)→List (TV T)→Option (List (TV T)×List (TV T))
 | [],[]=>some ([x],[v])
 |a::ks,w::vs=>match Ig x a with
  |some b=>bif b then some (x::ks,v::vs) else (match Ii x v ks vs with
   |some (ks,vs)=>some (a::ks,w::vs)
   |none=>none)
  |none=>none
 |_,_=>none
def za (t:TypeId) (m x v:TV R.T) (st:MS R.T):Option (dG R):=
 match m with
 |.bN o=>match look st.ob o with
  |some (.map k e m)=>match o7 E.P t with
   |some (kt,_)=>bif sM E kt k then (match mJ R k x,VU R e v with
    |some x,some v=>some (.w .undef (st.set o (.map k e (uY (jY R k) x v m))))
    |_,_=>none) else none
   |none=>none
  |some (.smap ks vs)=>match o7 E.P t with
   |some (kt,_)=>bif Ih E kt x then (match Ii x v ks vs with
    |some (ks,vs)=>some (.w .undef (st.set o (.smap ks vs)))
    |none=>none) else none
   |none=>none
  |_=>none
 |_=>none
def fZ:Ty→Bool
 |.st _=>true
 |_=>false
def ze (t:TypeId):Option (TypeId×Ty×Nat×Nat):=
 match gG E.P t with
 |some e=>match R.ty e,bJ E.P e,ni E.P e,fP E.P e,fF E.P e with
  |some u,some sz,some dz,some ag,some z=>bif Nat.beq sz (bW R u)&& Nat.blt 0 sz&& (ag||Nat.beq sz 1)&& Nat.beq z.cells.length sz&& (ag==fZ u) then some (e,u,sz,dz) else none
  |_,_,_,_,_=>none
 |none=>none
def uZ (t:Ty) (n:Nat):List (Nat×TV R.T)→Option (List (Den R.T t))
 | []=>some []
 | (i,v)::l=>bif Nat.beq i n then (match mJ R t v with
   |some x=>match uZ t (n+1) l with
    |some y=>some (x::y)
    |none=>none
   |none=>none) else none
def Oi (t:TypeId) (len:Nat) (ps:List (Nat×TV R.T)):Option (dG R):=
 match ze E R t with
 |some (_,u,sz,_)=>bif Nat.ble (len*sz) (2^24)&& Nat.beq ps.length len then (match uZ R u 0 ps with
  |some l=>some (.t (.aj .full u l))
  |none=>none) else none
 |none=>none
def Cz (u:Ty):TV R.T→Option (List (Den R.T u))
 |.aj _ _ l=>oH R l
 |.dW=>some []
 |.str s=>oH (t:=.int .u8) (u:=u) R (s.map fun b=>((b.toNat:Nat):Int))
 |_=>none
def VW (u:Ty) (d:Nat):TV R.T→Option (Nat×List (Den R.T u))
 |.aj .nil _ l=>match oH R l with
  |some l=>some (d,l)
  |none=>none
 |.aj .full _ l=>match oH R l with
  |some l=>some (d,l)
  |none=>none
 |.aj (.own t) _ l=>match oH R l with
  |some l=>some (t,l)
  |none=>none
 |.dW=>some (d,[])
 |_=>none
def zf (t:TypeId):Bool:=match E.P.underlying t with
 |some (.slice _)=>true
 |some .string=>true
 |_=>false
def CB (d:Option Nat) (t u:TypeId) (x y:TV R.T) (st:MS R.T):Option (dG R):=
 match d with
 |some d=>match ze E R t with
  |some (_,τ,_,dz)=>bif zf E u then (match VW R τ d x,Cz R τ y with
   |some (tk,l),some l'=>some (.wc (dD (l.length+l'.length) dz) (.aj (.own tk) τ (l++l')) (st.wk tk))
   |_,_=>none) else none
  |none=>none
 |none=>none
def CF (d:Option Nat) (t u:TypeId) (x y:TV R.T) (st:MS R.T):Option (dG R):=
 match d with
 |some d=>match ze E R t with
  |some (_,τ,_,dz)=>bif zf E u then (match Cz R τ y with
   |some l'=>match x with
    |.vw o τ0=>if τ0=τ then (match look st.ob o with
     |some (.arr τ' l)=>match l',oH R (u:=τ) l with
      |a::l',some l=>some (.wc (dD (l.length+(a::l').length) dz) (.vw d τ) ((st.del o).new d (.arr τ (l++a::l'))))
      |_,_=>none
     |_=>none) else none
    |x=>bif yY x then some (.wc (dD l'.length dz) (.vw d τ) (st.new d (.arr τ l'))) else none
   |none=>none) else none
  |none=>none
 |none=>none
def Oj (om:Bool) (d:Option Nat) (t:TypeId) (n m:TV R.T) (st:MS R.T):Option (dG R):=
 match d,ze E R t,n,m with
 |some d,some (e,τ,_,dz),.int _ n,.int _ m=>match sK (T:=R.T) E e with
  |some z=>match mJ R τ z with
   |some z=>bif om then some (.wc (decide (0≤n∧n=m∧m≤2^47)&& dD m.toNat dz) (.vw d τ) (st.new d (.arr τ (List.replicate n.toNat z))))
    else some (.wc (decide (n=0∧0≤m∧m≤2^47)&& dD m.toNat dz) (.aj (.own d) τ []) (st.wk d))
   |none=>none
  |none=>none
 |_,_,_,_=>none
def zh {T:Nat→Type} (mx:Bool):TV T→List (TV T)→Option (TV T)
 |x,[]=>some x
 |.int k a,.int k' b::l=>if k=k' then zh mx (.int k (bif mx then imax a b else NW a b)) l else none
 |_,_=>none
def Ol {T:Nat→Type} (t:TypeId) (x:TV T) (st:MS T):Option Nat:=
 match E.P.underlying t,x with
 |some (.slice _),.aj _ _ l=>some l.length
 |some (.slice _),.dW=>some 0
 |some (.slice _),.vw o _=>match kS st o with
  |some (.arr _ l)=>some l.length
  |_=>none
 |some .string,.str s=>some s.length
 |some (.map _ _),.bN o=>match kS st o with
  |some (.map _ _ m)=>some m.length
  |_=>none
 |some (.map _ _),.cK _ _ m=>some m.length
 |some (.map _ _),.dP=>some 0
 |some (.array n _),_=>some n
 |_,_=>none
def blt (om:Bool) (d:Option Nat) (b:Builtin) (tys:Array TypeId) (args:List (TV R.T)) (st:MS R.T):Option (dG R):=
 match b,args with
 |.len,[x]=>match tys[0]? with
  |some t=>match Ol E t x st with
   |some n=>some (.t (.int .i64 ((n:Nat):Int)))
   |none=>none
  |none=>none
 |.append,[x,y]=>match tys[0]?,tys[1]? with
  |some t,some u=>bif om then CF E R d t u x y st else CB E R d t u x y st
  |_,_=>none
 |.min,x::l=>match zh false x l with
  |some v=>some (.t v)
  |none=>none
 |.max,x::l=>match zh true x l with
  |some v=>some (.t v)
  |none=>none
 |_,_=>none
def VX:List (TV R.T)→TV R.T
 | [v]=>v
 |vs=>.bA vs
def findF (args cu:List (TV R.T)):List (FR R)→Option (dG R)
 | []=>none
 |r::l=>match eX R r.args cu with
  |some p=>bif gJ r.args&& Nat.ble (mO r.args) 18&& gJ r.res&& (uV args||yU r.res) then some (.p (aA R.T r.res) r.d (r.F p) fun x=>VX R (iy R .sh r.res x)) else none
  |none=>findF args cu l
def Om (t:TypeId) (x i:TV R.T):Option (dG R):=
 match E.P.underlying t,x,i with
 |some (.slice e),.aj _ u l,.int _ n=>match bJ E.P e with
  |some sz=>bif Nat.beq sz (bW R u) then some (.p (Den R.T u) (yO R u) (cO l n) fun y=>.aI (eG R .sh u y).cells 0) else none
  |none=>none
 |some (.array n e),.ref o off,.int _ k=>match bJ E.P e with
  |some sz=>some (.c (decide (0≤k∧k<n)) (.ref o (off+k.toNat*sz)))
  |none=>none
 |some (.array n e),.aI cs off,.int _ k=>match bJ E.P e with
  |some sz=>some (.c (decide (0≤k∧k<n)) (.aI cs (off+k.toNat*sz)))
  |none=>none
 |_,_,_=>none
def Oo (t:TypeId) (o:Nat) (τ:Ty) (i:TV R.T) (st:MS R.T):Option (dG R):=
 match E.P.underlying t,i with
 |some (.slice e),.int _ n=>match bJ E.P e with
  |some sz=>bif Nat.beq sz (bW R τ) then (match kS st o with
   |some (.arr _ l)=>some (.c (decide (0≤n∧n< ((l.length:Nat):Int))) (.jk o τ n 0))
   |_=>none) else none
  |none=>none
 |_,_=>none
def afU {T:Nat→Type}:Option (TV T)→TV T
 |some v=>v
 |none=>.gone
def Oq (t:TypeId) (τ:Ty) (i:Int) (off:Nat) (o:Ob R.T):Option (dG R):=
 match o with
 |.arr τ' l=>match oH R (u:=τ) l with
  |some l=>bif (jD E t (eG R .any τ (yO R τ)).cells off).isSome then some (.p (Den R.T τ) (yO R τ) (cO l i) fun y=>afU (jD E t (eG R .any τ y).cells off)) else none
  |none=>none
 |_=>none
def Ot (τ:Ty) (cs:List (TV R.T)):Option (Den R.T τ):=match τ with
 |.st n=>wI R n (.agg cs)
 |.int k=>nK R (.int k) (hd1 R cs)
 |.bool=>nK R .bool (hd1 R cs)
 |.str=>nK R .str (hd1 R cs)
 |.slice t=>nK R (.slice t) (hd1 R cs)
def Ou (t:TypeId) (x i:TV R.T):Option (dG R):=
 match E.P.underlying t,x,i with
 |some .string,.str s,.int _ n=>some (.p UInt8 0 (cO s n) fun b=>.int .u8 ((b.toNat:Nat):Int))
 |_,_,_=>none
def zi {T:Nat→Type} (c:Bool):TV T→TV T→Option (TV T)
 |.int k a,.int k' b=>if k=k' then some (.int k (bif c then a else b)) else none
 |.bool a,.bool b=>some (.bool (bif c then a else b))
 |.bool a,.fH b=>some (.bool (bif c then a else b))
 |.fH a,.bool b=>some (.bool (bif c then a else b))
 |.fH a,.fH b=>some (.bool (bif c then a else b))
 |.str a,.str b=>some (.str (bif c then a else b))
 |_,_=>none
def VY (P:Program):Nat→TypeId→Option (List iH)
 |0,_=>none
 |n+1,t=>match P.underlying t with
  |some (.int k)=>some [.i k]
  |some (.array m e)=>match P.underlying e with
   |some (.int k)=>some [.a k m]
   |_=>none
  |some (.struct fs)=>fs.toList.foldr (fun f acc=>match VY P n f.type,acc with
   |some a,some b=>some (a++b)
   |_,_=>none) (some [])
  |_=>none
def VZ:List iH→Bool
 | []=>false
 |.a _ _::_=>true
 |_::l=>VZ l
def V3 (t:TypeId):Option (List iH):=match R.ty t with
 |some _=>none
 |none=>match VY E.P 4 t with
  |some ks=>bif VZ ks then some ks else none
  |none=>none
def Sg.sk:Sg→iH
 |.i k _=>.i k
 |.a k n _=>.a k n
def Ij:iH→Sg
 |.i k=>.i k 0
 |.a k n=>.a k n (Vec.rep n 0)
def wO {T:Nat→Type} (k:IntKind):List (TV T)→Bool
 | []=>true
 |.int k' x::l=>(if k'=k then (if x=0 then true else false) else false)&& wO k l
 |_=>false
def zk {T:Nat→Type}:List iH→List (TV T)→Bool
 | [],[]=>true
 |.i k::l,v::vs=>wO k [v]&& zk l vs
 |.a k n::l,vs=>Nat.ble n vs.length&& wO k (vs.take n)&& zk l (vs.drop n)
 |_,_=>false
def u6 {T:Nat→Type}:List iH→List (TV T)→Option (List Sg)
 | [],[]=>some []
 |.i k::l,.int k' x::vs=>if k'=k then (match u6 l vs with
  |some r=>some (.i k x::r)
  |none=>none) else none
 |.a k n::l,vs=>match wK k (vs.take n) with
  |some xs=>bif Nat.beq xs.length n then (match u6 l (vs.drop n) with
   |some r=>some (.a k n (Vec.lit n xs)::r)
   |none=>none) else none
  |none=>none
 |_,_=>none
def CG {T:Nat→Type}:List Sg→List (TV T)
 | []=>[]
 |.i k x::l=>.int k x::CG l
 |.a k n v::l=>(List.range n).map (fun j=>TV.int k (v.nth j))++CG l
def zl:List iH→List iH→Bool
 | [],[]=>true
 |.i k::l,.i k'::l'=>(if k=k' then true else false)&& zl l l'
 |.a k n::l,.a k' n'::l'=>(if k=k' then true else false)&& Nat.beq n n'&& zl l l'
 |_,_=>false
def Ik {T:Nat→Type} (ks:List iH):TV T→Option (List Sg)
 |.sg ss=>bif zl ks (ss.map Sg.sk) then some ss else none
 |.agg cs=>u6 ks cs
 |.int k x=>match ks with
  | [.i k']=>if k'=k then some [.i k x] else none
  |_=>none
 |_=>none
def Il (t:TypeId) (ss:List Sg) (off:Nat):Option (TV R.T):=
 match mM ss off,bJ E.P t,fP E.P t with
 |some (_,rest),some sz,some ag=>match mM rest sz with
  |some (mid,_)=>bif ag then (match R.ty t with
   |none=>some (.sg mid)
   |some _=>some (.agg (CG mid))) else (match mid with
   | [.i k x]=>some (.int k x)
   |_=>none)
  |none=>none
 |_,_,_=>none
def Ov (t:TypeId) (k:IntKind) (m:Nat) (n:Nat) (v:Vec n) (i:Int):Option (TV R.T):=
 match nX E.P t,bJ E.P t,fP E.P t with
 |some (m',e),some sz,some true=>bif Nat.beq m' m&& Nat.beq sz m then (match R.ty t with
  |none=>some (.sg [.a k m (v.slc i m)])
  |some _=>some (.agg ((List.range m).map fun j=>.int k (v.nth (i.toNat+j))))) else none
 |_,_,_=>none
def oK (t:TypeId):Bool:=match bJ E.P t,fP E.P t with
 |some sz,some ag=>Nat.beq sz 1&& !ag
 |_,_=>false
def Im (k:IntKind):List V→List Int→Bool
 | [],[]=>true
 |.int k' x::l,y::m=>(if k'=k then (if x=y then true else false) else false)&& Im k l m
 |_,_=>false
def Io (g:Nat) (t:TypeId):Option ((k:IntKind)×(n:Nat)×Vec n):=
 match E.glob g,R.gl g,nX E.P t,bJ E.P t,fP E.P t with
 |some cs,some ⟨k,n,v⟩,some (m,e),some sz,some ag=>bif ag&& Nat.beq m n&& Nat.beq sz n&& oK E e&& Im k cs v.l then some ⟨k,n,v⟩ else none
 |_,_,_,_,_=>none
def bq (i:Int) (n:Nat):Bool:=decide (0≤i∧i<n)
def lX (n:Nat):Option Int→Option Int→Bool
 |none,none=>true
 |some i,none=>decide (0≤i∧(i<n∨i=0))
 |none,some j=>decide (0≤j∧j≤n)
 |some i,some j=>decide (0≤i∧i≤j∧j≤n∧(i<j∨i=0))
def dx:Option Int→Int
 |some i=>i
 |none=>0
def eY (n:Nat):Option Int→Int
 |some i=>i
 |none=>n
def u7 (t:TypeId) (x:TV R.T) (lo hi:Option (TV R.T)) (st:MS R.T):Option (dG R):=
 match x,y9 R lo,y9 R hi,nX E.P t with
 |.ref o off,some lo,some hi,some (n,e)=>bif oK E e then (match kS st o with
  |some (.sg ss)=>match mM ss off with
   |some (_,.a k n' _::_)=>bif Nat.beq n' n then some (.c (lX n lo hi) (.sv o off k n lo hi)) else none
   |_=>none
  |some (.cells cs)=>match (cs.drop off) with
   |.int k _::_=>bif Nat.ble (off+n) cs.length then some (.c (lX n lo hi) (.sv o off k n lo hi)) else none
   |_=>none
  |_=>none) else none
 |_,_,_,_=>none
def V4 (d:Option Nat):Bool:=match d with
 |some d=>E.own F0 d
 |none=>false
def nO (g:List (Nat×Bool)) (d:Option Nat) (o:Op) (st:MS R.T):Option (dG R):=
 match o with
 |.alloc t=>match d,V3 E R t,sK (T:=R.T) E t with
  |some d,some ks,some (.agg cs)=>bif zk ks cs then some (.w (.ref d 0) (st.new d (.sg (ks.map Ij)))) else none
  |_,_,_=>none
 |.box t x=>bif E.qQ t then none else match d,V3 E R t,aZ g st x with
  |some d,some ks,some v=>match Ik ks v with
   |some ss=>some (.w (.ref d 0) (st.new d (.sg ss)))
   |none=>none
  |_,_,_=>none
 |.load t a=>match a with
  |.global gl=>match Io E R gl t with
   |some ⟨k,n,v⟩=>some (.t (.sg [.a k n v]))
   |none=>none
  |a=>match aZ g st a with
   |some (.ref o off)=>match kS st o with
    |some (.sg ss)=>match Il E R t ss off with
     |some v=>some (.t v)
     |none=>none
    |_=>none
   |some (.sel o off k n i m)=>match kS st o with
    |some (.sg ss)=>match mM ss off with
     |some (_,.a k' n' v::_)=>if k'=k then (bif Nat.beq n' n then (bif Nat.beq m 1&& oK E t then some (.t (.int k (v.at' i))) else (match Ov E R t k m n' v i with
      |some v=>some (.t v)
      |none=>none)) else none) else none
     |_=>none
    |_=>none
   |some (.oz k n v i)=>bif oK E t then some (.t (.int k (v.at' i))) else none
   |_=>none
 |.store t a x=>match aZ g st a,aZ g st x with
  |some (.ref o off),some v=>match look st.ob o,bJ E.P t with
   |some (.sg ss),some sz=>match mM ss off with
    |some (pre,rest)=>match mM rest sz with
     |some (mid,post)=>match Ik (mid.map Sg.sk) v with
      |some mid'=>some (.w .undef (st.set o (.sg (pre++(mid'++post)))))
      |none=>none
     |none=>none
    |none=>none
   |_,_=>none
  |some (.sel o off k n i m),some (.int k' y)=>match look st.ob o with
   |some (.sg ss)=>match mM ss off with
    |some (pre,.a k2 n' v::post)=>if k2=k then (if k'=k then (bif Nat.beq n' n&& Nat.beq m 1&& oK E t then some (.w .undef (st.set o (.sg (pre++(.a k n' (v.set i y)::post))))) else none) else none) else none
    |_=>none
   |_=>none
  |_,_=>none
 |.indexAddr t x i=>match nX E.P t,aZ g st i with
  |some (n,e),some (.int _ i)=>bif oK E e then (match x with
   |.global gl=>match Io E R gl t with
    |some ⟨k,n,v⟩=>some (.c (bq i n) (.oz k n v i))
    |none=>none
   |x=>match aZ g st x with
    |some (.ref o off)=>match kS st o with
     |some (.sg ss)=>match mM ss off with
      |some (_,.a k n' _::_)=>bif Nat.beq n' n then some (.c (bq i n) (.sel o off k n i 1)) else none
      |_=>none
     |_=>none
    |_=>none) else none
  |_,_=>none
 |.index t x i=>match nX E.P t,aZ g st x,aZ g st i with
  |some (n,e),some (.sg [.a k n' v]),some (.int _ i)=>bif oK E e&& Nat.beq n' n then some (.c (bq i n) (.int k (v.at' i))) else none
  |_,_,_=>none
 |.slice t x lo hi none=>match aZ g st x with
  |some x=>match lo,hi with
   |none,none=>u7 E R t x none none st
   |some lo,none=>match aZ g st lo with
    |some lo=>u7 E R t x (some lo) none st
    |none=>none
   |none,some hi=>match aZ g st hi with
    |some hi=>u7 E R t x none (some hi) st
    |none=>none
   |some lo,some hi=>match aZ g st lo,aZ g st hi with
    |some lo,some hi=>u7 E R t x (some lo) (some hi) st
    |_,_=>none
  |none=>none
 |.slice t x lo (some hi) (some mx)=>match aZ g st x,aZ g st hi,aZ g st mx,E.P.underlying t with
  |some (.aj _ u l),some (.int _ h),some (.int _ m),some (.slice e)=>match bJ E.P e with
   |some sz=>bif Nat.beq sz (bW R u) then (match lo with
    |none=>bif V4 E d then some (.c (fI m l.length&& (fI h m.toNat&& (h==m))) (.aj .full u (nN l none (some h)))) else some (.c (fI m l.length&& fI h m.toNat) (.aj .any u (nN l none (some h))))
    |some lo=>match aZ g st lo with
     |some (.int _ a)=>some (.c (fI m l.length&& (fI h m.toNat&& fI a h.toNat)) (.aj .any u (nN l (some a) (some h))))
     |_=>none) else none
   |none=>none
  |_,_,_,_=>none
 |.convert a b x=>match aZ g st x with
  |some (.sv o off k n lo hi)=>match E.P.underlying a,E.P.underlying b with
   |some (.slice e),some .string=>match E.P.underlying e,k with
    |some (.int .u8),.u8=>match HY st o off .u8 n lo hi with
     |some l=>some (.t (.str (List.map (fun n:Int=>UInt8.ofNat n.toNat) l)))
     |none=>none
    |_,_=>none
   |_,_=>none
  |_=>none
 |.sliceToArrayPointer t x=>match nX E.P t,aZ g st x with
  |some (m,e),some (.sv o off k n lo hi)=>some (.c (decide (0<m∧m≤eY n hi-dx lo)) (.sel o off k n (dx lo) m))
  |_,_=>none
 |.call c=>match c.callee,lF g st c.args.toList with
  |.builtin .copy,some [.sv o off k n lo hi,y]=>match c.argTypes[0]? with
   |some t=>match gG E.P t with
    |some e=>bif oK E e then (match Cz R (.int k) y,look st.ob o with
     |some l,some (.sg ss)=>match mM ss off with
      |some (pre,.a k' n' v::post)=>if k'=k then (bif Nat.beq n' n then
        some (.w (.int .i64 (((l.take (eY n hi-dx lo).toNat).length:Nat):Int)) (st.set o (.sg (pre++(.a k n' (v.pK (dx lo) (l.take (eY n hi-dx lo).toNat))::post))))) else none) else none
      |_=>none
     |_,_=>none) else none
    |none=>none
   |none=>none
  |_,_=>none
 |_=>none
def oL (om:Bool) (F:Nat→List (FR R)) (g:List (Nat×Bool)) (d:Option Nat) (o:Op) (st:MS R.T):Option (dG R):=
 match o with
 |.move x=>match aZ g st x with
  |some v=>some (.t v)
  |none=>none
 |.assign x=>match aZ g st x with
  |some v=>some (.t v)
  |none=>none
 |.pick c a b=>match c with
  |.tmp j=>match aZ g st c with
   |some (.bool t)=>match aZ ((j,true)::g) st a,aZ ((j,false)::g) st b with
    |some x,some y=>match zi t x y with
     |some v=>some (.t v)
     |none=>none
    |_,_=>none
   |some (.fH t)=>match aZ g st (bif t then a else b) with
    |some v=>some (.t v)
    |none=>none
   |_=>none
  |_=>none
 |.alloc t=>match d,sK E t with
  |some d,some z=>bif uT z.cells&& !(kR d z.cells) then some (.w (.ref d 0) (st.new d (.cells z.cells))) else none
  |_,_=>none
 |.box t x=>bif E.qQ t then (match aZ g st x with
  |some v=>bif jw v&& uU v then some (.t (.aI v.cells 0)) else none
  |none=>none) else match d,aZ g st x with
  |some d,some v=>bif uT v.cells&& uU v&& !(kR d v.cells) then some (.w (.ref d 0) (st.new d (.cells v.cells))) else none
  |_,_=>none
 |.build t parts=>match xU E t,sK (T:=R.T) E t,yS g st parts.toList with
  |some pl,some z,some ps=>match H8 pl z.cells ps with
   |some cs=>some (.t (.agg cs))
   |none=>none
  |_,_,_=>none
 |.buildSlice t len parts=>match yS g st parts.toList with
  |some ps=>Oi E R t len ps
  |none=>none
 |.load t a=>match aZ g st a with
  |some (.ref o off)=>match kS st o with
   |some (.cells cs)=>match jD E t cs off with
    |some v=>some (.t v)
    |none=>none
   |_=>none
  |some (.aI cs off)=>match jD E t cs off with
   |some v=>some (.t v)
   |none=>none
  |some (.jk o τ i off)=>match kS st o with
   |some b=>Oq E R t τ i off b
   |none=>none
  |_=>none
 |.store t a x=>match aZ g st a,aZ g st x with
  |some (.ref o off),some v=>match look st.ob o,bJ E.P t with
   |some (.cells cs),some sz=>bif Nat.beq v.cells.length sz&& Nat.ble (off+v.cells.length) cs.length&& uT v.cells&& uU v then
     some (.w .undef (st.set o (.cells (yZ cs off v.cells)))) else none
   |_,_=>none
  |_,_=>none
 |.nilCheck x=>match aZ g st x with
  |some (.ref o off)=>some (.t (.ref o off))
  |some (.aI cs off)=>some (.t (.aI cs off))
  |some (.jk o τ i off)=>some (.t (.jk o τ i off))
  |some (.fn f a b)=>some (.t (.fn f a b))
  |_=>none
 |.binOp op t x y _=>match aZ g st x,aZ g st y with
  |some x,some y=>Oe E R op t x y
  |_,_=>none
 |.unOp op _ x=>match aZ g st x with
  |some x=>Og R op x
  |none=>none
 |.convert a b x=>match aZ g st x with
  |some x=>Ic E R a b x
  |none=>none
 |.makeFunc (.func f) a b=>match lF g st a.toList,lF g st b.toList with
  |some a,some b=>some (.t (.fn f a b))
  |_,_=>none
 |.makeMap t none=>match d,o7 E.P t with
  |some d,some (k,e)=>match R.ty k,R.ty e with
   |some k,some e=>some (.w (.bN d) (st.new d (.map k e [])))
   |_,_=>some (.w (.bN d) (st.new d (.smap [] [])))
  |_,_=>none
 |.makeSlice t l c=>match aZ g st l,aZ g st c with
  |some n,some m=>Oj E R om d t n m st
  |_,_=>none
 |.slice t x lo hi none=>match aZ g st x with
  |some x=>match lo,hi with
   |none,none=>uX E R t x none none
   |some lo,none=>match aZ g st lo with
    |some lo=>uX E R t x (some lo) none
    |none=>none
   |none,some hi=>match aZ g st hi with
    |some hi=>uX E R t x none (some hi)
    |none=>none
   |some lo,some hi=>match aZ g st lo,aZ g st hi with
    |some lo,some hi=>uX E R t x (some lo) (some hi)
    |_,_=>none
  |none=>none
 |.fieldAddr t x f=>match aZ g st x with
  |some x=>match VR E t f x with
   |some v=>some (.t v)
   |none=>none
  |none=>none
 |.field t x f=>match lK E.P t f,aZ g st x with
  |some (o,u),some (.agg cs)=>match jD E u cs o with
   |some v=>some (.t v)
   |none=>none
  |_,_=>none
 |.indexAddr t x i=>match aZ g st x,aZ g st i with
  |some (.vw o τ),some i=>Oo E R t o τ i st
  |some x,some i=>Om E R t x i
  |_,_=>none
 |.index t x i=>match aZ g st x,aZ g st i with
  |some x,some i=>Ou E R t x i
  |_,_=>none
 |.lookup t x i ok=>match aZ g st x,aZ g st i with
  |some x,some i=>Ie E R t x i ok st
  |_,_=>none
 |.mapUpdate t m k v=>match aZ g st m,aZ g st k,aZ g st v with
  |some m,some k,some v=>za E R t m k v st
  |_,_,_=>none
 |.insert t m k v=>match aZ g st m,aZ g st k,aZ g st v with
  |some m,some k,some v=>za E R t m k v st
  |_,_,_=>none
 |.extract x i=>match aZ g st x with
  |some (.bA vs)=>match vs[i]? with
   |some v=>some (.t v)
   |none=>none
  |_=>none
 |.call c=>match c.callee with
  |.builtin b=>match lF g st c.args.toList with
   |some vs=>blt E R om d b c.argTypes vs st
   |none=>none
  |.value f=>match aZ g st f,lF g st c.args.toList with
   |some (.fn f a b),some vs=>bif E.imp f then none else findF R (a++vs++b) (lW st (a++vs++b)) (F f)
   |_,_=>none
  |_=>none
 |_=>none
def rz (om:Bool) (F:Nat→List (FR R)) (g:List (Nat×Bool)) (d:Option Nat) (o:Op) (st:MS R.T):Option (dG R):=
 match nO E R g d o st with
 |some r=>some r
 |none=>oL E R om F g d o st
inductive Gd where
 |no
 |run
 |skip
 |dyn (j:Nat) (w:Bool) (c:Bool) (g:List (Nat×Bool))
def zm (b w:Bool):Bool:=bif w then b else !b
def Ow (a b:Bool):Bool:=bif a then b else false
def lG {T:Nat→Type} (st:MS T):Nat→Nat→Bool→Option (Bool×List (Nat×Bool))
 |0,_,_=>none
 |n+1,j,w=>match look st.fr j with
  |some (.bool b)=>some (zm b w,[(j,w)])
  |some (.opt i u (.bool b))=>match lG st n i u with
   |some (c,g)=>some (Ow c (zm b w),(j,w)::g)
   |none=>none
  |some (.opt i u (.fH b))=>match lG st n i u with
   |some (c,g)=>some (Ow c (zm b w),(j,w)::g)
   |none=>none
  |_=>none
def Ip {T:Nat→Type} (all:List Oper) (st:MS T) (o:Oper):Gd:=
 match o.guard with
 |none=>.run
 |some (j,w)=>match all[j]? with
  |some p=>match p.dst with
   |some t=>match look st.fr t with
    |some (.fH b)=>bif b==w then .run else .skip
    |some .undef=>.skip
    |_=>match lG st 12 t w with
     |some (c,g)=>.dyn t w c g
     |none=>.no
   |none=>.skip
  |none=>.skip
def MS.kG {T:Nat→Type} (st:MS T):List (Nat×Bool)→MS T
 | []=>st
 | (j,w)::g=>(st.kG g).learn j w
def MS.sN {T:Nat→Type} (st:MS T):List (Nat×Bool)→MS T
 | [(j,w)]=>st.learn j (!w)
 |_=>st
def kH {α:Type} (c:Bool) (o:Option α) (d:α):Option α:=bif c then o else some d
def Ox (st:MS R.T) (t:TypeId) (m x:Operand):Option (List (TV R.T)×List (TV R.T)×TV R.T×TV R.T):=
 match aZ [] st m with
 |some (.bN o)=>match kS st o with
  |some (.smap ks vs)=>match aZ [] st x,o7 E.P t with
   |some x,some (kt,et)=>match sK (T:=R.T) E et with
    |some z=>bif Ih E kt x then some (ks,vs,x,z) else none
    |none=>none
   |_,_=>none
  |_=>none
 |_=>none
def Iq {T:Nat→Type} {β:Type} (x:TV T):List (TV T)→List (TV T)→TV T→(TV T→Bool→Option β)→Option β
 | [],[],z,k=>k z false
 |a::ks,v::vs,z,k=>match Ig x a with
  |some b=>bif b then k v true else Iq x ks vs z k
  |none=>none
 |_,_,_,_=>none
section
variable (om:Bool) {β:Type} (F:Nat→List (FR R))
def Oy (t:TypeId) (a x:Operand) (st:MS R.T):Option ((τ:Ty)×Nat×Int×Nat×List (Den R.T τ)×TV R.T):=
 match aZ [] st a,aZ [] st x with
 |some (.jk o τ i off),some v=>match look st.ob o,bJ E.P t with
  |some (.arr τ' l),some sz=>match oH R (u:=τ) l with
   |some l=>bif Nat.beq v.cells.length sz&& Nat.ble (off+v.cells.length) (bW R τ)&& uT v.cells&& uU v then some ⟨τ,o,i,off,l,v⟩ else none
   |none=>none
  |_,_=>none
 |_,_=>none
def wP {α:Type} (l:List α) (i:Int) (y:α):List α:=l.set i.toNat y
def runM (o:Oper) (st:MS R.T) (k:MS R.T→Option β):Option β:=
 match o.op with
 |.pick c a b=>match aZ [] st c with
  |some (.fH t)=>match aZ [] st (bif t then a else b) with
   |some v=>k (st.dQ o.dst v)
   |none=>none
  |some (.bool t)=>match c with
   |.tmp j=>match aZ [(j,true)] st a,aZ [(j,false)] st b with
    |some x,some y=>match zi t x y with
     |some v=>k (st.dQ o.dst v)
     |none=>bif t then k ((st.learn j true).dQ o.dst x) else k ((st.learn j false).dQ o.dst y)
    |_,_=>none
   |_=>none
  |_=>none
 |.store t a x=>match Oy E R t a x st with
  |some ⟨τ,p,i,off,l,v⟩=>(cO l i).bind fun y=>match Ot R τ (yZ (eG R .any τ y).cells off v.cells) with
   |some y'=>k ((st.set p (.arr τ (wP l i y'))).dQ o.dst .undef)
   |none=>none
  |none=>match rz E R om F [] o.dst (.store t a x) st with
   |some (.w v st')=>k (st'.dQ o.dst v)
   |_=>none
 |.lookup t m x ok=>match Ox E R st t m x with
  |some (ks,vs,x,z)=>Iq x ks vs z fun v b=>k (st.dQ o.dst (bif ok then .bA [v,.fH b] else v))
  |none=>match rz E R om F [] o.dst (.lookup t m x ok) st with
   |some (.t v)=>k (st.dQ o.dst v)
   |_=>none
 |op=>match rz E R om F [] o.dst op st with
  |some (.t v)=>k (st.dQ o.dst v)
  |some (.c b v)=>bif b then k (st.dQ o.dst v) else none
  |some (.w v st')=>k (st'.dQ o.dst v)
  |some (.wc b v st')=>bif b then k (st'.dQ o.dst v) else none
  |some (.p _ _ x f)=>x.bind fun a=>k (st.dQ o.dst (f a))
  |none=>none
def afV (b c:Bool):Bool:=bif b then c else true
def Oz (o:Oper) (j:Nat) (w c:Bool) (g:List (Nat×Bool)) (st:MS R.T) (k:MS R.T→Option β):Option β:=
 match o.dst with
 |some d=>match (bif aP d (g.map (·.1)) then none else rz E R om F g o.dst o.op st) with
  |some (.t v)=>k (st.put d (.opt j w v))
  |some (.c b v)=>bif afV c b then k (st.put d (.opt j w v)) else none
  |some (.p _ z x f)=>(kH c x z).bind fun a=>k (st.put d (.opt j w (f a)))
  |_=>bif c then runM E R om F o (st.kG g) k else k ((st.sN g).dQ o.dst .undef)
 |none=>bif c then runM E R om F o (st.kG g) k else k ((st.sN g).dQ o.dst .undef)
def mP {T:Nat→Type} (st:MS T) (o:Oper):Bool:=match o.op with
 |.call c=>match c.callee with
  |.value f=>match aZ [] st f with
   |some (.fn g _ _)=>match o.dst with
    |some d=>E.own g d
    |none=>false
   |_=>true
  |_=>false
 |_=>false
def afW:List Sk→Bool
 |.dW::k::l=>gJ (k::l)
 |_=>false
def zn (args cu:List (TV R.T)):List (FR R)→Option ((τ:Ty)×Option (List (Den R.T τ)))
 | []=>none
 | ⟨as,[.d (.slice τ)],G,_,true⟩::l=>match eX R as cu with
   |some p=>bif (gJ as||afW as)&& Nat.ble (mO as) 18&& uV args then some ⟨τ,G p⟩ else none
   |none=>zn args cu l
 |_::l=>zn args cu l
def OA (o:Oper) (st:MS R.T) (k:MS R.T→Option β):Option β:=match o.op,o.dst with
 |.call c,some d=>match c.callee with
  |.value f=>match aZ [] st f,lF [] st c.args.toList with
   |some (.fn g a b),some vs=>match zn R (a++vs++b) (lW st (a++vs++b)) (F g) with
    |some ⟨τ,x⟩=>x.bind fun l=>k ((st.wk d).put d (.aj (.own d) τ l))
    |none=>none
   |_,_=>none
  |_=>none
 |_,_=>none
def zo (o:Nat) (l:List Nat):List Nat:=bif aP o l then l else l++[o]
mutual
def afX {T:Nat→Type}:TV T→List Nat→List Nat
 |.ref o _,l=>zo o l
 |.bN o,l=>zo o l
 |.vw o _,l=>zo o l
 |.jk o _ _ _,l=>zo o l
 |.sv o _ _ _ _ _,l=>zo o l
 |.sel o _ _ _ _ _,l=>zo o l
 |.agg cs,l=>pQ cs l
 |.bA cs,l=>pQ cs l
 |.aI cs _,l=>pQ cs l
 |.fn _ a b,l=>pQ b (pQ a l)
 |_,l=>l
def pQ {T:Nat→Type}:List (TV T)→List Nat→List Nat
 | [],l=>l
 |v::vs,l=>pQ vs (afX v l)
end
mutual
def sO {T:Nat→Type} (m:List (Nat×Nat)):TV T→TV T
 |.ref o off=>match look m o with
  |some p=>.ref p off
  |none=>.gone
 |.bN o=>match look m o with
  |some p=>.bN p
  |none=>.gone
 |.vw o t=>match look m o with
  |some p=>.vw p t
  |none=>.gone
 |.jk o t i off=>match look m o with
  |some p=>.jk p t i off
  |none=>.gone
 |.sv o off k n lo hi=>match look m o with
  |some p=>.sv p off k n lo hi
  |none=>.gone
 |.sel o off k n i j=>match look m o with
  |some p=>.sel p off k n i j
  |none=>.gone
 |.aj c t l=>match c with
  |.own _=>.aj .any t l
  |c=>.aj c t l
 |.agg cs=>.agg (vg m cs)
 |.bA cs=>.bA (vg m cs)
 |.aI cs off=>.aI (vg m cs) off
 |.fn f a b=>.fn f (vg m a) (vg m b)
 |v=>v
def vg {T:Nat→Type} (m:List (Nat×Nat)):List (TV T)→List (TV T)
 | []=>[]
 |v::vs=>sO m v::vg m vs
end
def jy:List Nat→Nat→List (Nat×Nat)
 | [],_=>[]
 |o::l,n=>(o,n)::jy l (n+1)
def wQ:List Nat→Bool
 | []=>true
 |o::l=> !(aP o l)&& wQ l
def zq {T:Nat→Type} (st:MS T):List (Nat×Nat)→List (Nat×Ob T)
 | []=>[]
 | (o,p)::m=>match look st.ob o with
   |some x=>(p,x)::zq st m
   |none=>zq st m
def pR {T:Nat→Type}:List (Nat×Nat)→List (Nat×Ob T)→List (Nat×Ob T)
 | [],_=>[]
 | (o,p)::m,l=>match look l p with
   |some y=>(o,y)::pR m l
   |none=>pR m l
def zu:List (Nat×Nat)→List (Nat×jC)→Bool
 | [],[]=>true
 | (_,p)::m,(q,_)::l=>Nat.beq p q&& zu m l
 |_,_=>false
def zw:List Sk→Bool
 | []=>true
 |.d (.int _)::l=>zw l
 |.d .bool::l=>zw l
 |.d .str::l=>zw l
 |_=>false
def OB:List Sk→Bool
 | []=>true
 |.d _::l=>OB l
 |_=>false
def okO:jC→Bool
 |.cells l=>OB l
 |_=>true
def rC:List (Nat×jC)→Bool
 | []=>true
 | (_,k)::l=>okO k&& rC l
def Ir (m:List (Nat×Nat)) (A:List (TV R.T)) (B:List (Nat×Ob R.T)):List (FM R)→Option ((r:FM R)×Option (aA R.T r.res×mI R.T r.obs))
 | []=>none
 |r::l=>match eX R r.args A,kV R B r.obs with
  |some p,some q=>bif zu m r.obs&& (zw r.res&& rC r.obs) then some ⟨r,r.F p q⟩ else none
  |_,_=>Ir m A B l
def V5 {T:Nat→Type}:List (TV T)→TV T
 | [v]=>v
 |vs=>.bA vs
def pU {T:Nat→Type} (st:MS T) (o:Oper):Bool:=match o.op with
 |.call c=>match c.callee with
  |.value f=>match aZ [] st f with
   |some (.fn g _ _)=>E.imp g
   |_=>false
  |_=>false
 |_=>false
def qG (o:Oper):Bool:=match o.op with
 |.call c=>match c.callee with
  |.value (.func g)=> !(E.imp g)
  |.value _=>false
  |_=>true
 |_=>true
def wR (M:Nat→List (FM R)) (o:Oper) (st:MS R.T) (k:MS R.T→Option β):Option β:=match o.op with
 |.call c=>match c.callee with
  |.value f=>match aZ [] st f,lF [] st c.args.toList with
   |some (.fn g a b),some vs=>bif wQ (pQ (a++vs++b) []) then (match Ir R (jy (pQ (a++vs++b) []) F0) (vg (jy (pQ (a++vs++b) []) F0) (a++vs++b)) (zq st (jy (pQ (a++vs++b) []) F0)) (M g) with
    |some ⟨r,x⟩=>x.bind fun y=>k (MS.dQ ⟨st.fr,pR (jy (pQ (a++vs++b) []) F0) (jM R r.obs y.2)++st.ob⟩ o.dst (V5 (iy R .any r.res y.1)))
    |none=>none) else none
   |_,_=>none
  |_=>none
 |_=>none
variable (M:Nat→List (FM R))
def qH (all:List Oper):List Oper→MS R.T→(MS R.T→Option β)→Option β
 | [],st,k=>k st
 |o::os,st,k=>match Ip all st o with
  |.run=>bif mP E st o then OA R F o st (fun st=>qH all os st k) else (bif pU E st o then wR R M o st (fun st=>qH all os st k) else runM E R om F o st (fun st=>qH all os st k))
  |.skip=>qH all os (st.dQ o.dst .undef) k
  |.dyn j w c g=>bif mP E st o||mP E (st.kG g) o then none else (bif pU E (st.kG g) o then (bif c then wR R M o (st.kG g) (fun st=>qH all os st k) else qH all os ((st.sN g).dQ o.dst .undef) k) else Oz E R om F o j w c g st (fun st=>qH all os st k))
  |.no=>none
def V6 {T:Nat→Type}:TV T→List Key
 |.ref o _=>[.obj (1,o)]
 |.bN o=>[.obj (1,o)]
 |.jk o _ _ _=>[.obj (1,o)]
 |.sv o _ _ _ _ _=>[.obj (1,o)]
 |.sel o _ _ _ _ _=>[.obj (1,o)]
 |_=>[]
def sP {T:Nat→Type} (st:MS T) (x:Operand):List Key:=match aZ [] st x with
 |some v=>V6 v
 |none=>[]
def Iu (o:Oper):List Key:=match o.dst with
 |some t=>[.obj (1,t)]
 |none=>[]
def Iw {T:Nat→Type}:List (TV T)→Bool
 | []=>false
 |.sv _ _ _ _ _ _::_=>true
 |_::l=>Iw l
def CJ (om:Bool) {T:Nat→Type} (st:MS T) (o:Oper):bP:=
 match o.op with
 |.move _|.assign _|.pick .. |.build .. |.buildSlice .. |.nilCheck _|.binOp .. |.unOp .. |.makeInterface .. |.makeFunc .. |.fieldAddr .. |.field .. |.indexAddr .. |.index .. |.extract ..
 |.sliceToArrayPointer .. =>lq []
 |.convert _ _ x|.slice _ x _ _ _|.load _ x|.lookup _ x _ _=>lq (sP st x)
 |.alloc _|.box .. |.makeMap .. =>kr (Iu o)
 |.makeSlice .. =>kr (.top::Iu o)
 |.store _ a _=>kr (sP st a)
 |.mapUpdate _ m _ _|.insert _ m _ _=>kr (sP st m)
 |.call c=>match c.callee with
  |.builtin b=>match b with
   |.len|.cap|.min|.max=>lq (c.args.toList.flatMap fun x=>sP st x)
   |.append=>bif om then dV else ⟨false,false,c.args.toList.flatMap fun x=>sP st x,[.top]⟩
   |_=>dV
  |.value f=>match aZ [] st f with
   |some (.fn g a b)=>if E.imp g then dV else (match lF [] st c.args.toList with
    |some vs=>if uV (a++vs++b) then lq [] else ⟨true,false,[],[]⟩
    |none=>dV)
   |_=>dV
  |_=>dV
 |_=>dV
def mQ (om:Bool) {T:Nat→Type} (all:List Oper) (st:MS T) (o:Oper) (wanted:Bool):bP:=
 if wanted then let f:=CJ E om st o;⟨f.qo,f.mh,qp all o++f.t,ku o++f.w⟩
 else ⟨false,false,qp all o,ku o⟩
def zx {T:Nat→Type}:TV T→Bool
 |.gone=>false
 |.opt _ _ _=>false
 |.vw _ _=>false
 |_=>true
def vk {T:Nat→Type} (st:MS T) (o:Oper):Bool:= !(mP E st o)&&
 match o.op with
 |.call c=>match c.callee with
  |.value f=>match aZ [] st f,lF [] st c.args.toList with
   |some (.fn _ a b),some vs=>uV (a++vs++b)||Iw (a++vs++b)
   |_,_=>false
  |.builtin _=>match lF [] st c.args.toList with
   |some vs=>vs.all zx
   |none=>false
  |_=>true
 |_=>true
def Key.nm:Key→Key
 |.obj l=>.obj (1,l.2)
 |k=>k
def bP.nm (f:bP):bP:=⟨f.qo,f.mh,f.t.map Key.nm,f.w.map Key.nm⟩
def nP (ms:List Nat) (all:List Oper):List Oper→MS R.T→List bP→(MS R.T→Option β)→Option β
 | [],st,fs,k=>bif sw ms (fs.map bP.nm) then k st else none
 |o::os,st,fs,k=>match Ip all st o with
  |.run=>bif pU E st o then (bif mP E st o then none else wR R M o st (fun st'=>nP ms all os st' (fs++[mQ E om all st o true]) k)) else bif !(vk E st o) then none else runM E R om F o st (fun st'=>nP ms all os st' (fs++[mQ E om all st o true]) k)
  |.skip=>nP ms all os (st.dQ o.dst .undef) (fs++[mQ E om all st o false]) k
  |.dyn _ _ c g=>bif c then (bif pU E (st.kG g) o then (bif mP E (st.kG g) o then none else wR R M o (st.kG g) (fun st'=>nP ms all os st' (fs++[mQ E om all (st.kG g) o true]) k)) else bif !(vk E (st.kG g) o) then none else runM E R om F o (st.kG g) (fun st'=>nP ms all os st' (fs++[mQ E om all (st.kG g) o true]) k))
   else nP ms all os ((st.sN g).dQ o.dst .undef) (fs++[mQ E om all st o false]) k
  |.no=>none
end
def eZ {R:fU} (key:Nat) (W:List Nat) (b:MS R.T) (sh:Shape) (outs:List (Ex×Shape)) (body:{β:Type}→MS R.T→(Ex→MS R.T→Option β)→Option β):Nat→nJ R.T sh→Option (Out R.T outs)
 |0,_=>none
 |m+1,p=>body (b.over (unpack R sh p)) fun e st=>match e with
  |.normal=>match jN R W st sh with
   |some p=>eZ key W b sh outs body m p
   |none=>none
  |e=>pO R W e st outs
def MS.obs {T:Nat→Type} (st:MS T):MS T:=⟨[],st.ob⟩
def CK {R:fU} {β:Type} (body:MS R.T→(Ex→MS R.T→Option β)→Option β):Nat→MS R.T→(Ex→MS R.T→Option β)→Option β
 |0,_,_=>none
 |m+1,st,k=>body st fun e st'=>match e with
  |.normal=>CK body m st' k
  |e=>k e st'
def zy {R:fU} {X:Type} (key:Nat) (W:List Nat) (b:MS R.T) (sh:Shape) (outs:List (Ex×Shape)) (body:{β:Type}→X→MS R.T→(Ex→MS R.T→Option β)→Option β):List X→nJ R.T sh→Option (Out R.T outs)
 | [],p=>pO R W .normal (unpack R sh p).obs outs
 |x::xs,p=>body x (b.over (unpack R sh p)) fun e st=>match e with
  |.normal=>match jN R W st.obs sh with
   |some p=>zy key W b sh outs body xs p
   |none=>none
  |e=>pO R W e st.obs outs
def CO {R:fU} (a b:List (TV R.T)):List (FI R)→Option ((el:List Sk)×Option (List (aA R.T el)))
 | []=>none
 |i::l=>match eX R i.a a,eX R i.b b with
  |some pa,some pb=>bif gJ i.a&& gJ i.b&& gJ i.el&& Nat.ble (mO i.a) 18&& Nat.ble (mO i.b) 18 then some ⟨i.el,i.F pa pb⟩ else none
  |_,_=>CO a b l
def wS (O:List Nat):List (Nat×jC)→Bool
 | []=>true
 | (o,_)::l=> !(aP o O)&& wS O l
def wT {T:Nat→Type} (st:MS T):List Nat→List (TV T)→Option (MS T)
 | [],[]=>some st
 |i::l,v::vs=>wT (st.put i v) l vs
 |_,_=>none
def iV:List Oper→List Nat
 | []=>[]
 |o::l=>match o.dst with
  |some d=>d::iV l
  |none=>iV l
def aK:Code→List Nat
 |.region _ ops _=>iV ops.toList
 |.seq a b=>aK a++aK b
 |.cond _ a b=>aK a++aK b
 |.block _ c=>aK c
 |.loop c=>aK c
 |.rangeFunc _ ps a b=>ps.toList++aK a++aK b
 |_=>[]
def lH:Code→Nat
 |.region i _ _=>i
 |.seq a _=>lH a
 |.loop a=>lH a
 |.block _ a=>lH a
 |.rangeFunc _ _ _ b=>lH b
 |_=>0
def gK:Code→Bool
 |.region _ ops _=>ops.toList.all (qG E)
 |.seq a b=>gK a&& gK b
 |.cond _ a b=>gK a&& gK b
 |.block _ c=>gK c
 |.loop c=>gK c
 |.rangeFunc _ _ _ _=>false
 |_=>true
variable (n:Nat) (om:Bool) (F:Nat→List (FR R)) (I:IR R) (A:bC)
def bU:Code→{β:Type}→MS R.T→(Ex→MS R.T→Option β)→Option β
 |.skip,_,st,k=>k .normal st
 |.region _ ops dr,_,st,k=>bif dr then (bif mo ops.toList then nP E R om F I.im (ny ops.toList) ops.toList ops.toList st [] (fun st=>k .normal st) else none) else qH E R om F I.im ops.toList ops.toList st (fun st=>k .normal st)
 |.seq a b,_,st,k=>
  match look A.joins (lH b) with
  |none=>bU a st fun e st=>match e with
   |.normal=>bU b st k
   |e=>k e st
  |some q=>(bU (β:=Out R.T q.outs) a ((base (aK a) q.K q.O .ro st).over st) fun e st=>pO R (aK a) e st q.outs).bind (ru R (base (aK a) q.K q.O (fun b=>b) st) (fun e st=>match e with
   |.normal=>bU b st k
   |e=>k e st) q.outs)
 |.cond c a b,_,st,k=>match aZ [] st c with
  |some (.fH t)=>bif t then bU a st k else bU b st k
  |some (.bool t)=>bif t then bU a (st.yP c true) k else bU b (st.yP c false) k
  |_=>none
 |.block id c,_,st,k=>bU c st fun e st=>match e with
  |.exit i=>bif Nat.beq i id then k .normal st else k (.exit i) st
  |e=>k e st
 |.loop c,_,st,k=>match look A.loops (lH c) with
  |some q=>match jN R (aK c) st q.sh with
   |some p=>(eZ (lH c) (aK c) (base (aK c) q.K q.O .ro st) q.sh q.outs (fun st k=>bU c st k) n p).bind (ru R (base (aK c) q.K q.O (fun b=>b) st) k q.outs)
   |none=>none
  |none=>CK (fun st k=>bU c st k) 130 st k
 |.rangeFunc f ps a c,_,st,k=>match look A.loops (lH c) with
  |some q=>match aZ [] st f with
   |some (.fn g u v)=>bif nL u&& nL v&& wS q.O q.sh.ob&& gK E a&& gK E c then (match CO u v (I.it g) with
    |some ⟨el,xs⟩=>match jN R (ps.toList++aK a++aK c) st.obs q.sh with
     |some p=>(xs.bind fun xs=>zy (lH c) (ps.toList++aK a++aK c) (base (ps.toList++aK a++aK c) q.K q.O .ro st) q.sh q.outs (fun x st k=>match wT st ps.toList (iy R .sh el x) with
       |some st=>bU a st fun e st=>match e with
        |.normal=>bU c st k
        |_=>none
       |none=>none) xs p).bind (ru R (base (ps.toList++aK a++aK c) q.K q.O (fun b=>b) st) k q.outs)
     |none=>none
    |none=>none) else none
   |_=>none
  |none=>none
 |.exit i,_,st,k=>k (.exit i) st
 |.ret,_,st,k=>k .ret st
 |_,_,_,_=>none
def rD (st:MS R.T):List ResultVar→Option (List (TV R.T))
 | []=>some []
 |.tmp t::l=>match aZ [] st (.tmp t) with
  |some v=>match rD st l with
   |some vs=>some (v::vs)
   |none=>none
  |none=>none
 |.cell a t::l=>match aZ [] st (.tmp a) with
  |some (.ref o off)=>match kS st o with
   |some (.cells cs)=>match jD E t cs off with
    |some v=>match rD st l with
     |some vs=>some (v::vs)
     |none=>none
    |none=>none
   |some (.sg ss)=>match Il E R t ss off with
    |some v=>match rD st l with
     |some vs=>some (v::vs)
     |none=>none
    |none=>none
   |_=>none
  |_=>none
def wU {T:Nat→Type}:Nat→List (TV T)→List (Nat×TV T)
 |_,[]=>[]
 |i,v::l=>(i,v)::wU (i+1) l
def bG (fn:Func) (args res:List Sk) (p:aA R.T args):Option (aA R.T res):=
 match fn.body with
 |some c=>bU E R n om F I A c ⟨wU 0 (iy R .sh args p),[]⟩ fun e st=>match e with
  |.exit _=>none
  |_=>match rD E R st fn.results.toList with
   |some vs=>bif gJ res&& Nat.ble (mO res) 16 then eX R res (lW st vs) else none
   |none=>none
 |none=>none
def OC {T:Nat→Type}:TV T→Bool
 |.aj (.own _) _ _=>true
 |.aj .full _ _=>true
 |.dW=>true
 |_=>false
def Iy (fn:Func) (args:List Sk) (τ:Ty) (p:aA R.T args):Option (List (Den R.T τ)):=
 match fn.body with
 |some c=>bU E R n om F I A c ⟨wU 0 (iy R .sh args p),[]⟩ fun e st=>match e with
  |.exit _=>none
  |_=>match rD E R st fn.results.toList with
   |some [v]=>bif OC v then wH R τ v else none
   |_=>none
 |none=>none
end
end Aq
end
section
namespace Aq
open Go
set_option linter.unusedSectionVars false
set_option linter.unusedVariables false
structure Cx where
 om:Bool
 dp:Nat
 lo:Nat
 fl:Nat→Option Loc
 lt:∀o L,fl o=some L→F0≤o∧L.1<dp
 inj:∀o p L,fl o=some L→fl p=some L→o=p
def Cx.lc (c:Cx) (o:Nat):Loc:=match c.fl o with
 |some L=>L
 |none=>(c.dp,o)
theorem Cx.afY (c:Cx) {o:Nat} (h:o<F0):c.lc o=(c.dp,o):=by
 unfold Cx.lc
 split
 ·rename_i L hL
  have:=(c.lt _ _ hL).1
  omega
 ·rfl
theorem Cx.OD (c:Cx) {o p:Nat} (h:c.lc o=c.lc p):o=p:=by
 unfold Cx.lc at h
 split at h<;>split at h
 ·rename_i L h1 _ M h2;subst h;exact c.inj _ _ _ h1 h2
 ·rename_i L h1 _ h2;have:=(c.lt _ _ h1).2;rw[h] at this;exact absurd this (Nat.lt_irrefl _)
 ·rename_i h1 _ L h2;have:=(c.lt _ _ h2).2;rw[←h] at this;exact absurd this (Nat.lt_irrefl _)
 ·exact congrArg Prod.snd h
theorem Cx.V7 (c:Cx) {o p:Nat} (h:o≠p):c.lc o≠c.lc p:=fun e=>h (c.OD e)
theorem Cx.zA (c:Cx) (o:Nat):(c.lc o).1≤c.dp:=by
 unfold Cx.lc
 split
 ·rename_i L hL;exact Nat.le_of_lt (c.lt _ _ hL).2
 ·exact Nat.le_refl _
def Cx.out (c:Cx) (L:Loc):Prop:=∀o,L≠c.lc o
structure aL where
 ob:Nat→Option Nat
 tk:Nat→Option Nat
 ln:Nat→Nat
 om:Cx
section
variable (R:fU)
def lY:Ty→Bool
 |.st _=>false
 |_=>true
structure lZ:Prop where
 CP:∀n p,R.of n (R.to n p)=p
 enc:∀n x,R.enc n x= .agg (encs R (R.lf n) (R.of n x))
 leaf:∀n,(R.lf n).all lY=true
 pc:∀n x,aF (R.enc n x)=true
def zB (ρ:aL) (top:Nat→Nat) (sz len:Nat):Cp→Cap→Prop
 |.any,_=>True
 |.sh,c=>c= .sh
 |.nil,c=>c= .nil
 |.full,c=>c= .full
 |.own t,c=>c= .nil∨c= .full∨∃s,c= .own sz s∧ρ.tk t=some s∧top s=len
mutual
def Rl (ρ:aL) (top:Nat→Nat):TV R.T→V→Prop
 |.int k n,v=>v= .int k n
 |.bool b,v=>v= .bool b
 |.fH b,v=>v= .bool b
 |.str s,v=>v= .str s
 |.eu,v=>v= .eu
 |.dU,v=>v= .dU
 |.dP,v=>v= .dP
 |.fB,v=>v= .fB
 |.dW,v=>v= .aj .nil []
 |.agg cs,v=> ∃l,v= .agg l∧aB ρ top cs l
 |.bA cs,v=> ∃l,v= .bA l∧aB ρ top cs l
 |.aj c t l,v=> ∃c',v= .aj c' (l.map (aG R t))∧zB ρ top (bW R t) l.length c c'
 |.ref o off,v=> ∃s,ρ.ob o=some s∧v= .ref (ρ.om.lc o) s off
 |.aI cs off,v=> ∃l,v= .aI l off∧aB ρ top cs l
 |.bN o,v=> ∃s,ρ.ob o=some s∧v= .bN (ρ.om.lc o) s
 |.cK k e m,v=>v= .cK (m.map fun p=>aG R k p.1) (m.map fun p=>aG R e p.2)
 |.fn f a b,v=> ∃a' b',v= .fn (.func f) a' b'∧aB ρ top a a'∧aB ρ top b b'
 |.opt _ _ _,_=>False
 |.vw o t,v=>(∃s,ρ.ob o=some s∧v= .vw (ρ.om.lc o) s 0 (ρ.ln o) (ρ.ln o) (bW R t) (fZ t))∨(ρ.ln o=0∧(v= .aj .nil []∨v= .aj .full []))
 |.jk o t i off,v=> ∃s,ρ.ob o=some s∧0≤i∧v= .ref (ρ.om.lc o) s (i.toNat*bW R t+off)
 |.sg ss,v=>v= .agg (bH ss)
 |.sv o off k n lo hi,v=> ∃s,ρ.ob o=some s∧lX n lo hi=true∧v= .vw (ρ.om.lc o) s (off+(dx lo).toNat) ((eY n hi).toNat-(dx lo).toNat) (n-(dx lo).toNat) 1 false
 |.sel o off k n i m,v=> ∃s,ρ.ob o=some s∧0≤i∧i.toNat+m≤n∧v= .ref (ρ.om.lc o) s (off+i.toNat)
 |.oz k n x i,v=>0≤i∧i<n∧v= .aI (x.l.map (V.int k)) i.toNat
 |.undef,v=>v=aC
 |.gone,_=>True
def aB (ρ:aL) (top:Nat→Nat):List (TV R.T)→List V→Prop
 | [],l=>l=[]
 |t::ts,l=> ∃v vs,l=v::vs∧Rl ρ top t v∧aB ρ top ts vs
end
variable {R}
variable {ρ ρ':aL} {top top':Nat→Nat}
theorem aB.eH {vs:List V} (h:aB R ρ top [] vs):vs=[]:=by unfold aB at h;exact h
theorem aB.dH {t:TV R.T} {ts:List (TV R.T)} {vs:List V} (h:aB R ρ top (t::ts) vs):∃v l,vs=v::l∧Rl R ρ top t v∧aB R ρ top ts l:=by unfold aB at h;exact h
theorem Rl.fq {k:IntKind} {n:Int} {v:V} (h:Rl R ρ top (.int k n) v):v= .int k n:=by unfold Rl at h;exact h
theorem Rl.oM {b:Bool} {v:V} (h:Rl R ρ top (.bool b) v):v= .bool b:=by unfold Rl at h;exact h
theorem Rl.qI {b:Bool} {v:V} (h:Rl R ρ top (.fH b) v):v= .bool b:=by unfold Rl at h;exact h
theorem Rl.kX {b:List UInt8} {v:V} (h:Rl R ρ top (.str b) v):v= .str b:=by unfold Rl at h;exact h
theorem Rl.nQ {v:V} (h:Rl R ρ top .dW v):v= .aj .nil []:=by unfold Rl at h;exact h
theorem Rl.jA {cs:List (TV R.T)} {v:V} (h:Rl R ρ top (.agg cs) v):∃l,v= .agg l∧aB R ρ top cs l:=by unfold Rl at h;exact h
theorem Rl.Iz {cs:List (TV R.T)} {v:V} (h:Rl R ρ top (.bA cs) v):∃l,v= .bA l∧aB R ρ top cs l:=by unfold Rl at h;exact h
theorem Rl.jO {c:Cp} {t:Ty} {l:List (Den R.T t)} {v:V} (h:Rl R ρ top (.aj c t l) v):∃c',v= .aj c' (l.map (aG R t))∧zB ρ top (bW R t) l.length c c':=by unfold Rl at h;exact h
theorem Rl.mR {o off:Nat} {v:V} (h:Rl R ρ top (.ref o off) v):∃s,ρ.ob o=some s∧v= .ref (ρ.om.lc o) s off:=by unfold Rl at h;exact h
theorem Rl.rE {cs:List (TV R.T)} {off:Nat} {v:V} (h:Rl R ρ top (.aI cs off) v):∃l,v= .aI l off∧aB R ρ top cs l:=by unfold Rl at h;exact h
theorem Rl.sQ {o:Nat} {v:V} (h:Rl R ρ top (.bN o) v):∃s,ρ.ob o=some s∧v= .bN (ρ.om.lc o) s:=by unfold Rl at h;exact h
theorem Rl.zC {k e:Ty} {m:List (Den R.T k×Den R.T e)} {v:V} (h:Rl R ρ top (.cK k e m) v):v= .cK (m.map fun p=>aG R k p.1) (m.map fun p=>aG R e p.2):=by unfold Rl at h;exact h
theorem Rl.l5 {f:Nat} {a b:List (TV R.T)} {v:V} (h:Rl R ρ top (.fn f a b) v):∃a' b',v= .fn (.func f) a' b'∧aB R ρ top a a'∧aB R ρ top b b':=by unfold Rl at h;exact h
theorem Rl.zD {o:Nat} {t:Ty} {v:V} (h:Rl R ρ top (.vw o t) v):(∃s,ρ.ob o=some s∧v= .vw (ρ.om.lc o) s 0 (ρ.ln o) (ρ.ln o) (bW R t) (fZ t))∨(ρ.ln o=0∧(v= .aj .nil []∨v= .aj .full [])):=by unfold Rl at h;exact h
theorem Rl.wV {o off:Nat} {t:Ty} {i:Int} {v:V} (h:Rl R ρ top (.jk o t i off) v):∃s,ρ.ob o=some s∧0≤i∧v= .ref (ρ.om.lc o) s (i.toNat*bW R t+off):=by unfold Rl at h;exact h
theorem Rl.CQ {ss:List Sg} {v:V} (h:Rl R ρ top (.sg ss) v):v= .agg (bH ss):=by unfold Rl at h;exact h
theorem Rl.vo {o off n:Nat} {k:IntKind} {lo hi:Option Int} {v:V} (h:Rl R ρ top (.sv o off k n lo hi) v):∃s,ρ.ob o=some s∧lX n lo hi=true∧v= .vw (ρ.om.lc o) s (off+(dx lo).toNat) ((eY n hi).toNat-(dx lo).toNat) (n-(dx lo).toNat) 1 false:=by unfold Rl at h;exact h
theorem Rl.CS {o off n m:Nat} {k:IntKind} {i:Int} {v:V} (h:Rl R ρ top (.sel o off k n i m) v):∃s,ρ.ob o=some s∧0≤i∧i.toNat+m≤n∧v= .ref (ρ.om.lc o) s (off+i.toNat):=by unfold Rl at h;exact h
theorem Rl.IB {n:Nat} {k:IntKind} {x:Vec n} {i:Int} {v:V} (h:Rl R ρ top (.oz k n x i) v):0≤i∧i<n∧v= .aI (x.l.map (V.int k)) i.toNat:=by unfold Rl at h;exact h
theorem Rl.V8 {v:V} (h:Rl R ρ top .undef v):v=aC:=by unfold Rl at h;exact h
theorem Rl.V9 {j:Nat} {w:Bool} {x:TV R.T} {v:V} (h:Rl R ρ top (.opt j w x) v):False:=by unfold Rl at h;exact h
theorem aB.nil':aB R ρ top [] []:=rfl
theorem aB.cons' {t:TV R.T} {ts:List (TV R.T)} {v:V} {vs:List V} (h:Rl R ρ top t v) (h':aB R ρ top ts vs):aB R ρ top (t::ts) (v::vs):=⟨v,vs,rfl,h,h'⟩
theorem aB.length:∀{ts:List (TV R.T)} {vs:List V},aB R ρ top ts vs→vs.length=ts.length
 | [],_,h=>by cases h;rfl
 |_::ts,_,⟨v,vs,e,_,h'⟩=>by subst e;simp[aB.length h']
theorem aB.append:∀{ts ts':List (TV R.T)} {vs vs':List V},aB R ρ top ts vs→aB R ρ top ts' vs'→aB R ρ top (ts++ts') (vs++vs')
 | [],_,_,_,h,h2=>by cases h;exact h2
 |_::ts,_,_,_,⟨v,vs,e,h1,h'⟩,h2=>by subst e;exact .cons' h1 (aB.append h' h2)
theorem aB.drop:∀(n:Nat) {ts:List (TV R.T)} {vs:List V},aB R ρ top ts vs→aB R ρ top (ts.drop n) (vs.drop n)
 |0,_,_,h=>by simpa using h
 |n+1,[],_,h=>by cases h;simp;rfl
 |n+1,_::ts,_,⟨v,vs,e,h1,h'⟩=>by subst e;simpa using aB.drop n h'
theorem aB.take:∀(n:Nat) {ts:List (TV R.T)} {vs:List V},aB R ρ top ts vs→aB R ρ top (ts.take n) (vs.take n)
 |0,_,_,h=>by simp;rfl
 |n+1,[],_,h=>by cases h;simp;rfl
 |n+1,_::ts,_,⟨v,vs,e,h1,h'⟩=>by subst e;simpa using .cons' h1 (aB.take n h')
theorem aB.get:∀{ts:List (TV R.T)} {vs:List V} {i:Nat} {t:TV R.T},aB R ρ top ts vs→ts[i]? =some t→∃v,vs[i]? =some v∧Rl R ρ top t v
 | [],_,_,_,_,h=>by simp at h
 |_::ts,_,0,_,⟨v,vs,e,h1,h'⟩,h=>by subst e;simp at h;subst h;exact⟨v,by simp,h1⟩
 |_::ts,_,i+1,_,⟨v,vs,e,h1,h'⟩,h=>by subst e;simpa using aB.get h' (by simpa using h)
mutual
theorem Rl.wk (t:Nat) (ho:ρ'.ob=ρ.ob∧ρ'.ln=ρ.ln∧ρ'.om=ρ.om) (ht:∀u s,u≠t→ρ.tk u=some s→ρ'.tk u=some s∧top' s=top s):∀(x:TV R.T) (v:V),Rl R ρ top x v→Rl R ρ' top' (wk t x) v
 |.aj (.own u) ty l,v,h=>by
  obtain⟨c',hv,hc⟩:=h
  unfold Aq.wk
  by_cases e:Nat.beq u t=true
  ·rw[e,cond_true];exact⟨c',hv,trivial⟩
  ·have e':Nat.beq u t=false:=Bool.eq_false_iff.2 e
   rw[e',cond_false]
   refine⟨c',hv, ?_⟩
   rcases hc with hc|hc| ⟨s,h1,h2,h3⟩
   ·exact .inl hc
   ·exact .inr (.inl hc)
   ·have hne:u≠t:=fun h=>e (by rw[h];exact Nat.beq_refl t)
    have:=ht u s hne h2
    exact .inr (.inr ⟨s,h1,this.1,by rw[this.2];exact h3⟩)
 |.aj .any ty l,v,h=>by obtain⟨c',hv,hc⟩:=h;exact⟨c',hv,trivial⟩
 |.aj .sh ty l,v,h=>by obtain⟨c',hv,hc⟩:=h;exact⟨c',hv,hc⟩
 |.aj .nil ty l,v,h=>by obtain⟨c',hv,hc⟩:=h;exact⟨c',hv,hc⟩
 |.aj .full ty l,v,h=>by obtain⟨c',hv,hc⟩:=h;exact⟨c',hv,hc⟩
 |.agg cs,v,h=>by obtain⟨l,hv,hl⟩:=h;exact⟨l,hv,aB.wk t ho ht cs l hl⟩
 |.bA cs,v,h=>by obtain⟨l,hv,hl⟩:=h;exact⟨l,hv,aB.wk t ho ht cs l hl⟩
 |.aI cs off,v,h=>by obtain⟨l,hv,hl⟩:=h;exact⟨l,hv,aB.wk t ho ht cs l hl⟩
 |.fn f a b,v,h=>by obtain⟨a',b',hv,ha,hb⟩:=h;exact⟨a',b',hv,aB.wk t ho ht a a' ha,aB.wk t ho ht b b' hb⟩
 |.ref o off,v,h=>by obtain⟨s,h1,h2⟩:=h;exact⟨s,by rw[ho.1];exact h1,by rw[ho.2.2];exact h2⟩
 |.bN o,v,h=>by obtain⟨s,h1,h2⟩:=h;exact⟨s,by rw[ho.1];exact h1,by rw[ho.2.2];exact h2⟩
 |.vw o ty,v,h=>by
  rcases h with ⟨s,h1,h2⟩| ⟨h1,h2⟩
  ·exact .inl ⟨s,by rw[ho.1];exact h1,by rw[ho.2.1,ho.2.2];exact h2⟩
  ·exact .inr ⟨by rw[ho.2.1];exact h1,h2⟩
 |.jk o ty i off,v,h=>by obtain⟨s,h1,h2⟩:=h;exact⟨s,by rw[ho.1];exact h1,by rw[ho.2.2];exact h2⟩
 |.sv o _ _ _ _ _,v,h=>by obtain⟨s,h1,h2⟩:=h;exact⟨s,by rw[ho.1];exact h1,by rw[ho.2.2];exact h2⟩
 |.sel o _ _ _ _ _,v,h=>by obtain⟨s,h1,h2⟩:=h;exact⟨s,by rw[ho.1];exact h1,by rw[ho.2.2];exact h2⟩
 |.sg _,_,h=>h
 |.oz _ _ _ _,_,h=>h
 |.opt _ _ _,_,h=>h.elim
 |.int _ _,_,h=>h
 |.bool _,_,h=>h
 |.fH _,_,h=>h
 |.str _,_,h=>h
 |.eu,_,h=>h
 |.dU,_,h=>h
 |.dP,_,h=>h
 |.fB,_,h=>h
 |.dW,_,h=>h
 |.cK _ _ _,_,h=>h
 |.undef,_,h=>h
 |.gone,_,h=>h
theorem aB.wk (t:Nat) (ho:ρ'.ob=ρ.ob∧ρ'.ln=ρ.ln∧ρ'.om=ρ.om) (ht:∀u s,u≠t→ρ.tk u=some s→ρ'.tk u=some s∧top' s=top s):∀(x:List (TV R.T)) (v:List V),aB R ρ top x v→aB R ρ' top' (qY t x) v
 | [],_,h=>h
 |x::xs,_,⟨v,vs,e,h1,h2⟩=>⟨v,vs,e,Rl.wk t ho ht x v h1,aB.wk t ho ht xs vs h2⟩
end
mutual
theorem Rl.kill (o:Nat) (ho:∀p,p≠o→ρ'.ob p=ρ.ob p∧ρ'.ln p=ρ.ln p) (ht:ρ'.tk=ρ.tk) (hx:ρ'.om=ρ.om):∀(x:TV R.T) (v:V),jV o x=false→Rl R ρ top x v→Rl R ρ' top x v
 |.aj c ty l,v,_,h=>by
  obtain⟨c',hv,hc⟩:=h
  refine⟨c',hv, ?_⟩
  cases c<;>try exact hc
  rcases hc with hc|hc| ⟨s,h1,h2,h3⟩
  ·exact .inl hc
  ·exact .inr (.inl hc)
  ·exact .inr (.inr ⟨s,h1,by rw[ht];exact h2,h3⟩)
 |.agg cs,v,hm,h=>by obtain⟨l,hv,hl⟩:=h;exact⟨l,hv,aB.kill o ho ht hx cs l hm hl⟩
 |.bA cs,v,hm,h=>by obtain⟨l,hv,hl⟩:=h;exact⟨l,hv,aB.kill o ho ht hx cs l hm hl⟩
 |.aI cs off,v,hm,h=>by obtain⟨l,hv,hl⟩:=h;exact⟨l,hv,aB.kill o ho ht hx cs l hm hl⟩
 |.fn f a b,v,hm,h=>by
  obtain⟨a',b',hv,ha,hb⟩:=h
  unfold jV at hm
  rw[Bool.or_eq_false_iff] at hm
  exact⟨a',b',hv,aB.kill o ho ht hx a a' hm.1 ha,aB.kill o ho ht hx b b' hm.2 hb⟩
 |.ref p off,v,hm,h=>by
  obtain⟨s,h1,h2⟩:=h
  unfold jV at hm
  exact⟨s,((ho p (fun e=>by rw[e,Nat.beq_refl] at hm;cases hm)).1.trans h1),by rw[hx];exact h2⟩
 |.bN p,v,hm,h=>by
  obtain⟨s,h1,h2⟩:=h
  unfold jV at hm
  exact⟨s,((ho p (fun e=>by rw[e,Nat.beq_refl] at hm;cases hm)).1.trans h1),by rw[hx];exact h2⟩
 |.vw p ty,v,hm,h=>by
  unfold jV at hm
  obtain⟨k1,k2⟩:=ho p (fun e=>by rw[e,Nat.beq_refl] at hm;cases hm)
  rcases h with ⟨s,h1,h2⟩| ⟨h1,h2⟩
  ·exact .inl ⟨s,k1.trans h1,by rw[k2,hx];exact h2⟩
  ·exact .inr ⟨by rw[k2];exact h1,h2⟩
 |.jk p ty i off,v,hm,h=>by
  obtain⟨s,h1,h2⟩:=h
  unfold jV at hm
  exact⟨s,((ho p (fun e=>by rw[e,Nat.beq_refl] at hm;cases hm)).1.trans h1),by rw[hx];exact h2⟩
 |.sv p _ _ _ _ _,v,hm,h=>by
  obtain⟨s,h1,h2⟩:=h
  unfold jV at hm
  exact⟨s,((ho p (fun e=>by rw[e,Nat.beq_refl] at hm;cases hm)).1.trans h1),by rw[hx];exact h2⟩
 |.sel p _ _ _ _ _,v,hm,h=>by
  obtain⟨s,h1,h2⟩:=h
  unfold jV at hm
  exact⟨s,((ho p (fun e=>by rw[e,Nat.beq_refl] at hm;cases hm)).1.trans h1),by rw[hx];exact h2⟩
 |.sg _,_,_,h=>h
 |.oz _ _ _ _,_,_,h=>h
 |.opt _ _ _,_,_,h=>h.elim
 |.int _ _,_,_,h=>h
 |.bool _,_,_,h=>h
 |.fH _,_,_,h=>h
 |.str _,_,_,h=>h
 |.eu,_,_,h=>h
 |.dU,_,_,h=>h
 |.dP,_,_,h=>h
 |.fB,_,_,h=>h
 |.dW,_,_,h=>h
 |.cK _ _ _,_,_,h=>h
 |.undef,_,_,h=>h
 |.gone,_,_,h=>h
theorem aB.kill (o:Nat) (ho:∀p,p≠o→ρ'.ob p=ρ.ob p∧ρ'.ln p=ρ.ln p) (ht:ρ'.tk=ρ.tk) (hx:ρ'.om=ρ.om):∀(x:List (TV R.T)) (v:List V),kR o x=false→aB R ρ top x v→aB R ρ' top x v
 | [],_,_,h=>h
 |x::xs,_,hm,⟨v,vs,e,h1,h2⟩=>by
  unfold kR at hm
  rw[Bool.or_eq_false_iff] at hm
  exact⟨v,vs,e,Rl.kill o ho ht hx x v hm.1 h1,aB.kill o ho ht hx xs vs hm.2 h2⟩
end
section
variable (hR:lZ R)
include hR
def zF (v w:V):Prop:=eO v=w∧er v=w∧aF w=true∧(∀n σ,aM (n+2) σ v=some w)∧oneCell v=true∧v.cells=[v]
omit hR in
theorem afZ {v:V} (h:∀cs,v≠ .agg cs):er v=eO v:=by cases v<;>first|rfl|exact absurd rfl (h _)
theorem mU:∀(t:Ty) (x:Den R.T t),aF (aG R t x)=true
 |.int _,x=>by simp[aG,aF]
 |.bool,x=>by simp[aG,aF]
 |.str,x=>by simp[aG,aF]
 |.slice t,x=>Cn (mU t) x
 |.st n,x=>hR.pc n x
theorem Wd (c:Cp) (hc:zB ρ top 1 0 c .sh∧(c= .any∨c= .sh)):∀(t:Ty) (x:Den R.T t),lY t=true→Rl R ρ top (uR R c t x) (aG R t x)
 |.int _,x,_=>rfl
 |.bool,x,_=>rfl
 |.str,x,_=>rfl
 |.slice t,x,_=>⟨.sh,rfl,by rcases hc.2 with rfl|rfl<;>first|trivial|rfl⟩
 |.st n,x,h=>by simp[lY] at h
theorem Wh (c:Cp) (hc:zB ρ top 1 0 c .sh∧(c= .any∨c= .sh)):∀(l:List Ty) (p:lC R.T l),l.all lY=true→aB R ρ top (iU R c l p) (encs R l p)
 | [],_,_=>rfl
 | [t],x,h=>.cons' (Wd hR c hc t x (by simpa using h)) rfl
 |t::u::l,p,h=>by
  rw[List.all_cons,Bool.and_eq_true] at h
  exact .cons' (Wd hR c hc t p.1 h.1) (Wh c hc (u::l) p.2 h.2)
theorem IC (c:Cp) (hc:c= .any∨c= .sh):∀(t:Ty) (x:Den R.T t),Rl R ρ top (eG R c t x) (aG R t x)
 |.int _,x=>rfl
 |.bool,x=>rfl
 |.str,x=>rfl
 |.slice t,x=>⟨.sh,rfl,by rcases hc with rfl|rfl<;>first|trivial|rfl⟩
 |.st n,x=>⟨_,hR.enc n x,Wh hR c ⟨by rcases hc with rfl|rfl<;>first|trivial|rfl,hc⟩ _ _ (hR.leaf n)⟩
theorem Wi (t:Ty) (x:Den R.T t):Rl R ρ top (eG R .sh t x) (aG R t x):=IC hR .sh (.inr rfl) t x
omit hR in
theorem af0 (k:IntKind) (n:Int):zF (.int k n) (.int k n):=⟨rfl,rfl,by simp[aF],fun n σ=>NK (n+1) _ _,rfl,rfl⟩
omit hR in
theorem af2 (b:Bool):zF (.bool b) (.bool b):=⟨rfl,rfl,by simp[aF],fun n σ=>NM (n+1) _,rfl,rfl⟩
omit hR in
theorem af3 (b:List UInt8):zF (.str b) (.str b):=⟨rfl,rfl,by simp[aF],fun n σ=>NP (n+1) _,rfl,rfl⟩
theorem af4 (c:Cap) (t:Ty) (l:List (Den R.T t)):zF (.aj c (l.map (aG R t))) (aG R (.slice t) l):=⟨rfl,rfl,mU hR (.slice _) _,fun n σ=>uP _ _ (mU hR _),rfl,rfl⟩
omit hR in
theorem OE {k:IntKind} {x:Int} {tv:TV R.T} {v:V} (h:Hw R k tv=some x) (hr:Rl R ρ top tv v):v= .int k x:=by
 unfold Hw at h
 split at h
 ·split at h
  ·rename_i e;cases e;cases h;exact hr.fq
  ·cases h
 ·cases h
omit hR in
theorem OG {x:Bool} {tv:TV R.T} {v:V} (h:Hy R tv=some x) (hr:Rl R ρ top tv v):v= .bool x:=by
 unfold Hy at h
 split at h<;>cases h
 ·exact hr.oM
 ·exact hr.qI
omit hR in
theorem OH {x:List UInt8} {tv:TV R.T} {v:V} (h:Hz R tv=some x) (hr:Rl R ρ top tv v):v= .str x:=by
 unfold Hz at h
 split at h<;>cases h
 exact hr.kX
omit hR in
theorem pV {t u:Ty} {l:List (Den R.T t)} {m:List (Den R.T u)} (h:oH R l=some m):t=u∧HEq l m:=by
 unfold oH at h
 split at h
 ·rename_i e;subst e;cases h;exact⟨rfl,HEq.rfl⟩
 ·cases h
omit hR in
theorem Wj {t:Ty} {x:List (Den R.T t)} {tv:TV R.T} {v:V} (h:wH R t tv=some x) (hr:Rl R ρ top tv v):∃c,v= .aj c (x.map (aG R t)):=by
 unfold wH at h
 split at h
 ·obtain⟨e,e2⟩:=pV h;subst e;cases e2
  obtain⟨c',hv,hc⟩:=hr.jO
  exact⟨c',hv⟩
 ·cases h;exact⟨.nil,hr.nQ⟩
 ·cases h
theorem zG {t:Ty} {x:Den R.T t} {tv:TV R.T} {v:V} (h:nK R t tv=some x) (hr:Rl R ρ top tv v):zF v (aG R t x):=by
 cases t with
 |int k=>rw[OE h hr];exact af0 _ _
 |bool=>rw[OG h hr];exact af2 _
 |str=>rw[OH h hr];exact af3 _
 |slice t=>obtain⟨c,hv⟩:=Wj h hr;rw[hv];exact af4 hR _ _ _
 |st n=>cases h
theorem af5 {t:Ty} {x:Den R.T t} {cs:List (TV R.T)} {vs:List V} (h:nK R t (hd1 R cs)=some x) (hr:aB R ρ top cs vs):∃v,vs=[v]∧zF v (aG R t x):=by
 cases cs with
 |nil=>cases t<;>cases h
 |cons c cs=>
  cases cs with
  |nil=>
   obtain⟨v,l,rfl,h1,h2⟩:=hr.dH
   rw[h2.eH]
   exact⟨v,rfl,zG hR h h1⟩
  |cons c' cs=>cases t<;>cases h
theorem Wm:∀(l:List Ty) (p:lC R.T l) (cs:List (TV R.T)) (vs:List V),uS R l cs=some p→aB R ρ top cs vs→
 vs.map eO=encs R l p∧(∀n σ,vs.mapM (aM (n+2) σ)=some (encs R l p))∧aR (encs R l p)=true∧vs.all (fun v=>oneCell v)=true
 | [],p,cs,vs,h,hr=>by
   cases cs with
   |nil=>rw[hr.eH];exact⟨rfl,fun _ _=>rfl,by simp[encs,aR],rfl⟩
   |cons c cs=>cases h
 | [t],p,cs,vs,h,hr=>by
   obtain⟨v,rfl,a,b,c,d,e,_⟩:=af5 hR (show nK R t (hd1 R cs)=some p from h) hr
   exact⟨by simp[encs,a],fun n σ=>by simp[encs,d],by simp[encs,aR,c],by simp[e]⟩
 |t::u::l,p,cs,vs,h,hr=>by
  cases cs with
  |nil=>cases h
  |cons c cs=>
   obtain⟨v,vs,rfl,h1,h2⟩:=hr.dH
   unfold uS at h
   cases hu:nK R t c with
   |none=>simp only[hu] at h;cases h
   |some y=>
    cases hs:uS R (u::l) cs with
    |none=>simp only[hu,hs] at h;cases h
    |some q=>
     simp only[hu,hs] at h
     obtain rfl:=Option.some.inj h
     obtain⟨a,b,c,d,e,_⟩:=zG hR hu h1
     obtain⟨a',d',c',o'⟩:=Wm (u::l) q cs vs hs h2
     exact⟨by simp[encs,a,a'],fun n σ=>by simp[encs,d,d'],by simp[encs,aR,c,c'],by simp[e,o']⟩
omit hR in
theorem OI:∀(l:List Ty) (p:lC R.T l),(encs R l p).length=l.length
 | [],_=>rfl
 | [_],_=>rfl
 |_::u::l,p=>by show (encs R (u::l) p.2).length+1=_;rw[OI];rfl
omit hR in
theorem OJ {n:Nat} {σ:ah} (cs:List V):aM (n+3) σ (.agg cs)=(cs.mapM (aM (n+2) σ)).map .agg:=by
 by_cases hp:aF (.agg cs)=true
 ·rw[ji hp]
  have:∀cs:List V,aR cs=true→cs.mapM (aM (n+2) σ)=some cs:=by
   intro cs
   induction cs with
   |nil=>intro _;rfl
   |cons a l ih=>
    intro h
    simp only[aR,Bool.and_eq_true] at h
    rw[List.mapM_cons,ji h.1,ih h.2];rfl
  rw[this cs (by simpa [aF] using hp)];rfl
 ·conv=>lhs;unfold aM
  simp only[hp,if_false,Bool.false_eq_true]
theorem OL {t:Ty} {x:Den R.T t} {tv:TV R.T} {v:V} (h:mJ R t tv=some x) (hr:Rl R ρ top tv v):
 er v=aG R t x∧aF (aG R t x)=true∧(∀n σ,aM (n+3) σ v=some (aG R t x))∧v.cells.length=bW R t∧bf v.cells=true:=by
 cases t with
 |st n=>
  change wI R n tv=some x at h
  unfold wI at h
  split at h
  ·rename_i cs
   split at h
   ·rename_i p hp
    obtain rfl:=Option.some.inj h
    obtain⟨l,hv,hl⟩:=hr.jA
    subst hv
    obtain⟨a,d,c,o⟩:=Wm hR _ _ _ _ hp hl
    have he:aG R (.st n) (R.to n p)= .agg (encs R (R.lf n) p):=by
     show R.enc n (R.to n p)=_
     rw[hR.enc,hR.CP]
    refine⟨?_,mU hR (.st n) _,fun k σ=> ?_, ?_,o⟩
    ·rw[he];show V.agg (l.map eO)=_;rw[a]
    ·rw[he,OJ,d k σ];rfl
    ·show l.length=_
     have:=congrArg List.length a
     rw[List.length_map] at this
     rw[this];exact OI _ _
   ·cases h
  ·cases h
 |int k=>
  obtain⟨a,b,c,d,e,f⟩:=zG hR (t:=.int k) h hr
  exact⟨b,c,fun n σ=>d (n+1) σ,by rw[f];rfl,by rw[f];simp[bf,e]⟩
 |bool=>
  obtain⟨a,b,c,d,e,f⟩:=zG hR (t:=.bool) h hr
  exact⟨b,c,fun n σ=>d (n+1) σ,by rw[f];rfl,by rw[f];simp[bf,e]⟩
 |str=>
  obtain⟨a,b,c,d,e,f⟩:=zG hR (t:=.str) h hr
  exact⟨b,c,fun n σ=>d (n+1) σ,by rw[f];rfl,by rw[f];simp[bf,e]⟩
 |slice t=>
  obtain⟨a,b,c,d,e,f⟩:=zG hR (t:=.slice t) h hr
  exact⟨b,c,fun n σ=>d (n+1) σ,by rw[f];rfl,by rw[f];simp[bf,e]⟩
end
end
end Aq
end
