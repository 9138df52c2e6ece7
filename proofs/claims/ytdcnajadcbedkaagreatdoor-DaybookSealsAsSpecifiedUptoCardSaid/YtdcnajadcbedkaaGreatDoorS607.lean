/- Part of the proof of a law. -/
import Derived.Test.YtdcnajadcbedkaaGreatDoorS606
set_option linter.all false
set_option linter.unusedSimpArgs false
set_option linter.unusedSectionVars false
section
namespace Aq
open Go
inductive dI (R:gB) where
 |t (v:TV R.T)
 |c (b:Bool) (v:TV R.T)
 |w (v:TV R.T) (st:MS R.T)
 |wc (b:Bool) (v:TV R.T) (st:MS R.T)
 |p (α:Type) (d:α) (o:Option α) (f:α→TV R.T)
section
variable (E:Env) (R:gB)
def Je {T:Nat→Type} (agg:Bool) (n:Nat) (cs:List (TV T)) (off:Nat):Option (TV T):=
 bif agg then (bif Nat.ble (off+n) cs.length then some (.agg ((cs.drop off).take n)) else none) else cs[off]?
def jK {T:Nat→Type} (t:TypeId) (cs:List (TV T)) (off:Nat):Option (TV T):=
 match gq E.P t with
 |some a=>match bG E.P t with
  |some n=>Je a n cs off
  |none=>none
 |none=>none
def zK {T:Nat→Type} (cs:List (TV T)) (off:Nat) (vs:List (TV T)):List (TV T):=cs.take off++vs++cs.drop (off+vs.length)
def Jf {T:Nat→Type} (place:Nat→Option (Nat×Nat)) (cells:List (TV T)):List (Nat×TV T)→Option (List (TV T))
 | []=>some cells
 | (i,v)::rest=>match place i with
   |none=>none
   |some (off,size)=>bif Nat.beq v.cells.length size&& Nat.ble (off+size) cells.length&& vF v then Jf place (zK cells off v.cells) rest else none
def tJ {T:Nat→Type} (t:TypeId):Option (TV T):=match E.P.info? t with
 |some i=>match i.zero with
  |some z=>zC z
  |none=>none
 |none=>none
def bM {T:Nat→Type}:TV T→Option Bool
 |.bool a=>some a
 |.fT a=>some a
 |_=>none
def Jg {T:Nat→Type} (x y:TV T):Option Bool:=match bM x,bM y with
 |some a,some b=>some (a==b)
 |_,_=>none
def zL {T:Nat→Type} (eq:TypeId→TV T→TV T→Option Bool) (xs ys:List (TV T)):List Field→Option Bool
 | []=>some true
 |f::fs=>if f.name= "_" then zL eq xs ys fs else
  match jK E f.type xs f.offset with
  |none=>none
  |some a=>match jK E f.type ys f.offset with
   |none=>none
   |some b=>match eq f.type a b with
    |none=>none
    |some r=>match zL eq xs ys fs with
     |none=>none
     |some q=>some (r&& q)
def DK {T:Nat→Type} (eq:TypeId→TV T→TV T→Option Bool) (e:TypeId) (sz:Nat) (xs ys:List (TV T)):List Nat→Option Bool
 | []=>some true
 |i::is=>match jK E e xs (i*sz) with
  |none=>none
  |some a=>match jK E e ys (i*sz) with
   |none=>none
   |some b=>match eq e a b with
    |none=>none
    |some r=>match DK eq e sz xs ys is with
     |none=>none
     |some q=>some (r&& q)
def zM {T:Nat→Type}:Nat→TypeId→TV T→TV T→Option Bool
 |0,_,_,_=>none
 |d+1,t,x,y=>
  match E.P.underlying t,x,y with
  |some (.struct fs),.agg xs,.agg ys=>if E.P.stoodInHeld t then none else zL E (zM d) xs ys fs.toList
  |some (.array n e),.agg xs,.agg ys=>match bG E.P e with
   |some sz=>DK E (zM d) e sz xs ys (List.range n)
   |none=>none
  |some (.struct _),_,_=>none
  |some (.array _ _),_,_=>none
  |some .bool,x,y=>Jg x y
  |some (.int _),.int k a,.int k' b=>if k=k' then some (a==b) else none
  |some .string,.str a,.str b=>some (a==b)
  |_,_,_=>none
def Jh {T:Nat→Type} (t:TypeId) (x y:TV T):Option Bool:=
 match E.P.underlying t,x,y with
 |some (.struct _),.agg a,.agg b=>if E.P.eqGuardType E.P.depth t then none else zM E 8 t (.agg a) (.agg b)
 |some (.array _ _),.agg a,.agg b=>if E.P.eqGuardType E.P.depth t then none else zM E 8 t (.agg a) (.agg b)
 |some (.func ..),.dX,.dX=>some true
 |some (.func ..),.dX,.fn _ _ _=>some false
 |some (.func ..),.fn _ _ _,.dX=>some false
 |some .bool,x,y=>Jg x y
 |_,_,_=>none
def Ji (op:BinOp) (k:IntKind) (x y:Int):Option (dI R):=
 match op with
 |.add=>some (.t (.int k (k.wrap (x+y))))
 |.sub=>some (.t (.int k (k.wrap (x-y))))
 |.mul=>some (.t (.int k (k.wrap (x*y))))
 |.quo=>some (.c (!(y==0)) (.int k (k.wrap (x.tdiv y))))
 |.rem=>some (.c (!(y==0)) (.int k (x.tmod y)))
 |.and=>some (.t (.int k (k.wrap (BitVec.ofInt k.bits x&&& BitVec.ofInt k.bits y).toNat)))
 |.or=>some (.t (.int k (k.wrap (BitVec.ofInt k.bits x|||BitVec.ofInt k.bits y).toNat)))
 |.xor=>some (.t (.int k (k.wrap (BitVec.ofInt k.bits x^^^BitVec.ofInt k.bits y).toNat)))
 |.andNot=>some (.t (.int k (k.wrap (BitVec.ofInt k.bits x&&& ~~~BitVec.ofInt k.bits y).toNat)))
 |.eql=>some (.t (.bool (x==y)))
 |.neq=>some (.t (.bool (x !=y)))
 |.lss=>some (.t (.bool (decide (x<y))))
 |.leq=>some (.t (.bool (decide (x≤y))))
 |.gtr=>some (.t (.bool (decide (x>y))))
 |.geq=>some (.t (.bool (decide (x≥y))))
 |_=>none
def Pf (op:BinOp) (k:IntKind) (x y:Int):Option (dI R):=
 match op with
 |.shl=>some (.c (decide (0≤y)) (.int k (k.wrap (x*2^min y.toNat k.bits))))
 |.shr=>some (.c (decide (0≤y)) (.int k (x.fdiv (2^min y.toNat k.bits))))
 |_=>none
def Pg (op:BinOp) (x y:List UInt8):Option (dI R):=
 match op with
 |.add=>some (.c (decide (((x.length+y.length:Nat):Int)≤IntKind.i64.max)) (.str (x++y)))
 |.eql=>some (.t (.bool (x==y)))
 |.neq=>some (.t (.bool (!(x==y))))
 |.lss=>some (.t (.bool (Op.bytesLess x y)))
 |.leq=>some (.t (.bool (Op.bytesLess x y||x==y)))
 |.gtr=>some (.t (.bool (!(Op.bytesLess x y||x==y))))
 |.geq=>some (.t (.bool (!(Op.bytesLess x y))))
 |_=>none
def zN:BinOp→Bool
 |.shl=>true
 |.shr=>true
 |_=>false
def Ph (op:BinOp) (t:TypeId) (x y:TV R.T):Option (dI R):=
 match x,y with
 |.int k a,.int k' b=>bif zN op then Pf R op k a b else (if k=k' then Ji R op k a b else none)
 |.str a,.str b=>Pg R op a b
 |x,y=>match op with
  |.eql=>match Jh E t x y with
   |some b=>some (.t (.bool b))
   |none=>none
  |.neq=>match Jh E t x y with
   |some b=>some (.t (.bool (!b)))
   |none=>none
  |_=>none
def Pj (op:UnOp) (x:TV R.T):Option (dI R):=
 match op,x with
 |.neg,.int k n=>some (.t (.int k (k.wrap (0-n))))
 |.xor,.int k n=>Ji R .xor k (if k.signed then-1 else k.max) n
 |.not,.bool b=>some (.t (.bool (!b)))
 |.not,.fT b=>some (.t (.fT (!b)))
 |_,_=>none
def Jj (src dst:TypeId) (x:TV R.T):Option (dI R):=
 match E.P.underlying src,E.P.underlying dst,x with
 |some _,some (.int k),.int _ n=>some (.t (.int k (k.wrap n)))
 |some _,some .string,.str s=>some (.t (.str s))
 |some _,some (.slice e),.str s=>match E.P.underlying e with
  |some (.int .u8)=>some (.t (.aj .any (.int .u8) (s.map fun b=>((b.toNat:Nat):Int))))
  |_=>none
 |some (.slice e),some .string,.aj _ (.int .u8) l=>match E.P.underlying e with
  |some (.int .u8)=>some (.t (.str (List.map (fun n:Int=>UInt8.ofNat n.toNat) l)))
  |_=>none
 |some (.slice e),some .string,.dZ=>match E.P.underlying e with
  |some (.int .u8)=>some (.t (.str []))
  |_=>none
 |_,_,_=>none
def jr (i:Int) (n:Nat):Bool:=decide (0≤i∧i≤n)
def zO:Option (TV R.T)→Option (Option Int)
 |none=>some none
 |some (.int _ n)=>some (some n)
 |_=>none
def nS {α:Type} (l:List α):Option Int→Option Int→List α
 |none,none=>l
 |some i,none=>l.drop i.toNat
 |none,some j=>l.take j.toNat
 |some i,some j=>(l.take j.toNat).drop i.toNat
def Pk (n:Nat):Option Int→Option Int→Bool
 |none,none=>true
 |some i,none=>jr i n
 |none,some j=>jr j n
 |some i,some j=>jr j n&& jr i j.toNat
def vI (t:TypeId) (x:TV R.T) (lo hi:Option (TV R.T)):Option (dI R):=
 match zO R lo,zO R hi with
 |some lo,some hi=>match E.P.underlying t,x with
  |some .string,.str s=>some (.c (Pk s.length lo hi) (.str (nS s lo hi)))
  |some (.slice e),.aj _ u l=>match bG E.P e with
   |some sz=>bif Nat.beq sz (cB R u) then some (.c (Pk l.length lo hi) (.aj .any u (nS l lo hi))) else none
   |none=>none
  |_,_=>none
 |_,_=>none
def VX {T:Nat→Type} (t:TypeId) (f:Nat) (x:TV T):Option (TV T):=
 match lV E.P t f with
 |some (o,_)=>match x with
  |.ref p off=>some (.ref p (off+o))
  |.aJ cs off=>some (.aJ cs (off+o))
  |.jq p t i off=>some (.jq p t i (off+o))
  |_=>none
 |none=>none
def kr (R:gB):(t:Ty)→Den R.T t→Den R.T t→Bool
 |.int _=>fun (a b:Int)=>a==b
 |.bool=>fun (a b:Bool)=>a==b
 |.str=>fun (a b:List UInt8)=>a==b
 |.slice _=>fun _ _=>false
 |.st _=>fun _ _=>false
def tK (t:TypeId) (k:Ty):Bool:=match E.P.underlying t,k with
 |some (.int _),.int _=>true
 |some .string,.str=>true
 |some .bool,.bool=>true
 |_,_=>false
def xq {α β:Type} (eq:α→α→Bool) (x:α):List (α×β)→Option β
 | []=>none
 | (a,v)::m=>bif eq x a then some v else xq eq x m
def vJ {α β:Type} (eq:α→α→Bool) (x:α) (v:β):List (α×β)→List (α×β)
 | []=>[(x,v)]
 | (a,w)::m=>bif eq x a then (x,v)::m else (a,w)::vJ eq x v m
def VY {α:Type} (d:α):Option α→α
 |some x=>x
 |none=>d
def VZ (t:Ty) (v:TV R.T):Option (Den R.T t):=bif jF v then mR R t v else none
def DL (t:TypeId) (k e:Ty) (m:List (Den R.T k×Den R.T e)) (x:TV R.T) (ok:Bool):Option (dI R):=
 match pG E.P t with
 |some (kt,et)=>bif tK E kt k then (match tJ (T:=R.T) E et with
  |some z=>match mR R e z,mR R k x with
   |some z,some x=>some (.t (bif ok then .bB [eO R .any e (VY z (xq (kr R k) x m)),.bool (xq (kr R k) x m).isSome] else eO R .any e (VY z (xq (kr R k) x m))))
   |_,_=>none
  |none=>none) else none
 |none=>none
def Jk (t:TypeId) (m x:TV R.T) (ok:Bool) (st:MS R.T):Option (dI R):=
 match m with
 |.bK o=>match kY st o with
  |some (.map k e m)=>DL E R t k e m x ok
  |_=>none
 |.dn k e m=>DL E R t k e m x ok
 |.dS=>match pG E.P t with
  |some (kt,et)=>match R.ty kt,R.ty et with
   |some k,some e=>DL E R t k e [] x ok
   |_,_=>none
  |none=>none
 |_=>none
def Jl {T:Nat→Type}:TV T→TV T→Option Bool
 |.int k a,.int k' b=>if k=k' then some (a==b) else none
 |.str a,.str b=>some (a==b)
 |_,_=>none
def Jm {T:Nat→Type} (t:TypeId):TV T→Bool:=fun v=>match E.P.underlying t,v with
 |some (.int _),.int _ _=>true
 |some .string,.str _=>true
 |_,_=>false
def Jo {T:Nat→Type} (x v:TV T):List (TV T)→List (TV T)→Option (List (TV T)×List (TV T))
 | [],[]=>some ([x],[v])
 |a::ks,w::vs=>match Jl x a with
  |some b=>bif b then some (x::ks,v::vs) else (match Jo x v ks vs with
   |some (ks,vs)=>some (a::ks,w::vs)
   |none=>none)
  |none=>none
 |_,_=>none
def zP (t:TypeId) (m x v:TV R.T) (st:MS R.T):Option (dI R):=
 match m with
 |.bK o=>match look st.ob o with
  |some (.map k e m)=>match pG E.P t with
   |some (kt,_)=>bif tK E kt k then (match mR R k x,VZ R e v with
    |some x,some v=>some (.w .undef (st.set o (.map k e (vJ (kr R k) x v m))))
    |_,_=>none) else none
   |none=>none
  |some (.smap ks vs)=>match pG E.P t with
   |some (kt,_)=>bif Jm E kt x then (match Jo x v ks vs with
    |some (ks,vs)=>some (.w .undef (st.set o (.smap ks vs)))
    |none=>none) else none
   |none=>none
  |_=>none
 |_=>none
def gF:Ty→Bool
 |.st _=>true
 |_=>false
def zQ (t:TypeId):Option (TypeId×Ty×Nat×Nat):=
 match gQ E.P t with
 |some e=>match R.ty e,bG E.P e,nC E.P e,gq E.P e,fP E.P e with
  |some u,some sz,some dB,some ag,some z=>bif Nat.beq sz (cB R u)&& Nat.blt 0 sz&& (ag||Nat.beq sz 1)&& Nat.beq z.cells.length sz&& (ag==gF u) then some (e,u,sz,dB) else none
  |_,_,_,_,_=>none
 |none=>none
def vK (t:Ty) (n:Nat):List (Nat×TV R.T)→Option (List (Den R.T t))
 | []=>some []
 | (i,v)::l=>bif Nat.beq i n then (match mR R t v with
   |some x=>match vK t (n+1) l with
    |some y=>some (x::y)
    |none=>none
   |none=>none) else none
def Pm (t:TypeId) (len:Nat) (ps:List (Nat×TV R.T)):Option (dI R):=
 match zQ E R t with
 |some (_,u,sz,_)=>bif Nat.ble (len*sz) (2^24)&& Nat.beq ps.length len then (match vK R u 0 ps with
  |some l=>some (.t (.aj .full u l))
  |none=>none) else none
 |none=>none
def DN (u:Ty):TV R.T→Option (List (Den R.T u))
 |.aj _ _ l=>oN R l
 |.dZ=>some []
 |.str s=>oN (t:=.int .u8) (u:=u) R (s.map fun b=>((b.toNat:Nat):Int))
 |_=>none
def V3 (u:Ty) (d:Nat):TV R.T→Option (Nat×List (Den R.T u))
 |.aj .nil _ l=>match oN R l with
  |some l=>some (d,l)
  |none=>none
 |.aj .full _ l=>match oN R l with
  |some l=>some (d,l)
  |none=>none
 |.aj (.own t) _ l=>match oN R l with
  |some l=>some (t,l)
  |none=>none
 |.dZ=>some (d,[])
 |_=>none
def zR (t:TypeId):Bool:=match E.P.underlying t with
 |some (.slice _)=>true
 |some .string=>true
 |_=>false
def DR (d:Option Nat) (t u:TypeId) (x y:TV R.T) (st:MS R.T):Option (dI R):=
 match d with
 |some d=>match zQ E R t with
  |some (_,τ,_,dB)=>bif zR E u then (match V3 R τ d x,DN R τ y with
   |some (tk,l),some l'=>some (.wc (dG (l.length+l'.length) dB) (.aj (.own tk) τ (l++l')) (st.wk tk))
   |_,_=>none) else none
  |none=>none
 |none=>none
def DT (d:Option Nat) (t u:TypeId) (x y:TV R.T) (st:MS R.T):Option (dI R):=
 match d with
 |some d=>match zQ E R t with
  |some (_,τ,_,dB)=>bif zR E u then (match DN R τ y with
   |some l'=>match x with
    |.vw o τ0=>if τ0=τ then (match look st.ob o with
     |some (.arr τ' l)=>match l',oN R (u:=τ) l with
      |a::l',some l=>some (.wc (dG (l.length+(a::l').length) dB) (.vw d τ) ((st.del o).new d (.arr τ (l++a::l'))))
      |_,_=>none
     |_=>none) else none
    |x=>bif zJ x then some (.wc (dG l'.length dB) (.vw d τ) (st.new d (.arr τ l'))) else none
   |none=>none) else none
  |none=>none
 |none=>none
def Pn (om:Bool) (d:Option Nat) (t:TypeId) (n m:TV R.T) (st:MS R.T):Option (dI R):=
 match d,zQ E R t,n,m with
 |some d,some (e,τ,_,dB),.int _ n,.int _ m=>match tJ (T:=R.T) E e with
  |some z=>match mR R τ z with
   |some z=>bif om then some (.wc (decide (0≤n∧n=m∧m≤2^47)&& dG m.toNat dB) (.vw d τ) (st.new d (.arr τ (List.replicate n.toNat z))))
    else some (.wc (decide (n=0∧0≤m∧m≤2^47)&& dG m.toNat dB) (.aj (.own d) τ []) (st.wk d))
   |none=>none
  |none=>none
 |_,_,_,_=>none
def zS {T:Nat→Type} (mx:Bool):TV T→List (TV T)→Option (TV T)
 |x,[]=>some x
 |.int k a,.int k' b::l=>if k=k' then zS mx (.int k (bif mx then imax a b else O6 a b)) l else none
 |_,_=>none
def Po {T:Nat→Type} (t:TypeId) (x:TV T) (st:MS T):Option Nat:=
 match E.P.underlying t,x with
 |some (.slice _),.aj _ _ l=>some l.length
 |some (.slice _),.dZ=>some 0
 |some (.slice _),.vw o _=>match kY st o with
  |some (.arr _ l)=>some l.length
  |_=>none
 |some .string,.str s=>some s.length
 |some (.map _ _),.bK o=>match kY st o with
  |some (.map _ _ m)=>some m.length
  |_=>none
 |some (.map _ _),.dn _ _ m=>some m.length
 |some (.map _ _),.dS=>some 0
 |some (.array n _),_=>some n
 |_,_=>none
def blt (om:Bool) (d:Option Nat) (b:Builtin) (tys:Array TypeId) (args:List (TV R.T)) (st:MS R.T):Option (dI R):=
 match b,args with
 |.len,[x]=>match tys[0]? with
  |some t=>match Po E t x st with
   |some n=>some (.t (.int .i64 ((n:Nat):Int)))
   |none=>none
  |none=>none
 |.append,[x,y]=>match tys[0]?,tys[1]? with
  |some t,some u=>bif om then DT E R d t u x y st else DR E R d t u x y st
  |_,_=>none
 |.min,x::l=>match zS false x l with
  |some v=>some (.t v)
  |none=>none
 |.max,x::l=>match zS true x l with
  |some v=>some (.t v)
  |none=>none
 |_,_=>none
def V4:List (TV R.T)→TV R.T
 | [v]=>v
 |vs=>.bB vs
def findF (args cZ:List (TV R.T)):List (FR R)→Option (dI R)
 | []=>none
 |r::l=>match fA R r.args cZ with
  |some p=>bif gN r.args&& Nat.ble (mW r.args) 18&& gN r.res&& (vG args||zG r.res) then some (.p (aB R.T r.res) r.d (r.F p) fun x=>V4 R (iG R .sh r.res x)) else none
  |none=>findF args cZ l
def Pp (t:TypeId) (x i:TV R.T):Option (dI R):=
 match E.P.underlying t,x,i with
 |some (.slice e),.aj _ u l,.int _ n=>match bG E.P e with
  |some sz=>bif Nat.beq sz (cB R u) then some (.p (Den R.T u) (zy R u) (dw l n) fun y=>.aJ (eO R .sh u y).cells 0) else none
  |none=>none
 |some (.array n e),.ref o off,.int _ k=>match bG E.P e with
  |some sz=>some (.c (decide (0≤k∧k<n)) (.ref o (off+k.toNat*sz)))
  |none=>none
 |some (.array n e),.aJ cs off,.int _ k=>match bG E.P e with
  |some sz=>some (.c (decide (0≤k∧k<n)) (.aJ cs (off+k.toNat*sz)))
  |none=>none
 |_,_,_=>none
def Pq (t:TypeId) (o:Nat) (τ:Ty) (i:TV R.T) (st:MS R.T):Option (dI R):=
 match E.P.underlying t,i with
 |some (.slice e),.int _ n=>match bG E.P e with
  |some sz=>bif Nat.beq sz (cB R τ) then (match kY st o with
   |some (.arr _ l)=>some (.c (decide (0≤n∧n< ((l.length:Nat):Int))) (.jq o τ n 0))
   |_=>none) else none
  |none=>none
 |_,_=>none
def afZ {T:Nat→Type}:Option (TV T)→TV T
 |some v=>v
 |none=>.gone
def Pt (t:TypeId) (τ:Ty) (i:Int) (off:Nat) (o:Ob R.T):Option (dI R):=
 match o with
 |.arr τ' l=>match oN R (u:=τ) l with
  |some l=>bif (jK E t (eO R .any τ (zy R τ)).cells off).isSome then some (.p (Den R.T τ) (zy R τ) (dw l i) fun y=>afZ (jK E t (eO R .any τ y).cells off)) else none
  |none=>none
 |_=>none
def Pv (τ:Ty) (cs:List (TV R.T)):Option (Den R.T τ):=match τ with
 |.st n=>wY R n (.agg cs)
 |.int k=>nP R (.int k) (hd1 R cs)
 |.bool=>nP R .bool (hd1 R cs)
 |.str=>nP R .str (hd1 R cs)
 |.slice t=>nP R (.slice t) (hd1 R cs)
def Pw (t:TypeId) (x i:TV R.T):Option (dI R):=
 match E.P.underlying t,x,i with
 |some .string,.str s,.int _ n=>some (.p UInt8 0 (dw s n) fun b=>.int .u8 ((b.toNat:Nat):Int))
 |_,_,_=>none
def zT {T:Nat→Type} (c:Bool):TV T→TV T→Option (TV T)
 |.int k a,.int k' b=>if k=k' then some (.int k (bif c then a else b)) else none
 |.bool a,.bool b=>some (.bool (bif c then a else b))
 |.bool a,.fT b=>some (.bool (bif c then a else b))
 |.fT a,.bool b=>some (.bool (bif c then a else b))
 |.fT a,.fT b=>some (.bool (bif c then a else b))
 |.str a,.str b=>some (.str (bif c then a else b))
 |_,_=>none
def V5 (P:Program):Nat→TypeId→Option (List iL)
 |0,_=>none
 |n+1,t=>match P.underlying t with
  |some (.int k)=>some [.i k]
  |some (.array m e)=>match P.underlying e with
   |some (.int k)=>some [.a k m]
   |_=>none
  |some (.struct fs)=>fs.toList.foldr (fun f acc=>match V5 P n f.type,acc with
   |some a,some b=>some (a++b)
   |_,_=>none) (some [])
  |_=>none
def V6:List iL→Bool
 | []=>false
 |.a _ _::_=>true
 |_::l=>V6 l
def V7 (t:TypeId):Option (List iL):=match R.ty t with
 |some _=>none
 |none=>match V5 E.P 4 t with
  |some ks=>bif V6 ks then some ks else none
  |none=>none
def Sg.sk:Sg→iL
 |.i k _=>.i k
 |.a k n _=>.a k n
def Jp:iL→Sg
 |.i k=>.i k 0
 |.a k n=>.a k n (Vec.rep n 0)
def xu {T:Nat→Type} (k:IntKind):List (TV T)→Bool
 | []=>true
 |.int k' x::l=>(if k'=k then (if x=0 then true else false) else false)&& xu k l
 |_=>false
def zU {T:Nat→Type}:List iL→List (TV T)→Bool
 | [],[]=>true
 |.i k::l,v::vs=>xu k [v]&& zU l vs
 |.a k n::l,vs=>Nat.ble n vs.length&& xu k (vs.take n)&& zU l (vs.drop n)
 |_,_=>false
def vL {T:Nat→Type}:List iL→List (TV T)→Option (List Sg)
 | [],[]=>some []
 |.i k::l,.int k' x::vs=>if k'=k then (match vL l vs with
  |some r=>some (.i k x::r)
  |none=>none) else none
 |.a k n::l,vs=>match w9 k (vs.take n) with
  |some xs=>bif Nat.beq xs.length n then (match vL l (vs.drop n) with
   |some r=>some (.a k n (Vec.lit n xs)::r)
   |none=>none) else none
  |none=>none
 |_,_=>none
def DU {T:Nat→Type}:List Sg→List (TV T)
 | []=>[]
 |.i k x::l=>.int k x::DU l
 |.a k n v::l=>(List.range n).map (fun j=>TV.int k (v.nth j))++DU l
def zV:List iL→List iL→Bool
 | [],[]=>true
 |.i k::l,.i k'::l'=>(if k=k' then true else false)&& zV l l'
 |.a k n::l,.a k' n'::l'=>(if k=k' then true else false)&& Nat.beq n n'&& zV l l'
 |_,_=>false
def Jq {T:Nat→Type} (ks:List iL):TV T→Option (List Sg)
 |.sg ss=>bif zV ks (ss.map Sg.sk) then some ss else none
 |.agg cs=>vL ks cs
 |.int k x=>match ks with
  | [.i k']=>if k'=k then some [.i k x] else none
  |_=>none
 |_=>none
def Jr (t:TypeId) (ss:List Sg) (off:Nat):Option (TV R.T):=
 match mV ss off,bG E.P t,gq E.P t with
 |some (_,rest),some sz,some ag=>match mV rest sz with
  |some (mid,_)=>bif ag then (match R.ty t with
   |none=>some (.sg mid)
   |some _=>some (.agg (DU mid))) else (match mid with
   | [.i k x]=>some (.int k x)
   |_=>none)
  |none=>none
 |_,_,_=>none
def Px (t:TypeId) (k:IntKind) (m:Nat) (n:Nat) (v:Vec n) (i:Int):Option (TV R.T):=
 match oq E.P t,bG E.P t,gq E.P t with
 |some (m',e),some sz,some true=>bif Nat.beq m' m&& Nat.beq sz m then (match R.ty t with
  |none=>some (.sg [.a k m (v.slc i m)])
  |some _=>some (.agg ((List.range m).map fun j=>.int k (v.nth (i.toNat+j))))) else none
 |_,_,_=>none
def oQ (t:TypeId):Bool:=match bG E.P t,gq E.P t with
 |some sz,some ag=>Nat.beq sz 1&& !ag
 |_,_=>false
def Js (k:IntKind):List V→List Int→Bool
 | [],[]=>true
 |.int k' x::l,y::m=>(if k'=k then (if x=y then true else false) else false)&& Js k l m
 |_,_=>false
def Jt (g:Nat) (t:TypeId):Option ((k:IntKind)×(n:Nat)×Vec n):=
 match E.glob g,R.gl g,oq E.P t,bG E.P t,gq E.P t with
 |some cs,some ⟨k,n,v⟩,some (m,e),some sz,some ag=>bif ag&& Nat.beq m n&& Nat.beq sz n&& oQ E e&& Js k cs v.l then some ⟨k,n,v⟩ else none
 |_,_,_,_,_=>none
def bq (i:Int) (n:Nat):Bool:=decide (0≤i∧i<n)
def l9 (n:Nat):Option Int→Option Int→Bool
 |none,none=>true
 |some i,none=>decide (0≤i∧(i<n∨i=0))
 |none,some j=>decide (0≤j∧j≤n)
 |some i,some j=>decide (0≤i∧i≤j∧j≤n∧(i<j∨i=0))
def dA:Option Int→Int
 |some i=>i
 |none=>0
def fB (n:Nat):Option Int→Int
 |some i=>i
 |none=>n
def vM (t:TypeId) (x:TV R.T) (lo hi:Option (TV R.T)) (st:MS R.T):Option (dI R):=
 match x,zO R lo,zO R hi,oq E.P t with
 |.ref o off,some lo,some hi,some (n,e)=>bif oQ E e then (match kY st o with
  |some (.sg ss)=>match mV ss off with
   |some (_,.a k n' _::_)=>bif Nat.beq n' n then some (.c (l9 n lo hi) (.sv o off k n lo hi)) else none
   |_=>none
  |some (.cells cs)=>match (cs.drop off) with
   |.int k _::_=>bif Nat.ble (off+n) cs.length then some (.c (l9 n lo hi) (.sv o off k n lo hi)) else none
   |_=>none
  |_=>none) else none
 |_,_,_,_=>none
def V8 (d:Option Nat):Bool:=match d with
 |some d=>E.own F0 d
 |none=>false
def nT (g:List (Nat×Bool)) (d:Option Nat) (o:Op) (st:MS R.T):Option (dI R):=
 match o with
 |.alloc t=>match d,V7 E R t,tJ (T:=R.T) E t with
  |some d,some ks,some (.agg cs)=>bif zU ks cs then some (.w (.ref d 0) (st.new d (.sg (ks.map Jp)))) else none
  |_,_,_=>none
 |.box t x=>bif E.qZ t then none else match d,V7 E R t,bf g st x with
  |some d,some ks,some v=>match Jq ks v with
   |some ss=>some (.w (.ref d 0) (st.new d (.sg ss)))
   |none=>none
  |_,_,_=>none
 |.load t a=>match a with
  |.global gl=>match Jt E R gl t with
   |some ⟨k,n,v⟩=>some (.t (.sg [.a k n v]))
   |none=>none
  |a=>match bf g st a with
   |some (.ref o off)=>match kY st o with
    |some (.sg ss)=>match Jr E R t ss off with
     |some v=>some (.t v)
     |none=>none
    |_=>none
   |some (.sel o off k n i m)=>match kY st o with
    |some (.sg ss)=>match mV ss off with
     |some (_,.a k' n' v::_)=>if k'=k then (bif Nat.beq n' n then (bif Nat.beq m 1&& oQ E t then some (.t (.int k (v.at' i))) else (match Px E R t k m n' v i with
      |some v=>some (.t v)
      |none=>none)) else none) else none
     |_=>none
    |_=>none
   |some (.oL k n v i)=>bif oQ E t then some (.t (.int k (v.at' i))) else none
   |_=>none
 |.store t a x=>match bf g st a,bf g st x with
  |some (.ref o off),some v=>match look st.ob o,bG E.P t with
   |some (.sg ss),some sz=>match mV ss off with
    |some (pre,rest)=>match mV rest sz with
     |some (mid,post)=>match Jq (mid.map Sg.sk) v with
      |some mid'=>some (.w .undef (st.set o (.sg (pre++(mid'++post)))))
      |none=>none
     |none=>none
    |none=>none
   |_,_=>none
  |some (.sel o off k n i m),some (.int k' y)=>match look st.ob o with
   |some (.sg ss)=>match mV ss off with
    |some (pre,.a k2 n' v::post)=>if k2=k then (if k'=k then (bif Nat.beq n' n&& Nat.beq m 1&& oQ E t then some (.w .undef (st.set o (.sg (pre++(.a k n' (v.set i y)::post))))) else none) else none) else none
    |_=>none
   |_=>none
  |_,_=>none
 |.indexAddr t x i=>match oq E.P t,bf g st i with
  |some (n,e),some (.int _ i)=>bif oQ E e then (match x with
   |.global gl=>match Jt E R gl t with
    |some ⟨k,n,v⟩=>some (.c (bq i n) (.oL k n v i))
    |none=>none
   |x=>match bf g st x with
    |some (.ref o off)=>match kY st o with
     |some (.sg ss)=>match mV ss off with
      |some (_,.a k n' _::_)=>bif Nat.beq n' n then some (.c (bq i n) (.sel o off k n i 1)) else none
      |_=>none
     |_=>none
    |_=>none) else none
  |_,_=>none
 |.index t x i=>match oq E.P t,bf g st x,bf g st i with
  |some (n,e),some (.sg [.a k n' v]),some (.int _ i)=>bif oQ E e&& Nat.beq n' n then some (.c (bq i n) (.int k (v.at' i))) else none
  |_,_,_=>none
 |.slice t x lo hi none=>match bf g st x with
  |some x=>match lo,hi with
   |none,none=>vM E R t x none none st
   |some lo,none=>match bf g st lo with
    |some lo=>vM E R t x (some lo) none st
    |none=>none
   |none,some hi=>match bf g st hi with
    |some hi=>vM E R t x none (some hi) st
    |none=>none
   |some lo,some hi=>match bf g st lo,bf g st hi with
    |some lo,some hi=>vM E R t x (some lo) (some hi) st
    |_,_=>none
  |none=>none
 |.slice t x lo (some hi) (some mx)=>match bf g st x,bf g st hi,bf g st mx,E.P.underlying t with
  |some (.aj _ u l),some (.int _ h),some (.int _ m),some (.slice e)=>match bG E.P e with
   |some sz=>bif Nat.beq sz (cB R u) then (match lo with
    |none=>bif V8 E d then some (.c (jr m l.length&& (jr h m.toNat&& (h==m))) (.aj .full u (nS l none (some h)))) else some (.c (jr m l.length&& jr h m.toNat) (.aj .any u (nS l none (some h))))
    |some lo=>match bf g st lo with
     |some (.int _ a)=>some (.c (jr m l.length&& (jr h m.toNat&& jr a h.toNat)) (.aj .any u (nS l (some a) (some h))))
     |_=>none) else none
   |none=>none
  |_,_,_,_=>none
 |.convert a b x=>match bf g st x with
  |some (.sv o off k n lo hi)=>match E.P.underlying a,E.P.underlying b with
   |some (.slice e),some .string=>match E.P.underlying e,k with
    |some (.int .u8),.u8=>match Jb st o off .u8 n lo hi with
     |some l=>some (.t (.str (List.map (fun n:Int=>UInt8.ofNat n.toNat) l)))
     |none=>none
    |_,_=>none
   |_,_=>none
  |_=>none
 |.sliceToArrayPointer t x=>match oq E.P t,bf g st x with
  |some (m,e),some (.sv o off k n lo hi)=>some (.c (decide (0<m∧m≤fB n hi-dA lo)) (.sel o off k n (dA lo) m))
  |_,_=>none
 |.call c=>match c.callee,lN g st c.args.toList with
  |.builtin .copy,some [.sv o off k n lo hi,y]=>match c.argTypes[0]? with
   |some t=>match gQ E.P t with
    |some e=>bif oQ E e then (match DN R (.int k) y,look st.ob o with
     |some l,some (.sg ss)=>match mV ss off with
      |some (pre,.a k' n' v::post)=>if k'=k then (bif Nat.beq n' n then
        some (.w (.int .i64 (((l.take (fB n hi-dA lo).toNat).length:Nat):Int)) (st.set o (.sg (pre++(.a k n' (v.pX (dA lo) (l.take (fB n hi-dA lo).toNat))::post))))) else none) else none
      |_=>none
     |_,_=>none) else none
    |none=>none
   |none=>none
  |_,_=>none
 |_=>none
def oU (om:Bool) (F:Nat→List (FR R)) (g:List (Nat×Bool)) (d:Option Nat) (o:Op) (st:MS R.T):Option (dI R):=
 match o with
 |.move x=>match bf g st x with
  |some v=>some (.t v)
  |none=>none
 |.assign x=>match bf g st x with
  |some v=>some (.t v)
  |none=>none
 |.pick c a b=>match c with
  |.tmp j=>match bf g st c with
   |some (.bool t)=>match bf ((j,true)::g) st a,bf ((j,false)::g) st b with
    |some x,some y=>match zT t x y with
     |some v=>some (.t v)
     |none=>none
    |_,_=>none
   |some (.fT t)=>match bf g st (bif t then a else b) with
    |some v=>some (.t v)
    |none=>none
   |_=>none
  |_=>none
 |.alloc t=>match d,tJ E t with
  |some d,some z=>bif vE z.cells&& !(kX d z.cells) then some (.w (.ref d 0) (st.new d (.cells z.cells))) else none
  |_,_=>none
 |.box t x=>bif E.qZ t then (match bf g st x with
  |some v=>bif jF v&& vF v then some (.t (.aJ v.cells 0)) else none
  |none=>none) else match d,bf g st x with
  |some d,some v=>bif vE v.cells&& vF v&& !(kX d v.cells) then some (.w (.ref d 0) (st.new d (.cells v.cells))) else none
  |_,_=>none
 |.build t parts=>match yQ E t,tJ (T:=R.T) E t,zD g st parts.toList with
  |some pl,some z,some ps=>match Jf pl z.cells ps with
   |some cs=>some (.t (.agg cs))
   |none=>none
  |_,_,_=>none
 |.buildSlice t len parts=>match zD g st parts.toList with
  |some ps=>Pm E R t len ps
  |none=>none
 |.load t a=>match bf g st a with
  |some (.ref o off)=>match kY st o with
   |some (.cells cs)=>match jK E t cs off with
    |some v=>some (.t v)
    |none=>none
   |_=>none
  |some (.aJ cs off)=>match jK E t cs off with
   |some v=>some (.t v)
   |none=>none
  |some (.jq o τ i off)=>match kY st o with
   |some b=>Pt E R t τ i off b
   |none=>none
  |_=>none
 |.store t a x=>match bf g st a,bf g st x with
  |some (.ref o off),some v=>match look st.ob o,bG E.P t with
   |some (.cells cs),some sz=>bif Nat.beq v.cells.length sz&& Nat.ble (off+v.cells.length) cs.length&& vE v.cells&& vF v then
     some (.w .undef (st.set o (.cells (zK cs off v.cells)))) else none
   |_,_=>none
  |_,_=>none
 |.nilCheck x=>match bf g st x with
  |some (.ref o off)=>some (.t (.ref o off))
  |some (.aJ cs off)=>some (.t (.aJ cs off))
  |some (.jq o τ i off)=>some (.t (.jq o τ i off))
  |some (.fn f a b)=>some (.t (.fn f a b))
  |_=>none
 |.binOp op t x y _=>match bf g st x,bf g st y with
  |some x,some y=>Ph E R op t x y
  |_,_=>none
 |.unOp op _ x=>match bf g st x with
  |some x=>Pj R op x
  |none=>none
 |.convert a b x=>match bf g st x with
  |some x=>Jj E R a b x
  |none=>none
 |.makeFunc (.func f) a b=>match lN g st a.toList,lN g st b.toList with
  |some a,some b=>some (.t (.fn f a b))
  |_,_=>none
 |.makeMap t none=>match d,pG E.P t with
  |some d,some (k,e)=>match R.ty k,R.ty e with
   |some k,some e=>some (.w (.bK d) (st.new d (.map k e [])))
   |_,_=>some (.w (.bK d) (st.new d (.smap [] [])))
  |_,_=>none
 |.makeSlice t l c=>match bf g st l,bf g st c with
  |some n,some m=>Pn E R om d t n m st
  |_,_=>none
 |.slice t x lo hi none=>match bf g st x with
  |some x=>match lo,hi with
   |none,none=>vI E R t x none none
   |some lo,none=>match bf g st lo with
    |some lo=>vI E R t x (some lo) none
    |none=>none
   |none,some hi=>match bf g st hi with
    |some hi=>vI E R t x none (some hi)
    |none=>none
   |some lo,some hi=>match bf g st lo,bf g st hi with
    |some lo,some hi=>vI E R t x (some lo) (some hi)
    |_,_=>none
  |none=>none
 |.fieldAddr t x f=>match bf g st x with
  |some x=>match VX E t f x with
   |some v=>some (.t v)
   |none=>none
  |none=>none
 |.field t x f=>match lV E.P t f,bf g st x with
  |some (o,u),some (.agg cs)=>match jK E u cs o with
   |some v=>some (.t v)
   |none=>none
  |_,_=>none
 |.indexAddr t x i=>match bf g st x,bf g st i with
  |some (.vw o τ),some i=>Pq E R t o τ i st
  |some x,some i=>Pp E R t x i
  |_,_=>none
 |.index t x i=>match bf g st x,bf g st i with
  |some x,some i=>Pw E R t x i
  |_,_=>none
 |.lookup t x i ok=>match bf g st x,bf g st i with
  |some x,some i=>Jk E R t x i ok st
  |_,_=>none
 |.mapUpdate t m k v=>match bf g st m,bf g st k,bf g st v with
  |some m,some k,some v=>zP E R t m k v st
  |_,_,_=>none
 |.insert t m k v=>match bf g st m,bf g st k,bf g st v with
  |some m,some k,some v=>zP E R t m k v st
  |_,_,_=>none
 |.extract x i=>match bf g st x with
  |some (.bB vs)=>match vs[i]? with
   |some v=>some (.t v)
   |none=>none
  |_=>none
 |.call c=>match c.callee with
  |.builtin b=>match lN g st c.args.toList with
   |some vs=>blt E R om d b c.argTypes vs st
   |none=>none
  |.value f=>match bf g st f,lN g st c.args.toList with
   |some (.fn f a b),some vs=>bif E.imp f then none else findF R (a++vs++b) (l8 st (a++vs++b)) (F f)
   |_,_=>none
  |_=>none
 |_=>none
def rJ (om:Bool) (F:Nat→List (FR R)) (g:List (Nat×Bool)) (d:Option Nat) (o:Op) (st:MS R.T):Option (dI R):=
 match nT E R g d o st with
 |some r=>some r
 |none=>oU E R om F g d o st
inductive Gd where
 |no
 |run
 |skip
 |dyn (j:Nat) (w:Bool) (c:Bool) (g:List (Nat×Bool))
def zW (b w:Bool):Bool:=bif w then b else !b
def Py (a b:Bool):Bool:=bif a then b else false
def lQ {T:Nat→Type} (st:MS T):Nat→Nat→Bool→Option (Bool×List (Nat×Bool))
 |0,_,_=>none
 |n+1,j,w=>match look st.fr j with
  |some (.bool b)=>some (zW b w,[(j,w)])
  |some (.opt i u (.bool b))=>match lQ st n i u with
   |some (c,g)=>some (Py c (zW b w),(j,w)::g)
   |none=>none
  |some (.opt i u (.fT b))=>match lQ st n i u with
   |some (c,g)=>some (Py c (zW b w),(j,w)::g)
   |none=>none
  |_=>none
def Ju {T:Nat→Type} (all:List Oper) (st:MS T) (o:Oper):Gd:=
 match o.guard with
 |none=>.run
 |some (j,w)=>match all[j]? with
  |some p=>match p.dst with
   |some t=>match look st.fr t with
    |some (.fT b)=>bif b==w then .run else .skip
    |some .undef=>.skip
    |_=>match lQ st 12 t w with
     |some (c,g)=>.dyn t w c g
     |none=>.no
   |none=>.skip
  |none=>.skip
def MS.kN {T:Nat→Type} (st:MS T):List (Nat×Bool)→MS T
 | []=>st
 | (j,w)::g=>(st.kN g).learn j w
def MS.tL {T:Nat→Type} (st:MS T):List (Nat×Bool)→MS T
 | [(j,w)]=>st.learn j (!w)
 |_=>st
def eY {α:Type} (c:Bool) (o:Option α) (d:α):Option α:=bif c then o else some d
def Pz (st:MS R.T) (t:TypeId) (m x:Operand):Option (List (TV R.T)×List (TV R.T)×TV R.T×TV R.T):=
 match bf [] st m with
 |some (.bK o)=>match kY st o with
  |some (.smap ks vs)=>match bf [] st x,pG E.P t with
   |some x,some (kt,et)=>match tJ (T:=R.T) E et with
    |some z=>bif Jm E kt x then some (ks,vs,x,z) else none
    |none=>none
   |_,_=>none
  |_=>none
 |_=>none
def Jv {T:Nat→Type} {β:Type} (x:TV T):List (TV T)→List (TV T)→TV T→(TV T→Bool→Option β)→Option β
 | [],[],z,k=>k z false
 |a::ks,v::vs,z,k=>match Jl x a with
  |some b=>bif b then k v true else Jv x ks vs z k
  |none=>none
 |_,_,_,_=>none
section
variable (om:Bool) {β:Type} (F:Nat→List (FR R))
def PD (t:TypeId) (a x:Operand) (st:MS R.T):Option ((τ:Ty)×Nat×Int×Nat×List (Den R.T τ)×TV R.T):=
 match bf [] st a,bf [] st x with
 |some (.jq o τ i off),some v=>match look st.ob o,bG E.P t with
  |some (.arr τ' l),some sz=>match oN R (u:=τ) l with
   |some l=>bif Nat.beq v.cells.length sz&& Nat.ble (off+v.cells.length) (cB R τ)&& vE v.cells&& vF v then some ⟨τ,o,i,off,l,v⟩ else none
   |none=>none
  |_,_=>none
 |_,_=>none
def xw {α:Type} (l:List α) (i:Int) (y:α):List α:=l.set i.toNat y
def runM (o:Oper) (st:MS R.T) (k:MS R.T→Option β):Option β:=
 match o.op with
 |.pick c a b=>match bf [] st c with
  |some (.fT t)=>match bf [] st (bif t then a else b) with
   |some v=>k (st.dU o.dst v)
   |none=>none
  |some (.bool t)=>match c with
   |.tmp j=>match bf [(j,true)] st a,bf [(j,false)] st b with
    |some x,some y=>match zT t x y with
     |some v=>k (st.dU o.dst v)
     |none=>bif t then k ((st.learn j true).dU o.dst x) else k ((st.learn j false).dU o.dst y)
    |_,_=>none
   |_=>none
  |_=>none
 |.store t a x=>match PD E R t a x st with
  |some ⟨τ,p,i,off,l,v⟩=>(dw l i).bind fun y=>match Pv R τ (zK (eO R .any τ y).cells off v.cells) with
   |some y'=>k ((st.set p (.arr τ (xw l i y'))).dU o.dst .undef)
   |none=>none
  |none=>match rJ E R om F [] o.dst (.store t a x) st with
   |some (.w v st')=>k (st'.dU o.dst v)
   |_=>none
 |.lookup t m x ok=>match Pz E R st t m x with
  |some (ks,vs,x,z)=>Jv x ks vs z fun v b=>k (st.dU o.dst (bif ok then .bB [v,.fT b] else v))
  |none=>match rJ E R om F [] o.dst (.lookup t m x ok) st with
   |some (.t v)=>k (st.dU o.dst v)
   |_=>none
 |op=>match rJ E R om F [] o.dst op st with
  |some (.t v)=>k (st.dU o.dst v)
  |some (.c b v)=>bif b then k (st.dU o.dst v) else none
  |some (.w v st')=>k (st'.dU o.dst v)
  |some (.wc b v st')=>bif b then k (st'.dU o.dst v) else none
  |some (.p _ _ x f)=>x.bind fun a=>k (st.dU o.dst (f a))
  |none=>none
def af0 (b c:Bool):Bool:=bif b then c else true
def PE (o:Oper) (j:Nat) (w c:Bool) (g:List (Nat×Bool)) (st:MS R.T) (k:MS R.T→Option β):Option β:=
 match o.dst with
 |some d=>match (bif aP d (g.map (·.1)) then none else rJ E R om F g o.dst o.op st) with
  |some (.t v)=>k (st.put d (.opt j w v))
  |some (.c b v)=>bif af0 c b then k (st.put d (.opt j w v)) else none
  |some (.p _ z x f)=>(eY c x z).bind fun a=>k (st.put d (.opt j w (f a)))
  |_=>bif c then runM E R om F o (st.kN g) k else k ((st.tL g).dU o.dst .undef)
 |none=>bif c then runM E R om F o (st.kN g) k else k ((st.tL g).dU o.dst .undef)
def mX {T:Nat→Type} (st:MS T) (o:Oper):Bool:=match o.op with
 |.call c=>match c.callee with
  |.value f=>match bf [] st f with
   |some (.fn g _ _)=>match o.dst with
    |some d=>E.own g d
    |none=>false
   |_=>true
  |_=>false
 |_=>false
def af2:List Sk→Bool
 |.dZ::k::l=>gN (k::l)
 |_=>false
def zX (args cZ:List (TV R.T)):List (FR R)→Option ((τ:Ty)×Option (List (Den R.T τ)))
 | []=>none
 | ⟨as,[.d (.slice τ)],G,_,true⟩::l=>match fA R as cZ with
   |some p=>bif (gN as||af2 as)&& Nat.ble (mW as) 18&& vG args then some ⟨τ,G p⟩ else none
   |none=>zX args cZ l
 |_::l=>zX args cZ l
def PG (o:Oper) (st:MS R.T) (k:MS R.T→Option β):Option β:=match o.op,o.dst with
 |.call c,some d=>match c.callee with
  |.value f=>match bf [] st f,lN [] st c.args.toList with
   |some (.fn g a b),some vs=>match zX R (a++vs++b) (l8 st (a++vs++b)) (F g) with
    |some ⟨τ,x⟩=>x.bind fun l=>k ((st.wk d).put d (.aj (.own d) τ l))
    |none=>none
   |_,_=>none
  |_=>none
 |_,_=>none
def zY (o:Nat) (l:List Nat):List Nat:=bif aP o l then l else l++[o]
mutual
def af3 {T:Nat→Type}:TV T→List Nat→List Nat
 |.ref o _,l=>zY o l
 |.bK o,l=>zY o l
 |.vw o _,l=>zY o l
 |.jq o _ _ _,l=>zY o l
 |.sv o _ _ _ _ _,l=>zY o l
 |.sel o _ _ _ _ _,l=>zY o l
 |.agg cs,l=>p8 cs l
 |.bB cs,l=>p8 cs l
 |.aJ cs _,l=>p8 cs l
 |.fn _ a b,l=>p8 b (p8 a l)
 |_,l=>l
def p8 {T:Nat→Type}:List (TV T)→List Nat→List Nat
 | [],l=>l
 |v::vs,l=>p8 vs (af3 v l)
end
mutual
def tN {T:Nat→Type} (m:List (Nat×Nat)):TV T→TV T
 |.ref o off=>match look m o with
  |some p=>.ref p off
  |none=>.gone
 |.bK o=>match look m o with
  |some p=>.bK p
  |none=>.gone
 |.vw o t=>match look m o with
  |some p=>.vw p t
  |none=>.gone
 |.jq o t i off=>match look m o with
  |some p=>.jq p t i off
  |none=>.gone
 |.sv o off k n lo hi=>match look m o with
  |some p=>.sv p off k n lo hi
  |none=>.gone
 |.sel o off k n i j=>match look m o with
  |some p=>.sel p off k n i j
  |none=>.gone
 |.aj c t l=>match c with
  |.own _=>.aj .any t l
  |c=>.aj c t l
 |.agg cs=>.agg (vN m cs)
 |.bB cs=>.bB (vN m cs)
 |.aJ cs off=>.aJ (vN m cs) off
 |.fn f a b=>.fn f (vN m a) (vN m b)
 |v=>v
def vN {T:Nat→Type} (m:List (Nat×Nat)):List (TV T)→List (TV T)
 | []=>[]
 |v::vs=>tN m v::vN m vs
end
def jG:List Nat→Nat→List (Nat×Nat)
 | [],_=>[]
 |o::l,n=>(o,n)::jG l (n+1)
def xA:List Nat→Bool
 | []=>true
 |o::l=> !(aP o l)&& xA l
def zZ {T:Nat→Type} (st:MS T):List (Nat×Nat)→List (Nat×Ob T)
 | []=>[]
 | (o,p)::m=>match look st.ob o with
   |some x=>(p,x)::zZ st m
   |none=>zZ st m
def p9 {T:Nat→Type}:List (Nat×Nat)→List (Nat×Ob T)→List (Nat×Ob T)
 | [],_=>[]
 | (o,p)::m,l=>match look l p with
   |some y=>(o,y)::p9 m l
   |none=>p9 m l
def z8:List (Nat×Nat)→List (Nat×jJ)→Bool
 | [],[]=>true
 | (_,p)::m,(q,_)::l=>Nat.beq p q&& z8 m l
 |_,_=>false
def Aa:List Sk→Bool
 | []=>true
 |.d (.int _)::l=>Aa l
 |.d .bool::l=>Aa l
 |.d .str::l=>Aa l
 |_=>false
def PI:List Sk→Bool
 | []=>true
 |.d _::l=>PI l
 |_=>false
def okO:jJ→Bool
 |.cells l=>PI l
 |_=>true
def rM:List (Nat×jJ)→Bool
 | []=>true
 | (_,k)::l=>okO k&& rM l
def Jw (m:List (Nat×Nat)) (A:List (TV R.T)) (B:List (Nat×Ob R.T)):List (FM R)→Option ((r:FM R)×Option (aB R.T r.res×mQ R.T r.obs))
 | []=>none
 |r::l=>match fA R r.args A,lg R B r.obs with
  |some p,some q=>bif z8 m r.obs&& (Aa r.res&& rM r.obs) then some ⟨r,r.F p q⟩ else none
  |_,_=>Jw m A B l
def V9 {T:Nat→Type}:List (TV T)→TV T
 | [v]=>v
 |vs=>.bB vs
def qb {T:Nat→Type} (st:MS T) (o:Oper):Bool:=match o.op with
 |.call c=>match c.callee with
  |.value f=>match bf [] st f with
   |some (.fn g _ _)=>E.imp g
   |_=>false
  |_=>false
 |_=>false
def qL (o:Oper):Bool:=match o.op with
 |.call c=>match c.callee with
  |.value (.func g)=> !(E.imp g)
  |.value _=>false
  |_=>true
 |_=>true
def xB (M:Nat→List (FM R)) (o:Oper) (st:MS R.T) (k:MS R.T→Option β):Option β:=match o.op with
 |.call c=>match c.callee with
  |.value f=>match bf [] st f,lN [] st c.args.toList with
   |some (.fn g a b),some vs=>bif xA (p8 (a++vs++b) []) then (match Jw R (jG (p8 (a++vs++b) []) F0) (vN (jG (p8 (a++vs++b) []) F0) (a++vs++b)) (zZ st (jG (p8 (a++vs++b) []) F0)) (M g) with
    |some ⟨r,x⟩=>x.bind fun y=>k (MS.dU ⟨st.fr,p9 (jG (p8 (a++vs++b) []) F0) (jS R r.obs y.2)++st.ob⟩ o.dst (V9 (iG R .any r.res y.1)))
    |none=>none) else none
   |_,_=>none
  |_=>none
 |_=>none
variable (M:Nat→List (FM R))
def qM (all:List Oper):List Oper→MS R.T→(MS R.T→Option β)→Option β
 | [],st,k=>k st
 |o::os,st,k=>match Ju all st o with
  |.run=>bif mX E st o then PG R F o st (fun st=>qM all os st k) else (bif qb E st o then xB R M o st (fun st=>qM all os st k) else runM E R om F o st (fun st=>qM all os st k))
  |.skip=>qM all os (st.dU o.dst .undef) k
  |.dyn j w c g=>bif mX E st o||mX E (st.kN g) o then none else (bif qb E (st.kN g) o then (bif c then xB R M o (st.kN g) (fun st=>qM all os st k) else qM all os ((st.tL g).dU o.dst .undef) k) else PE E R om F o j w c g st (fun st=>qM all os st k))
  |.no=>none
def Wd {T:Nat→Type}:TV T→List Key
 |.ref o _=>[.obj (1,o)]
 |.bK o=>[.obj (1,o)]
 |.jq o _ _ _=>[.obj (1,o)]
 |.sv o _ _ _ _ _=>[.obj (1,o)]
 |.sel o _ _ _ _ _=>[.obj (1,o)]
 |_=>[]
def tO {T:Nat→Type} (st:MS T) (x:Operand):List Key:=match bf [] st x with
 |some v=>Wd v
 |none=>[]
def Jy (o:Oper):List Key:=match o.dst with
 |some t=>[.obj (1,t)]
 |none=>[]
def Jz {T:Nat→Type}:List (TV T)→Bool
 | []=>false
 |.sv _ _ _ _ _ _::_=>true
 |_::l=>Jz l
def DV (om:Bool) {T:Nat→Type} (st:MS T) (o:Oper):bQ:=
 match o.op with
 |.move _|.assign _|.pick .. |.build .. |.buildSlice .. |.nilCheck _|.binOp .. |.unOp .. |.makeInterface .. |.makeFunc .. |.fieldAddr .. |.field .. |.indexAddr .. |.index .. |.extract ..
 |.sliceToArrayPointer .. =>lI []
 |.convert _ _ x|.slice _ x _ _ _|.load _ x|.lookup _ x _ _=>lI (tO st x)
 |.alloc _|.box .. |.makeMap .. =>kH (Jy o)
 |.makeSlice .. =>kH (.top::Jy o)
 |.store _ a _=>kH (tO st a)
 |.mapUpdate _ m _ _|.insert _ m _ _=>kH (tO st m)
 |.call c=>match c.callee with
  |.builtin b=>match b with
   |.len|.cap|.min|.max=>lI (c.args.toList.flatMap fun x=>tO st x)
   |.append=>bif om then dY else ⟨false,false,c.args.toList.flatMap fun x=>tO st x,[.top]⟩
   |_=>dY
  |.value f=>match bf [] st f with
   |some (.fn g a b)=>if E.imp g then dY else (match lN [] st c.args.toList with
    |some vs=>if vG (a++vs++b) then lI [] else ⟨true,false,[],[]⟩
    |none=>dY)
   |_=>dY
  |_=>dY
 |_=>dY
def mY (om:Bool) {T:Nat→Type} (all:List Oper) (st:MS T) (o:Oper) (wanted:Bool):bQ:=
 if wanted then let f:=DV E om st o;⟨f.qz,f.mH,qA all o++f.t,kI o++f.w⟩
 else ⟨false,false,qA all o,kI o⟩
def Ab {T:Nat→Type}:TV T→Bool
 |.gone=>false
 |.opt _ _ _=>false
 |.vw _ _=>false
 |_=>true
def vO {T:Nat→Type} (st:MS T) (o:Oper):Bool:= !(mX E st o)&&
 match o.op with
 |.call c=>match c.callee with
  |.value f=>match bf [] st f,lN [] st c.args.toList with
   |some (.fn _ a b),some vs=>vG (a++vs++b)||Jz (a++vs++b)
   |_,_=>false
  |.builtin _=>match lN [] st c.args.toList with
   |some vs=>vs.all Ab
   |none=>false
  |_=>true
 |_=>true
def Key.nm:Key→Key
 |.obj l=>.obj (1,l.2)
 |k=>k
def bQ.nm (f:bQ):bQ:=⟨f.qz,f.mH,f.t.map Key.nm,f.w.map Key.nm⟩
def nU (ms:List Nat) (all:List Oper):List Oper→MS R.T→List bQ→(MS R.T→Option β)→Option β
 | [],st,fs,k=>bif sV ms (fs.map bQ.nm) then k st else none
 |o::os,st,fs,k=>match Ju all st o with
  |.run=>bif qb E st o then (bif mX E st o then none else xB R M o st (fun st'=>nU ms all os st' (fs++[mY E om all st o true]) k)) else bif !(vO E st o) then none else runM E R om F o st (fun st'=>nU ms all os st' (fs++[mY E om all st o true]) k)
  |.skip=>nU ms all os (st.dU o.dst .undef) (fs++[mY E om all st o false]) k
  |.dyn _ _ c g=>bif c then (bif qb E (st.kN g) o then (bif mX E (st.kN g) o then none else xB R M o (st.kN g) (fun st'=>nU ms all os st' (fs++[mY E om all (st.kN g) o true]) k)) else bif !(vO E (st.kN g) o) then none else runM E R om F o (st.kN g) (fun st'=>nU ms all os st' (fs++[mY E om all (st.kN g) o true]) k))
   else nU ms all os ((st.tL g).dU o.dst .undef) (fs++[mY E om all st o false]) k
  |.no=>none
end
def eP {R:gB} (key:Nat) (W:List Nat) (b:MS R.T) (sh:Shape) (outs:List (Ex×Shape)) (body:{β:Type}→MS R.T→(Ex→MS R.T→Option β)→Option β):Nat→nO R.T sh→Option (Out R.T outs)
 |0,_=>none
 |m+1,p=>body (b.over (unpack R sh p)) fun e st=>match e with
  |.normal=>match jT R W st sh with
   |some p=>eP key W b sh outs body m p
   |none=>none
  |e=>pY R W e st outs
def MS.obs {T:Nat→Type} (st:MS T):MS T:=⟨[],st.ob⟩
def DW {R:gB} {β:Type} (body:MS R.T→(Ex→MS R.T→Option β)→Option β):Nat→MS R.T→(Ex→MS R.T→Option β)→Option β
 |0,_,_=>none
 |m+1,st,k=>body st fun e st'=>match e with
  |.normal=>DW body m st' k
  |e=>k e st'
def Ac {R:gB} {X:Type} (key:Nat) (W:List Nat) (b:MS R.T) (sh:Shape) (outs:List (Ex×Shape)) (body:{β:Type}→X→MS R.T→(Ex→MS R.T→Option β)→Option β):List X→nO R.T sh→Option (Out R.T outs)
 | [],p=>pY R W .normal (unpack R sh p).obs outs
 |x::xs,p=>body x (b.over (unpack R sh p)) fun e st=>match e with
  |.normal=>match jT R W st.obs sh with
   |some p=>Ac key W b sh outs body xs p
   |none=>none
  |e=>pY R W e st.obs outs
def DX {R:gB} (a b:List (TV R.T)):List (FI R)→Option ((el:List Sk)×Option (List (aB R.T el)))
 | []=>none
 |i::l=>match fA R i.a a,fA R i.b b with
  |some pa,some pb=>bif gN i.a&& gN i.b&& gN i.el&& Nat.ble (mW i.a) 18&& Nat.ble (mW i.b) 18 then some ⟨i.el,i.F pa pb⟩ else none
  |_,_=>DX a b l
def xC (O:List Nat):List (Nat×jJ)→Bool
 | []=>true
 | (o,_)::l=> !(aP o O)&& xC O l
def xD {T:Nat→Type} (st:MS T):List Nat→List (TV T)→Option (MS T)
 | [],[]=>some st
 |i::l,v::vs=>xD (st.put i v) l vs
 |_,_=>none
def iZ:List Oper→List Nat
 | []=>[]
 |o::l=>match o.dst with
  |some d=>d::iZ l
  |none=>iZ l
def aK:Code→List Nat
 |.region _ ops _=>iZ ops.toList
 |.seq a b=>aK a++aK b
 |.cond _ a b=>aK a++aK b
 |.block _ c=>aK c
 |.loop c=>aK c
 |.rangeFunc _ ps a b=>ps.toList++aK a++aK b
 |_=>[]
def lS:Code→Nat
 |.region i _ _=>i
 |.seq a _=>lS a
 |.loop a=>lS a
 |.block _ a=>lS a
 |.rangeFunc _ _ _ b=>lS b
 |_=>0
def gV:Code→Bool
 |.region _ ops _=>ops.toList.all (qL E)
 |.seq a b=>gV a&& gV b
 |.cond _ a b=>gV a&& gV b
 |.block _ c=>gV c
 |.loop c=>gV c
 |.rangeFunc _ _ _ _=>false
 |_=>true
variable (n:Nat) (om:Bool) (F:Nat→List (FR R)) (I:IR R) (A:bH)
def bS:Code→{β:Type}→MS R.T→(Ex→MS R.T→Option β)→Option β
 |.skip,_,st,k=>k .normal st
 |.region _ ops dr,_,st,k=>bif dr then (bif mI ops.toList then nU E R om F I.im (nG ops.toList) ops.toList ops.toList st [] (fun st=>k .normal st) else none) else qM E R om F I.im ops.toList ops.toList st (fun st=>k .normal st)
 |.seq a b,_,st,k=>
  match look A.joins (lS b) with
  |none=>bS a st fun e st=>match e with
   |.normal=>bS b st k
   |e=>k e st
  |some q=>(bS (β:=Out R.T q.outs) a ((base (aK a) q.K q.O .ro st).over st) fun e st=>pY R (aK a) e st q.outs).bind (rH R (base (aK a) q.K q.O (fun b=>b) st) (fun e st=>match e with
   |.normal=>bS b st k
   |e=>k e st) q.outs)
 |.cond c a b,_,st,k=>match bf [] st c with
  |some (.fT t)=>bif t then bS a st k else bS b st k
  |some (.bool t)=>bif t then bS a (st.zA c true) k else bS b (st.zA c false) k
  |_=>none
 |.block id c,_,st,k=>bS c st fun e st=>match e with
  |.exit i=>bif Nat.beq i id then k .normal st else k (.exit i) st
  |e=>k e st
 |.loop c,_,st,k=>match look A.loops (lS c) with
  |some q=>match jT R (aK c) st q.sh with
   |some p=>(eP (lS c) (aK c) (base (aK c) q.K q.O .ro st) q.sh q.outs (fun st k=>bS c st k) n p).bind (rH R (base (aK c) q.K q.O (fun b=>b) st) k q.outs)
   |none=>none
  |none=>DW (fun st k=>bS c st k) 130 st k
 |.rangeFunc f ps a c,_,st,k=>match look A.loops (lS c) with
  |some q=>match bf [] st f with
   |some (.fn g u v)=>bif nQ u&& nQ v&& xC q.O q.sh.ob&& gV E a&& gV E c then (match DX u v (I.it g) with
    |some ⟨el,xs⟩=>match jT R (ps.toList++aK a++aK c) st.obs q.sh with
     |some p=>(xs.bind fun xs=>Ac (lS c) (ps.toList++aK a++aK c) (base (ps.toList++aK a++aK c) q.K q.O .ro st) q.sh q.outs (fun x st k=>match xD st ps.toList (iG R .sh el x) with
       |some st=>bS a st fun e st=>match e with
        |.normal=>bS c st k
        |_=>none
       |none=>none) xs p).bind (rH R (base (ps.toList++aK a++aK c) q.K q.O (fun b=>b) st) k q.outs)
     |none=>none
    |none=>none) else none
   |_=>none
  |none=>none
 |.exit i,_,st,k=>k (.exit i) st
 |.ret,_,st,k=>k .ret st
 |_,_,_,_=>none
def rO (st:MS R.T):List ResultVar→Option (List (TV R.T))
 | []=>some []
 |.tmp t::l=>match bf [] st (.tmp t) with
  |some v=>match rO st l with
   |some vs=>some (v::vs)
   |none=>none
  |none=>none
 |.cell a t::l=>match bf [] st (.tmp a) with
  |some (.ref o off)=>match kY st o with
   |some (.cells cs)=>match jK E t cs off with
    |some v=>match rO st l with
     |some vs=>some (v::vs)
     |none=>none
    |none=>none
   |some (.sg ss)=>match Jr E R t ss off with
    |some v=>match rO st l with
     |some vs=>some (v::vs)
     |none=>none
    |none=>none
   |_=>none
  |_=>none
def xE {T:Nat→Type}:Nat→List (TV T)→List (Nat×TV T)
 |_,[]=>[]
 |i,v::l=>(i,v)::xE (i+1) l
def bU (fn:Func) (args res:List Sk) (p:aB R.T args):Option (aB R.T res):=
 match fn.body with
 |some c=>bS E R n om F I A c ⟨xE 0 (iG R .sh args p),[]⟩ fun e st=>match e with
  |.exit _=>none
  |_=>match rO E R st fn.results.toList with
   |some vs=>bif gN res&& Nat.ble (mW res) 16 then fA R res (l8 st vs) else none
   |none=>none
 |none=>none
def PK {T:Nat→Type}:TV T→Bool
 |.aj (.own _) _ _=>true
 |.aj .full _ _=>true
 |.dZ=>true
 |_=>false
def JA (fn:Func) (args:List Sk) (τ:Ty) (p:aB R.T args):Option (List (Den R.T τ)):=
 match fn.body with
 |some c=>bS E R n om F I A c ⟨xE 0 (iG R .sh args p),[]⟩ fun e st=>match e with
  |.exit _=>none
  |_=>match rO E R st fn.results.toList with
   |some [v]=>bif PK v then wX R τ v else none
   |_=>none
 |none=>none
end
end Aq
end
section
namespace Aq
open Go
set_option linter.unusedSectionVars false
set_option linter.unusedVariables false
structure Cx where
 om:Bool
 dp:Nat
 lo:Nat
 fl:Nat→Option Loc
 lt:∀o L,fl o=some L→F0≤o∧L.1<dp
 inj:∀o p L,fl o=some L→fl p=some L→o=p
def Cx.lc (c:Cx) (o:Nat):Loc:=match c.fl o with
 |some L=>L
 |none=>(c.dp,o)
theorem Cx.af4 (c:Cx) {o:Nat} (h:o<F0):c.lc o=(c.dp,o):=by
 unfold Cx.lc
 split
 ·rename_i L hL
  have:=(c.lt _ _ hL).1
  omega
 ·rfl
theorem Cx.PL (c:Cx) {o p:Nat} (h:c.lc o=c.lc p):o=p:=by
 unfold Cx.lc at h
 split at h<;>split at h
 ·rename_i L h1 _ M h2;subst h;exact c.inj _ _ _ h1 h2
 ·rename_i L h1 _ h2;have:=(c.lt _ _ h1).2;rw[h] at this;exact absurd this (Nat.lt_irrefl _)
 ·rename_i h1 _ L h2;have:=(c.lt _ _ h2).2;rw[←h] at this;exact absurd this (Nat.lt_irrefl _)
 ·exact congrArg Prod.snd h
theorem Cx.Wh (c:Cx) {o p:Nat} (h:o≠p):c.lc o≠c.lc p:=fun e=>h (c.PL e)
theorem Cx.Ad (c:Cx) (o:Nat):(c.lc o).1≤c.dp:=by
 unfold Cx.lc
 split
 ·rename_i L hL;exact Nat.le_of_lt (c.lt _ _ hL).2
 ·exact Nat.le_refl _
def Cx.out (c:Cx) (L:Loc):Prop:=∀o,L≠c.lc o
structure aL where
 ob:Nat→Option Nat
 tk:Nat→Option Nat
 ln:Nat→Nat
 om:Cx
section
variable (R:gB)
def mg:Ty→Bool
 |.st _=>false
 |_=>true
structure mh:Prop where
 DY:∀n p,R.of n (R.to n p)=p
 enc:∀n x,R.enc n x= .agg (encs R (R.lf n) (R.of n x))
 leaf:∀n,(R.lf n).all mg=true
 pc:∀n x,aF (R.enc n x)=true
def Ae (ρ:aL) (top:Nat→Nat) (sz len:Nat):Cp→Cap→Prop
 |.any,_=>True
 |.sh,c=>c= .sh
 |.nil,c=>c= .nil
 |.full,c=>c= .full
 |.own t,c=>c= .nil∨c= .full∨∃s,c= .own sz s∧ρ.tk t=some s∧top s=len
mutual
def Rl (ρ:aL) (top:Nat→Nat):TV R.T→V→Prop
 |.int k n,v=>v= .int k n
 |.bool b,v=>v= .bool b
 |.fT b,v=>v= .bool b
 |.str s,v=>v= .str s
 |.eD,v=>v= .eD
 |.dX,v=>v= .dX
 |.dS,v=>v= .dS
 |.fH,v=>v= .fH
 |.dZ,v=>v= .aj .nil []
 |.agg cs,v=> ∃l,v= .agg l∧aA ρ top cs l
 |.bB cs,v=> ∃l,v= .bB l∧aA ρ top cs l
 |.aj c t l,v=> ∃c',v= .aj c' (l.map (aG R t))∧Ae ρ top (cB R t) l.length c c'
 |.ref o off,v=> ∃s,ρ.ob o=some s∧v= .ref (ρ.om.lc o) s off
 |.aJ cs off,v=> ∃l,v= .aJ l off∧aA ρ top cs l
 |.bK o,v=> ∃s,ρ.ob o=some s∧v= .bK (ρ.om.lc o) s
 |.dn k e m,v=>v= .dn (m.map fun p=>aG R k p.1) (m.map fun p=>aG R e p.2)
 |.fn f a b,v=> ∃a' b',v= .fn (.func f) a' b'∧aA ρ top a a'∧aA ρ top b b'
 |.opt _ _ _,_=>False
 |.vw o t,v=>(∃s,ρ.ob o=some s∧v= .vw (ρ.om.lc o) s 0 (ρ.ln o) (ρ.ln o) (cB R t) (gF t))∨(ρ.ln o=0∧(v= .aj .nil []∨v= .aj .full []))
 |.jq o t i off,v=> ∃s,ρ.ob o=some s∧0≤i∧v= .ref (ρ.om.lc o) s (i.toNat*cB R t+off)
 |.sg ss,v=>v= .agg (bE ss)
 |.sv o off k n lo hi,v=> ∃s,ρ.ob o=some s∧l9 n lo hi=true∧v= .vw (ρ.om.lc o) s (off+(dA lo).toNat) ((fB n hi).toNat-(dA lo).toNat) (n-(dA lo).toNat) 1 false
 |.sel o off k n i m,v=> ∃s,ρ.ob o=some s∧0≤i∧i.toNat+m≤n∧v= .ref (ρ.om.lc o) s (off+i.toNat)
 |.oL k n x i,v=>0≤i∧i<n∧v= .aJ (x.l.map (V.int k)) i.toNat
 |.undef,v=>v=aC
 |.gone,_=>True
def aA (ρ:aL) (top:Nat→Nat):List (TV R.T)→List V→Prop
 | [],l=>l=[]
 |t::ts,l=> ∃v vs,l=v::vs∧Rl ρ top t v∧aA ρ top ts vs
end
variable {R}
variable {ρ ρ':aL} {top top':Nat→Nat}
theorem aA.eT {vs:List V} (h:aA R ρ top [] vs):vs=[]:=by unfold aA at h;exact h
theorem aA.dJ {t:TV R.T} {ts:List (TV R.T)} {vs:List V} (h:aA R ρ top (t::ts) vs):∃v l,vs=v::l∧Rl R ρ top t v∧aA R ρ top ts l:=by unfold aA at h;exact h
theorem Rl.fC {k:IntKind} {n:Int} {v:V} (h:Rl R ρ top (.int k n) v):v= .int k n:=by unfold Rl at h;exact h
theorem Rl.oW {b:Bool} {v:V} (h:Rl R ρ top (.bool b) v):v= .bool b:=by unfold Rl at h;exact h
theorem Rl.qN {b:Bool} {v:V} (h:Rl R ρ top (.fT b) v):v= .bool b:=by unfold Rl at h;exact h
theorem Rl.lq {b:List UInt8} {v:V} (h:Rl R ρ top (.str b) v):v= .str b:=by unfold Rl at h;exact h
theorem Rl.nV {v:V} (h:Rl R ρ top .dZ v):v= .aj .nil []:=by unfold Rl at h;exact h
theorem Rl.jH {cs:List (TV R.T)} {v:V} (h:Rl R ρ top (.agg cs) v):∃l,v= .agg l∧aA R ρ top cs l:=by unfold Rl at h;exact h
theorem Rl.JB {cs:List (TV R.T)} {v:V} (h:Rl R ρ top (.bB cs) v):∃l,v= .bB l∧aA R ρ top cs l:=by unfold Rl at h;exact h
theorem Rl.jU {c:Cp} {t:Ty} {l:List (Den R.T t)} {v:V} (h:Rl R ρ top (.aj c t l) v):∃c',v= .aj c' (l.map (aG R t))∧Ae ρ top (cB R t) l.length c c':=by unfold Rl at h;exact h
theorem Rl.mZ {o off:Nat} {v:V} (h:Rl R ρ top (.ref o off) v):∃s,ρ.ob o=some s∧v= .ref (ρ.om.lc o) s off:=by unfold Rl at h;exact h
theorem Rl.rP {cs:List (TV R.T)} {off:Nat} {v:V} (h:Rl R ρ top (.aJ cs off) v):∃l,v= .aJ l off∧aA R ρ top cs l:=by unfold Rl at h;exact h
theorem Rl.tQ {o:Nat} {v:V} (h:Rl R ρ top (.bK o) v):∃s,ρ.ob o=some s∧v= .bK (ρ.om.lc o) s:=by unfold Rl at h;exact h
theorem Rl.Af {k e:Ty} {m:List (Den R.T k×Den R.T e)} {v:V} (h:Rl R ρ top (.dn k e m) v):v= .dn (m.map fun p=>aG R k p.1) (m.map fun p=>aG R e p.2):=by unfold Rl at h;exact h
theorem Rl.mo {f:Nat} {a b:List (TV R.T)} {v:V} (h:Rl R ρ top (.fn f a b) v):∃a' b',v= .fn (.func f) a' b'∧aA R ρ top a a'∧aA R ρ top b b':=by unfold Rl at h;exact h
theorem Rl.Ah {o:Nat} {t:Ty} {v:V} (h:Rl R ρ top (.vw o t) v):(∃s,ρ.ob o=some s∧v= .vw (ρ.om.lc o) s 0 (ρ.ln o) (ρ.ln o) (cB R t) (gF t))∨(ρ.ln o=0∧(v= .aj .nil []∨v= .aj .full [])):=by unfold Rl at h;exact h
theorem Rl.xG {o off:Nat} {t:Ty} {i:Int} {v:V} (h:Rl R ρ top (.jq o t i off) v):∃s,ρ.ob o=some s∧0≤i∧v= .ref (ρ.om.lc o) s (i.toNat*cB R t+off):=by unfold Rl at h;exact h
theorem Rl.DZ {ss:List Sg} {v:V} (h:Rl R ρ top (.sg ss) v):v= .agg (bE ss):=by unfold Rl at h;exact h
theorem Rl.vP {o off n:Nat} {k:IntKind} {lo hi:Option Int} {v:V} (h:Rl R ρ top (.sv o off k n lo hi) v):∃s,ρ.ob o=some s∧l9 n lo hi=true∧v= .vw (ρ.om.lc o) s (off+(dA lo).toNat) ((fB n hi).toNat-(dA lo).toNat) (n-(dA lo).toNat) 1 false:=by unfold Rl at h;exact h
theorem Rl.D5 {o off n m:Nat} {k:IntKind} {i:Int} {v:V} (h:Rl R ρ top (.sel o off k n i m) v):∃s,ρ.ob o=some s∧0≤i∧i.toNat+m≤n∧v= .ref (ρ.om.lc o) s (off+i.toNat):=by unfold Rl at h;exact h
theorem Rl.JC {n:Nat} {k:IntKind} {x:Vec n} {i:Int} {v:V} (h:Rl R ρ top (.oL k n x i) v):0≤i∧i<n∧v= .aJ (x.l.map (V.int k)) i.toNat:=by unfold Rl at h;exact h
theorem Rl.Wi {v:V} (h:Rl R ρ top .undef v):v=aC:=by unfold Rl at h;exact h
theorem Rl.Wj {j:Nat} {w:Bool} {x:TV R.T} {v:V} (h:Rl R ρ top (.opt j w x) v):False:=by unfold Rl at h;exact h
theorem aA.nil':aA R ρ top [] []:=rfl
theorem aA.cons' {t:TV R.T} {ts:List (TV R.T)} {v:V} {vs:List V} (h:Rl R ρ top t v) (h':aA R ρ top ts vs):aA R ρ top (t::ts) (v::vs):=⟨v,vs,rfl,h,h'⟩
theorem aA.length:∀{ts:List (TV R.T)} {vs:List V},aA R ρ top ts vs→vs.length=ts.length
 | [],_,h=>by cases h;rfl
 |_::ts,_,⟨v,vs,e,_,h'⟩=>by subst e;simp[aA.length h']
theorem aA.append:∀{ts ts':List (TV R.T)} {vs vs':List V},aA R ρ top ts vs→aA R ρ top ts' vs'→aA R ρ top (ts++ts') (vs++vs')
 | [],_,_,_,h,h2=>by cases h;exact h2
 |_::ts,_,_,_,⟨v,vs,e,h1,h'⟩,h2=>by subst e;exact .cons' h1 (aA.append h' h2)
theorem aA.drop:∀(n:Nat) {ts:List (TV R.T)} {vs:List V},aA R ρ top ts vs→aA R ρ top (ts.drop n) (vs.drop n)
 |0,_,_,h=>by simpa using h
 |n+1,[],_,h=>by cases h;simp;rfl
 |n+1,_::ts,_,⟨v,vs,e,h1,h'⟩=>by subst e;simpa using aA.drop n h'
theorem aA.take:∀(n:Nat) {ts:List (TV R.T)} {vs:List V},aA R ρ top ts vs→aA R ρ top (ts.take n) (vs.take n)
 |0,_,_,h=>by simp;rfl
 |n+1,[],_,h=>by cases h;simp;rfl
 |n+1,_::ts,_,⟨v,vs,e,h1,h'⟩=>by subst e;simpa using .cons' h1 (aA.take n h')
theorem aA.get:∀{ts:List (TV R.T)} {vs:List V} {i:Nat} {t:TV R.T},aA R ρ top ts vs→ts[i]? =some t→∃v,vs[i]? =some v∧Rl R ρ top t v
 | [],_,_,_,_,h=>by simp at h
 |_::ts,_,0,_,⟨v,vs,e,h1,h'⟩,h=>by subst e;simp at h;subst h;exact⟨v,by simp,h1⟩
 |_::ts,_,i+1,_,⟨v,vs,e,h1,h'⟩,h=>by subst e;simpa using aA.get h' (by simpa using h)
mutual
theorem Rl.wk (t:Nat) (ho:ρ'.ob=ρ.ob∧ρ'.ln=ρ.ln∧ρ'.om=ρ.om) (ht:∀u s,u≠t→ρ.tk u=some s→ρ'.tk u=some s∧top' s=top s):∀(x:TV R.T) (v:V),Rl R ρ top x v→Rl R ρ' top' (wk t x) v
 |.aj (.own u) ty l,v,h=>by
  obtain⟨c',hv,hc⟩:=h
  unfold Aq.wk
  by_cases e:Nat.beq u t=true
  ·rw[e,cond_true];exact⟨c',hv,trivial⟩
  ·have e':Nat.beq u t=false:=Bool.eq_false_iff.2 e
   rw[e',cond_false]
   refine⟨c',hv, ?_⟩
   rcases hc with hc|hc| ⟨s,h1,h2,h3⟩
   ·exact .inl hc
   ·exact .inr (.inl hc)
   ·have hne:u≠t:=fun h=>e (by rw[h];exact Nat.beq_refl t)
    have:=ht u s hne h2
    exact .inr (.inr ⟨s,h1,this.1,by rw[this.2];exact h3⟩)
 |.aj .any ty l,v,h=>by obtain⟨c',hv,hc⟩:=h;exact⟨c',hv,trivial⟩
 |.aj .sh ty l,v,h=>by obtain⟨c',hv,hc⟩:=h;exact⟨c',hv,hc⟩
 |.aj .nil ty l,v,h=>by obtain⟨c',hv,hc⟩:=h;exact⟨c',hv,hc⟩
 |.aj .full ty l,v,h=>by obtain⟨c',hv,hc⟩:=h;exact⟨c',hv,hc⟩
 |.agg cs,v,h=>by obtain⟨l,hv,hl⟩:=h;exact⟨l,hv,aA.wk t ho ht cs l hl⟩
 |.bB cs,v,h=>by obtain⟨l,hv,hl⟩:=h;exact⟨l,hv,aA.wk t ho ht cs l hl⟩
 |.aJ cs off,v,h=>by obtain⟨l,hv,hl⟩:=h;exact⟨l,hv,aA.wk t ho ht cs l hl⟩
 |.fn f a b,v,h=>by obtain⟨a',b',hv,ha,hb⟩:=h;exact⟨a',b',hv,aA.wk t ho ht a a' ha,aA.wk t ho ht b b' hb⟩
 |.ref o off,v,h=>by obtain⟨s,h1,h2⟩:=h;exact⟨s,by rw[ho.1];exact h1,by rw[ho.2.2];exact h2⟩
 |.bK o,v,h=>by obtain⟨s,h1,h2⟩:=h;exact⟨s,by rw[ho.1];exact h1,by rw[ho.2.2];exact h2⟩
 |.vw o ty,v,h=>by
  rcases h with ⟨s,h1,h2⟩| ⟨h1,h2⟩
  ·exact .inl ⟨s,by rw[ho.1];exact h1,by rw[ho.2.1,ho.2.2];exact h2⟩
  ·exact .inr ⟨by rw[ho.2.1];exact h1,h2⟩
 |.jq o ty i off,v,h=>by obtain⟨s,h1,h2⟩:=h;exact⟨s,by rw[ho.1];exact h1,by rw[ho.2.2];exact h2⟩
 |.sv o _ _ _ _ _,v,h=>by obtain⟨s,h1,h2⟩:=h;exact⟨s,by rw[ho.1];exact h1,by rw[ho.2.2];exact h2⟩
 |.sel o _ _ _ _ _,v,h=>by obtain⟨s,h1,h2⟩:=h;exact⟨s,by rw[ho.1];exact h1,by rw[ho.2.2];exact h2⟩
 |.sg _,_,h=>h
 |.oL _ _ _ _,_,h=>h
 |.opt _ _ _,_,h=>h.elim
 |.int _ _,_,h=>h
 |.bool _,_,h=>h
 |.fT _,_,h=>h
 |.str _,_,h=>h
 |.eD,_,h=>h
 |.dX,_,h=>h
 |.dS,_,h=>h
 |.fH,_,h=>h
 |.dZ,_,h=>h
 |.dn _ _ _,_,h=>h
 |.undef,_,h=>h
 |.gone,_,h=>h
theorem aA.wk (t:Nat) (ho:ρ'.ob=ρ.ob∧ρ'.ln=ρ.ln∧ρ'.om=ρ.om) (ht:∀u s,u≠t→ρ.tk u=some s→ρ'.tk u=some s∧top' s=top s):∀(x:List (TV R.T)) (v:List V),aA R ρ top x v→aA R ρ' top' (rF t x) v
 | [],_,h=>h
 |x::xs,_,⟨v,vs,e,h1,h2⟩=>⟨v,vs,e,Rl.wk t ho ht x v h1,aA.wk t ho ht xs vs h2⟩
end
mutual
theorem Rl.kill (o:Nat) (ho:∀p,p≠o→ρ'.ob p=ρ.ob p∧ρ'.ln p=ρ.ln p) (ht:ρ'.tk=ρ.tk) (hx:ρ'.om=ρ.om):∀(x:TV R.T) (v:V),j5 o x=false→Rl R ρ top x v→Rl R ρ' top x v
 |.aj c ty l,v,_,h=>by
  obtain⟨c',hv,hc⟩:=h
  refine⟨c',hv, ?_⟩
  cases c<;>try exact hc
  rcases hc with hc|hc| ⟨s,h1,h2,h3⟩
  ·exact .inl hc
  ·exact .inr (.inl hc)
  ·exact .inr (.inr ⟨s,h1,by rw[ht];exact h2,h3⟩)
 |.agg cs,v,hm,h=>by obtain⟨l,hv,hl⟩:=h;exact⟨l,hv,aA.kill o ho ht hx cs l hm hl⟩
 |.bB cs,v,hm,h=>by obtain⟨l,hv,hl⟩:=h;exact⟨l,hv,aA.kill o ho ht hx cs l hm hl⟩
 |.aJ cs off,v,hm,h=>by obtain⟨l,hv,hl⟩:=h;exact⟨l,hv,aA.kill o ho ht hx cs l hm hl⟩
 |.fn f a b,v,hm,h=>by
  obtain⟨a',b',hv,ha,hb⟩:=h
  unfold j5 at hm
  rw[Bool.or_eq_false_iff] at hm
  exact⟨a',b',hv,aA.kill o ho ht hx a a' hm.1 ha,aA.kill o ho ht hx b b' hm.2 hb⟩
 |.ref p off,v,hm,h=>by
  obtain⟨s,h1,h2⟩:=h
  unfold j5 at hm
  exact⟨s,((ho p (fun e=>by rw[e,Nat.beq_refl] at hm;cases hm)).1.trans h1),by rw[hx];exact h2⟩
 |.bK p,v,hm,h=>by
  obtain⟨s,h1,h2⟩:=h
  unfold j5 at hm
  exact⟨s,((ho p (fun e=>by rw[e,Nat.beq_refl] at hm;cases hm)).1.trans h1),by rw[hx];exact h2⟩
 |.vw p ty,v,hm,h=>by
  unfold j5 at hm
  obtain⟨k1,k2⟩:=ho p (fun e=>by rw[e,Nat.beq_refl] at hm;cases hm)
  rcases h with ⟨s,h1,h2⟩| ⟨h1,h2⟩
  ·exact .inl ⟨s,k1.trans h1,by rw[k2,hx];exact h2⟩
  ·exact .inr ⟨by rw[k2];exact h1,h2⟩
 |.jq p ty i off,v,hm,h=>by
  obtain⟨s,h1,h2⟩:=h
  unfold j5 at hm
  exact⟨s,((ho p (fun e=>by rw[e,Nat.beq_refl] at hm;cases hm)).1.trans h1),by rw[hx];exact h2⟩
 |.sv p _ _ _ _ _,v,hm,h=>by
  obtain⟨s,h1,h2⟩:=h
  unfold j5 at hm
  exact⟨s,((ho p (fun e=>by rw[e,Nat.beq_refl] at hm;cases hm)).1.trans h1),by rw[hx];exact h2⟩
 |.sel p _ _ _ _ _,v,hm,h=>by
  obtain⟨s,h1,h2⟩:=h
  unfold j5 at hm
  exact⟨s,((ho p (fun e=>by rw[e,Nat.beq_refl] at hm;cases hm)).1.trans h1),by rw[hx];exact h2⟩
 |.sg _,_,_,h=>h
 |.oL _ _ _ _,_,_,h=>h
 |.opt _ _ _,_,_,h=>h.elim
 |.int _ _,_,_,h=>h
 |.bool _,_,_,h=>h
 |.fT _,_,_,h=>h
 |.str _,_,_,h=>h
 |.eD,_,_,h=>h
 |.dX,_,_,h=>h
 |.dS,_,_,h=>h
 |.fH,_,_,h=>h
 |.dZ,_,_,h=>h
 |.dn _ _ _,_,_,h=>h
 |.undef,_,_,h=>h
 |.gone,_,_,h=>h
theorem aA.kill (o:Nat) (ho:∀p,p≠o→ρ'.ob p=ρ.ob p∧ρ'.ln p=ρ.ln p) (ht:ρ'.tk=ρ.tk) (hx:ρ'.om=ρ.om):∀(x:List (TV R.T)) (v:List V),kX o x=false→aA R ρ top x v→aA R ρ' top x v
 | [],_,_,h=>h
 |x::xs,_,hm,⟨v,vs,e,h1,h2⟩=>by
  unfold kX at hm
  rw[Bool.or_eq_false_iff] at hm
  exact⟨v,vs,e,Rl.kill o ho ht hx x v hm.1 h1,aA.kill o ho ht hx xs vs hm.2 h2⟩
end
section
variable (hR:mh R)
include hR
def Ai (v w:V):Prop:=eU v=w∧er v=w∧aF w=true∧(∀n σ,aM (n+2) σ v=some w)∧oneCell v=true∧v.cells=[v]
omit hR in
theorem af5 {v:V} (h:∀cs,v≠ .agg cs):er v=eU v:=by cases v<;>first|rfl|exact absurd rfl (h _)
theorem ng:∀(t:Ty) (x:Den R.T t),aF (aG R t x)=true
 |.int _,x=>by simp[aG,aF]
 |.bool,x=>by simp[aG,aF]
 |.str,x=>by simp[aG,aF]
 |.slice t,x=>Dx (ng t) x
 |.st n,x=>hR.pc n x
theorem Wm (c:Cp) (hc:Ae ρ top 1 0 c .sh∧(c= .any∨c= .sh)):∀(t:Ty) (x:Den R.T t),mg t=true→Rl R ρ top (vC R c t x) (aG R t x)
 |.int _,x,_=>rfl
 |.bool,x,_=>rfl
 |.str,x,_=>rfl
 |.slice t,x,_=>⟨.sh,rfl,by rcases hc.2 with rfl|rfl<;>first|trivial|rfl⟩
 |.st n,x,h=>by simp[mg] at h
theorem Wn (c:Cp) (hc:Ae ρ top 1 0 c .sh∧(c= .any∨c= .sh)):∀(l:List Ty) (p:lK R.T l),l.all mg=true→aA R ρ top (iY R c l p) (encs R l p)
 | [],_,_=>rfl
 | [t],x,h=>.cons' (Wm hR c hc t x (by simpa using h)) rfl
 |t::u::l,p,h=>by
  rw[List.all_cons,Bool.and_eq_true] at h
  exact .cons' (Wm hR c hc t p.1 h.1) (Wn c hc (u::l) p.2 h.2)
theorem JD (c:Cp) (hc:c= .any∨c= .sh):∀(t:Ty) (x:Den R.T t),Rl R ρ top (eO R c t x) (aG R t x)
 |.int _,x=>rfl
 |.bool,x=>rfl
 |.str,x=>rfl
 |.slice t,x=>⟨.sh,rfl,by rcases hc with rfl|rfl<;>first|trivial|rfl⟩
 |.st n,x=>⟨_,hR.enc n x,Wn hR c ⟨by rcases hc with rfl|rfl<;>first|trivial|rfl,hc⟩ _ _ (hR.leaf n)⟩
theorem Wo (t:Ty) (x:Den R.T t):Rl R ρ top (eO R .sh t x) (aG R t x):=JD hR .sh (.inr rfl) t x
omit hR in
theorem af6 (k:IntKind) (n:Int):Ai (.int k n) (.int k n):=⟨rfl,rfl,by simp[aF],fun n σ=>OU (n+1) _ _,rfl,rfl⟩
omit hR in
theorem af7 (b:Bool):Ai (.bool b) (.bool b):=⟨rfl,rfl,by simp[aF],fun n σ=>OV (n+1) _,rfl,rfl⟩
omit hR in
theorem af8 (b:List UInt8):Ai (.str b) (.str b):=⟨rfl,rfl,by simp[aF],fun n σ=>OX (n+1) _,rfl,rfl⟩
theorem af9 (c:Cap) (t:Ty) (l:List (Den R.T t)):Ai (.aj c (l.map (aG R t))) (aG R (.slice t) l):=⟨rfl,rfl,ng hR (.slice _) _,fun n σ=>vo _ _ (ng hR _),rfl,rfl⟩
omit hR in
theorem PN {k:IntKind} {x:Int} {tv:TV R.T} {v:V} (h:I7 R k tv=some x) (hr:Rl R ρ top tv v):v= .int k x:=by
 unfold I7 at h
 split at h
 ·split at h
  ·rename_i e;cases e;cases h;exact hr.fC
  ·cases h
 ·cases h
omit hR in
theorem PO {x:Bool} {tv:TV R.T} {v:V} (h:I8 R tv=some x) (hr:Rl R ρ top tv v):v= .bool x:=by
 unfold I8 at h
 split at h<;>cases h
 ·exact hr.oW
 ·exact hr.qN
omit hR in
theorem PS {x:List UInt8} {tv:TV R.T} {v:V} (h:I9 R tv=some x) (hr:Rl R ρ top tv v):v= .str x:=by
 unfold I9 at h
 split at h<;>cases h
 exact hr.lq
omit hR in
theorem qc {t u:Ty} {l:List (Den R.T t)} {m:List (Den R.T u)} (h:oN R l=some m):t=u∧HEq l m:=by
 unfold oN at h
 split at h
 ·rename_i e;subst e;cases h;exact⟨rfl,HEq.rfl⟩
 ·cases h
omit hR in
theorem Wp {t:Ty} {x:List (Den R.T t)} {tv:TV R.T} {v:V} (h:wX R t tv=some x) (hr:Rl R ρ top tv v):∃c,v= .aj c (x.map (aG R t)):=by
 unfold wX at h
 split at h
 ·obtain⟨e,e2⟩:=qc h;subst e;cases e2
  obtain⟨c',hv,hc⟩:=hr.jU
  exact⟨c',hv⟩
 ·cases h;exact⟨.nil,hr.nV⟩
 ·cases h
theorem Aj {t:Ty} {x:Den R.T t} {tv:TV R.T} {v:V} (h:nP R t tv=some x) (hr:Rl R ρ top tv v):Ai v (aG R t x):=by
 cases t with
 |int k=>rw[PN h hr];exact af6 _ _
 |bool=>rw[PO h hr];exact af7 _
 |str=>rw[PS h hr];exact af8 _
 |slice t=>obtain⟨c,hv⟩:=Wp h hr;rw[hv];exact af9 hR _ _ _
 |st n=>cases h
theorem aga {t:Ty} {x:Den R.T t} {cs:List (TV R.T)} {vs:List V} (h:nP R t (hd1 R cs)=some x) (hr:aA R ρ top cs vs):∃v,vs=[v]∧Ai v (aG R t x):=by
 cases cs with
 |nil=>cases t<;>cases h
 |cons c cs=>
  cases cs with
  |nil=>
   obtain⟨v,l,rfl,h1,h2⟩:=hr.dJ
   rw[h2.eT]
   exact⟨v,rfl,Aj hR h h1⟩
  |cons c' cs=>cases t<;>cases h
theorem Wq:∀(l:List Ty) (p:lK R.T l) (cs:List (TV R.T)) (vs:List V),vD R l cs=some p→aA R ρ top cs vs→
 vs.map eU=encs R l p∧(∀n σ,vs.mapM (aM (n+2) σ)=some (encs R l p))∧aQ (encs R l p)=true∧vs.all (fun v=>oneCell v)=true
 | [],p,cs,vs,h,hr=>by
   cases cs with
   |nil=>rw[hr.eT];exact⟨rfl,fun _ _=>rfl,by simp[encs,aQ],rfl⟩
   |cons c cs=>cases h
 | [t],p,cs,vs,h,hr=>by
   obtain⟨v,rfl,a,b,c,d,e,_⟩:=aga hR (show nP R t (hd1 R cs)=some p from h) hr
   exact⟨by simp[encs,a],fun n σ=>by simp[encs,d],by simp[encs,aQ,c],by simp[e]⟩
 |t::u::l,p,cs,vs,h,hr=>by
  cases cs with
  |nil=>cases h
  |cons c cs=>
   obtain⟨v,vs,rfl,h1,h2⟩:=hr.dJ
   unfold vD at h
   cases hu:nP R t c with
   |none=>simp only[hu] at h;cases h
   |some y=>
    cases hs:vD R (u::l) cs with
    |none=>simp only[hu,hs] at h;cases h
    |some q=>
     simp only[hu,hs] at h
     obtain rfl:=Option.some.inj h
     obtain⟨a,b,c,d,e,_⟩:=Aj hR hu h1
     obtain⟨a',d',c',o'⟩:=Wq (u::l) q cs vs hs h2
     exact⟨by simp[encs,a,a'],fun n σ=>by simp[encs,d,d'],by simp[encs,aQ,c,c'],by simp[e,o']⟩
omit hR in
theorem PU:∀(l:List Ty) (p:lK R.T l),(encs R l p).length=l.length
 | [],_=>rfl
 | [_],_=>rfl
 |_::u::l,p=>by show (encs R (u::l) p.2).length+1=_;rw[PU];rfl
omit hR in
theorem PV {n:Nat} {σ:ah} (cs:List V):aM (n+3) σ (.agg cs)=(cs.mapM (aM (n+2) σ)).map .agg:=by
 by_cases hp:aF (.agg cs)=true
 ·rw[jo hp]
  have:∀cs:List V,aQ cs=true→cs.mapM (aM (n+2) σ)=some cs:=by
   intro cs
   induction cs with
   |nil=>intro _;rfl
   |cons a l ih=>
    intro h
    simp only[aQ,Bool.and_eq_true] at h
    rw[List.mapM_cons,jo h.1,ih h.2];rfl
  rw[this cs (by simpa [aF] using hp)];rfl
 ·conv=>lhs;unfold aM
  simp only[hp,if_false,Bool.false_eq_true]
theorem PW {t:Ty} {x:Den R.T t} {tv:TV R.T} {v:V} (h:mR R t tv=some x) (hr:Rl R ρ top tv v):
 er v=aG R t x∧aF (aG R t x)=true∧(∀n σ,aM (n+3) σ v=some (aG R t x))∧v.cells.length=cB R t∧bg v.cells=true:=by
 cases t with
 |st n=>
  change wY R n tv=some x at h
  unfold wY at h
  split at h
  ·rename_i cs
   split at h
   ·rename_i p hp
    obtain rfl:=Option.some.inj h
    obtain⟨l,hv,hl⟩:=hr.jH
    subst hv
    obtain⟨a,d,c,o⟩:=Wq hR _ _ _ _ hp hl
    have he:aG R (.st n) (R.to n p)= .agg (encs R (R.lf n) p):=by
     show R.enc n (R.to n p)=_
     rw[hR.enc,hR.DY]
    refine⟨?_,ng hR (.st n) _,fun k σ=> ?_, ?_,o⟩
    ·rw[he];show V.agg (l.map eU)=_;rw[a]
    ·rw[he,PV,d k σ];rfl
    ·show l.length=_
     have:=congrArg List.length a
     rw[List.length_map] at this
     rw[this];exact PU _ _
   ·cases h
  ·cases h
 |int k=>
  obtain⟨a,b,c,d,e,f⟩:=Aj hR (t:=.int k) h hr
  exact⟨b,c,fun n σ=>d (n+1) σ,by rw[f];rfl,by rw[f];simp[bg,e]⟩
 |bool=>
  obtain⟨a,b,c,d,e,f⟩:=Aj hR (t:=.bool) h hr
  exact⟨b,c,fun n σ=>d (n+1) σ,by rw[f];rfl,by rw[f];simp[bg,e]⟩
 |str=>
  obtain⟨a,b,c,d,e,f⟩:=Aj hR (t:=.str) h hr
  exact⟨b,c,fun n σ=>d (n+1) σ,by rw[f];rfl,by rw[f];simp[bg,e]⟩
 |slice t=>
  obtain⟨a,b,c,d,e,f⟩:=Aj hR (t:=.slice t) h hr
  exact⟨b,c,fun n σ=>d (n+1) σ,by rw[f];rfl,by rw[f];simp[bg,e]⟩
end
end
end Aq
end
