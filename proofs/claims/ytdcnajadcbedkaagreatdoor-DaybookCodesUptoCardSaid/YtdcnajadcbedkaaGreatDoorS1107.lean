/- Part of the proof of a law. -/
import Derived.Test.YtdcnajadcbedkaaGreatDoorS1106
set_option linter.all false
set_option linter.unusedSimpArgs false
set_option linter.unusedSectionVars false
section
namespace Aq
open Go
inductive dA (R:gM) where
 |t (v:TV R.T)
 |c (b:Bool) (v:TV R.T)
 |w (v:TV R.T) (st:MS R.T)
 |wc (b:Bool) (v:TV R.T) (st:MS R.T)
 |p (α:Type) (d:α) (o:Option α) (f:α→TV R.T)
section
variable (E:Env) (R:gM)
def Iu {T:Nat→Type} (agg:Bool) (n:Nat) (cs:List (TV T)) (off:Nat):Option (TV T):=
 bif agg then (bif Nat.ble (off+n) cs.length then some (.agg ((cs.drop off).take n)) else none) else cs[off]?
def jZ {T:Nat→Type} (t:TypeId) (cs:List (TV T)) (off:Nat):Option (TV T):=
 match gH E.P t with
 |some a=>match bC E.P t with
  |some n=>Iu a n cs off
  |none=>none
 |none=>none
def Az {T:Nat→Type} (cs:List (TV T)) (off:Nat) (vs:List (TV T)):List (TV T):=cs.take off++vs++cs.drop (off+vs.length)
def Iw {T:Nat→Type} (place:Nat→Option (Nat×Nat)) (cells:List (TV T)):List (Nat×TV T)→Option (List (TV T))
 | []=>some cells
 | (i,v)::rest=>match place i with
   |none=>none
   |some (off,size)=>bif Nat.beq v.cells.length size&& Nat.ble (off+size) cells.length&& wF v then Iw place (Az cells off v.cells) rest else none
def uX {T:Nat→Type} (t:TypeId):Option (TV T):=match E.P.info? t with
 |some i=>match i.zero with
  |some z=>Ao z
  |none=>none
 |none=>none
def bM {T:Nat→Type}:TV T→Option Bool
 |.bool a=>some a
 |.gy a=>some a
 |_=>none
def Iy {T:Nat→Type} (x y:TV T):Option Bool:=match bM x,bM y with
 |some a,some b=>some (a==b)
 |_,_=>none
def AA {T:Nat→Type} (eq:TypeId→TV T→TV T→Option Bool) (xs ys:List (TV T)):List Field→Option Bool
 | []=>some true
 |f::fs=>if f.name= "_" then AA eq xs ys fs else
  match jZ E f.type xs f.offset with
  |none=>none
  |some a=>match jZ E f.type ys f.offset with
   |none=>none
   |some b=>match eq f.type a b with
    |none=>none
    |some r=>match AA eq xs ys fs with
     |none=>none
     |some q=>some (r&& q)
def D9 {T:Nat→Type} (eq:TypeId→TV T→TV T→Option Bool) (e:TypeId) (sz:Nat) (xs ys:List (TV T)):List Nat→Option Bool
 | []=>some true
 |i::is=>match jZ E e xs (i*sz) with
  |none=>none
  |some a=>match jZ E e ys (i*sz) with
   |none=>none
   |some b=>match eq e a b with
    |none=>none
    |some r=>match D9 eq e sz xs ys is with
     |none=>none
     |some q=>some (r&& q)
def AB {T:Nat→Type}:Nat→TypeId→TV T→TV T→Option Bool
 |0,_,_,_=>none
 |d+1,t,x,y=>
  match E.P.underlying t,x,y with
  |some (.struct fs),.agg xs,.agg ys=>if E.P.stoodInHeld t then none else AA E (AB d) xs ys fs.toList
  |some (.array n e),.agg xs,.agg ys=>match bC E.P e with
   |some sz=>D9 E (AB d) e sz xs ys (List.range n)
   |none=>none
  |some (.struct _),_,_=>none
  |some (.array _ _),_,_=>none
  |some .bool,x,y=>Iy x y
  |some (.int _),.int k a,.int k' b=>if k=k' then some (a==b) else none
  |some .string,.str a,.str b=>some (a==b)
  |_,_,_=>none
def Iz {T:Nat→Type} (t:TypeId) (x y:TV T):Option Bool:=
 match E.P.underlying t,x,y with
 |some (.struct _),.agg a,.agg b=>if E.P.eqGuardType E.P.depth t then none else AB E 8 t (.agg a) (.agg b)
 |some (.array _ _),.agg a,.agg b=>if E.P.eqGuardType E.P.depth t then none else AB E 8 t (.agg a) (.agg b)
 |some (.func ..),.eB,.eB=>some true
 |some (.func ..),.eB,.fn _ _ _=>some false
 |some (.func ..),.fn _ _ _,.eB=>some false
 |some .bool,x,y=>Iy x y
 |_,_,_=>none
def IB (op:BinOp) (k:IntKind) (x y:Int):Option (dA R):=
 match op with
 |.add=>some (.t (.int k (k.wrap (x+y))))
 |.sub=>some (.t (.int k (k.wrap (x-y))))
 |.mul=>some (.t (.int k (k.wrap (x*y))))
 |.quo=>some (.c (!(y==0)) (.int k (k.wrap (x.tdiv y))))
 |.rem=>some (.c (!(y==0)) (.int k (x.tmod y)))
 |.and=>some (.t (.int k (k.wrap (BitVec.ofInt k.bits x&&& BitVec.ofInt k.bits y).toNat)))
 |.or=>some (.t (.int k (k.wrap (BitVec.ofInt k.bits x|||BitVec.ofInt k.bits y).toNat)))
 |.xor=>some (.t (.int k (k.wrap (BitVec.ofInt k.bits x^^^BitVec.ofInt k.bits y).toNat)))
 |.andNot=>some (.t (.int k (k.wrap (BitVec.ofInt k.bits x&&& ~~~BitVec.ofInt k.bits y).toNat)))
 |.eql=>some (.t (.bool (x==y)))
 |.neq=>some (.t (.bool (x !=y)))
 |.lss=>some (.t (.bool (decide (x<y))))
 |.leq=>some (.t (.bool (decide (x≤y))))
 |.gtr=>some (.t (.bool (decide (x>y))))
 |.geq=>some (.t (.bool (decide (x≥y))))
 |_=>none
def NK (op:BinOp) (k:IntKind) (x y:Int):Option (dA R):=
 match op with
 |.shl=>some (.c (decide (0≤y)) (.int k (k.wrap (x*2^min y.toNat k.bits))))
 |.shr=>some (.c (decide (0≤y)) (.int k (x.fdiv (2^min y.toNat k.bits))))
 |_=>none
def NM (op:BinOp) (x y:List UInt8):Option (dA R):=
 match op with
 |.add=>some (.c (decide (((x.length+y.length:Nat):Int)≤IntKind.i64.max)) (.str (x++y)))
 |.eql=>some (.t (.bool (x==y)))
 |.neq=>some (.t (.bool (!(x==y))))
 |.lss=>some (.t (.bool (Op.bytesLess x y)))
 |.leq=>some (.t (.bool (Op.bytesLess x y||x==y)))
 |.gtr=>some (.t (.bool (!(Op.bytesLess x y||x==y))))
 |.geq=>some (.t (.bool (!(Op.bytesLess x y))))
 |_=>none
def AJ:BinOp→Bool
 |.shl=>true
 |.shr=>true
 |_=>false
def NP (op:BinOp) (t:TypeId) (x y:TV R.T):Option (dA R):=
 match x,y with
 |.int k a,.int k' b=>bif AJ op then NK R op k a b else (if k=k' then IB R op k a b else none)
 |.str a,.str b=>NM R op a b
 |x,y=>match op with
  |.eql=>match Iz E t x y with
   |some b=>some (.t (.bool b))
   |none=>none
  |.neq=>match Iz E t x y with
   |some b=>some (.t (.bool (!b)))
   |none=>none
  |_=>none
def NR (op:UnOp) (x:TV R.T):Option (dA R):=
 match op,x with
 |.neg,.int k n=>some (.t (.int k (k.wrap (0-n))))
 |.xor,.int k n=>IB R .xor k (if k.signed then-1 else k.max) n
 |.not,.bool b=>some (.t (.bool (!b)))
 |.not,.gy b=>some (.t (.gy (!b)))
 |_,_=>none
def IC (src dst:TypeId) (x:TV R.T):Option (dA R):=
 match E.P.underlying src,E.P.underlying dst,x with
 |some _,some (.int k),.int _ n=>some (.t (.int k (k.wrap n)))
 |some _,some .string,.str s=>some (.t (.str s))
 |some _,some (.slice e),.str s=>match E.P.underlying e with
  |some (.int .u8)=>some (.t (.aj .any (.int .u8) (s.map fun b=>((b.toNat:Nat):Int))))
  |_=>none
 |some (.slice e),some .string,.aj _ (.int .u8) l=>match E.P.underlying e with
  |some (.int .u8)=>some (.t (.str (List.map (fun n:Int=>UInt8.ofNat n.toNat) l)))
  |_=>none
 |some (.slice e),some .string,.dN=>match E.P.underlying e with
  |some (.int .u8)=>some (.t (.str []))
  |_=>none
 |_,_,_=>none
def fB (i:Int) (n:Nat):Bool:=decide (0≤i∧i≤n)
def AL:Option (TV R.T)→Option (Option Int)
 |none=>some none
 |some (.int _ n)=>some (some n)
 |_=>none
def oC {α:Type} (l:List α):Option Int→Option Int→List α
 |none,none=>l
 |some i,none=>l.drop i.toNat
 |none,some j=>l.take j.toNat
 |some i,some j=>(l.take j.toNat).drop i.toNat
def NS (n:Nat):Option Int→Option Int→Bool
 |none,none=>true
 |some i,none=>fB i n
 |none,some j=>fB j n
 |some i,some j=>fB j n&& fB i j.toNat
def wI (t:TypeId) (x:TV R.T) (lo hi:Option (TV R.T)):Option (dA R):=
 match AL R lo,AL R hi with
 |some lo,some hi=>match E.P.underlying t,x with
  |some .string,.str s=>some (.c (NS s.length lo hi) (.str (oC s lo hi)))
  |some (.slice e),.aj _ u l=>match bC E.P e with
   |some sz=>bif Nat.beq sz (bI R u) then some (.c (NS l.length lo hi) (.aj .any u (oC l lo hi))) else none
   |none=>none
  |_,_=>none
 |_,_=>none
def Uf {T:Nat→Type} (t:TypeId) (f:Nat) (x:TV T):Option (TV T):=
 match mo E.P t f with
 |some (o,_)=>match x with
  |.ref p off=>some (.ref p (off+o))
  |.aK cs off=>some (.aK cs (off+o))
  |.jB p t i off=>some (.jB p t i (off+o))
  |_=>none
 |none=>none
def kM (R:gM):(t:Ty)→Den R.T t→Den R.T t→Bool
 |.int _=>fun (a b:Int)=>a==b
 |.bool=>fun (a b:Bool)=>a==b
 |.str=>fun (a b:List UInt8)=>a==b
 |.slice _=>fun _ _=>false
 |.st _=>fun _ _=>false
def uY (t:TypeId) (k:Ty):Bool:=match E.P.underlying t,k with
 |some (.int _),.int _=>true
 |some .string,.str=>true
 |some .bool,.bool=>true
 |_,_=>false
def xX {α β:Type} (eq:α→α→Bool) (x:α):List (α×β)→Option β
 | []=>none
 | (a,v)::m=>bif eq x a then some v else xX eq x m
def wJ {α β:Type} (eq:α→α→Bool) (x:α) (v:β):List (α×β)→List (α×β)
 | []=>[(x,v)]
 | (a,w)::m=>bif eq x a then (x,v)::m else (a,w)::wJ eq x v m
def Ug {α:Type} (d:α):Option α→α
 |some x=>x
 |none=>d
def Uh (t:Ty) (v:TV R.T):Option (Den R.T t):=bif jK v then nD R t v else none
def Ea (t:TypeId) (k e:Ty) (m:List (Den R.T k×Den R.T e)) (x:TV R.T) (ok:Bool):Option (dA R):=
 match qY E.P t with
 |some (kt,et)=>bif uY E kt k then (match uX (T:=R.T) E et with
  |some z=>match nD R e z,nD R k x with
   |some z,some x=>some (.t (bif ok then .bg [eZ R .any e (Ug z (xX (kM R k) x m)),.bool (xX (kM R k) x m).isSome] else eZ R .any e (Ug z (xX (kM R k) x m))))
   |_,_=>none
  |none=>none) else none
 |none=>none
def IE (t:TypeId) (m x:TV R.T) (ok:Bool) (st:MS R.T):Option (dA R):=
 match m with
 |.bD o=>match lH st o with
  |some (.map k e m)=>Ea E R t k e m x ok
  |_=>none
 |.bV k e m=>Ea E R t k e m x ok
 |.dU=>match qY E.P t with
  |some (kt,et)=>match R.ty kt,R.ty et with
   |some k,some e=>Ea E R t k e [] x ok
   |_,_=>none
  |none=>none
 |_=>none
def IG {T:Nat→Type}:TV T→TV T→Option Bool
 |.int k a,.int k' b=>if k=k' then some (a==b) else none
 |.str a,.str b=>some (a==b)
 |_,_=>none
def II {T:Nat→Type} (t:TypeId):TV T→Bool:=fun v=>match E.P.underlying t,v with
 |some (.int _),.int _ _=>true
 |some .string,.str _=>true
 |_,_=>false
def IJ {T:Nat→Type} (x v:TV T):List (TV T)→List (TV T)→Option (List (TV T)×List (TV T))
 | [],[]=>some ([x],[v])
 |a::ks,w::vs=>match IG x a with
  |some b=>bif b then some (x::ks,v::vs) else (match IJ x v ks vs with
   |some (ks,vs)=>some (a::ks,w::vs)
   |none=>none)
  |none=>none
 |_,_=>none
def AO (t:TypeId) (m x v:TV R.T) (st:MS R.T):Option (dA R):=
 match m with
 |.bD o=>match look st.ob o with
  |some (.map k e m)=>match qY E.P t with
   |some (kt,_)=>bif uY E kt k then (match nD R k x,Uh R e v with
    |some x,some v=>some (.w .undef (st.set o (.map k e (wJ (kM R k) x v m))))
    |_,_=>none) else none
   |none=>none
  |some (.smap ks vs)=>match qY E.P t with
   |some (kt,_)=>bif II E kt x then (match IJ x v ks vs with
    |some (ks,vs)=>some (.w .undef (st.set o (.smap ks vs)))
    |none=>none) else none
   |none=>none
  |_=>none
 |_=>none
def gP:Ty→Bool
 |.st _=>true
 |_=>false
def AP (t:TypeId):Option (TypeId×Ty×Nat×Nat):=
 match iw E.P t with
 |some e=>match R.ty e,bC E.P e,nU E.P e,gH E.P e,fZ E.P e with
  |some u,some sz,some bY,some ag,some z=>bif Nat.beq sz (bI R u)&& Nat.blt 0 sz&& (ag||Nat.beq sz 1)&& Nat.beq z.cells.length sz&& (ag==gP u) then some (e,u,sz,bY) else none
  |_,_,_,_,_=>none
 |none=>none
def wK (t:Ty) (n:Nat):List (Nat×TV R.T)→Option (List (Den R.T t))
 | []=>some []
 | (i,v)::l=>bif Nat.beq i n then (match nD R t v with
   |some x=>match wK t (n+1) l with
    |some y=>some (x::y)
    |none=>none
   |none=>none) else none
def NT (t:TypeId) (len:Nat) (ps:List (Nat×TV R.T)):Option (dA R):=
 match AP E R t with
 |some (_,u,sz,_)=>bif Nat.ble (len*sz) (2^24)&& Nat.beq ps.length len then (match wK R u 0 ps with
  |some l=>some (.t (.aj .full u l))
  |none=>none) else none
 |none=>none
def Eb (u:Ty):TV R.T→Option (List (Den R.T u))
 |.aj _ _ l=>pF R l
 |.dN=>some []
 |.str s=>pF (t:=.int .u8) (u:=u) R (s.map fun b=>((b.toNat:Nat):Int))
 |_=>none
def Ui (u:Ty) (d:Nat):TV R.T→Option (Nat×List (Den R.T u))
 |.aj .nil _ l=>match pF R l with
  |some l=>some (d,l)
  |none=>none
 |.aj .full _ l=>match pF R l with
  |some l=>some (d,l)
  |none=>none
 |.aj (.own t) _ l=>match pF R l with
  |some l=>some (t,l)
  |none=>none
 |.dN=>some (d,[])
 |_=>none
def AQ (t:TypeId):Bool:=match E.P.underlying t with
 |some (.slice _)=>true
 |some .string=>true
 |_=>false
def Ec (d:Option Nat) (t u:TypeId) (x y:TV R.T) (st:MS R.T):Option (dA R):=
 match d with
 |some d=>match AP E R t with
  |some (_,τ,_,bY)=>bif AQ E u then (match Ui R τ d x,Eb R τ y with
   |some (tk,l),some l'=>some (.wc (bX (l.length+l'.length) bY) (.aj (.own tk) τ (l++l')) (st.wk tk))
   |_,_=>none) else none
  |none=>none
 |none=>none
def Ed (d:Option Nat) (t u:TypeId) (x y:TV R.T) (st:MS R.T):Option (dA R):=
 match d with
 |some d=>match AP E R t with
  |some (_,τ,_,bY)=>bif AQ E u then (match Eb R τ y with
   |some l'=>match x with
    |.vw o τ0=>if τ0=τ then (match look st.ob o with
     |some (.arr τ' l)=>match l',pF R (u:=τ) l with
      |a::l',some l=>some (.wc (bX (l.length+(a::l').length) bY) (.vw d τ) ((st.del o).new d (.arr τ (l++a::l'))))
      |_,_=>none
     |_=>none) else none
    |x=>bif Ay x then some (.wc (bX l'.length bY) (.vw d τ) (st.new d (.arr τ l'))) else none
   |none=>none) else none
  |none=>none
 |none=>none
def NU (om:Bool) (d:Option Nat) (t:TypeId) (n m:TV R.T) (st:MS R.T):Option (dA R):=
 match d,AP E R t,n,m with
 |some d,some (e,τ,_,bY),.int _ n,.int _ m=>match uX (T:=R.T) E e with
  |some z=>match nD R τ z with
   |some z=>bif om then some (.wc (decide (0≤n∧n=m∧m≤2^47)&& bX m.toNat bY) (.vw d τ) (st.new d (.arr τ (List.replicate n.toNat z))))
    else some (.wc (decide (n=0∧0≤m∧m≤2^47)&& bX m.toNat bY) (.aj (.own d) τ []) (st.wk d))
   |none=>none
  |none=>none
 |_,_,_,_=>none
def AU {T:Nat→Type} (mx:Bool):TV T→List (TV T)→Option (TV T)
 |x,[]=>some x
 |.int k a,.int k' b::l=>if k=k' then AU mx (.int k (bif mx then imax a b else NA a b)) l else none
 |_,_=>none
def NV {T:Nat→Type} (t:TypeId) (x:TV T) (st:MS T):Option Nat:=
 match E.P.underlying t,x with
 |some (.slice _),.aj _ _ l=>some l.length
 |some (.slice _),.dN=>some 0
 |some (.slice _),.vw o _=>match lH st o with
  |some (.arr _ l)=>some l.length
  |_=>none
 |some .string,.str s=>some s.length
 |some (.map _ _),.bD o=>match lH st o with
  |some (.map _ _ m)=>some m.length
  |_=>none
 |some (.map _ _),.bV _ _ m=>some m.length
 |some (.map _ _),.dU=>some 0
 |some (.array n _),_=>some n
 |_,_=>none
def blt (om:Bool) (d:Option Nat) (b:Builtin) (tys:Array TypeId) (args:List (TV R.T)) (st:MS R.T):Option (dA R):=
 match b,args with
 |.len,[x]=>match tys[0]? with
  |some t=>match NV E t x st with
   |some n=>some (.t (.int .i64 ((n:Nat):Int)))
   |none=>none
  |none=>none
 |.append,[x,y]=>match tys[0]?,tys[1]? with
  |some t,some u=>bif om then Ed E R d t u x y st else Ec E R d t u x y st
  |_,_=>none
 |.min,x::l=>match AU false x l with
  |some v=>some (.t v)
  |none=>none
 |.max,x::l=>match AU true x l with
  |some v=>some (.t v)
  |none=>none
 |_,_=>none
def Uj:List (TV R.T)→TV R.T
 | [v]=>v
 |vs=>.bg vs
def findF (args bQ:List (TV R.T)):List (FR R)→Option (dA R)
 | []=>none
 |r::l=>match fF R r.args bQ with
  |some p=>bif gZ r.args&& Nat.ble (nH r.args) 18&& gZ r.res&& (wG args||Au r.res) then some (.p (aJ R.T r.res) r.d (r.F p) fun x=>Uj R (iC R .sh r.res x)) else none
  |none=>findF args bQ l
def NW (t:TypeId) (x i:TV R.T):Option (dA R):=
 match E.P.underlying t,x,i with
 |some (.slice e),.aj _ u l,.int _ n=>match bC E.P e with
  |some sz=>bif Nat.beq sz (bI R u) then some (.p (Den R.T u) (Ak R u) (aQ l n) fun y=>.aK (eZ R .sh u y).cells 0) else none
  |none=>none
 |some (.array n e),.ref o off,.int _ k=>match bC E.P e with
  |some sz=>some (.c (decide (0≤k∧k<n)) (.ref o (off+k.toNat*sz)))
  |none=>none
 |some (.array n e),.aK cs off,.int _ k=>match bC E.P e with
  |some sz=>some (.c (decide (0≤k∧k<n)) (.aK cs (off+k.toNat*sz)))
  |none=>none
 |_,_,_=>none
def NY (t:TypeId) (o:Nat) (τ:Ty) (i:TV R.T) (st:MS R.T):Option (dA R):=
 match E.P.underlying t,i with
 |some (.slice e),.int _ n=>match bC E.P e with
  |some sz=>bif Nat.beq sz (bI R τ) then (match lH st o with
   |some (.arr _ l)=>some (.c (decide (0≤n∧n< ((l.length:Nat):Int))) (.jB o τ n 0))
   |_=>none) else none
  |none=>none
 |_,_=>none
def ad3 {T:Nat→Type}:Option (TV T)→TV T
 |some v=>v
 |none=>.gone
def NZ (t:TypeId) (τ:Ty) (i:Int) (off:Nat) (o:Ob R.T):Option (dA R):=
 match o with
 |.arr τ' l=>match pF R (u:=τ) l with
  |some l=>bif (jZ E t (eZ R .any τ (Ak R τ)).cells off).isSome then some (.p (Den R.T τ) (Ak R τ) (aQ l i) fun y=>ad3 (jZ E t (eZ R .any τ y).cells off)) else none
  |none=>none
 |_=>none
def N7 (τ:Ty) (cs:List (TV R.T)):Option (Den R.T τ):=match τ with
 |.st n=>xS R n (.agg cs)
 |.int k=>ou R (.int k) (hd1 R cs)
 |.bool=>ou R .bool (hd1 R cs)
 |.str=>ou R .str (hd1 R cs)
 |.slice t=>ou R (.slice t) (hd1 R cs)
def N8 (t:TypeId) (x i:TV R.T):Option (dA R):=
 match E.P.underlying t,x,i with
 |some .string,.str s,.int _ n=>some (.p UInt8 0 (aQ s n) fun b=>.int .u8 ((b.toNat:Nat):Int))
 |_,_,_=>none
def AV {T:Nat→Type} (c:Bool):TV T→TV T→Option (TV T)
 |.int k a,.int k' b=>if k=k' then some (.int k (bif c then a else b)) else none
 |.bool a,.bool b=>some (.bool (bif c then a else b))
 |.bool a,.gy b=>some (.bool (bif c then a else b))
 |.gy a,.bool b=>some (.bool (bif c then a else b))
 |.gy a,.gy b=>some (.bool (bif c then a else b))
 |.str a,.str b=>some (.str (bif c then a else b))
 |_,_=>none
def Uk (P:Program):Nat→TypeId→Option (List iX)
 |0,_=>none
 |n+1,t=>match P.underlying t with
  |some (.int k)=>some [.i k]
  |some (.array m e)=>match P.underlying e with
   |some (.int k)=>some [.a k m]
   |_=>none
  |some (.struct fs)=>fs.toList.foldr (fun f acc=>match Uk P n f.type,acc with
   |some a,some b=>some (a++b)
   |_,_=>none) (some [])
  |_=>none
def Ul:List iX→Bool
 | []=>false
 |.a _ _::_=>true
 |_::l=>Ul l
def Um (t:TypeId):Option (List iX):=match R.ty t with
 |some _=>none
 |none=>match Uk E.P 4 t with
  |some ks=>bif Ul ks then some ks else none
  |none=>none
def Sg.sk:Sg→iX
 |.i k _=>.i k
 |.a k n _=>.a k n
def IK:iX→Sg
 |.i k=>.i k 0
 |.a k n=>.a k n (Vec.rep n 0)
def xY {T:Nat→Type} (k:IntKind):List (TV T)→Bool
 | []=>true
 |.int k' x::l=>(if k'=k then (if x=0 then true else false) else false)&& xY k l
 |_=>false
def AX {T:Nat→Type}:List iX→List (TV T)→Bool
 | [],[]=>true
 |.i k::l,v::vs=>xY k [v]&& AX l vs
 |.a k n::l,vs=>Nat.ble n vs.length&& xY k (vs.take n)&& AX l (vs.drop n)
 |_,_=>false
def wL {T:Nat→Type}:List iX→List (TV T)→Option (List Sg)
 | [],[]=>some []
 |.i k::l,.int k' x::vs=>if k'=k then (match wL l vs with
  |some r=>some (.i k x::r)
  |none=>none) else none
 |.a k n::l,vs=>match wD k (vs.take n) with
  |some xs=>bif Nat.beq xs.length n then (match wL l (vs.drop n) with
   |some r=>some (.a k n (Vec.lit n xs)::r)
   |none=>none) else none
  |none=>none
 |_,_=>none
def Ee {T:Nat→Type}:List Sg→List (TV T)
 | []=>[]
 |.i k x::l=>.int k x::Ee l
 |.a k n v::l=>(List.range n).map (fun j=>TV.int k (v.nth j))++Ee l
def AY:List iX→List iX→Bool
 | [],[]=>true
 |.i k::l,.i k'::l'=>(if k=k' then true else false)&& AY l l'
 |.a k n::l,.a k' n'::l'=>(if k=k' then true else false)&& Nat.beq n n'&& AY l l'
 |_,_=>false
def IL {T:Nat→Type} (ks:List iX):TV T→Option (List Sg)
 |.sg ss=>bif AY ks (ss.map Sg.sk) then some ss else none
 |.agg cs=>wL ks cs
 |.int k x=>match ks with
  | [.i k']=>if k'=k then some [.i k x] else none
  |_=>none
 |_=>none
def IQ (t:TypeId) (ss:List Sg) (off:Nat):Option (TV R.T):=
 match nG ss off,bC E.P t,gH E.P t with
 |some (_,rest),some sz,some ag=>match nG rest sz with
  |some (mid,_)=>bif ag then (match R.ty t with
   |none=>some (.sg mid)
   |some _=>some (.agg (Ee mid))) else (match mid with
   | [.i k x]=>some (.int k x)
   |_=>none)
  |none=>none
 |_,_,_=>none
def N9 (t:TypeId) (k:IntKind) (m:Nat) (n:Nat) (v:Vec n) (i:Int):Option (TV R.T):=
 match oP E.P t,bC E.P t,gH E.P t with
 |some (m',e),some sz,some true=>bif Nat.beq m' m&& Nat.beq sz m then (match R.ty t with
  |none=>some (.sg [.a k m (v.slc i m)])
  |some _=>some (.agg ((List.range m).map fun j=>.int k (v.nth (i.toNat+j))))) else none
 |_,_,_=>none
def oD (t:TypeId):Bool:=match bC E.P t,gH E.P t with
 |some sz,some ag=>Nat.beq sz 1&& !ag
 |_,_=>false
def IU (k:IntKind):List V→List Int→Bool
 | [],[]=>true
 |.int k' x::l,y::m=>(if k'=k then (if x=y then true else false) else false)&& IU k l m
 |_,_=>false
def IW (g:Nat) (t:TypeId):Option ((k:IntKind)×(n:Nat)×Vec n):=
 match E.glob g,R.gl g,oP E.P t,bC E.P t,gH E.P t with
 |some cs,some ⟨k,n,v⟩,some (m,e),some sz,some ag=>bif ag&& Nat.beq m n&& Nat.beq sz n&& oD E e&& IU k cs v.l then some ⟨k,n,v⟩ else none
 |_,_,_,_,_=>none
def dQ (i:Int) (n:Nat):Bool:=decide (0≤i∧i<n)
def l6 (n:Nat):Option Int→Option Int→Bool
 |none,none=>true
 |some i,none=>decide (0≤i∧(i<n∨i=0))
 |none,some j=>decide (0≤j∧j≤n)
 |some i,some j=>decide (0≤i∧i≤j∧j≤n∧(i<j∨i=0))
def cO:Option Int→Int
 |some i=>i
 |none=>0
def fu (n:Nat):Option Int→Int
 |some i=>i
 |none=>n
def wM (t:TypeId) (x:TV R.T) (lo hi:Option (TV R.T)) (st:MS R.T):Option (dA R):=
 match x,AL R lo,AL R hi,oP E.P t with
 |.ref o off,some lo,some hi,some (n,e)=>bif oD E e then (match lH st o with
  |some (.sg ss)=>match nG ss off with
   |some (_,.a k n' _::_)=>bif Nat.beq n' n then some (.c (l6 n lo hi) (.sv o off k n lo hi)) else none
   |_=>none
  |some (.cells cs)=>match (cs.drop off) with
   |.int k _::_=>bif Nat.ble (off+n) cs.length then some (.c (l6 n lo hi) (.sv o off k n lo hi)) else none
   |_=>none
  |_=>none) else none
 |.aK cs off,some none,some none,some (n,e)=>bif oD E e&& Nat.ble (off+n) cs.length then (match cs with
  |.int k _::_=>match wD k cs with
   |some l=>some (.t (.aj .any (.int k) ((l.drop off).take n)))
   |none=>none
  |_=>none) else none
 |_,_,_,_=>none
def Un (d:Option Nat):Bool:=match d with
 |some d=>E.own F0 d
 |none=>false
def Uo (k:IntKind) (m:Nat) (l:List Int):List (TV R.T):=(List.range m).map fun j=>.int k (l.getD j 0)
def oF (g:List (Nat×Bool)) (d:Option Nat) (o:Op) (st:MS R.T):Option (dA R):=
 match o with
 |.alloc t=>match d,Um E R t,uX (T:=R.T) E t with
  |some d,some ks,some (.agg cs)=>bif AX ks cs then some (.w (.ref d 0) (st.new d (.sg (ks.map IK)))) else none
  |_,_,_=>none
 |.box t x=>bif E.tN t then none else match d,Um E R t,aZ g st x with
  |some d,some ks,some v=>match IL ks v with
   |some ss=>some (.w (.ref d 0) (st.new d (.sg ss)))
   |none=>none
  |_,_,_=>none
 |.load t a=>match a with
  |.global gl=>match IW E R gl t with
   |some ⟨k,n,v⟩=>some (.t (.sg [.a k n v]))
   |none=>none
  |a=>match aZ g st a with
   |some (.ref o off)=>match lH st o with
    |some (.sg ss)=>match IQ E R t ss off with
     |some v=>some (.t v)
     |none=>none
    |_=>none
   |some (.sel o off k n i m)=>match lH st o with
    |some (.sg ss)=>match nG ss off with
     |some (_,.a k' n' v::_)=>if k'=k then (bif Nat.beq n' n then (bif Nat.beq m 1&& oD E t then some (.t (.int k (v.at' i))) else (match N9 E R t k m n' v i with
      |some v=>some (.t v)
      |none=>none)) else none) else none
     |_=>none
    |_=>none
   |some (.pz k n v i)=>bif oD E t then some (.t (.int k (v.at' i))) else none
   |_=>none
 |.store t a x=>match aZ g st a,aZ g st x with
  |some (.ref o off),some v=>match look st.ob o,bC E.P t with
   |some (.sg ss),some sz=>match nG ss off with
    |some (pre,rest)=>match nG rest sz with
     |some (mid,post)=>match IL (mid.map Sg.sk) v with
      |some mid'=>some (.w .undef (st.set o (.sg (pre++(mid'++post)))))
      |none=>none
     |none=>none
    |none=>none
   |_,_=>none
  |some (.sel o off k n i m),some (.int k' y)=>match look st.ob o with
   |some (.sg ss)=>match nG ss off with
    |some (pre,.a k2 n' v::post)=>if k2=k then (if k'=k then (bif Nat.beq n' n&& Nat.beq m 1&& oD E t then some (.w .undef (st.set o (.sg (pre++(.a k n' (v.set i y)::post))))) else none) else none) else none
    |_=>none
   |_=>none
  |_,_=>none
 |.indexAddr t x i=>match oP E.P t,aZ g st i with
  |some (n,e),some (.int _ i)=>bif oD E e then (match x with
   |.global gl=>match IW E R gl t with
    |some ⟨k,n,v⟩=>some (.c (dQ i n) (.pz k n v i))
    |none=>none
   |x=>match aZ g st x with
    |some (.ref o off)=>match lH st o with
     |some (.sg ss)=>match nG ss off with
      |some (_,.a k n' _::_)=>bif Nat.beq n' n then some (.c (dQ i n) (.sel o off k n i 1)) else none
      |_=>none
     |_=>none
    |_=>none) else none
  |_,_=>none
 |.index t x i=>match oP E.P t,aZ g st x,aZ g st i with
  |some (n,e),some (.sg [.a k n' v]),some (.int _ i)=>bif oD E e&& Nat.beq n' n then some (.c (dQ i n) (.int k (v.at' i))) else none
  |_,_,_=>none
 |.slice t x lo hi none=>match aZ g st x with
  |some x=>match lo,hi with
   |none,none=>wM E R t x none none st
   |some lo,none=>match aZ g st lo with
    |some lo=>wM E R t x (some lo) none st
    |none=>none
   |none,some hi=>match aZ g st hi with
    |some hi=>wM E R t x none (some hi) st
    |none=>none
   |some lo,some hi=>match aZ g st lo,aZ g st hi with
    |some lo,some hi=>wM E R t x (some lo) (some hi) st
    |_,_=>none
  |none=>none
 |.slice t x lo (some hi) (some mx)=>match aZ g st x,aZ g st hi,aZ g st mx,E.P.underlying t with
  |some (.aj _ u l),some (.int _ h),some (.int _ m),some (.slice e)=>match bC E.P e with
   |some sz=>bif Nat.beq sz (bI R u) then (match lo with
    |none=>bif Un E d then some (.c (fB m l.length&& (fB h m.toNat&& (h==m))) (.aj .full u (oC l none (some h)))) else some (.c (fB m l.length&& fB h m.toNat) (.aj .any u (oC l none (some h))))
    |some lo=>match aZ g st lo with
     |some (.int _ a)=>some (.c (fB m l.length&& (fB h m.toNat&& fB a h.toNat)) (.aj .any u (oC l (some a) (some h))))
     |_=>none) else none
   |none=>none
  |_,_,_,_=>none
 |.convert a b x=>match aZ g st x with
  |some (.sv o off k n lo hi)=>match E.P.underlying a,E.P.underlying b with
   |some (.slice e),some .string=>match E.P.underlying e,k with
    |some (.int .u8),.u8=>match Ip st o off .u8 n lo hi with
     |some l=>some (.t (.str (List.map (fun n:Int=>UInt8.ofNat n.toNat) l)))
     |none=>none
    |_,_=>none
   |_,_=>none
  |_=>none
 |.sliceToArrayPointer t x=>match oP E.P t,aZ g st x with
  |some (m,e),some (.sv o off k n lo hi)=>some (.c (decide (0<m∧m≤fu n hi-cO lo)) (.sel o off k n (cO lo) m))
  |some (m,_),some (.aj _ (.int k) l)=>some (.c (decide (0<m∧m≤l.length)) (.aK (Uo R k m l) 0))
  |_,_=>none
 |.call c=>match c.callee,l5 g st c.args.toList with
  |.builtin .copy,some [.sv o off k n lo hi,y]=>match c.argTypes[0]? with
   |some t=>match iw E.P t with
    |some e=>bif oD E e then (match Eb R (.int k) y,look st.ob o with
     |some l,some (.sg ss)=>match nG ss off with
      |some (pre,.a k' n' v::post)=>if k'=k then (bif Nat.beq n' n then
        some (.w (.int .i64 (((l.take (fu n hi-cO lo).toNat).length:Nat):Int)) (st.set o (.sg (pre++(.a k n' (v.rM (cO lo) (l.take (fu n hi-cO lo).toNat))::post))))) else none) else none
      |_=>none
     |_,_=>none) else none
    |none=>none
   |none=>none
  |_,_=>none
 |_=>none
def pJ (om:Bool) (F:Nat→List (FR R)) (g:List (Nat×Bool)) (d:Option Nat) (o:Op) (st:MS R.T):Option (dA R):=
 match o with
 |.move x=>match aZ g st x with
  |some v=>some (.t v)
  |none=>none
 |.assign x=>match aZ g st x with
  |some v=>some (.t v)
  |none=>none
 |.pick c a b=>match c with
  |.tmp j=>match aZ g st c with
   |some (.bool t)=>match aZ ((j,true)::g) st a,aZ ((j,false)::g) st b with
    |some x,some y=>match AV t x y with
     |some v=>some (.t v)
     |none=>none
    |_,_=>none
   |some (.gy t)=>match aZ g st (bif t then a else b) with
    |some v=>some (.t v)
    |none=>none
   |_=>none
  |_=>none
 |.alloc t=>match d,uX E t with
  |some d,some z=>bif wE z.cells&& !(lG d z.cells) then some (.w (.ref d 0) (st.new d (.cells z.cells))) else none
  |_,_=>none
 |.box t x=>bif E.tN t then (match aZ g st x with
  |some v=>bif jK v&& wF v then some (.t (.aK v.cells 0)) else none
  |none=>none) else match d,aZ g st x with
  |some d,some v=>bif wE v.cells&& wF v&& !(lG d v.cells) then some (.w (.ref d 0) (st.new d (.cells v.cells))) else none
  |_,_=>none
 |.build t parts=>match zF E t,uX (T:=R.T) E t,Ap g st parts.toList with
  |some pl,some z,some ps=>match Iw pl z.cells ps with
   |some cs=>some (.t (.agg cs))
   |none=>none
  |_,_,_=>none
 |.buildSlice t len parts=>match Ap g st parts.toList with
  |some ps=>NT E R t len ps
  |none=>none
 |.load t a=>match aZ g st a with
  |some (.ref o off)=>match lH st o with
   |some (.cells cs)=>match jZ E t cs off with
    |some v=>some (.t v)
    |none=>none
   |_=>none
  |some (.aK cs off)=>match jZ E t cs off with
   |some v=>some (.t v)
   |none=>none
  |some (.jB o τ i off)=>match lH st o with
   |some b=>NZ E R t τ i off b
   |none=>none
  |_=>none
 |.store t a x=>match aZ g st a,aZ g st x with
  |some (.ref o off),some v=>match look st.ob o,bC E.P t with
   |some (.cells cs),some sz=>bif Nat.beq v.cells.length sz&& Nat.ble (off+v.cells.length) cs.length&& wE v.cells&& wF v then
     some (.w .undef (st.set o (.cells (Az cs off v.cells)))) else none
   |_,_=>none
  |_,_=>none
 |.nilCheck x=>match aZ g st x with
  |some (.ref o off)=>some (.t (.ref o off))
  |some (.aK cs off)=>some (.t (.aK cs off))
  |some (.jB o τ i off)=>some (.t (.jB o τ i off))
  |some (.fn f a b)=>some (.t (.fn f a b))
  |_=>none
 |.binOp op t x y _=>match aZ g st x,aZ g st y with
  |some x,some y=>NP E R op t x y
  |_,_=>none
 |.unOp op _ x=>match aZ g st x with
  |some x=>NR R op x
  |none=>none
 |.convert a b x=>match aZ g st x with
  |some x=>IC E R a b x
  |none=>none
 |.makeFunc (.func f) a b=>match l5 g st a.toList,l5 g st b.toList with
  |some a,some b=>some (.t (.fn f a b))
  |_,_=>none
 |.makeMap t none=>match d,qY E.P t with
  |some d,some (k,e)=>match R.ty k,R.ty e with
   |some k,some e=>some (.w (.bD d) (st.new d (.map k e [])))
   |_,_=>some (.w (.bD d) (st.new d (.smap [] [])))
  |_,_=>none
 |.makeSlice t l c=>match aZ g st l,aZ g st c with
  |some n,some m=>NU E R om d t n m st
  |_,_=>none
 |.slice t x lo hi none=>match aZ g st x with
  |some x=>match lo,hi with
   |none,none=>wI E R t x none none
   |some lo,none=>match aZ g st lo with
    |some lo=>wI E R t x (some lo) none
    |none=>none
   |none,some hi=>match aZ g st hi with
    |some hi=>wI E R t x none (some hi)
    |none=>none
   |some lo,some hi=>match aZ g st lo,aZ g st hi with
    |some lo,some hi=>wI E R t x (some lo) (some hi)
    |_,_=>none
  |none=>none
 |.fieldAddr t x f=>match aZ g st x with
  |some x=>match Uf E t f x with
   |some v=>some (.t v)
   |none=>none
  |none=>none
 |.field t x f=>match mo E.P t f,aZ g st x with
  |some (o,u),some (.agg cs)=>match jZ E u cs o with
   |some v=>some (.t v)
   |none=>none
  |_,_=>none
 |.indexAddr t x i=>match aZ g st x,aZ g st i with
  |some (.vw o τ),some i=>NY E R t o τ i st
  |some x,some i=>NW E R t x i
  |_,_=>none
 |.index t x i=>match aZ g st x,aZ g st i with
  |some x,some i=>N8 E R t x i
  |_,_=>none
 |.lookup t x i ok=>match aZ g st x,aZ g st i with
  |some x,some i=>IE E R t x i ok st
  |_,_=>none
 |.mapUpdate t m k v=>match aZ g st m,aZ g st k,aZ g st v with
  |some m,some k,some v=>AO E R t m k v st
  |_,_,_=>none
 |.insert t m k v=>match aZ g st m,aZ g st k,aZ g st v with
  |some m,some k,some v=>AO E R t m k v st
  |_,_,_=>none
 |.extract x i=>match aZ g st x with
  |some (.bg vs)=>match vs[i]? with
   |some v=>some (.t v)
   |none=>none
  |_=>none
 |.call c=>match c.callee with
  |.builtin b=>match l5 g st c.args.toList with
   |some vs=>blt E R om d b c.argTypes vs st
   |none=>none
  |.value f=>match aZ g st f,l5 g st c.args.toList with
   |some (.fn f a b),some vs=>bif E.imp f then none else findF R (a++vs++b) (mM st (a++vs++b)) (F f)
   |_,_=>none
  |_=>none
 |_=>none
def uh (om:Bool) (F:Nat→List (FR R)) (g:List (Nat×Bool)) (d:Option Nat) (o:Op) (st:MS R.T):Option (dA R):=
 match oF E R g d o st with
 |some r=>some r
 |none=>pJ E R om F g d o st
inductive Gd where
 |no
 |run
 |skip
 |dyn (j:Nat) (w:Bool) (c:Bool) (g:List (Nat×Bool))
def AZ (b w:Bool):Bool:=bif w then b else !b
def Oa (a b:Bool):Bool:=bif a then b else false
def l7 {T:Nat→Type} (st:MS T):Nat→Nat→Bool→Option (Bool×List (Nat×Bool))
 |0,_,_=>none
 |n+1,j,w=>match look st.fr j with
  |some (.bool b)=>some (AZ b w,[(j,w)])
  |some (.opt i u (.bool b))=>match l7 st n i u with
   |some (c,g)=>some (Oa c (AZ b w),(j,w)::g)
   |none=>none
  |some (.opt i u (.gy b))=>match l7 st n i u with
   |some (c,g)=>some (Oa c (AZ b w),(j,w)::g)
   |none=>none
  |_=>none
def IX {T:Nat→Type} (all:List Oper) (st:MS T) (o:Oper):Gd:=
 match o.guard with
 |none=>.run
 |some (j,w)=>match all[j]? with
  |some p=>match p.dst with
   |some t=>match look st.fr t with
    |some (.gy b)=>bif b==w then .run else .skip
    |some .undef=>.skip
    |_=>match l7 st 12 t w with
     |some (c,g)=>.dyn t w c g
     |none=>.no
   |none=>.skip
  |none=>.skip
def MS.kE {T:Nat→Type} (st:MS T):List (Nat×Bool)→MS T
 | []=>st
 | (j,w)::g=>(st.kE g).learn j w
def MS.uZ {T:Nat→Type} (st:MS T):List (Nat×Bool)→MS T
 | [(j,w)]=>st.learn j (!w)
 |_=>st
def Ef {α:Type} (c:Bool) (o:Option α) (d:α):Option α:=bif c then o else some d
def Oc (st:MS R.T) (t:TypeId) (m x:Operand):Option (List (TV R.T)×List (TV R.T)×TV R.T×TV R.T):=
 match aZ [] st m with
 |some (.bD o)=>match lH st o with
  |some (.smap ks vs)=>match aZ [] st x,qY E.P t with
   |some x,some (kt,et)=>match uX (T:=R.T) E et with
    |some z=>bif II E kt x then some (ks,vs,x,z) else none
    |none=>none
   |_,_=>none
  |_=>none
 |_=>none
def IY {T:Nat→Type} {β:Type} (x:TV T):List (TV T)→List (TV T)→TV T→(TV T→Bool→Option β)→Option β
 | [],[],z,k=>k z false
 |a::ks,v::vs,z,k=>match IG x a with
  |some b=>bif b then k v true else IY x ks vs z k
  |none=>none
 |_,_,_,_=>none
section
variable (om:Bool) {β:Type} (F:Nat→List (FR R))
def Od (t:TypeId) (a x:Operand) (st:MS R.T):Option ((τ:Ty)×Nat×Int×Nat×List (Den R.T τ)×TV R.T):=
 match aZ [] st a,aZ [] st x with
 |some (.jB o τ i off),some v=>match look st.ob o,bC E.P t with
  |some (.arr τ' l),some sz=>match pF R (u:=τ) l with
   |some l=>bif Nat.beq v.cells.length sz&& Nat.ble (off+v.cells.length) (bI R τ)&& wE v.cells&& wF v then some ⟨τ,o,i,off,l,v⟩ else none
   |none=>none
  |_,_=>none
 |_,_=>none
def xZ {α:Type} (l:List α) (i:Int) (y:α):List α:=l.set i.toNat y
def runM (o:Oper) (st:MS R.T) (k:MS R.T→Option β):Option β:=
 match o.op with
 |.pick c a b=>match aZ [] st c with
  |some (.gy t)=>match aZ [] st (bif t then a else b) with
   |some v=>k (st.dY o.dst v)
   |none=>none
  |some (.bool t)=>match c with
   |.tmp j=>match aZ [(j,true)] st a,aZ [(j,false)] st b with
    |some x,some y=>match AV t x y with
     |some v=>k (st.dY o.dst v)
     |none=>bif t then k ((st.learn j true).dY o.dst x) else k ((st.learn j false).dY o.dst y)
    |_,_=>none
   |_=>none
  |_=>none
 |.store t a x=>match Od E R t a x st with
  |some ⟨τ,p,i,off,l,v⟩=>(aQ l i).bind fun y=>match N7 R τ (Az (eZ R .any τ y).cells off v.cells) with
   |some y'=>k ((st.set p (.arr τ (xZ l i y'))).dY o.dst .undef)
   |none=>none
  |none=>match uh E R om F [] o.dst (.store t a x) st with
   |some (.w v st')=>k (st'.dY o.dst v)
   |_=>none
 |.lookup t m x ok=>match Oc E R st t m x with
  |some (ks,vs,x,z)=>IY x ks vs z fun v b=>k (st.dY o.dst (bif ok then .bg [v,.gy b] else v))
  |none=>match uh E R om F [] o.dst (.lookup t m x ok) st with
   |some (.t v)=>k (st.dY o.dst v)
   |_=>none
 |op=>match uh E R om F [] o.dst op st with
  |some (.t v)=>k (st.dY o.dst v)
  |some (.c b v)=>bif b then k (st.dY o.dst v) else none
  |some (.w v st')=>k (st'.dY o.dst v)
  |some (.wc b v st')=>bif b then k (st'.dY o.dst v) else none
  |some (.p _ _ x f)=>x.bind fun a=>k (st.dY o.dst (f a))
  |none=>none
def ad4 (b c:Bool):Bool:=bif b then c else true
def Oe (o:Oper) (j:Nat) (w c:Bool) (g:List (Nat×Bool)) (st:MS R.T) (k:MS R.T→Option β):Option β:=
 match o.dst with
 |some d=>match (bif aP d (g.map (·.1)) then none else uh E R om F g o.dst o.op st) with
  |some (.t v)=>k (st.put d (.opt j w v))
  |some (.c b v)=>bif ad4 c b then k (st.put d (.opt j w v)) else none
  |some (.p _ z x f)=>(Ef c x z).bind fun a=>k (st.put d (.opt j w (f a)))
  |_=>bif c then runM E R om F o (st.kE g) k else k ((st.uZ g).dY o.dst .undef)
 |none=>bif c then runM E R om F o (st.kE g) k else k ((st.uZ g).dY o.dst .undef)
def jL {T:Nat→Type} (st:MS T) (o:Oper):Bool:=match o.op with
 |.call c=>match c.callee with
  |.value f=>match aZ [] st f with
   |some (.fn g _ _)=>match o.dst with
    |some d=>E.own g d
    |none=>false
   |_=>true
  |_=>false
 |_=>false
def ad5:List Sk→Bool
 |.dN::k::l=>gZ (k::l)
 |_=>false
def A8 (args bQ:List (TV R.T)):List (FR R)→Option ((τ:Ty)×Option (List (Den R.T τ)))
 | []=>none
 | ⟨as,[.d (.slice τ)],G,_,true⟩::l=>match fF R as bQ with
   |some p=>bif (gZ as||ad5 as)&& Nat.ble (nH as) 18&& wG args then some ⟨τ,G p⟩ else none
   |none=>A8 args bQ l
 |_::l=>A8 args bQ l
def uj (o:Oper) (st:MS R.T) (k:MS R.T→Option β):Option β:=match o.op,o.dst with
 |.call c,some d=>match c.callee with
  |.value f=>match aZ [] st f,l5 [] st c.args.toList with
   |some (.fn g a b),some vs=>match A8 R (a++vs++b) (mM st (a++vs++b)) (F g) with
    |some ⟨τ,x⟩=>x.bind fun l=>k ((st.wk d).put d (.aj (.own d) τ l))
    |none=>none
   |_,_=>none
  |_=>none
 |_,_=>none
def A9 (o:Nat) (l:List Nat):List Nat:=bif aP o l then l else l++[o]
mutual
def ad6 {T:Nat→Type}:TV T→List Nat→List Nat
 |.ref o _,l=>A9 o l
 |.bD o,l=>A9 o l
 |.vw o _,l=>A9 o l
 |.jB o _ _ _,l=>A9 o l
 |.sv o _ _ _ _ _,l=>A9 o l
 |.sel o _ _ _ _ _,l=>A9 o l
 |.agg cs,l=>rP cs l
 |.bg cs,l=>rP cs l
 |.aK cs _,l=>rP cs l
 |.fn _ a b,l=>rP b (rP a l)
 |_,l=>l
def rP {T:Nat→Type}:List (TV T)→List Nat→List Nat
 | [],l=>l
 |v::vs,l=>rP vs (ad6 v l)
end
mutual
def u6 {T:Nat→Type} (m:List (Nat×Nat)):TV T→TV T
 |.ref o off=>match look m o with
  |some p=>.ref p off
  |none=>.gone
 |.bD o=>match look m o with
  |some p=>.bD p
  |none=>.gone
 |.vw o t=>match look m o with
  |some p=>.vw p t
  |none=>.gone
 |.jB o t i off=>match look m o with
  |some p=>.jB p t i off
  |none=>.gone
 |.sv o off k n lo hi=>match look m o with
  |some p=>.sv p off k n lo hi
  |none=>.gone
 |.sel o off k n i j=>match look m o with
  |some p=>.sel p off k n i j
  |none=>.gone
 |.aj c t l=>match c with
  |.own _=>.aj .any t l
  |c=>.aj c t l
 |.agg cs=>.agg (wN m cs)
 |.bg cs=>.bg (wN m cs)
 |.aK cs off=>.aK (wN m cs) off
 |.fn f a b=>.fn f (wN m a) (wN m b)
 |v=>v
def wN {T:Nat→Type} (m:List (Nat×Nat)):List (TV T)→List (TV T)
 | []=>[]
 |v::vs=>u6 m v::wN m vs
end
def jM:List Nat→Nat→List (Nat×Nat)
 | [],_=>[]
 |o::l,n=>(o,n)::jM l (n+1)
def yg:List Nat→Bool
 | []=>true
 |o::l=> !(aP o l)&& yg l
def Ba {T:Nat→Type} (st:MS T):List (Nat×Nat)→List (Nat×Ob T)
 | []=>[]
 | (o,p)::m=>match look st.ob o with
   |some x=>(p,x)::Ba st m
   |none=>Ba st m
def rQ {T:Nat→Type}:List (Nat×Nat)→List (Nat×Ob T)→List (Nat×Ob T)
 | [],_=>[]
 | (o,p)::m,l=>match look l p with
   |some y=>(o,y)::rQ m l
   |none=>rQ m l
def Bb:List (Nat×Nat)→List (Nat×jY)→Bool
 | [],[]=>true
 | (_,p)::m,(q,_)::l=>Nat.beq p q&& Bb m l
 |_,_=>false
def Bc:List Sk→Bool
 | []=>true
 |.d (.int _)::l=>Bc l
 |.d .bool::l=>Bc l
 |.d .str::l=>Bc l
 |_=>false
def Og:List Sk→Bool
 | []=>true
 |.d _::l=>Og l
 |_=>false
def okO:jY→Bool
 |.cells l=>Og l
 |_=>true
def um:List (Nat×jY)→Bool
 | []=>true
 | (_,k)::l=>okO k&& um l
def IZ (m:List (Nat×Nat)) (A:List (TV R.T)) (B:List (Nat×Ob R.T)):List (FM R)→Option ((r:FM R)×Option (aJ R.T r.res×nC R.T r.obs))
 | []=>none
 |r::l=>match fF R r.args A,lJ R B r.obs with
  |some p,some q=>bif Bb m r.obs&& (Bc r.res&& um r.obs) then some ⟨r,r.F p q⟩ else none
  |_,_=>IZ m A B l
def Uq {T:Nat→Type}:List (TV T)→TV T
 | [v]=>v
 |vs=>.bg vs
def rR {T:Nat→Type} (st:MS T) (o:Oper):Bool:=match o.op with
 |.call c=>match c.callee with
  |.value f=>match aZ [] st f with
   |some (.fn g _ _)=>E.imp g
   |_=>false
  |_=>false
 |_=>false
def sP (o:Oper):Bool:=match o.op with
 |.call c=>match c.callee with
  |.value (.func g)=> !(E.imp g)
  |.value _=>false
  |_=>true
 |_=>true
def yh (M:Nat→List (FM R)) (o:Oper) (st:MS R.T) (k:MS R.T→Option β):Option β:=match o.op with
 |.call c=>match c.callee with
  |.value f=>match aZ [] st f,l5 [] st c.args.toList with
   |some (.fn g a b),some vs=>bif yg (rP (a++vs++b) []) then (match IZ R (jM (rP (a++vs++b) []) F0) (wN (jM (rP (a++vs++b) []) F0) (a++vs++b)) (Ba st (jM (rP (a++vs++b) []) F0)) (M g) with
    |some ⟨r,x⟩=>x.bind fun y=>k (MS.dY ⟨st.fr,rQ (jM (rP (a++vs++b) []) F0) (kC R r.obs y.2)++st.ob⟩ o.dst (Uq (iC R .any r.res y.1)))
    |none=>none) else none
   |_,_=>none
  |_=>none
 |_=>none
variable (M:Nat→List (FM R))
def sQ (all:List Oper):List Oper→MS R.T→(MS R.T→Option β)→Option β
 | [],st,k=>k st
 |o::os,st,k=>match IX all st o with
  |.run=>bif jL E st o then uj R F o st (fun st=>sQ all os st k) else (bif rR E st o then yh R M o st (fun st=>sQ all os st k) else runM E R om F o st (fun st=>sQ all os st k))
  |.skip=>sQ all os (st.dY o.dst .undef) k
  |.dyn j w c g=>bif jL E st o||jL E (st.kE g) o then none else (bif rR E (st.kE g) o then (bif c then yh R M o (st.kE g) (fun st=>sQ all os st k) else sQ all os ((st.uZ g).dY o.dst .undef) k) else Oe E R om F o j w c g st (fun st=>sQ all os st k))
  |.no=>none
def Ur {T:Nat→Type}:TV T→List Key
 |.ref o _=>[.obj (1,o)]
 |.bD o=>[.obj (1,o)]
 |.jB o _ _ _=>[.obj (1,o)]
 |.sv o _ _ _ _ _=>[.obj (1,o)]
 |.sel o _ _ _ _ _=>[.obj (1,o)]
 |_=>[]
def u7 {T:Nat→Type} (st:MS T) (x:Operand):List Key:=match aZ [] st x with
 |some v=>Ur v
 |none=>[]
def I4 (o:Oper):List Key:=match o.dst with
 |some t=>[.obj (1,t)]
 |none=>[]
def I5 {T:Nat→Type}:List (TV T)→Bool
 | []=>false
 |.sv _ _ _ _ _ _::_=>true
 |_::l=>I5 l
def Eh (om:Bool) {T:Nat→Type} (st:MS T) (o:Oper):bG:=
 match o.op with
 |.move _|.assign _|.pick .. |.build .. |.buildSlice .. |.nilCheck _|.binOp .. |.unOp .. |.makeInterface .. |.makeFunc .. |.fieldAddr .. |.field .. |.indexAddr .. |.index .. |.extract ..
 |.sliceToArrayPointer .. =>lW []
 |.convert _ _ x|.slice _ x _ _ _|.load _ x|.lookup _ x _ _=>lW (u7 st x)
 |.alloc _|.box .. |.makeMap .. =>jW (I4 o)
 |.makeSlice .. =>jW (.top::I4 o)
 |.store _ a _=>jW (u7 st a)
 |.mapUpdate _ m _ _|.insert _ m _ _=>jW (u7 st m)
 |.call c=>match c.callee with
  |.builtin b=>match b with
   |.len|.cap|.min|.max=>lW (c.args.toList.flatMap fun x=>u7 st x)
   |.append=>bif om then eY else ⟨false,false,c.args.toList.flatMap fun x=>u7 st x,[.top]⟩
   |_=>eY
  |.value f=>match aZ [] st f with
   |some (.fn g a b)=>if E.imp g then eY else (match l5 [] st c.args.toList with
    |some vs=>if wG (a++vs++b) then lW [] else ⟨true,false,[],[]⟩
    |none=>eY)
   |_=>eY
  |_=>eY
 |_=>eY
def nJ (om:Bool) {T:Nat→Type} (all:List Oper) (st:MS T) (o:Oper) (wanted:Bool):bG:=
 if wanted then let f:=Eh E om st o;⟨f.sF,f.ng,qZ all o++f.t,kG o++f.w⟩
 else ⟨false,false,qZ all o,kG o⟩
def Bd {T:Nat→Type}:TV T→Bool
 |.gone=>false
 |.opt _ _ _=>false
 |.vw _ _=>false
 |_=>true
def wO {T:Nat→Type} (st:MS T) (o:Oper):Bool:= !(jL E st o)&&
 match o.op with
 |.call c=>match c.callee with
  |.value f=>match aZ [] st f,l5 [] st c.args.toList with
   |some (.fn _ a b),some vs=>wG (a++vs++b)||I5 (a++vs++b)
   |_,_=>false
  |.builtin _=>match l5 [] st c.args.toList with
   |some vs=>vs.all Bd
   |none=>false
  |_=>true
 |_=>true
def Key.nm:Key→Key
 |.obj l=>.obj (1,l.2)
 |k=>k
def bG.nm (f:bG):bG:=⟨f.sF,f.ng,f.t.map Key.nm,f.w.map Key.nm⟩
def Ei (all:List Oper) (o:Oper):bG:=⟨false,false,qZ all o++[],kG o++[.top]⟩
def l8 (ms:List Nat) (all:List Oper):List Oper→MS R.T→List bG→(MS R.T→Option β)→Option β
 | [],st,fs,k=>bif uP ms (fs.map bG.nm) then k st else none
 |o::os,st,fs,k=>match IX all st o with
  |.run=>bif rR E st o then (bif jL E st o then none else yh R M o st (fun st'=>l8 ms all os st' (fs++[nJ E om all st o true]) k)) else bif jL E st o then uj R F o st (fun st'=>l8 ms all os st' (fs++[Ei all o]) k) else bif !(wO E st o) then none else runM E R om F o st (fun st'=>l8 ms all os st' (fs++[nJ E om all st o true]) k)
  |.skip=>l8 ms all os (st.dY o.dst .undef) (fs++[nJ E om all st o false]) k
  |.dyn _ _ c g=>bif c then (bif rR E (st.kE g) o then (bif jL E (st.kE g) o then none else yh R M o (st.kE g) (fun st'=>l8 ms all os st' (fs++[nJ E om all (st.kE g) o true]) k)) else bif jL E (st.kE g) o then uj R F o (st.kE g) (fun st'=>l8 ms all os st' (fs++[Ei all o]) k) else bif !(wO E (st.kE g) o) then none else runM E R om F o (st.kE g) (fun st'=>l8 ms all os st' (fs++[nJ E om all (st.kE g) o true]) k))
   else l8 ms all os ((st.uZ g).dY o.dst .undef) (fs++[nJ E om all st o false]) k
  |.no=>none
end
def gB {R:gM} (key:Nat) (W:List Nat) (b:MS R.T) (sh:Shape) (outs:List (Ex×Shape)) (body:{β:Type}→MS R.T→(Ex→MS R.T→Option β)→Option β):Nat→oq R.T sh→Option (Out R.T outs)
 |0,_=>none
 |m+1,p=>body (b.over (unpack R sh p)) fun e st=>match e with
  |.normal=>match kD R W st sh with
   |some p=>gB key W b sh outs body m p
   |none=>none
  |e=>rO R W e st outs
def MS.obs {T:Nat→Type} (st:MS T):MS T:=⟨[],st.ob⟩
def Ej {R:gM} {β:Type} (body:MS R.T→(Ex→MS R.T→Option β)→Option β):Nat→MS R.T→(Ex→MS R.T→Option β)→Option β
 |0,_,_=>none
 |m+1,st,k=>body st fun e st'=>match e with
  |.normal=>Ej body m st' k
  |e=>k e st'
def Bf {R:gM} {X:Type} (key:Nat) (W:List Nat) (b:MS R.T) (sh:Shape) (outs:List (Ex×Shape)) (body:{β:Type}→X→MS R.T→(Ex→MS R.T→Option β)→Option β):List X→oq R.T sh→Option (Out R.T outs)
 | [],p=>rO R W .normal (unpack R sh p).obs outs
 |x::xs,p=>body x (b.over (unpack R sh p)) fun e st=>match e with
  |.normal=>match kD R W st.obs sh with
   |some p=>Bf key W b sh outs body xs p
   |none=>none
  |e=>rO R W e st.obs outs
def El {R:gM} (a b:List (TV R.T)):List (FI R)→Option ((el:List Sk)×Option (List (aJ R.T el)))
 | []=>none
 |i::l=>match fF R i.a a,fF R i.b b with
  |some pa,some pb=>bif gZ i.a&& gZ i.b&& gZ i.el&& Nat.ble (nH i.a) 18&& Nat.ble (nH i.b) 18 then some ⟨i.el,i.F pa pb⟩ else none
  |_,_=>El a b l
def yj (O:List Nat):List (Nat×jY)→Bool
 | []=>true
 | (o,_)::l=> !(aP o O)&& yj O l
def yt {T:Nat→Type} (st:MS T):List Nat→List (TV T)→Option (MS T)
 | [],[]=>some st
 |i::l,v::vs=>yt (st.put i v) l vs
 |_,_=>none
def jk:List Oper→List Nat
 | []=>[]
 |o::l=>match o.dst with
  |some d=>d::jk l
  |none=>jk l
def aM:Code→List Nat
 |.region _ ops _=>jk ops.toList
 |.seq a b=>aM a++aM b
 |.cond _ a b=>aM a++aM b
 |.block _ c=>aM c
 |.loop c=>aM c
 |.scope c=>aM c
 |.rangeFunc _ ps a b=>ps.toList++aM a++aM b
 |_=>[]
def lK:Code→Nat
 |.region i _ _=>i
 |.seq a _=>lK a
 |.loop a=>lK a
 |.scope a=>lK a
 |.block _ a=>lK a
 |.rangeFunc _ _ _ b=>lK b
 |_=>0
def ig:Code→Bool
 |.region _ ops _=>ops.toList.all (sP E)
 |.seq a b=>ig a&& ig b
 |.cond _ a b=>ig a&& ig b
 |.block _ c=>ig c
 |.loop c=>ig c
 |.scope c=>ig c
 |.rangeFunc _ _ _ _=>false
 |_=>true
variable (n:Nat) (om:Bool) (F:Nat→List (FR R)) (I:IR R) (A:dP)
def bR:Code→{β:Type}→MS R.T→(Ex→MS R.T→Option β)→Option β
 |.skip,_,st,k=>k .normal st
 |.region _ ops dr,_,st,k=>bif dr then (bif ni ops.toList then l8 E R om F I.im (nX ops.toList) ops.toList ops.toList st [] (fun st=>k .normal st) else none) else sQ E R om F I.im ops.toList ops.toList st (fun st=>k .normal st)
 |.seq a b,_,st,k=>
  match look A.joins (lK b) with
  |none=>bR a st fun e st=>match e with
   |.normal=>bR b st k
   |e=>k e st
  |some q=>(bR (β:=Out R.T q.outs) a ((base (aM a) q.K q.O .ro st).over st) fun e st=>rO R (aM a) e st q.outs).bind (ug R (base (aM a) q.K q.O (fun b=>b) st) (fun e st=>match e with
   |.normal=>bR b st k
   |e=>k e st) q.outs)
 |.cond c a b,_,st,k=>match aZ [] st c with
  |some (.gy t)=>bif t then bR a st k else bR b st k
  |some (.bool t)=>bif t then bR a (st.Al c true) k else bR b (st.Al c false) k
  |_=>none
 |.block id c,_,st,k=>bR c st fun e st=>match e with
  |.exit i=>bif Nat.beq i id then k .normal st else k (.exit i) st
  |e=>k e st
 |.loop c,_,st,k=>match look A.loops (lK c) with
  |some q=>match kD R (aM c) st q.sh with
   |some p=>(gB (lK c) (aM c) (base (aM c) q.K q.O .ro st) q.sh q.outs (fun st k=>bR c st k) n p).bind (ug R (base (aM c) q.K q.O (fun b=>b) st) k q.outs)
   |none=>none
  |none=>Ej (fun st k=>bR c st k) 130 st k
 |.rangeFunc f ps a c,_,st,k=>match look A.loops (lK c) with
  |some q=>match aZ [] st f with
   |some (.fn g u v)=>bif ow u&& ow v&& yj q.O q.sh.ob&& ig E a&& ig E c then (match El u v (I.it g) with
    |some ⟨el,xs⟩=>match kD R (ps.toList++aM a++aM c) st.obs q.sh with
     |some p=>(xs.bind fun xs=>Bf (lK c) (ps.toList++aM a++aM c) (base (ps.toList++aM a++aM c) q.K q.O .ro st) q.sh q.outs (fun x st k=>match yt st ps.toList (iC R .sh el x) with
       |some st=>bR a st fun e st=>match e with
        |.normal=>bR c st k
        |_=>none
       |none=>none) xs p).bind (ug R (base (ps.toList++aM a++aM c) q.K q.O (fun b=>b) st) k q.outs)
     |none=>none
    |none=>none) else none
   |_=>none
  |none=>none
 |.scope c,_,st,k=>bR c st k
 |.label _,_,st,k=>k .normal st
 |.exit i,_,st,k=>k (.exit i) st
 |.ret,_,st,k=>k .ret st
 |_,_,_,_=>none
def sS (st:MS R.T):List ResultVar→Option (List (TV R.T))
 | []=>some []
 |.tmp t::l=>match aZ [] st (.tmp t) with
  |some v=>match sS st l with
   |some vs=>some (v::vs)
   |none=>none
  |none=>none
 |.cell a t::l=>match aZ [] st (.tmp a) with
  |some (.ref o off)=>match lH st o with
   |some (.cells cs)=>match jZ E t cs off with
    |some v=>match sS st l with
     |some vs=>some (v::vs)
     |none=>none
    |none=>none
   |some (.sg ss)=>match IQ E R t ss off with
    |some v=>match sS st l with
     |some vs=>some (v::vs)
     |none=>none
    |none=>none
   |_=>none
  |_=>none
def wP {T:Nat→Type}:Nat→List (TV T)→List (Nat×TV T)
 |_,[]=>[]
 |i,v::l=>(i,v)::wP (i+1) l
def fO (fn:Func) (args res:List Sk) (p:aJ R.T args):Option (aJ R.T res):=
 match fn.body with
 |some c=>bR E R n om F I A c ⟨wP 0 (iC R .sh args p),[]⟩ fun e st=>match e with
  |.exit _=>none
  |_=>match sS E R st fn.results.toList with
   |some vs=>bif gZ res&& Nat.ble (nH res) 16 then fF R res (mM st vs) else none
   |none=>none
 |none=>none
def Em {T:Nat→Type}:TV T→Bool
 |.aj (.own _) _ _=>true
 |.aj .full _ _=>true
 |.dN=>true
 |_=>false
def sU (fn:Func) (args:List Sk) (τ:Ty) (p:aJ R.T args):Option (List (Den R.T τ)):=
 match fn.body with
 |some c=>bR E R n om F I A c ⟨wP 0 (iC R .sh args p),[]⟩ fun e st=>match e with
  |.exit _=>none
  |_=>match sS E R st fn.results.toList with
   |some [v]=>bif Em v then uW R τ v else none
   |_=>none
 |none=>none
end
end Aq
end
section
namespace Aq
open Go
set_option linter.unusedSectionVars false
set_option linter.unusedVariables false
structure Cx where
 om:Bool
 dp:Nat
 lo:Nat
 fl:Nat→Option Loc
 lt:∀o L,fl o=some L→F0≤o∧L.1<dp
 inj:∀o p L,fl o=some L→fl p=some L→o=p
def Cx.lc (c:Cx) (o:Nat):Loc:=match c.fl o with
 |some L=>L
 |none=>(c.dp,o)
theorem Cx.ad7 (c:Cx) {o:Nat} (h:o<F0):c.lc o=(c.dp,o):=by
 unfold Cx.lc
 split
 ·rename_i L hL
  have:=(c.lt _ _ hL).1
  omega
 ·rfl
theorem Cx.Oh (c:Cx) {o p:Nat} (h:c.lc o=c.lc p):o=p:=by
 unfold Cx.lc at h
 split at h<;>split at h
 ·rename_i L h1 _ M h2;subst h;exact c.inj _ _ _ h1 h2
 ·rename_i L h1 _ h2;have:=(c.lt _ _ h1).2;rw[h] at this;exact absurd this (Nat.lt_irrefl _)
 ·rename_i h1 _ L h2;have:=(c.lt _ _ h2).2;rw[←h] at this;exact absurd this (Nat.lt_irrefl _)
 ·exact congrArg Prod.snd h
theorem Cx.Us (c:Cx) {o p:Nat} (h:o≠p):c.lc o≠c.lc p:=fun e=>h (c.Oh e)
theorem Cx.Bg (c:Cx) (o:Nat):(c.lc o).1≤c.dp:=by
 unfold Cx.lc
 split
 ·rename_i L hL;exact Nat.le_of_lt (c.lt _ _ hL).2
 ·exact Nat.le_refl _
def Cx.out (c:Cx) (L:Loc):Prop:=∀o,L≠c.lc o
structure aL where
 ob:Nat→Option Nat
 tk:Nat→Option Nat
 ln:Nat→Nat
 om:Cx
section
variable (R:gM)
def mP:Ty→Bool
 |.st _=>false
 |_=>true
structure mQ:Prop where
 En:∀n p,R.of n (R.to n p)=p
 enc:∀n x,R.enc n x= .agg (encs R (R.lf n) (R.of n x))
 leaf:∀n,(R.lf n).all mP=true
 pc:∀n x,aF (R.enc n x)=true
def Bh (ρ:aL) (top:Nat→Nat) (sz len:Nat):Cp→Cap→Prop
 |.any,_=>True
 |.sh,c=>c= .sh
 |.nil,c=>c= .nil
 |.full,c=>c= .full
 |.own t,c=>c= .nil∨c= .full∨∃s,c= .own sz s∧ρ.tk t=some s∧top s=len
mutual
def Rl (ρ:aL) (top:Nat→Nat):TV R.T→V→Prop
 |.int k n,v=>v= .int k n
 |.bool b,v=>v= .bool b
 |.gy b,v=>v= .bool b
 |.str s,v=>v= .str s
 |.eH,v=>v= .eH
 |.eB,v=>v= .eB
 |.dU,v=>v= .dU
 |.fM,v=>v= .fM
 |.dN,v=>v= .aj .nil []
 |.agg cs,v=> ∃l,v= .agg l∧aC ρ top cs l
 |.bg cs,v=> ∃l,v= .bg l∧aC ρ top cs l
 |.aj c t l,v=> ∃c',v= .aj c' (l.map (aG R t))∧Bh ρ top (bI R t) l.length c c'
 |.ref o off,v=> ∃s,ρ.ob o=some s∧v= .ref (ρ.om.lc o) s off
 |.aK cs off,v=> ∃l,v= .aK l off∧aC ρ top cs l
 |.bD o,v=> ∃s,ρ.ob o=some s∧v= .bD (ρ.om.lc o) s
 |.bV k e m,v=>v= .bV (m.map fun p=>aG R k p.1) (m.map fun p=>aG R e p.2)
 |.fn f a b,v=> ∃a' b',v= .fn (.func f) a' b'∧aC ρ top a a'∧aC ρ top b b'
 |.opt _ _ _,_=>False
 |.vw o t,v=>(∃s,ρ.ob o=some s∧v= .vw (ρ.om.lc o) s 0 (ρ.ln o) (ρ.ln o) (bI R t) (gP t))∨(ρ.ln o=0∧(v= .aj .nil []∨v= .aj .full []))
 |.jB o t i off,v=> ∃s,ρ.ob o=some s∧0≤i∧v= .ref (ρ.om.lc o) s (i.toNat*bI R t+off)
 |.sg ss,v=>v= .agg (bB ss)
 |.sv o off k n lo hi,v=> ∃s,ρ.ob o=some s∧l6 n lo hi=true∧v= .vw (ρ.om.lc o) s (off+(cO lo).toNat) ((fu n hi).toNat-(cO lo).toNat) (n-(cO lo).toNat) 1 false
 |.sel o off k n i m,v=> ∃s,ρ.ob o=some s∧0≤i∧i.toNat+m≤n∧v= .ref (ρ.om.lc o) s (off+i.toNat)
 |.pz k n x i,v=>0≤i∧i<n∧v= .aK (x.l.map (V.int k)) i.toNat
 |.undef,v=>v=aD
 |.gone,_=>True
def aC (ρ:aL) (top:Nat→Nat):List (TV R.T)→List V→Prop
 | [],l=>l=[]
 |t::ts,l=> ∃v vs,l=v::vs∧Rl ρ top t v∧aC ρ top ts vs
end
variable {R}
variable {ρ ρ':aL} {top top':Nat→Nat}
theorem aC.eT {vs:List V} (h:aC R ρ top [] vs):vs=[]:=by unfold aC at h;exact h
theorem aC.dB {t:TV R.T} {ts:List (TV R.T)} {vs:List V} (h:aC R ρ top (t::ts) vs):∃v l,vs=v::l∧Rl R ρ top t v∧aC R ρ top ts l:=by unfold aC at h;exact h
theorem Rl.fG {k:IntKind} {n:Int} {v:V} (h:Rl R ρ top (.int k n) v):v= .int k n:=by unfold Rl at h;exact h
theorem Rl.pK {b:Bool} {v:V} (h:Rl R ρ top (.bool b) v):v= .bool b:=by unfold Rl at h;exact h
theorem Rl.sV {b:Bool} {v:V} (h:Rl R ρ top (.gy b) v):v= .bool b:=by unfold Rl at h;exact h
theorem Rl.lM {b:List UInt8} {v:V} (h:Rl R ρ top (.str b) v):v= .str b:=by unfold Rl at h;exact h
theorem Rl.nK {v:V} (h:Rl R ρ top .dN v):v= .aj .nil []:=by unfold Rl at h;exact h
theorem Rl.jN {cs:List (TV R.T)} {v:V} (h:Rl R ρ top (.agg cs) v):∃l,v= .agg l∧aC R ρ top cs l:=by unfold Rl at h;exact h
theorem Rl.I6 {cs:List (TV R.T)} {v:V} (h:Rl R ρ top (.bg cs) v):∃l,v= .bg l∧aC R ρ top cs l:=by unfold Rl at h;exact h
theorem Rl.jO {c:Cp} {t:Ty} {l:List (Den R.T t)} {v:V} (h:Rl R ρ top (.aj c t l) v):∃c',v= .aj c' (l.map (aG R t))∧Bh ρ top (bI R t) l.length c c':=by unfold Rl at h;exact h
theorem Rl.nL {o off:Nat} {v:V} (h:Rl R ρ top (.ref o off) v):∃s,ρ.ob o=some s∧v= .ref (ρ.om.lc o) s off:=by unfold Rl at h;exact h
theorem Rl.sW {cs:List (TV R.T)} {off:Nat} {v:V} (h:Rl R ρ top (.aK cs off) v):∃l,v= .aK l off∧aC R ρ top cs l:=by unfold Rl at h;exact h
theorem Rl.vg {o:Nat} {v:V} (h:Rl R ρ top (.bD o) v):∃s,ρ.ob o=some s∧v= .bD (ρ.om.lc o) s:=by unfold Rl at h;exact h
theorem Rl.Bj {k e:Ty} {m:List (Den R.T k×Den R.T e)} {v:V} (h:Rl R ρ top (.bV k e m) v):v= .bV (m.map fun p=>aG R k p.1) (m.map fun p=>aG R e p.2):=by unfold Rl at h;exact h
theorem Rl.lN {f:Nat} {a b:List (TV R.T)} {v:V} (h:Rl R ρ top (.fn f a b) v):∃a' b',v= .fn (.func f) a' b'∧aC R ρ top a a'∧aC R ρ top b b':=by unfold Rl at h;exact h
theorem Rl.Bl {o:Nat} {t:Ty} {v:V} (h:Rl R ρ top (.vw o t) v):(∃s,ρ.ob o=some s∧v= .vw (ρ.om.lc o) s 0 (ρ.ln o) (ρ.ln o) (bI R t) (gP t))∨(ρ.ln o=0∧(v= .aj .nil []∨v= .aj .full [])):=by unfold Rl at h;exact h
theorem Rl.yu {o off:Nat} {t:Ty} {i:Int} {v:V} (h:Rl R ρ top (.jB o t i off) v):∃s,ρ.ob o=some s∧0≤i∧v= .ref (ρ.om.lc o) s (i.toNat*bI R t+off):=by unfold Rl at h;exact h
theorem Rl.Eo {ss:List Sg} {v:V} (h:Rl R ρ top (.sg ss) v):v= .agg (bB ss):=by unfold Rl at h;exact h
theorem Rl.wQ {o off n:Nat} {k:IntKind} {lo hi:Option Int} {v:V} (h:Rl R ρ top (.sv o off k n lo hi) v):∃s,ρ.ob o=some s∧l6 n lo hi=true∧v= .vw (ρ.om.lc o) s (off+(cO lo).toNat) ((fu n hi).toNat-(cO lo).toNat) (n-(cO lo).toNat) 1 false:=by unfold Rl at h;exact h
theorem Rl.Ep {o off n m:Nat} {k:IntKind} {i:Int} {v:V} (h:Rl R ρ top (.sel o off k n i m) v):∃s,ρ.ob o=some s∧0≤i∧i.toNat+m≤n∧v= .ref (ρ.om.lc o) s (off+i.toNat):=by unfold Rl at h;exact h
theorem Rl.I7 {n:Nat} {k:IntKind} {x:Vec n} {i:Int} {v:V} (h:Rl R ρ top (.pz k n x i) v):0≤i∧i<n∧v= .aK (x.l.map (V.int k)) i.toNat:=by unfold Rl at h;exact h
theorem Rl.Ut {v:V} (h:Rl R ρ top .undef v):v=aD:=by unfold Rl at h;exact h
theorem Rl.Uu {j:Nat} {w:Bool} {x:TV R.T} {v:V} (h:Rl R ρ top (.opt j w x) v):False:=by unfold Rl at h;exact h
theorem aC.nil':aC R ρ top [] []:=rfl
theorem aC.cons' {t:TV R.T} {ts:List (TV R.T)} {v:V} {vs:List V} (h:Rl R ρ top t v) (h':aC R ρ top ts vs):aC R ρ top (t::ts) (v::vs):=⟨v,vs,rfl,h,h'⟩
theorem aC.length:∀{ts:List (TV R.T)} {vs:List V},aC R ρ top ts vs→vs.length=ts.length
 | [],_,h=>by cases h;rfl
 |_::ts,_,⟨v,vs,e,_,h'⟩=>by subst e;simp[aC.length h']
theorem aC.append:∀{ts ts':List (TV R.T)} {vs vs':List V},aC R ρ top ts vs→aC R ρ top ts' vs'→aC R ρ top (ts++ts') (vs++vs')
 | [],_,_,_,h,h2=>by cases h;exact h2
 |_::ts,_,_,_,⟨v,vs,e,h1,h'⟩,h2=>by subst e;exact .cons' h1 (aC.append h' h2)
theorem aC.drop:∀(n:Nat) {ts:List (TV R.T)} {vs:List V},aC R ρ top ts vs→aC R ρ top (ts.drop n) (vs.drop n)
 |0,_,_,h=>by simpa using h
 |n+1,[],_,h=>by cases h;simp;rfl
 |n+1,_::ts,_,⟨v,vs,e,h1,h'⟩=>by subst e;simpa using aC.drop n h'
theorem aC.take:∀(n:Nat) {ts:List (TV R.T)} {vs:List V},aC R ρ top ts vs→aC R ρ top (ts.take n) (vs.take n)
 |0,_,_,h=>by simp;rfl
 |n+1,[],_,h=>by cases h;simp;rfl
 |n+1,_::ts,_,⟨v,vs,e,h1,h'⟩=>by subst e;simpa using .cons' h1 (aC.take n h')
theorem aC.get:∀{ts:List (TV R.T)} {vs:List V} {i:Nat} {t:TV R.T},aC R ρ top ts vs→ts[i]? =some t→∃v,vs[i]? =some v∧Rl R ρ top t v
 | [],_,_,_,_,h=>by simp at h
 |_::ts,_,0,_,⟨v,vs,e,h1,h'⟩,h=>by subst e;simp at h;subst h;exact⟨v,by simp,h1⟩
 |_::ts,_,i+1,_,⟨v,vs,e,h1,h'⟩,h=>by subst e;simpa using aC.get h' (by simpa using h)
mutual
theorem Rl.wk (t:Nat) (ho:ρ'.ob=ρ.ob∧ρ'.ln=ρ.ln∧ρ'.om=ρ.om) (ht:∀u s,u≠t→ρ.tk u=some s→ρ'.tk u=some s∧top' s=top s):∀(x:TV R.T) (v:V),Rl R ρ top x v→Rl R ρ' top' (wk t x) v
 |.aj (.own u) ty l,v,h=>by
  obtain⟨c',hv,hc⟩:=h
  unfold Aq.wk
  by_cases e:Nat.beq u t=true
  ·rw[e,cond_true];exact⟨c',hv,trivial⟩
  ·have e':Nat.beq u t=false:=Bool.eq_false_iff.2 e
   rw[e',cond_false]
   refine⟨c',hv, ?_⟩
   rcases hc with hc|hc| ⟨s,h1,h2,h3⟩
   ·exact .inl hc
   ·exact .inr (.inl hc)
   ·have hne:u≠t:=fun h=>e (by rw[h];exact Nat.beq_refl t)
    have:=ht u s hne h2
    exact .inr (.inr ⟨s,h1,this.1,by rw[this.2];exact h3⟩)
 |.aj .any ty l,v,h=>by obtain⟨c',hv,hc⟩:=h;exact⟨c',hv,trivial⟩
 |.aj .sh ty l,v,h=>by obtain⟨c',hv,hc⟩:=h;exact⟨c',hv,hc⟩
 |.aj .nil ty l,v,h=>by obtain⟨c',hv,hc⟩:=h;exact⟨c',hv,hc⟩
 |.aj .full ty l,v,h=>by obtain⟨c',hv,hc⟩:=h;exact⟨c',hv,hc⟩
 |.agg cs,v,h=>by obtain⟨l,hv,hl⟩:=h;exact⟨l,hv,aC.wk t ho ht cs l hl⟩
 |.bg cs,v,h=>by obtain⟨l,hv,hl⟩:=h;exact⟨l,hv,aC.wk t ho ht cs l hl⟩
 |.aK cs off,v,h=>by obtain⟨l,hv,hl⟩:=h;exact⟨l,hv,aC.wk t ho ht cs l hl⟩
 |.fn f a b,v,h=>by obtain⟨a',b',hv,ha,hb⟩:=h;exact⟨a',b',hv,aC.wk t ho ht a a' ha,aC.wk t ho ht b b' hb⟩
 |.ref o off,v,h=>by obtain⟨s,h1,h2⟩:=h;exact⟨s,by rw[ho.1];exact h1,by rw[ho.2.2];exact h2⟩
 |.bD o,v,h=>by obtain⟨s,h1,h2⟩:=h;exact⟨s,by rw[ho.1];exact h1,by rw[ho.2.2];exact h2⟩
 |.vw o ty,v,h=>by
  rcases h with ⟨s,h1,h2⟩| ⟨h1,h2⟩
  ·exact .inl ⟨s,by rw[ho.1];exact h1,by rw[ho.2.1,ho.2.2];exact h2⟩
  ·exact .inr ⟨by rw[ho.2.1];exact h1,h2⟩
 |.jB o ty i off,v,h=>by obtain⟨s,h1,h2⟩:=h;exact⟨s,by rw[ho.1];exact h1,by rw[ho.2.2];exact h2⟩
 |.sv o _ _ _ _ _,v,h=>by obtain⟨s,h1,h2⟩:=h;exact⟨s,by rw[ho.1];exact h1,by rw[ho.2.2];exact h2⟩
 |.sel o _ _ _ _ _,v,h=>by obtain⟨s,h1,h2⟩:=h;exact⟨s,by rw[ho.1];exact h1,by rw[ho.2.2];exact h2⟩
 |.sg _,_,h=>h
 |.pz _ _ _ _,_,h=>h
 |.opt _ _ _,_,h=>h.elim
 |.int _ _,_,h=>h
 |.bool _,_,h=>h
 |.gy _,_,h=>h
 |.str _,_,h=>h
 |.eH,_,h=>h
 |.eB,_,h=>h
 |.dU,_,h=>h
 |.fM,_,h=>h
 |.dN,_,h=>h
 |.bV _ _ _,_,h=>h
 |.undef,_,h=>h
 |.gone,_,h=>h
theorem aC.wk (t:Nat) (ho:ρ'.ob=ρ.ob∧ρ'.ln=ρ.ln∧ρ'.om=ρ.om) (ht:∀u s,u≠t→ρ.tk u=some s→ρ'.tk u=some s∧top' s=top s):∀(x:List (TV R.T)) (v:List V),aC R ρ top x v→aC R ρ' top' (tZ t x) v
 | [],_,h=>h
 |x::xs,_,⟨v,vs,e,h1,h2⟩=>⟨v,vs,e,Rl.wk t ho ht x v h1,aC.wk t ho ht xs vs h2⟩
end
mutual
theorem Rl.kill (o:Nat) (ho:∀p,p≠o→ρ'.ob p=ρ.ob p∧ρ'.ln p=ρ.ln p) (ht:ρ'.tk=ρ.tk) (hx:ρ'.om=ρ.om):∀(x:TV R.T) (v:V),kJ o x=false→Rl R ρ top x v→Rl R ρ' top x v
 |.aj c ty l,v,_,h=>by
  obtain⟨c',hv,hc⟩:=h
  refine⟨c',hv, ?_⟩
  cases c<;>try exact hc
  rcases hc with hc|hc| ⟨s,h1,h2,h3⟩
  ·exact .inl hc
  ·exact .inr (.inl hc)
  ·exact .inr (.inr ⟨s,h1,by rw[ht];exact h2,h3⟩)
 |.agg cs,v,hm,h=>by obtain⟨l,hv,hl⟩:=h;exact⟨l,hv,aC.kill o ho ht hx cs l hm hl⟩
 |.bg cs,v,hm,h=>by obtain⟨l,hv,hl⟩:=h;exact⟨l,hv,aC.kill o ho ht hx cs l hm hl⟩
 |.aK cs off,v,hm,h=>by obtain⟨l,hv,hl⟩:=h;exact⟨l,hv,aC.kill o ho ht hx cs l hm hl⟩
 |.fn f a b,v,hm,h=>by
  obtain⟨a',b',hv,ha,hb⟩:=h
  unfold kJ at hm
  rw[Bool.or_eq_false_iff] at hm
  exact⟨a',b',hv,aC.kill o ho ht hx a a' hm.1 ha,aC.kill o ho ht hx b b' hm.2 hb⟩
 |.ref p off,v,hm,h=>by
  obtain⟨s,h1,h2⟩:=h
  unfold kJ at hm
  exact⟨s,((ho p (fun e=>by rw[e,Nat.beq_refl] at hm;cases hm)).1.trans h1),by rw[hx];exact h2⟩
 |.bD p,v,hm,h=>by
  obtain⟨s,h1,h2⟩:=h
  unfold kJ at hm
  exact⟨s,((ho p (fun e=>by rw[e,Nat.beq_refl] at hm;cases hm)).1.trans h1),by rw[hx];exact h2⟩
 |.vw p ty,v,hm,h=>by
  unfold kJ at hm
  obtain⟨k1,k2⟩:=ho p (fun e=>by rw[e,Nat.beq_refl] at hm;cases hm)
  rcases h with ⟨s,h1,h2⟩| ⟨h1,h2⟩
  ·exact .inl ⟨s,k1.trans h1,by rw[k2,hx];exact h2⟩
  ·exact .inr ⟨by rw[k2];exact h1,h2⟩
 |.jB p ty i off,v,hm,h=>by
  obtain⟨s,h1,h2⟩:=h
  unfold kJ at hm
  exact⟨s,((ho p (fun e=>by rw[e,Nat.beq_refl] at hm;cases hm)).1.trans h1),by rw[hx];exact h2⟩
 |.sv p _ _ _ _ _,v,hm,h=>by
  obtain⟨s,h1,h2⟩:=h
  unfold kJ at hm
  exact⟨s,((ho p (fun e=>by rw[e,Nat.beq_refl] at hm;cases hm)).1.trans h1),by rw[hx];exact h2⟩
 |.sel p _ _ _ _ _,v,hm,h=>by
  obtain⟨s,h1,h2⟩:=h
  unfold kJ at hm
  exact⟨s,((ho p (fun e=>by rw[e,Nat.beq_refl] at hm;cases hm)).1.trans h1),by rw[hx];exact h2⟩
 |.sg _,_,_,h=>h
 |.pz _ _ _ _,_,_,h=>h
 |.opt _ _ _,_,_,h=>h.elim
 |.int _ _,_,_,h=>h
 |.bool _,_,_,h=>h
 |.gy _,_,_,h=>h
 |.str _,_,_,h=>h
 |.eH,_,_,h=>h
 |.eB,_,_,h=>h
 |.dU,_,_,h=>h
 |.fM,_,_,h=>h
 |.dN,_,_,h=>h
 |.bV _ _ _,_,_,h=>h
 |.undef,_,_,h=>h
 |.gone,_,_,h=>h
theorem aC.kill (o:Nat) (ho:∀p,p≠o→ρ'.ob p=ρ.ob p∧ρ'.ln p=ρ.ln p) (ht:ρ'.tk=ρ.tk) (hx:ρ'.om=ρ.om):∀(x:List (TV R.T)) (v:List V),lG o x=false→aC R ρ top x v→aC R ρ' top x v
 | [],_,_,h=>h
 |x::xs,_,hm,⟨v,vs,e,h1,h2⟩=>by
  unfold lG at hm
  rw[Bool.or_eq_false_iff] at hm
  exact⟨v,vs,e,Rl.kill o ho ht hx x v hm.1 h1,aC.kill o ho ht hx xs vs hm.2 h2⟩
end
section
variable (hR:mQ R)
include hR
def Bn (v w:V):Prop:=fq v=w∧er v=w∧aF w=true∧(∀n σ,aN (n+2) σ v=some w)∧oneCell v=true∧v.cells=[v]
omit hR in
theorem ad8 {v:V} (h:∀cs,v≠ .agg cs):er v=fq v:=by cases v<;>first|rfl|exact absurd rfl (h _)
theorem mR:∀(t:Ty) (x:Den R.T t),aF (aG R t x)=true
 |.int _,x=>by simp[aG,aF]
 |.bool,x=>by simp[aG,aF]
 |.str,x=>by simp[aG,aF]
 |.slice t,x=>Ae (mR t) x
 |.st n,x=>hR.pc n x
theorem Uv (c:Cp) (hc:Bh ρ top 1 0 c .sh∧(c= .any∨c= .sh)):∀(t:Ty) (x:Den R.T t),mP t=true→Rl R ρ top (wB R c t x) (aG R t x)
 |.int _,x,_=>rfl
 |.bool,x,_=>rfl
 |.str,x,_=>rfl
 |.slice t,x,_=>⟨.sh,rfl,by rcases hc.2 with rfl|rfl<;>first|trivial|rfl⟩
 |.st n,x,h=>by simp[mP] at h
theorem Uw (c:Cp) (hc:Bh ρ top 1 0 c .sh∧(c= .any∨c= .sh)):∀(l:List Ty) (p:lY R.T l),l.all mP=true→aC R ρ top (ji R c l p) (encs R l p)
 | [],_,_=>rfl
 | [t],x,h=>.cons' (Uv hR c hc t x (by simpa using h)) rfl
 |t::u::l,p,h=>by
  rw[List.all_cons,Bool.and_eq_true] at h
  exact .cons' (Uv hR c hc t p.1 h.1) (Uw c hc (u::l) p.2 h.2)
theorem I8 (c:Cp) (hc:c= .any∨c= .sh):∀(t:Ty) (x:Den R.T t),Rl R ρ top (eZ R c t x) (aG R t x)
 |.int _,x=>rfl
 |.bool,x=>rfl
 |.str,x=>rfl
 |.slice t,x=>⟨.sh,rfl,by rcases hc with rfl|rfl<;>first|trivial|rfl⟩
 |.st n,x=>⟨_,hR.enc n x,Uw hR c ⟨by rcases hc with rfl|rfl<;>first|trivial|rfl,hc⟩ _ _ (hR.leaf n)⟩
theorem Ux (t:Ty) (x:Den R.T t):Rl R ρ top (eZ R .sh t x) (aG R t x):=I8 hR .sh (.inr rfl) t x
omit hR in
theorem ad9 (k:IntKind) (n:Int):Bn (.int k n) (.int k n):=⟨rfl,rfl,by simp[aF],fun n σ=>Nr (n+1) _ _,rfl,rfl⟩
omit hR in
theorem aea (b:Bool):Bn (.bool b) (.bool b):=⟨rfl,rfl,by simp[aF],fun n σ=>Ns (n+1) _,rfl,rfl⟩
omit hR in
theorem aeb (b:List UInt8):Bn (.str b) (.str b):=⟨rfl,rfl,by simp[aF],fun n σ=>Nt (n+1) _,rfl,rfl⟩
theorem aec (c:Cap) (t:Ty) (l:List (Den R.T t)):Bn (.aj c (l.map (aG R t))) (aG R (.slice t) l):=⟨rfl,rfl,mR hR (.slice _) _,fun n σ=>wu _ _ (mR hR _),rfl,rfl⟩
omit hR in
theorem Oi {k:IntKind} {x:Int} {tv:TV R.T} {v:V} (h:Ik R k tv=some x) (hr:Rl R ρ top tv v):v= .int k x:=by
 unfold Ik at h
 split at h
 ·split at h
  ·rename_i e;cases e;cases h;exact hr.fG
  ·cases h
 ·cases h
omit hR in
theorem Oj {x:Bool} {tv:TV R.T} {v:V} (h:Il R tv=some x) (hr:Rl R ρ top tv v):v= .bool x:=by
 unfold Il at h
 split at h<;>cases h
 ·exact hr.pK
 ·exact hr.sV
omit hR in
theorem Ol {x:List UInt8} {tv:TV R.T} {v:V} (h:Im R tv=some x) (hr:Rl R ρ top tv v):v= .str x:=by
 unfold Im at h
 split at h<;>cases h
 exact hr.lM
omit hR in
theorem pO {t u:Ty} {l:List (Den R.T t)} {m:List (Den R.T u)} (h:pF R l=some m):t=u∧HEq l m:=by
 unfold pF at h
 split at h
 ·rename_i e;subst e;cases h;exact⟨rfl,HEq.rfl⟩
 ·cases h
omit hR in
theorem Uy {t:Ty} {x:List (Den R.T t)} {tv:TV R.T} {v:V} (h:uW R t tv=some x) (hr:Rl R ρ top tv v):∃c,v= .aj c (x.map (aG R t)):=by
 unfold uW at h
 split at h
 ·obtain⟨e,e2⟩:=pO h;subst e;cases e2
  obtain⟨c',hv,hc⟩:=hr.jO
  exact⟨c',hv⟩
 ·cases h;exact⟨.nil,hr.nK⟩
 ·cases h
theorem Bo {t:Ty} {x:Den R.T t} {tv:TV R.T} {v:V} (h:ou R t tv=some x) (hr:Rl R ρ top tv v):Bn v (aG R t x):=by
 cases t with
 |int k=>rw[Oi h hr];exact ad9 _ _
 |bool=>rw[Oj h hr];exact aea _
 |str=>rw[Ol h hr];exact aeb _
 |slice t=>obtain⟨c,hv⟩:=Uy h hr;rw[hv];exact aec hR _ _ _
 |st n=>cases h
theorem aed {t:Ty} {x:Den R.T t} {cs:List (TV R.T)} {vs:List V} (h:ou R t (hd1 R cs)=some x) (hr:aC R ρ top cs vs):∃v,vs=[v]∧Bn v (aG R t x):=by
 cases cs with
 |nil=>cases t<;>cases h
 |cons c cs=>
  cases cs with
  |nil=>
   obtain⟨v,l,rfl,h1,h2⟩:=hr.dB
   rw[h2.eT]
   exact⟨v,rfl,Bo hR h h1⟩
  |cons c' cs=>cases t<;>cases h
theorem Uz:∀(l:List Ty) (p:lY R.T l) (cs:List (TV R.T)) (vs:List V),wC R l cs=some p→aC R ρ top cs vs→
 vs.map fq=encs R l p∧(∀n σ,vs.mapM (aN (n+2) σ)=some (encs R l p))∧aR (encs R l p)=true∧vs.all (fun v=>oneCell v)=true
 | [],p,cs,vs,h,hr=>by
   cases cs with
   |nil=>rw[hr.eT];exact⟨rfl,fun _ _=>rfl,by simp[encs,aR],rfl⟩
   |cons c cs=>cases h
 | [t],p,cs,vs,h,hr=>by
   obtain⟨v,rfl,a,b,c,d,e,_⟩:=aed hR (show ou R t (hd1 R cs)=some p from h) hr
   exact⟨by simp[encs,a],fun n σ=>by simp[encs,d],by simp[encs,aR,c],by simp[e]⟩
 |t::u::l,p,cs,vs,h,hr=>by
  cases cs with
  |nil=>cases h
  |cons c cs=>
   obtain⟨v,vs,rfl,h1,h2⟩:=hr.dB
   unfold wC at h
   cases hu:ou R t c with
   |none=>simp only[hu] at h;cases h
   |some y=>
    cases hs:wC R (u::l) cs with
    |none=>simp only[hu,hs] at h;cases h
    |some q=>
     simp only[hu,hs] at h
     obtain rfl:=Option.some.inj h
     obtain⟨a,b,c,d,e,_⟩:=Bo hR hu h1
     obtain⟨a',d',c',o'⟩:=Uz (u::l) q cs vs hs h2
     exact⟨by simp[encs,a,a'],fun n σ=>by simp[encs,d,d'],by simp[encs,aR,c,c'],by simp[e,o']⟩
omit hR in
theorem Om:∀(l:List Ty) (p:lY R.T l),(encs R l p).length=l.length
 | [],_=>rfl
 | [_],_=>rfl
 |_::u::l,p=>by show (encs R (u::l) p.2).length+1=_;rw[Om];rfl
omit hR in
theorem Oo {n:Nat} {σ:ah} (cs:List V):aN (n+3) σ (.agg cs)=(cs.mapM (aN (n+2) σ)).map .agg:=by
 by_cases hp:aF (.agg cs)=true
 ·rw[jA hp]
  have:∀cs:List V,aR cs=true→cs.mapM (aN (n+2) σ)=some cs:=by
   intro cs
   induction cs with
   |nil=>intro _;rfl
   |cons a l ih=>
    intro h
    simp only[aR,Bool.and_eq_true] at h
    rw[List.mapM_cons,jA h.1,ih h.2];rfl
  rw[this cs (by simpa [aF] using hp)];rfl
 ·conv=>lhs;unfold aN
  simp only[hp,if_false,Bool.false_eq_true]
theorem Oq {t:Ty} {x:Den R.T t} {tv:TV R.T} {v:V} (h:nD R t tv=some x) (hr:Rl R ρ top tv v):
 er v=aG R t x∧aF (aG R t x)=true∧(∀n σ,aN (n+3) σ v=some (aG R t x))∧v.cells.length=bI R t∧bf v.cells=true:=by
 cases t with
 |st n=>
  change xS R n tv=some x at h
  unfold xS at h
  split at h
  ·rename_i cs
   split at h
   ·rename_i p hp
    obtain rfl:=Option.some.inj h
    obtain⟨l,hv,hl⟩:=hr.jN
    subst hv
    obtain⟨a,d,c,o⟩:=Uz hR _ _ _ _ hp hl
    have he:aG R (.st n) (R.to n p)= .agg (encs R (R.lf n) p):=by
     show R.enc n (R.to n p)=_
     rw[hR.enc,hR.En]
    refine⟨?_,mR hR (.st n) _,fun k σ=> ?_, ?_,o⟩
    ·rw[he];show V.agg (l.map fq)=_;rw[a]
    ·rw[he,Oo,d k σ];rfl
    ·show l.length=_
     have:=congrArg List.length a
     rw[List.length_map] at this
     rw[this];exact Om _ _
   ·cases h
  ·cases h
 |int k=>
  obtain⟨a,b,c,d,e,f⟩:=Bo hR (t:=.int k) h hr
  exact⟨b,c,fun n σ=>d (n+1) σ,by rw[f];rfl,by rw[f];simp[bf,e]⟩
 |bool=>
  obtain⟨a,b,c,d,e,f⟩:=Bo hR (t:=.bool) h hr
  exact⟨b,c,fun n σ=>d (n+1) σ,by rw[f];rfl,by rw[f];simp[bf,e]⟩
 |str=>
  obtain⟨a,b,c,d,e,f⟩:=Bo hR (t:=.str) h hr
  exact⟨b,c,fun n σ=>d (n+1) σ,by rw[f];rfl,by rw[f];simp[bf,e]⟩
 |slice t=>
  obtain⟨a,b,c,d,e,f⟩:=Bo hR (t:=.slice t) h hr
  exact⟨b,c,fun n σ=>d (n+1) σ,by rw[f];rfl,by rw[f];simp[bf,e]⟩
end
end
end Aq
end
