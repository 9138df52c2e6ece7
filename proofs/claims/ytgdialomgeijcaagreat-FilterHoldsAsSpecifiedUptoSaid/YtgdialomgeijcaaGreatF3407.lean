/- Part of the proof of a law. -/
import Derived.Test.YtgdialomgeijcaaGreatF3406
set_option linter.all false
set_option linter.unusedSimpArgs false
set_option linter.unusedSectionVars false
section
namespace Aq
open Go
inductive bW (R:fI) where
 |t (v:TV R.T)
 |c (b:Bool) (v:TV R.T)
 |w (v:TV R.T) (st:MS R.T)
 |wc (b:Bool) (v:TV R.T) (st:MS R.T)
 |p (α:Type) (d:α) (o:Option α) (f:α→TV R.T)
section
variable (E:Env) (R:fI)
def FN {T:Nat→Type} (agg:Bool) (n:Nat) (cs:List (TV T)) (off:Nat):Option (TV T):=
 bif agg then (bif Nat.ble (off+n) cs.length then some (.agg ((cs.drop off).take n)) else none) else cs[off]?
def iU {T:Nat→Type} (t:TypeId) (cs:List (TV T)) (off:Nat):Option (TV T):=
 match gB E.P t with
 |some a=>match bF E.P t with
  |some n=>FN a n cs off
  |none=>none
 |none=>none
def zH {T:Nat→Type} (cs:List (TV T)) (off:Nat) (vs:List (TV T)):List (TV T):=cs.take off++vs++cs.drop (off+vs.length)
def FP {T:Nat→Type} (place:Nat→Option (Nat×Nat)) (cells:List (TV T)):List (Nat×TV T)→Option (List (TV T))
 | []=>some cells
 | (i,v)::rest=>match place i with
   |none=>none
   |some (off,size)=>bif Nat.beq v.cells.length size&& Nat.ble (off+size) cells.length&& vo v then FP place (zH cells off v.cells) rest else none
def tY {T:Nat→Type} (t:TypeId):Option (TV T):=match E.P.info? t with
 |some i=>match i.zero with
  |some z=>zy z
  |none=>none
 |none=>none
def bM {T:Nat→Type}:TV T→Option Bool
 |.bool a=>some a
 |.fq a=>some a
 |_=>none
def FQ {T:Nat→Type} (x y:TV T):Option Bool:=match bM x,bM y with
 |some a,some b=>some (a==b)
 |_,_=>none
def zI {T:Nat→Type} (eq:TypeId→TV T→TV T→Option Bool) (xs ys:List (TV T)):List Field→Option Bool
 | []=>some true
 |f::fs=>if f.name= "_" then zI eq xs ys fs else
  match iU E f.type xs f.offset with
  |none=>none
  |some a=>match iU E f.type ys f.offset with
   |none=>none
   |some b=>match eq f.type a b with
    |none=>none
    |some r=>match zI eq xs ys fs with
     |none=>none
     |some q=>some (r&& q)
def CJ {T:Nat→Type} (eq:TypeId→TV T→TV T→Option Bool) (e:TypeId) (sz:Nat) (xs ys:List (TV T)):List Nat→Option Bool
 | []=>some true
 |i::is=>match iU E e xs (i*sz) with
  |none=>none
  |some a=>match iU E e ys (i*sz) with
   |none=>none
   |some b=>match eq e a b with
    |none=>none
    |some r=>match CJ eq e sz xs ys is with
     |none=>none
     |some q=>some (r&& q)
def zJ {T:Nat→Type}:Nat→TypeId→TV T→TV T→Option Bool
 |0,_,_,_=>none
 |d+1,t,x,y=>
  match E.P.underlying t,x,y with
  |some (.struct fs),.agg xs,.agg ys=>if E.P.stoodInHeld t then none else zI E (zJ d) xs ys fs.toList
  |some (.array n e),.agg xs,.agg ys=>match bF E.P e with
   |some sz=>CJ E (zJ d) e sz xs ys (List.range n)
   |none=>none
  |some (.struct _),_,_=>none
  |some (.array _ _),_,_=>none
  |some .bool,x,y=>FQ x y
  |some (.int _),.int k a,.int k' b=>if k=k' then some (a==b) else none
  |some .string,.str a,.str b=>some (a==b)
  |_,_,_=>none
def FT {T:Nat→Type} (t:TypeId) (x y:TV T):Option Bool:=
 match E.P.underlying t,x,y with
 |some (.struct _),.agg a,.agg b=>if E.P.eqGuardType E.P.depth t then none else zJ E 8 t (.agg a) (.agg b)
 |some (.array _ _),.agg a,.agg b=>if E.P.eqGuardType E.P.depth t then none else zJ E 8 t (.agg a) (.agg b)
 |some (.func ..),.dJ,.dJ=>some true
 |some (.func ..),.dJ,.fn _ _ _=>some false
 |some (.func ..),.fn _ _ _,.dJ=>some false
 |some .bool,x,y=>FQ x y
 |_,_,_=>none
def FU (op:BinOp) (k:IntKind) (x y:Int):Option (bW R):=
 match op with
 |.add=>some (.t (.int k (k.wrap (x+y))))
 |.sub=>some (.t (.int k (k.wrap (x-y))))
 |.mul=>some (.t (.int k (k.wrap (x*y))))
 |.quo=>some (.c (!(y==0)) (.int k (k.wrap (x.tdiv y))))
 |.rem=>some (.c (!(y==0)) (.int k (x.tmod y)))
 |.and=>some (.t (.int k (k.wrap (BitVec.ofInt k.bits x&&& BitVec.ofInt k.bits y).toNat)))
 |.or=>some (.t (.int k (k.wrap (BitVec.ofInt k.bits x|||BitVec.ofInt k.bits y).toNat)))
 |.xor=>some (.t (.int k (k.wrap (BitVec.ofInt k.bits x^^^BitVec.ofInt k.bits y).toNat)))
 |.andNot=>some (.t (.int k (k.wrap (BitVec.ofInt k.bits x&&& ~~~BitVec.ofInt k.bits y).toNat)))
 |.eql=>some (.t (.bool (x==y)))
 |.neq=>some (.t (.bool (x !=y)))
 |.lss=>some (.t (.bool (decide (x<y))))
 |.leq=>some (.t (.bool (decide (x≤y))))
 |.gtr=>some (.t (.bool (decide (x>y))))
 |.geq=>some (.t (.bool (decide (x≥y))))
 |_=>none
def Kr (op:BinOp) (k:IntKind) (x y:Int):Option (bW R):=
 match op with
 |.shl=>some (.c (decide (0≤y)) (.int k (k.wrap (x*2^min y.toNat k.bits))))
 |.shr=>some (.c (decide (0≤y)) (.int k (x.fdiv (2^min y.toNat k.bits))))
 |_=>none
def Kt (op:BinOp) (x y:List UInt8):Option (bW R):=
 match op with
 |.add=>some (.c (decide (((x.length+y.length:Nat):Int)≤IntKind.i64.max)) (.str (x++y)))
 |.eql=>some (.t (.bool (x==y)))
 |.neq=>some (.t (.bool (!(x==y))))
 |.lss=>some (.t (.bool (Op.bytesLess x y)))
 |.leq=>some (.t (.bool (Op.bytesLess x y||x==y)))
 |.gtr=>some (.t (.bool (!(Op.bytesLess x y||x==y))))
 |.geq=>some (.t (.bool (!(Op.bytesLess x y))))
 |_=>none
def zK:BinOp→Bool
 |.shl=>true
 |.shr=>true
 |_=>false
def Ku (op:BinOp) (t:TypeId) (x y:TV R.T):Option (bW R):=
 match x,y with
 |.int k a,.int k' b=>bif zK op then Kr R op k a b else (if k=k' then FU R op k a b else none)
 |.str a,.str b=>Kt R op a b
 |x,y=>match op with
  |.eql=>match FT E t x y with
   |some b=>some (.t (.bool b))
   |none=>none
  |.neq=>match FT E t x y with
   |some b=>some (.t (.bool (!b)))
   |none=>none
  |_=>none
def Kv (op:UnOp) (x:TV R.T):Option (bW R):=
 match op,x with
 |.neg,.int k n=>some (.t (.int k (k.wrap (0-n))))
 |.xor,.int k n=>FU R .xor k (if k.signed then-1 else k.max) n
 |.not,.bool b=>some (.t (.bool (!b)))
 |.not,.fq b=>some (.t (.fq (!b)))
 |_,_=>none
def FV (src dst:TypeId) (x:TV R.T):Option (bW R):=
 match E.P.underlying src,E.P.underlying dst,x with
 |some _,some (.int k),.int _ n=>some (.t (.int k (k.wrap n)))
 |some _,some .string,.str s=>some (.t (.str s))
 |some _,some (.slice e),.str s=>match E.P.underlying e with
  |some (.int .u8)=>some (.t (.aj .any (.int .u8) (s.map fun b=>((b.toNat:Nat):Int))))
  |_=>none
 |some (.slice e),some .string,.aj _ (.int .u8) l=>match E.P.underlying e with
  |some (.int .u8)=>some (.t (.str (List.map (fun n:Int=>UInt8.ofNat n.toNat) l)))
  |_=>none
 |some (.slice e),some .string,.d9=>match E.P.underlying e with
  |some (.int .u8)=>some (.t (.str []))
  |_=>none
 |_,_,_=>none
def jw (i:Int) (n:Nat):Bool:=decide (0≤i∧i≤n)
def zL:Option (TV R.T)→Option (Option Int)
 |none=>some none
 |some (.int _ n)=>some (some n)
 |_=>none
def mH {α:Type} (l:List α):Option Int→Option Int→List α
 |none,none=>l
 |some i,none=>l.drop i.toNat
 |none,some j=>l.take j.toNat
 |some i,some j=>(l.take j.toNat).drop i.toNat
def Kw (n:Nat):Option Int→Option Int→Bool
 |none,none=>true
 |some i,none=>jw i n
 |none,some j=>jw j n
 |some i,some j=>jw j n&& jw i j.toNat
def vC (t:TypeId) (x:TV R.T) (lo hi:Option (TV R.T)):Option (bW R):=
 match zL R lo,zL R hi with
 |some lo,some hi=>match E.P.underlying t,x with
  |some .string,.str s=>some (.c (Kw s.length lo hi) (.str (mH s lo hi)))
  |some (.slice e),.aj _ u l=>match bF E.P e with
   |some sz=>bif Nat.beq sz (bR R u) then some (.c (Kw l.length lo hi) (.aj .any u (mH l lo hi))) else none
   |none=>none
  |_,_=>none
 |_,_=>none
def QF {T:Nat→Type} (t:TypeId) (f:Nat) (x:TV T):Option (TV T):=
 match qK E.P t f with
 |some (o,_)=>match x with
  |.ref p off=>some (.ref p (off+o))
  |.aH cs off=>some (.aH cs (off+o))
  |.iq p t i off=>some (.iq p t i (off+o))
  |_=>none
 |none=>none
def jy (R:fI):(t:Ty)→Den R.T t→Den R.T t→Bool
 |.int _=>fun (a b:Int)=>a==b
 |.bool=>fun (a b:Bool)=>a==b
 |.str=>fun (a b:List UInt8)=>a==b
 |.slice _=>fun _ _=>false
 |.st _=>fun _ _=>false
def tZ (t:TypeId) (k:Ty):Bool:=match E.P.underlying t,k with
 |some (.int _),.int _=>true
 |some .string,.str=>true
 |some .bool,.bool=>true
 |_,_=>false
def xu {α β:Type} (eq:α→α→Bool) (x:α):List (α×β)→Option β
 | []=>none
 | (a,v)::m=>bif eq x a then some v else xu eq x m
def vD {α β:Type} (eq:α→α→Bool) (x:α) (v:β):List (α×β)→List (α×β)
 | []=>[(x,v)]
 | (a,w)::m=>bif eq x a then (x,v)::m else (a,w)::vD eq x v m
def QG {α:Type} (d:α):Option α→α
 |some x=>x
 |none=>d
def QH (t:Ty) (v:TV R.T):Option (Den R.T t):=bif iH v then lK R t v else none
def CK (t:TypeId) (k e:Ty) (m:List (Den R.T k×Den R.T e)) (x:TV R.T) (ok:Bool):Option (bW R):=
 match ou E.P t with
 |some (kt,et)=>bif tZ E kt k then (match tY (T:=R.T) E et with
  |some z=>match lK R e z,lK R k x with
   |some z,some x=>some (.t (bif ok then .aT [dN R .any e (QG z (xu (jy R k) x m)),.bool (xu (jy R k) x m).isSome] else dN R .any e (QG z (xu (jy R k) x m))))
   |_,_=>none
  |none=>none) else none
 |none=>none
def FX (t:TypeId) (m x:TV R.T) (ok:Bool) (st:MS R.T):Option (bW R):=
 match m with
 |.bq o=>match jU st o with
  |some (.map k e m)=>CK E R t k e m x ok
  |_=>none
 |.bL k e m=>CK E R t k e m x ok
 |.dF=>match ou E.P t with
  |some (kt,et)=>match R.ty kt,R.ty et with
   |some k,some e=>CK E R t k e [] x ok
   |_,_=>none
  |none=>none
 |_=>none
def FY {T:Nat→Type}:TV T→TV T→Option Bool
 |.int k a,.int k' b=>if k=k' then some (a==b) else none
 |.str a,.str b=>some (a==b)
 |_,_=>none
def FZ {T:Nat→Type} (t:TypeId):TV T→Bool:=fun v=>match E.P.underlying t,v with
 |some (.int _),.int _ _=>true
 |some .string,.str _=>true
 |_,_=>false
def F3 {T:Nat→Type} (x v:TV T):List (TV T)→List (TV T)→Option (List (TV T)×List (TV T))
 | [],[]=>some ([x],[v])
 |a::ks,w::vs=>match FY x a with
  |some b=>bif b then some (x::ks,v::vs) else (match F3 x v ks vs with
   |some (ks,vs)=>some (a::ks,w::vs)
   |none=>none)
  |none=>none
 |_,_=>none
def zM (t:TypeId) (m x v:TV R.T) (st:MS R.T):Option (bW R):=
 match m with
 |.bq o=>match look st.ob o with
  |some (.map k e m)=>match ou E.P t with
   |some (kt,_)=>bif tZ E kt k then (match lK R k x,QH R e v with
    |some x,some v=>some (.w .undef (st.set o (.map k e (vD (jy R k) x v m))))
    |_,_=>none) else none
   |none=>none
  |some (.smap ks vs)=>match ou E.P t with
   |some (kt,_)=>bif FZ E kt x then (match F3 x v ks vs with
    |some (ks,vs)=>some (.w .undef (st.set o (.smap ks vs)))
    |none=>none) else none
   |none=>none
  |_=>none
 |_=>none
def fK:Ty→Bool
 |.st _=>true
 |_=>false
def zN (t:TypeId):Option (TypeId×Ty×Nat×Nat):=
 match iA E.P t with
 |some e=>match R.ty e,bF E.P e,pE E.P e,gB E.P e,fO E.P e with
  |some u,some sz,some dI,some ag,some z=>bif Nat.beq sz (bR R u)&& Nat.blt 0 sz&& (ag||Nat.beq sz 1)&& Nat.beq z.cells.length sz&& (ag==fK u) then some (e,u,sz,dI) else none
  |_,_,_,_,_=>none
 |none=>none
def vE (t:Ty) (n:Nat):List (Nat×TV R.T)→Option (List (Den R.T t))
 | []=>some []
 | (i,v)::l=>bif Nat.beq i n then (match lK R t v with
   |some x=>match vE t (n+1) l with
    |some y=>some (x::y)
    |none=>none
   |none=>none) else none
def Ky (t:TypeId) (len:Nat) (ps:List (Nat×TV R.T)):Option (bW R):=
 match zN E R t with
 |some (_,u,sz,_)=>bif Nat.ble (len*sz) (2^24)&& Nat.beq ps.length len then (match vE R u 0 ps with
  |some l=>some (.t (.aj .full u l))
  |none=>none) else none
 |none=>none
def CO (u:Ty):TV R.T→Option (List (Den R.T u))
 |.aj _ _ l=>mq R l
 |.d9=>some []
 |.str s=>mq (t:=.int .u8) (u:=u) R (s.map fun b=>((b.toNat:Nat):Int))
 |_=>none
def QI (u:Ty) (d:Nat):TV R.T→Option (Nat×List (Den R.T u))
 |.aj .nil _ l=>match mq R l with
  |some l=>some (d,l)
  |none=>none
 |.aj .full _ l=>match mq R l with
  |some l=>some (d,l)
  |none=>none
 |.aj (.own t) _ l=>match mq R l with
  |some l=>some (t,l)
  |none=>none
 |.d9=>some (d,[])
 |_=>none
def zO (t:TypeId):Bool:=match E.P.underlying t with
 |some (.slice _)=>true
 |some .string=>true
 |_=>false
def CP (d:Option Nat) (t u:TypeId) (x y:TV R.T) (st:MS R.T):Option (bW R):=
 match d with
 |some d=>match zN E R t with
  |some (_,τ,_,dI)=>bif zO E u then (match QI R τ d x,CO R τ y with
   |some (tk,l),some l'=>some (.wc (iY (l.length+l'.length) dI) (.aj (.own tk) τ (l++l')) (st.wk tk))
   |_,_=>none) else none
  |none=>none
 |none=>none
def CQ (d:Option Nat) (t u:TypeId) (x y:TV R.T) (st:MS R.T):Option (bW R):=
 match d with
 |some d=>match zN E R t with
  |some (_,τ,_,dI)=>bif zO E u then (match CO R τ y with
   |some l'=>match x with
    |.vw o τ0=>if τ0=τ then (match look st.ob o with
     |some (.arr τ' l)=>match l',mq R (u:=τ) l with
      |a::l',some l=>some (.wc (iY (l.length+(a::l').length) dI) (.vw d τ) ((st.del o).new d (.arr τ (l++a::l'))))
      |_,_=>none
     |_=>none) else none
    |x=>bif zG x then some (.wc (iY l'.length dI) (.vw d τ) (st.new d (.arr τ l'))) else none
   |none=>none) else none
  |none=>none
 |none=>none
def Kz (om:Bool) (d:Option Nat) (t:TypeId) (n m:TV R.T) (st:MS R.T):Option (bW R):=
 match d,zN E R t,n,m with
 |some d,some (e,τ,_,dI),.int _ n,.int _ m=>match tY (T:=R.T) E e with
  |some z=>match lK R τ z with
   |some z=>bif om then some (.wc (decide (0≤n∧n=m∧m≤2^47)&& iY m.toNat dI) (.vw d τ) (st.new d (.arr τ (List.replicate n.toNat z))))
    else some (.wc (decide (n=0∧0≤m∧m≤2^47)&& iY m.toNat dI) (.aj (.own d) τ []) (st.wk d))
   |none=>none
  |none=>none
 |_,_,_,_=>none
def zP {T:Nat→Type} (mx:Bool):TV T→List (TV T)→Option (TV T)
 |x,[]=>some x
 |.int k a,.int k' b::l=>if k=k' then zP mx (.int k (bif mx then imax a b else Kj a b)) l else none
 |_,_=>none
def KC {T:Nat→Type} (t:TypeId) (x:TV T) (st:MS T):Option Nat:=
 match E.P.underlying t,x with
 |some (.slice _),.aj _ _ l=>some l.length
 |some (.slice _),.d9=>some 0
 |some (.slice _),.vw o _=>match jU st o with
  |some (.arr _ l)=>some l.length
  |_=>none
 |some .string,.str s=>some s.length
 |some (.map _ _),.bq o=>match jU st o with
  |some (.map _ _ m)=>some m.length
  |_=>none
 |some (.map _ _),.bL _ _ m=>some m.length
 |some (.map _ _),.dF=>some 0
 |some (.array n _),_=>some n
 |_,_=>none
def blt (om:Bool) (d:Option Nat) (b:Builtin) (tys:Array TypeId) (args:List (TV R.T)) (st:MS R.T):Option (bW R):=
 match b,args with
 |.len,[x]=>match tys[0]? with
  |some t=>match KC E t x st with
   |some n=>some (.t (.int .i64 ((n:Nat):Int)))
   |none=>none
  |none=>none
 |.append,[x,y]=>match tys[0]?,tys[1]? with
  |some t,some u=>bif om then CQ E R d t u x y st else CP E R d t u x y st
  |_,_=>none
 |.min,x::l=>match zP false x l with
  |some v=>some (.t v)
  |none=>none
 |.max,x::l=>match zP true x l with
  |some v=>some (.t v)
  |none=>none
 |_,_=>none
def QJ:List (TV R.T)→TV R.T
 | [v]=>v
 |vs=>.aT vs
def findF (args aU:List (TV R.T)):List (FR R)→Option (bW R)
 | []=>none
 |r::l=>match eF R r.args aU with
  |some p=>bif gH r.args&& Nat.ble (lQ r.args) 18&& gH r.res&& (vv args||zC r.res) then some (.p (ak R.T r.res) r.d (r.F p) fun x=>QJ R (gN R .sh r.res x)) else none
  |none=>findF args aU l
def KE (t:TypeId) (x i:TV R.T):Option (bW R):=
 match E.P.underlying t,x,i with
 |some (.slice e),.aj _ u l,.int _ n=>match bF E.P e with
  |some sz=>bif Nat.beq sz (bR R u) then some (.p (Den R.T u) (zu R u) (dX l n) fun y=>.aH (dN R .sh u y).cells 0) else none
  |none=>none
 |some (.array n e),.ref o off,.int _ k=>match bF E.P e with
  |some sz=>some (.c (decide (0≤k∧k<n)) (.ref o (off+k.toNat*sz)))
  |none=>none
 |some (.array n e),.aH cs off,.int _ k=>match bF E.P e with
  |some sz=>some (.c (decide (0≤k∧k<n)) (.aH cs (off+k.toNat*sz)))
  |none=>none
 |_,_,_=>none
def KF (t:TypeId) (o:Nat) (τ:Ty) (i:TV R.T) (st:MS R.T):Option (bW R):=
 match E.P.underlying t,i with
 |some (.slice e),.int _ n=>match bF E.P e with
  |some sz=>bif Nat.beq sz (bR R τ) then (match jU st o with
   |some (.arr _ l)=>some (.c (decide (0≤n∧n< ((l.length:Nat):Int))) (.iq o τ n 0))
   |_=>none) else none
  |none=>none
 |_,_=>none
def aa7 {T:Nat→Type}:Option (TV T)→TV T
 |some v=>v
 |none=>.gone
def KG (t:TypeId) (τ:Ty) (i:Int) (off:Nat) (o:Ob R.T):Option (bW R):=
 match o with
 |.arr τ' l=>match mq R (u:=τ) l with
  |some l=>bif (iU E t (dN R .any τ (zu R τ)).cells off).isSome then some (.p (Den R.T τ) (zu R τ) (dX l i) fun y=>aa7 (iU E t (dN R .any τ y).cells off)) else none
  |none=>none
 |_=>none
def KH (τ:Ty) (cs:List (TV R.T)):Option (Den R.T τ):=match τ with
 |.st n=>w9 R n (.agg cs)
 |.int k=>mD R (.int k) (hd1 R cs)
 |.bool=>mD R .bool (hd1 R cs)
 |.str=>mD R .str (hd1 R cs)
 |.slice t=>mD R (.slice t) (hd1 R cs)
def KI (t:TypeId) (x i:TV R.T):Option (bW R):=
 match E.P.underlying t,x,i with
 |some .string,.str s,.int _ n=>some (.p UInt8 0 (dX s n) fun b=>.int .u8 ((b.toNat:Nat):Int))
 |_,_,_=>none
def zQ {T:Nat→Type} (c:Bool):TV T→TV T→Option (TV T)
 |.int k a,.int k' b=>if k=k' then some (.int k (bif c then a else b)) else none
 |.bool a,.bool b=>some (.bool (bif c then a else b))
 |.bool a,.fq b=>some (.bool (bif c then a else b))
 |.fq a,.bool b=>some (.bool (bif c then a else b))
 |.fq a,.fq b=>some (.bool (bif c then a else b))
 |.str a,.str b=>some (.str (bif c then a else b))
 |_,_=>none
def QK (P:Program):Nat→TypeId→Option (List gG)
 |0,_=>none
 |n+1,t=>match P.underlying t with
  |some (.int k)=>some [.i k]
  |some (.array m e)=>match P.underlying e with
   |some (.int k)=>some [.a k m]
   |_=>none
  |some (.struct fs)=>fs.toList.foldr (fun f acc=>match QK P n f.type,acc with
   |some a,some b=>some (a++b)
   |_,_=>none) (some [])
  |_=>none
def QL:List gG→Bool
 | []=>false
 |.a _ _::_=>true
 |_::l=>QL l
def QM (t:TypeId):Option (List gG):=match R.ty t with
 |some _=>none
 |none=>match QK E.P 4 t with
  |some ks=>bif QL ks then some ks else none
  |none=>none
def Sg.sk:Sg→gG
 |.i k _=>.i k
 |.a k n _=>.a k n
def F4:gG→Sg
 |.i k=>.i k 0
 |.a k n=>.a k n (Vec.rep n 0)
def xw {T:Nat→Type} (k:IntKind):List (TV T)→Bool
 | []=>true
 |.int k' x::l=>(if k'=k then (if x=0 then true else false) else false)&& xw k l
 |_=>false
def zR {T:Nat→Type}:List gG→List (TV T)→Bool
 | [],[]=>true
 |.i k::l,v::vs=>xw k [v]&& zR l vs
 |.a k n::l,vs=>Nat.ble n vs.length&& xw k (vs.take n)&& zR l (vs.drop n)
 |_,_=>false
def vF {T:Nat→Type}:List gG→List (TV T)→Option (List Sg)
 | [],[]=>some []
 |.i k::l,.int k' x::vs=>if k'=k then (match vF l vs with
  |some r=>some (.i k x::r)
  |none=>none) else none
 |.a k n::l,vs=>match vg k (vs.take n) with
  |some xs=>bif Nat.beq xs.length n then (match vF l (vs.drop n) with
   |some r=>some (.a k n (Vec.lit n xs)::r)
   |none=>none) else none
  |none=>none
 |_,_=>none
def CS {T:Nat→Type}:List Sg→List (TV T)
 | []=>[]
 |.i k x::l=>.int k x::CS l
 |.a k n v::l=>(List.range n).map (fun j=>TV.int k (v.nth j))++CS l
def zS:List gG→List gG→Bool
 | [],[]=>true
 |.i k::l,.i k'::l'=>(if k=k' then true else false)&& zS l l'
 |.a k n::l,.a k' n'::l'=>(if k=k' then true else false)&& Nat.beq n n'&& zS l l'
 |_,_=>false
def F5 {T:Nat→Type} (ks:List gG):TV T→Option (List Sg)
 |.sg ss=>bif zS ks (ss.map Sg.sk) then some ss else none
 |.agg cs=>vF ks cs
 |.int k x=>match ks with
  | [.i k']=>if k'=k then some [.i k x] else none
  |_=>none
 |_=>none
def F6 (t:TypeId) (ss:List Sg) (off:Nat):Option (TV R.T):=
 match lN ss off,bF E.P t,gB E.P t with
 |some (_,rest),some sz,some ag=>match lN rest sz with
  |some (mid,_)=>bif ag then (match R.ty t with
   |none=>some (.sg mid)
   |some _=>some (.agg (CS mid))) else (match mid with
   | [.i k x]=>some (.int k x)
   |_=>none)
  |none=>none
 |_,_,_=>none
def KJ (t:TypeId) (k:IntKind) (m:Nat) (n:Nat) (v:Vec n) (i:Int):Option (TV R.T):=
 match mW E.P t,bF E.P t,gB E.P t with
 |some (m',e),some sz,some true=>bif Nat.beq m' m&& Nat.beq sz m then (match R.ty t with
  |none=>some (.sg [.a k m (v.slc i m)])
  |some _=>some (.agg ((List.range m).map fun j=>.int k (v.nth (i.toNat+j))))) else none
 |_,_,_=>none
def mI (t:TypeId):Bool:=match bF E.P t,gB E.P t with
 |some sz,some ag=>Nat.beq sz 1&& !ag
 |_,_=>false
def F7 (k:IntKind):List V→List Int→Bool
 | [],[]=>true
 |.int k' x::l,y::m=>(if k'=k then (if x=y then true else false) else false)&& F7 k l m
 |_,_=>false
def F8 (g:Nat) (t:TypeId):Option ((k:IntKind)×(n:Nat)×Vec n):=
 match E.glob g,R.gl g,mW E.P t,bF E.P t,gB E.P t with
 |some cs,some ⟨k,n,v⟩,some (m,e),some sz,some ag=>bif ag&& Nat.beq m n&& Nat.beq sz n&& mI E e&& F7 k cs v.l then some ⟨k,n,v⟩ else none
 |_,_,_,_,_=>none
def CU (i:Int) (n:Nat):Bool:=decide (0≤i∧i<n)
def oK (n:Nat):Option Int→Option Int→Bool
 |none,none=>true
 |some i,none=>decide (0≤i∧(i<n∨i=0))
 |none,some j=>decide (0≤j∧j≤n)
 |some i,some j=>decide (0≤i∧i≤j∧j≤n∧(i<j∨i=0))
def bP:Option Int→Int
 |some i=>i
 |none=>0
def dY (n:Nat):Option Int→Int
 |some i=>i
 |none=>n
def vG (t:TypeId) (x:TV R.T) (lo hi:Option (TV R.T)) (st:MS R.T):Option (bW R):=
 match x,zL R lo,zL R hi,mW E.P t with
 |.ref o off,some lo,some hi,some (n,e)=>bif mI E e then (match jU st o with
  |some (.sg ss)=>match lN ss off with
   |some (_,.a k n' _::_)=>bif Nat.beq n' n then some (.c (oK n lo hi) (.sv o off k n lo hi)) else none
   |_=>none
  |some (.cells cs)=>match (cs.drop off) with
   |.int k _::_=>bif Nat.ble (off+n) cs.length then some (.c (oK n lo hi) (.sv o off k n lo hi)) else none
   |_=>none
  |_=>none) else none
 |.aH cs off,some none,some none,some (n,e)=>bif mI E e&& Nat.ble (off+n) cs.length then (match cs with
  |.int k _::_=>match vg k cs with
   |some l=>some (.t (.aj .any (.int k) ((l.drop off).take n)))
   |none=>none
  |_=>none) else none
 |_,_,_,_=>none
def QN (d:Option Nat):Bool:=match d with
 |some d=>E.own F0 d
 |none=>false
def QO (k:IntKind) (m:Nat) (l:List Int):List (TV R.T):=(List.range m).map fun j=>.int k (l.getD j 0)
def mJ (g:List (Nat×Bool)) (d:Option Nat) (o:Op) (st:MS R.T):Option (bW R):=
 match o with
 |.alloc t=>match d,QM E R t,tY (T:=R.T) E t with
  |some d,some ks,some (.agg cs)=>bif zR ks cs then some (.w (.ref d 0) (st.new d (.sg (ks.map F4)))) else none
  |_,_,_=>none
 |.box t x=>bif E.qN t then none else match d,QM E R t,aV g st x with
  |some d,some ks,some v=>match F5 ks v with
   |some ss=>some (.w (.ref d 0) (st.new d (.sg ss)))
   |none=>none
  |_,_,_=>none
 |.load t a=>match a with
  |.global gl=>match F8 E R gl t with
   |some ⟨k,n,v⟩=>some (.t (.sg [.a k n v]))
   |none=>none
  |a=>match aV g st a with
   |some (.ref o off)=>match jU st o with
    |some (.sg ss)=>match F6 E R t ss off with
     |some v=>some (.t v)
     |none=>none
    |_=>none
   |some (.sel o off k n i m)=>match jU st o with
    |some (.sg ss)=>match lN ss off with
     |some (_,.a k' n' v::_)=>if k'=k then (bif Nat.beq n' n then (bif Nat.beq m 1&& mI E t then some (.t (.int k (v.at' i))) else (match KJ E R t k m n' v i with
      |some v=>some (.t v)
      |none=>none)) else none) else none
     |_=>none
    |_=>none
   |some (.nL k n v i)=>bif mI E t then some (.t (.int k (v.at' i))) else none
   |_=>none
 |.store t a x=>match aV g st a,aV g st x with
  |some (.ref o off),some v=>match look st.ob o,bF E.P t with
   |some (.sg ss),some sz=>match lN ss off with
    |some (pre,rest)=>match lN rest sz with
     |some (mid,post)=>match F5 (mid.map Sg.sk) v with
      |some mid'=>some (.w .undef (st.set o (.sg (pre++(mid'++post)))))
      |none=>none
     |none=>none
    |none=>none
   |_,_=>none
  |some (.sel o off k n i m),some (.int k' y)=>match look st.ob o with
   |some (.sg ss)=>match lN ss off with
    |some (pre,.a k2 n' v::post)=>if k2=k then (if k'=k then (bif Nat.beq n' n&& Nat.beq m 1&& mI E t then some (.w .undef (st.set o (.sg (pre++(.a k n' (v.set i y)::post))))) else none) else none) else none
    |_=>none
   |_=>none
  |_,_=>none
 |.indexAddr t x i=>match mW E.P t,aV g st i with
  |some (n,e),some (.int _ i)=>bif mI E e then (match x with
   |.global gl=>match F8 E R gl t with
    |some ⟨k,n,v⟩=>some (.c (CU i n) (.nL k n v i))
    |none=>none
   |x=>match aV g st x with
    |some (.ref o off)=>match jU st o with
     |some (.sg ss)=>match lN ss off with
      |some (_,.a k n' _::_)=>bif Nat.beq n' n then some (.c (CU i n) (.sel o off k n i 1)) else none
      |_=>none
     |_=>none
    |_=>none) else none
  |_,_=>none
 |.index t x i=>match mW E.P t,aV g st x,aV g st i with
  |some (n,e),some (.sg [.a k n' v]),some (.int _ i)=>bif mI E e&& Nat.beq n' n then some (.c (CU i n) (.int k (v.at' i))) else none
  |_,_,_=>none
 |.slice t x lo hi none=>match aV g st x with
  |some x=>match lo,hi with
   |none,none=>vG E R t x none none st
   |some lo,none=>match aV g st lo with
    |some lo=>vG E R t x (some lo) none st
    |none=>none
   |none,some hi=>match aV g st hi with
    |some hi=>vG E R t x none (some hi) st
    |none=>none
   |some lo,some hi=>match aV g st lo,aV g st hi with
    |some lo,some hi=>vG E R t x (some lo) (some hi) st
    |_,_=>none
  |none=>none
 |.slice t x lo (some hi) (some mx)=>match aV g st x,aV g st hi,aV g st mx,E.P.underlying t with
  |some (.aj _ u l),some (.int _ h),some (.int _ m),some (.slice e)=>match bF E.P e with
   |some sz=>bif Nat.beq sz (bR R u) then (match lo with
    |none=>bif QN E d then some (.c (jw m l.length&& (jw h m.toNat&& (h==m))) (.aj .full u (mH l none (some h)))) else some (.c (jw m l.length&& jw h m.toNat) (.aj .any u (mH l none (some h))))
    |some lo=>match aV g st lo with
     |some (.int _ a)=>some (.c (jw m l.length&& (jw h m.toNat&& jw a h.toNat)) (.aj .any u (mH l (some a) (some h))))
     |_=>none) else none
   |none=>none
  |_,_,_,_=>none
 |.convert a b x=>match aV g st x with
  |some (.sv o off k n lo hi)=>match E.P.underlying a,E.P.underlying b with
   |some (.slice e),some .string=>match E.P.underlying e,k with
    |some (.int .u8),.u8=>match FJ st o off .u8 n lo hi with
     |some l=>some (.t (.str (List.map (fun n:Int=>UInt8.ofNat n.toNat) l)))
     |none=>none
    |_,_=>none
   |_,_=>none
  |_=>none
 |.sliceToArrayPointer t x=>match mW E.P t,aV g st x with
  |some (m,e),some (.sv o off k n lo hi)=>some (.c (decide (0<m∧m≤dY n hi-bP lo)) (.sel o off k n (bP lo) m))
  |some (m,_),some (.aj _ (.int k) l)=>some (.c (decide (0<m∧m≤l.length)) (.aH (QO R k m l) 0))
  |_,_=>none
 |.call c=>match c.callee,kE g st c.args.toList with
  |.builtin .copy,some [.sv o off k n lo hi,y]=>match c.argTypes[0]? with
   |some t=>match iA E.P t with
    |some e=>bif mI E e then (match CO R (.int k) y,look st.ob o with
     |some l,some (.sg ss)=>match lN ss off with
      |some (pre,.a k' n' v::post)=>if k'=k then (bif Nat.beq n' n then
        some (.w (.int .i64 (((l.take (dY n hi-bP lo).toNat).length:Nat):Int)) (st.set o (.sg (pre++(.a k n' (v.Cw (bP lo) (l.take (dY n hi-bP lo).toNat))::post))))) else none) else none
      |_=>none
     |_,_=>none) else none
    |none=>none
   |none=>none
  |_,_=>none
 |_=>none
def nP (om:Bool) (F:Nat→List (FR R)) (g:List (Nat×Bool)) (d:Option Nat) (o:Op) (st:MS R.T):Option (bW R):=
 match o with
 |.move x=>bif qO E d then (match aV g st x with
  |some (.vw p t)=>match look st.ob p with
   |some (.arr t' l)=>match mq R (u:=t) l with
    |some l=>some (.w (.aj .any t l) (st.del p))
    |none=>none
   |_=>none
  |some (.int k n)=>some (.t (.int k n))
  |_=>none) else (match aV g st x with
  |some v=>some (.t v)
  |none=>none)
 |.assign x=>match aV g st x with
  |some v=>some (.t v)
  |none=>none
 |.pick c a b=>match c with
  |.tmp j=>match aV g st c with
   |some (.bool t)=>match aV ((j,true)::g) st a,aV ((j,false)::g) st b with
    |some x,some y=>match zQ t x y with
     |some v=>some (.t v)
     |none=>none
    |_,_=>none
   |some (.fq t)=>match aV g st (bif t then a else b) with
    |some v=>some (.t v)
    |none=>none
   |_=>none
  |_=>none
 |.alloc t=>match d,tY E t with
  |some d,some z=>bif vk z.cells&& !(jT d z.cells) then some (.w (.ref d 0) (st.new d (.cells z.cells))) else none
  |_,_=>none
 |.box t x=>bif E.qN t then (match aV g st x with
  |some v=>bif iH v&& vo v then some (.t (.aH v.cells 0)) else none
  |none=>none) else match d,aV g st x with
  |some d,some v=>bif vk v.cells&& vo v&& !(jT d v.cells) then some (.w (.ref d 0) (st.new d (.cells v.cells))) else none
  |_,_=>none
 |.build t parts=>match yF E t,tY (T:=R.T) E t,zA g st parts.toList with
  |some pl,some z,some ps=>match FP pl z.cells ps with
   |some cs=>some (.t (.agg cs))
   |none=>none
  |_,_,_=>none
 |.buildSlice t len parts=>match zA g st parts.toList with
  |some ps=>Ky E R t len ps
  |none=>none
 |.load t a=>match aV g st a with
  |some (.ref o off)=>match jU st o with
   |some (.cells cs)=>match iU E t cs off with
    |some v=>some (.t v)
    |none=>none
   |_=>none
  |some (.aH cs off)=>match iU E t cs off with
   |some v=>some (.t v)
   |none=>none
  |some (.iq o τ i off)=>match jU st o with
   |some b=>KG E R t τ i off b
   |none=>none
  |_=>none
 |.store t a x=>match aV g st a,aV g st x with
  |some (.ref o off),some v=>match look st.ob o,bF E.P t with
   |some (.cells cs),some sz=>bif Nat.beq v.cells.length sz&& Nat.ble (off+v.cells.length) cs.length&& vk v.cells&& vo v then
     some (.w .undef (st.set o (.cells (zH cs off v.cells)))) else none
   |_,_=>none
  |_,_=>none
 |.nilCheck x=>match aV g st x with
  |some (.ref o off)=>some (.t (.ref o off))
  |some (.aH cs off)=>some (.t (.aH cs off))
  |some (.iq o τ i off)=>some (.t (.iq o τ i off))
  |some (.fn f a b)=>some (.t (.fn f a b))
  |_=>none
 |.binOp op t x y _=>match aV g st x,aV g st y with
  |some x,some y=>Ku E R op t x y
  |_,_=>none
 |.unOp op _ x=>match aV g st x with
  |some x=>Kv R op x
  |none=>none
 |.convert a b x=>match aV g st x with
  |some x=>FV E R a b x
  |none=>none
 |.makeFunc (.func f) a b=>match kE g st a.toList,kE g st b.toList with
  |some a,some b=>some (.t (.fn f a b))
  |_,_=>none
 |.makeMap t none=>match d,ou E.P t with
  |some d,some (k,e)=>match R.ty k,R.ty e with
   |some k,some e=>some (.w (.bq d) (st.new d (.map k e [])))
   |_,_=>some (.w (.bq d) (st.new d (.smap [] [])))
  |_,_=>none
 |.makeSlice t l c=>match aV g st l,aV g st c with
  |some n,some m=>Kz E R om d t n m st
  |_,_=>none
 |.slice t x lo hi none=>match aV g st x with
  |some x=>match lo,hi with
   |none,none=>vC E R t x none none
   |some lo,none=>match aV g st lo with
    |some lo=>vC E R t x (some lo) none
    |none=>none
   |none,some hi=>match aV g st hi with
    |some hi=>vC E R t x none (some hi)
    |none=>none
   |some lo,some hi=>match aV g st lo,aV g st hi with
    |some lo,some hi=>vC E R t x (some lo) (some hi)
    |_,_=>none
  |none=>none
 |.fieldAddr t x f=>match aV g st x with
  |some x=>match QF E t f x with
   |some v=>some (.t v)
   |none=>none
  |none=>none
 |.field t x f=>match qK E.P t f,aV g st x with
  |some (o,u),some (.agg cs)=>match iU E u cs o with
   |some v=>some (.t v)
   |none=>none
  |_,_=>none
 |.indexAddr t x i=>match aV g st x,aV g st i with
  |some (.vw o τ),some i=>KF E R t o τ i st
  |some x,some i=>KE E R t x i
  |_,_=>none
 |.index t x i=>match aV g st x,aV g st i with
  |some x,some i=>KI E R t x i
  |_,_=>none
 |.lookup t x i ok=>match aV g st x,aV g st i with
  |some x,some i=>FX E R t x i ok st
  |_,_=>none
 |.mapUpdate t m k v=>match aV g st m,aV g st k,aV g st v with
  |some m,some k,some v=>zM E R t m k v st
  |_,_,_=>none
 |.insert t m k v=>match aV g st m,aV g st k,aV g st v with
  |some m,some k,some v=>zM E R t m k v st
  |_,_,_=>none
 |.extract x i=>match aV g st x with
  |some (.aT vs)=>match vs[i]? with
   |some v=>some (.t v)
   |none=>none
  |_=>none
 |.call c=>match c.callee with
  |.builtin b=>match kE g st c.args.toList with
   |some vs=>blt E R om d b c.argTypes vs st
   |none=>none
  |.value f=>match aV g st f,kE g st c.args.toList with
   |some (.fn f a b),some vs=>bif E.imp f then none else findF R (a++vs++b) (kV st (a++vs++b)) (F f)
   |_,_=>none
  |_=>none
 |_=>none
def rA (om:Bool) (F:Nat→List (FR R)) (g:List (Nat×Bool)) (d:Option Nat) (o:Op) (st:MS R.T):Option (bW R):=
 match mJ E R g d o st with
 |some r=>some r
 |none=>nP E R om F g d o st
inductive Gd where
 |no
 |run
 |skip
 |dyn (j:Nat) (w:Bool) (c:Bool) (g:List (Nat×Bool))
def zT (b w:Bool):Bool:=bif w then b else !b
def KL (a b:Bool):Bool:=bif a then b else false
def kF {T:Nat→Type} (st:MS T):Nat→Nat→Bool→Option (Bool×List (Nat×Bool))
 |0,_,_=>none
 |n+1,j,w=>match look st.fr j with
  |some (.bool b)=>some (zT b w,[(j,w)])
  |some (.opt i u (.bool b))=>match kF st n i u with
   |some (c,g)=>some (KL c (zT b w),(j,w)::g)
   |none=>none
  |some (.opt i u (.fq b))=>match kF st n i u with
   |some (c,g)=>some (KL c (zT b w),(j,w)::g)
   |none=>none
  |_=>none
def F9 {T:Nat→Type} (all:List Oper) (st:MS T) (o:Oper):Gd:=
 match o.guard with
 |none=>.run
 |some (j,w)=>match all[j]? with
  |some p=>match p.dst with
   |some t=>match look st.fr t with
    |some (.fq b)=>bif b==w then .run else .skip
    |some .undef=>.skip
    |_=>match kF st 12 t w with
     |some (c,g)=>.dyn t w c g
     |none=>.no
   |none=>.skip
  |none=>.skip
def MS.jg {T:Nat→Type} (st:MS T):List (Nat×Bool)→MS T
 | []=>st
 | (j,w)::g=>(st.jg g).learn j w
def MS.uf {T:Nat→Type} (st:MS T):List (Nat×Bool)→MS T
 | [(j,w)]=>st.learn j (!w)
 |_=>st
def Ga {α:Type} (c:Bool) (o:Option α) (d:α):Option α:=bif c then o else some d
def KM (st:MS R.T) (t:TypeId) (m x:Operand):Option (List (TV R.T)×List (TV R.T)×TV R.T×TV R.T):=
 match aV [] st m with
 |some (.bq o)=>match jU st o with
  |some (.smap ks vs)=>match aV [] st x,ou E.P t with
   |some x,some (kt,et)=>match tY (T:=R.T) E et with
    |some z=>bif FZ E kt x then some (ks,vs,x,z) else none
    |none=>none
   |_,_=>none
  |_=>none
 |_=>none
def Gb {T:Nat→Type} {β:Type} (x:TV T):List (TV T)→List (TV T)→TV T→(TV T→Bool→Option β)→Option β
 | [],[],z,k=>k z false
 |a::ks,v::vs,z,k=>match FY x a with
  |some b=>bif b then k v true else Gb x ks vs z k
  |none=>none
 |_,_,_,_=>none
section
variable (om:Bool) {β:Type} (F:Nat→List (FR R))
def KN (t:TypeId) (a x:Operand) (st:MS R.T):Option ((τ:Ty)×Nat×Int×Nat×List (Den R.T τ)×TV R.T):=
 match aV [] st a,aV [] st x with
 |some (.iq o τ i off),some v=>match look st.ob o,bF E.P t with
  |some (.arr τ' l),some sz=>match mq R (u:=τ) l with
   |some l=>bif Nat.beq v.cells.length sz&& Nat.ble (off+v.cells.length) (bR R τ)&& vk v.cells&& vo v then some ⟨τ,o,i,off,l,v⟩ else none
   |none=>none
  |_,_=>none
 |_,_=>none
def xA {α:Type} (l:List α) (i:Int) (y:α):List α:=l.set i.toNat y
def runM (o:Oper) (st:MS R.T) (k:MS R.T→Option β):Option β:=
 match o.op with
 |.pick c a b=>match aV [] st c with
  |some (.fq t)=>match aV [] st (bif t then a else b) with
   |some v=>k (st.dH o.dst v)
   |none=>none
  |some (.bool t)=>match c with
   |.tmp j=>match aV [(j,true)] st a,aV [(j,false)] st b with
    |some x,some y=>match zQ t x y with
     |some v=>k (st.dH o.dst v)
     |none=>bif t then k ((st.learn j true).dH o.dst x) else k ((st.learn j false).dH o.dst y)
    |_,_=>none
   |_=>none
  |_=>none
 |.store t a x=>match KN E R t a x st with
  |some ⟨τ,p,i,off,l,v⟩=>(dX l i).bind fun y=>match KH R τ (zH (dN R .any τ y).cells off v.cells) with
   |some y'=>k ((st.set p (.arr τ (xA l i y'))).dH o.dst .undef)
   |none=>none
  |none=>match rA E R om F [] o.dst (.store t a x) st with
   |some (.w v st')=>k (st'.dH o.dst v)
   |_=>none
 |.lookup t m x ok=>match KM E R st t m x with
  |some (ks,vs,x,z)=>Gb x ks vs z fun v b=>k (st.dH o.dst (bif ok then .aT [v,.fq b] else v))
  |none=>match rA E R om F [] o.dst (.lookup t m x ok) st with
   |some (.t v)=>k (st.dH o.dst v)
   |_=>none
 |op=>match rA E R om F [] o.dst op st with
  |some (.t v)=>k (st.dH o.dst v)
  |some (.c b v)=>bif b then k (st.dH o.dst v) else none
  |some (.w v st')=>k (st'.dH o.dst v)
  |some (.wc b v st')=>bif b then k (st'.dH o.dst v) else none
  |some (.p _ _ x f)=>x.bind fun a=>k (st.dH o.dst (f a))
  |none=>none
def aa8 (b c:Bool):Bool:=bif b then c else true
def KO (o:Oper) (j:Nat) (w c:Bool) (g:List (Nat×Bool)) (st:MS R.T) (k:MS R.T→Option β):Option β:=
 match o.dst with
 |some d=>match (bif aO d (g.map (·.1)) then none else rA E R om F g o.dst o.op st) with
  |some (.t v)=>k (st.put d (.opt j w v))
  |some (.c b v)=>bif aa8 c b then k (st.put d (.opt j w v)) else none
  |some (.p _ z x f)=>(Ga c x z).bind fun a=>k (st.put d (.opt j w (f a)))
  |_=>bif c then runM E R om F o (st.jg g) k else k ((st.uf g).dH o.dst .undef)
 |none=>bif c then runM E R om F o (st.jg g) k else k ((st.uf g).dH o.dst .undef)
def iI {T:Nat→Type} (st:MS T) (o:Oper):Bool:=match o.op with
 |.call c=>match c.callee with
  |.value f=>match aV [] st f with
   |some (.fn g _ _)=>match o.dst with
    |some d=>E.own g d
    |none=>false
   |_=>true
  |_=>false
 |_=>false
def aa9:List Sk→Bool
 |.d9::k::l=>gH (k::l)
 |_=>false
def zU (args aU:List (TV R.T)):List (FR R)→Option ((τ:Ty)×Option (List (Den R.T τ)))
 | []=>none
 | ⟨as,[.d (.slice τ)],G,_,true⟩::l=>match eF R as aU with
   |some p=>bif (gH as||aa9 as)&& Nat.ble (lQ as) 18&& vv args then some ⟨τ,G p⟩ else none
   |none=>zU args aU l
 |_::l=>zU args aU l
def rC (o:Oper) (st:MS R.T) (k:MS R.T→Option β):Option β:=match o.op,o.dst with
 |.call c,some d=>match c.callee with
  |.value f=>match aV [] st f,kE [] st c.args.toList with
   |some (.fn g a b),some vs=>match zU R (a++vs++b) (kV st (a++vs++b)) (F g) with
    |some ⟨τ,x⟩=>x.bind fun l=>k ((st.wk d).put d (.aj (.own d) τ l))
    |none=>none
   |_,_=>none
  |_=>none
 |_,_=>none
def zV (o:Nat) (l:List Nat):List Nat:=bif aO o l then l else l++[o]
mutual
def abb {T:Nat→Type}:TV T→List Nat→List Nat
 |.ref o _,l=>zV o l
 |.bq o,l=>zV o l
 |.vw o _,l=>zV o l
 |.iq o _ _ _,l=>zV o l
 |.sv o _ _ _ _ _,l=>zV o l
 |.sel o _ _ _ _ _,l=>zV o l
 |.agg cs,l=>oL cs l
 |.aT cs,l=>oL cs l
 |.aH cs _,l=>oL cs l
 |.fn _ a b,l=>oL b (oL a l)
 |_,l=>l
def oL {T:Nat→Type}:List (TV T)→List Nat→List Nat
 | [],l=>l
 |v::vs,l=>oL vs (abb v l)
end
mutual
def ug {T:Nat→Type} (m:List (Nat×Nat)):TV T→TV T
 |.ref o off=>match look m o with
  |some p=>.ref p off
  |none=>.gone
 |.bq o=>match look m o with
  |some p=>.bq p
  |none=>.gone
 |.vw o t=>match look m o with
  |some p=>.vw p t
  |none=>.gone
 |.iq o t i off=>match look m o with
  |some p=>.iq p t i off
  |none=>.gone
 |.sv o off k n lo hi=>match look m o with
  |some p=>.sv p off k n lo hi
  |none=>.gone
 |.sel o off k n i j=>match look m o with
  |some p=>.sel p off k n i j
  |none=>.gone
 |.aj c t l=>match c with
  |.own _=>.aj .any t l
  |c=>.aj c t l
 |.agg cs=>.agg (vH m cs)
 |.aT cs=>.aT (vH m cs)
 |.aH cs off=>.aH (vH m cs) off
 |.fn f a b=>.fn f (vH m a) (vH m b)
 |v=>v
def vH {T:Nat→Type} (m:List (Nat×Nat)):List (TV T)→List (TV T)
 | []=>[]
 |v::vs=>ug m v::vH m vs
end
def iJ:List Nat→Nat→List (Nat×Nat)
 | [],_=>[]
 |o::l,n=>(o,n)::iJ l (n+1)
def xB:List Nat→Bool
 | []=>true
 |o::l=> !(aO o l)&& xB l
def zW {T:Nat→Type} (st:MS T):List (Nat×Nat)→List (Nat×Ob T)
 | []=>[]
 | (o,p)::m=>match look st.ob o with
   |some x=>(p,x)::zW st m
   |none=>zW st m
def oM {T:Nat→Type}:List (Nat×Nat)→List (Nat×Ob T)→List (Nat×Ob T)
 | [],_=>[]
 | (o,p)::m,l=>match look l p with
   |some y=>(o,y)::oM m l
   |none=>oM m l
def zX:List (Nat×Nat)→List (Nat×iT)→Bool
 | [],[]=>true
 | (_,p)::m,(q,_)::l=>Nat.beq p q&& zX m l
 |_,_=>false
def zY:List Sk→Bool
 | []=>true
 |.d (.int _)::l=>zY l
 |.d .bool::l=>zY l
 |.d .str::l=>zY l
 |_=>false
def KP:List Sk→Bool
 | []=>true
 |.d _::l=>KP l
 |_=>false
def okO:iT→Bool
 |.cells l=>KP l
 |_=>true
def rD:List (Nat×iT)→Bool
 | []=>true
 | (_,k)::l=>okO k&& rD l
def Gc (m:List (Nat×Nat)) (A:List (TV R.T)) (B:List (Nat×Ob R.T)):List (FM R)→Option ((r:FM R)×Option (ak R.T r.res×lJ R.T r.obs))
 | []=>none
 |r::l=>match eF R r.args A,jW R B r.obs with
  |some p,some q=>bif zX m r.obs&& (zY r.res&& rD r.obs) then some ⟨r,r.F p q⟩ else none
  |_,_=>Gc m A B l
def QS {T:Nat→Type}:List (TV T)→TV T
 | [v]=>v
 |vs=>.aT vs
def oN {T:Nat→Type} (st:MS T) (o:Oper):Bool:=match o.op with
 |.call c=>match c.callee with
  |.value f=>match aV [] st f with
   |some (.fn g _ _)=>E.imp g
   |_=>false
  |_=>false
 |_=>false
def qd (o:Oper):Bool:=match o.op with
 |.call c=>match c.callee with
  |.value (.func g)=> !(E.imp g)
  |.value _=>false
  |_=>true
 |_=>true
def xC (M:Nat→List (FM R)) (o:Oper) (st:MS R.T) (k:MS R.T→Option β):Option β:=match o.op with
 |.call c=>match c.callee with
  |.value f=>match aV [] st f,kE [] st c.args.toList with
   |some (.fn g a b),some vs=>bif xB (oL (a++vs++b) []) then (match Gc R (iJ (oL (a++vs++b) []) F0) (vH (iJ (oL (a++vs++b) []) F0) (a++vs++b)) (zW st (iJ (oL (a++vs++b) []) F0)) (M g) with
    |some ⟨r,x⟩=>x.bind fun y=>k (MS.dH ⟨st.fr,oM (iJ (oL (a++vs++b) []) F0) (je R r.obs y.2)++st.ob⟩ o.dst (QS (gN R .any r.res y.1)))
    |none=>none) else none
   |_,_=>none
  |_=>none
 |_=>none
variable (M:Nat→List (FM R))
def qg (all:List Oper):List Oper→MS R.T→(MS R.T→Option β)→Option β
 | [],st,k=>k st
 |o::os,st,k=>match F9 all st o with
  |.run=>bif iI E st o then rC R F o st (fun st=>qg all os st k) else (bif oN E st o then xC R M o st (fun st=>qg all os st k) else runM E R om F o st (fun st=>qg all os st k))
  |.skip=>qg all os (st.dH o.dst .undef) k
  |.dyn j w c g=>bif iI E st o||iI E (st.jg g) o then none else (bif oN E (st.jg g) o then (bif c then xC R M o (st.jg g) (fun st=>qg all os st k) else qg all os ((st.uf g).dH o.dst .undef) k) else KO E R om F o j w c g st (fun st=>qg all os st k))
  |.no=>none
def QT {T:Nat→Type}:TV T→List Key
 |.ref o _=>[.obj (1,o)]
 |.bq o=>[.obj (1,o)]
 |.iq o _ _ _=>[.obj (1,o)]
 |.sv o _ _ _ _ _=>[.obj (1,o)]
 |.sel o _ _ _ _ _=>[.obj (1,o)]
 |_=>[]
def uh {T:Nat→Type} (st:MS T) (x:Operand):List Key:=match aV [] st x with
 |some v=>QT v
 |none=>[]
def Gf (o:Oper):List Key:=match o.dst with
 |some t=>[.obj (1,t)]
 |none=>[]
def Gg {T:Nat→Type}:List (TV T)→Bool
 | []=>false
 |.sv _ _ _ _ _ _::_=>true
 |_::l=>Gg l
def CV (om:Bool) {T:Nat→Type} (st:MS T) (o:Oper):bA:=
 match o.op with
 |.move _|.assign _|.pick .. |.build .. |.buildSlice .. |.nilCheck _|.binOp .. |.unOp .. |.makeInterface .. |.typeAssert .. |.makeFunc .. |.fieldAddr .. |.field .. |.indexAddr .. |.index .. |.extract ..
 |.sliceToArrayPointer .. =>jP []
 |.convert _ _ x|.slice _ x _ _ _|.load _ x|.lookup _ x _ _=>jP (uh st x)
 |.alloc _|.box .. |.makeMap .. =>iB (Gf o)
 |.makeSlice .. =>iB (.top::Gf o)
 |.store _ a _=>iB (uh st a)
 |.mapUpdate _ m _ _|.insert _ m _ _=>iB (uh st m)
 |.call c=>match c.callee with
  |.builtin b=>match b with
   |.len|.cap|.min|.max=>jP (c.args.toList.flatMap fun x=>uh st x)
   |.append=>bif om then dV else ⟨false,false,c.args.toList.flatMap fun x=>uh st x,[.top]⟩
   |_=>dV
  |.value f=>match aV [] st f with
   |some (.fn g a b)=>if E.imp g then dV else (match kE [] st c.args.toList with
    |some vs=>if vv (a++vs++b) then jP [] else ⟨true,false,[],[]⟩
    |none=>dV)
   |_=>dV
  |_=>dV
 |_=>dV
def lS (om:Bool) {T:Nat→Type} (all:List Oper) (st:MS T) (o:Oper) (wanted:Bool):bA:=
 if wanted then let f:=CV E om st o;⟨f.pJ,f.lI,oz all o++f.t,ji o++f.w⟩
 else ⟨false,false,oz all o,ji o⟩
def zZ {T:Nat→Type}:TV T→Bool
 |.gone=>false
 |.opt _ _ _=>false
 |.vw _ _=>false
 |_=>true
def uj {T:Nat→Type} (st:MS T) (o:Oper):Bool:= !(iI E st o)&&
 match o.op with
 |.call c=>match c.callee with
  |.value f=>match aV [] st f,kE [] st c.args.toList with
   |some (.fn _ a b),some vs=>vv (a++vs++b)||Gg (a++vs++b)
   |_,_=>false
  |.builtin _=>match kE [] st c.args.toList with
   |some vs=>vs.all zZ
   |none=>false
  |_=>true
 |.move _=> !(qO E o.dst)
 |_=>true
def Key.nm:Key→Key
 |.obj l=>.obj (1,l.2)
 |k=>k
def bA.nm (f:bA):bA:=⟨f.pJ,f.lI,f.t.map Key.nm,f.w.map Key.nm⟩
def CX (all:List Oper) (o:Oper):bA:=⟨false,false,oz all o++[],ji o++[.top]⟩
def kG (ms:List Nat) (all:List Oper):List Oper→MS R.T→List bA→(MS R.T→Option β)→Option β
 | [],st,fs,k=>bif sP ms (fs.map bA.nm) then k st else none
 |o::os,st,fs,k=>match F9 all st o with
  |.run=>bif oN E st o then (bif iI E st o then none else xC R M o st (fun st'=>kG ms all os st' (fs++[lS E om all st o true]) k)) else bif iI E st o then rC R F o st (fun st'=>kG ms all os st' (fs++[CX all o]) k) else bif !(uj E st o) then none else runM E R om F o st (fun st'=>kG ms all os st' (fs++[lS E om all st o true]) k)
  |.skip=>kG ms all os (st.dH o.dst .undef) (fs++[lS E om all st o false]) k
  |.dyn _ _ c g=>bif c then (bif oN E (st.jg g) o then (bif iI E (st.jg g) o then none else xC R M o (st.jg g) (fun st'=>kG ms all os st' (fs++[lS E om all (st.jg g) o true]) k)) else bif iI E (st.jg g) o then rC R F o (st.jg g) (fun st'=>kG ms all os st' (fs++[CX all o]) k) else bif !(uj E (st.jg g) o) then none else runM E R om F o (st.jg g) (fun st'=>kG ms all os st' (fs++[lS E om all (st.jg g) o true]) k))
   else kG ms all os ((st.uf g).dH o.dst .undef) (fs++[lS E om all st o false]) k
  |.no=>none
end
def kX {R:fI} (key:Nat) (W:List Nat) (b:MS R.T) (sh:Shape) (outs:List (Ex×Shape)) (body:{β:Type}→MS R.T→(Ex→MS R.T→Option β)→Option β):Nat→mo R.T sh→Option (Out R.T outs)
 |0,_=>none
 |m+1,p=>body (b.over (unpack R sh p)) fun e st=>match e with
  |.normal=>match jf R W st sh with
   |some p=>kX key W b sh outs body m p
   |none=>none
  |e=>oJ R W e st outs
def MS.obs {T:Nat→Type} (st:MS T):MS T:=⟨[],st.ob⟩
def CY {R:fI} {β:Type} (body:MS R.T→(Ex→MS R.T→Option β)→Option β):Nat→MS R.T→(Ex→MS R.T→Option β)→Option β
 |0,_,_=>none
 |m+1,st,k=>body st fun e st'=>match e with
  |.normal=>CY body m st' k
  |e=>k e st'
def z8 {R:fI} {X:Type} (key:Nat) (W:List Nat) (b:MS R.T) (sh:Shape) (outs:List (Ex×Shape)) (body:{β:Type}→X→MS R.T→(Ex→MS R.T→Option β)→Option β):List X→mo R.T sh→Option (Out R.T outs)
 | [],p=>oJ R W .normal (unpack R sh p).obs outs
 |x::xs,p=>body x (b.over (unpack R sh p)) fun e st=>match e with
  |.normal=>match jf R W st.obs sh with
   |some p=>z8 key W b sh outs body xs p
   |none=>none
  |e=>oJ R W e st.obs outs
def CZ {R:fI} (a b:List (TV R.T)):List (FI R)→Option ((el:List Sk)×Option (List (ak R.T el)))
 | []=>none
 |i::l=>match eF R i.a a,eF R i.b b with
  |some pa,some pb=>bif gH i.a&& gH i.b&& gH i.el&& Nat.ble (lQ i.a) 18&& Nat.ble (lQ i.b) 18 then some ⟨i.el,i.F pa pb⟩ else none
  |_,_=>CZ a b l
def xD (O:List Nat):List (Nat×iT)→Bool
 | []=>true
 | (o,_)::l=> !(aO o O)&& xD O l
def xE {T:Nat→Type} (st:MS T):List Nat→List (TV T)→Option (MS T)
 | [],[]=>some st
 |i::l,v::vs=>xE (st.put i v) l vs
 |_,_=>none
def gW:List Oper→List Nat
 | []=>[]
 |o::l=>match o.dst with
  |some d=>d::gW l
  |none=>gW l
def aN:Code→List Nat
 |.region _ ops _=>gW ops.toList
 |.seq a b=>aN a++aN b
 |.cond _ a b=>aN a++aN b
 |.block _ c=>aN c
 |.loop c=>aN c
 |.scope c=>aN c
 |.rangeFunc _ ps a b=>ps.toList++aN a++aN b
 |_=>[]
def jX:Code→Nat
 |.region i _ _=>i
 |.seq a _=>jX a
 |.loop a=>jX a
 |.scope a=>jX a
 |.block _ a=>jX a
 |.rangeFunc _ _ _ b=>jX b
 |_=>0
def fU:Code→Bool
 |.region _ ops _=>ops.toList.all (qd E)
 |.seq a b=>fU a&& fU b
 |.cond _ a b=>fU a&& fU b
 |.block _ c=>fU c
 |.loop c=>fU c
 |.scope c=>fU c
 |.rangeFunc _ _ _ _=>false
 |_=>true
variable (n:Nat) (om:Bool) (F:Nat→List (FR R)) (I:IR R) (A:dM)
def dh:Code→{β:Type}→MS R.T→(Ex→MS R.T→Option β)→Option β
 |.skip,_,st,k=>k .normal st
 |.region _ ops dr,_,st,k=>bif dr then (bif ko ops.toList then kG E R om F I.im (kP ops.toList) ops.toList ops.toList st [] (fun st=>k .normal st) else none) else qg E R om F I.im ops.toList ops.toList st (fun st=>k .normal st)
 |.seq a b,_,st,k=>
  match look A.joins (jX b) with
  |none=>dh a st fun e st=>match e with
   |.normal=>dh b st k
   |e=>k e st
  |some q=>(dh (β:=Out R.T q.outs) a ((base (aN a) q.K q.O .ro st).over st) fun e st=>oJ R (aN a) e st q.outs).bind (rz R (base (aN a) q.K q.O (fun b=>b) st) (fun e st=>match e with
   |.normal=>dh b st k
   |e=>k e st) q.outs)
 |.cond c a b,_,st,k=>match aV [] st c with
  |some (.fq t)=>bif t then dh a st k else dh b st k
  |some (.bool t)=>bif t then dh a (st.zw c true) k else dh b (st.zw c false) k
  |_=>none
 |.block id c,_,st,k=>dh c st fun e st=>match e with
  |.exit i=>bif Nat.beq i id then k .normal st else k (.exit i) st
  |e=>k e st
 |.loop c,_,st,k=>match look A.loops (jX c) with
  |some q=>match jf R (aN c) st q.sh with
   |some p=>(kX (jX c) (aN c) (base (aN c) q.K q.O .ro st) q.sh q.outs (fun st k=>dh c st k) n p).bind (rz R (base (aN c) q.K q.O (fun b=>b) st) k q.outs)
   |none=>none
  |none=>CY (fun st k=>dh c st k) 130 st k
 |.rangeFunc f ps a c,_,st,k=>match look A.loops (jX c) with
  |some q=>match aV [] st f with
   |some (.fn g u v)=>bif mE u&& mE v&& xD q.O q.sh.ob&& fU E a&& fU E c then (match CZ u v (I.it g) with
    |some ⟨el,xs⟩=>match jf R (ps.toList++aN a++aN c) st.obs q.sh with
     |some p=>(xs.bind fun xs=>z8 (jX c) (ps.toList++aN a++aN c) (base (ps.toList++aN a++aN c) q.K q.O .ro st) q.sh q.outs (fun x st k=>match xE st ps.toList (gN R .sh el x) with
       |some st=>dh a st fun e st=>match e with
        |.normal=>dh c st k
        |_=>none
       |none=>none) xs p).bind (rz R (base (ps.toList++aN a++aN c) q.K q.O (fun b=>b) st) k q.outs)
     |none=>none
    |none=>none) else none
   |_=>none
  |none=>none
 |.scope c,_,st,k=>dh c st k
 |.label _,_,st,k=>k .normal st
 |.exit i,_,st,k=>k (.exit i) st
 |.ret,_,st,k=>k .ret st
 |_,_,_,_=>none
def vI (st:MS R.T):List ResultVar→Option (List (TV R.T))
 | []=>some []
 |.tmp t::l=>match aV [] st (.tmp t) with
  |some v=>match vI st l with
   |some vs=>some (v::vs)
   |none=>none
  |none=>none
 |.cell a t::l=>match aV [] st (.tmp a) with
  |some (.ref o off)=>match jU st o with
   |some (.cells cs)=>match iU E t cs off with
    |some v=>match vI st l with
     |some vs=>some (v::vs)
     |none=>none
    |none=>none
   |some (.sg ss)=>match F6 E R t ss off with
    |some v=>match vI st l with
     |some vs=>some (v::vs)
     |none=>none
    |none=>none
   |_=>none
  |_=>none
def C8 {T:Nat→Type}:Nat→List (TV T)→List (Nat×TV T)
 |_,[]=>[]
 |i,v::l=>(i,v)::C8 (i+1) l
def dS (fn:Func) (args res:List Sk) (p:ak R.T args):Option (ak R.T res):=
 match fn.body with
 |some c=>dh E R n om F I A c ⟨C8 0 (gN R .sh args p),[]⟩ fun e st=>match e with
  |.exit _=>none
  |_=>match vI E R st fn.results.toList with
   |some vs=>bif gH res&& Nat.ble (lQ res) 16 then eF R res (kV st vs) else none
   |none=>none
 |none=>none
end
end Aq
end
section
namespace Aq
open Go
set_option linter.unusedSectionVars false
set_option linter.unusedVariables false
structure Cx where
 om:Bool
 dp:Nat
 lo:Nat
 fl:Nat→Option Loc
 lt:∀o L,fl o=some L→F0≤o∧L.1<dp
 inj:∀o p L,fl o=some L→fl p=some L→o=p
def Cx.lc (c:Cx) (o:Nat):Loc:=match c.fl o with
 |some L=>L
 |none=>(c.dp,o)
theorem Cx.abd (c:Cx) {o:Nat} (h:o<F0):c.lc o=(c.dp,o):=by
 unfold Cx.lc
 split
 ·rename_i L hL
  have:=(c.lt _ _ hL).1
  omega
 ·rfl
theorem Cx.KQ (c:Cx) {o p:Nat} (h:c.lc o=c.lc p):o=p:=by
 unfold Cx.lc at h
 split at h<;>split at h
 ·rename_i L h1 _ M h2;subst h;exact c.inj _ _ _ h1 h2
 ·rename_i L h1 _ h2;have:=(c.lt _ _ h1).2;rw[h] at this;exact absurd this (Nat.lt_irrefl _)
 ·rename_i h1 _ L h2;have:=(c.lt _ _ h2).2;rw[←h] at this;exact absurd this (Nat.lt_irrefl _)
 ·exact congrArg Prod.snd h
theorem Cx.QU (c:Cx) {o p:Nat} (h:o≠p):c.lc o≠c.lc p:=fun e=>h (c.KQ e)
theorem Cx.Aa (c:Cx) (o:Nat):(c.lc o).1≤c.dp:=by
 unfold Cx.lc
 split
 ·rename_i L hL;exact Nat.le_of_lt (c.lt _ _ hL).2
 ·exact Nat.le_refl _
def Cx.out (c:Cx) (L:Loc):Prop:=∀o,L≠c.lc o
structure aK where
 ob:Nat→Option Nat
 tk:Nat→Option Nat
 ln:Nat→Nat
 om:Cx
section
variable (R:fI)
def jI:Ty→Bool
 |.st _=>false
 |_=>true
structure kY:Prop where
 C9:∀n p,R.of n (R.to n p)=p
 enc:∀n x,R.enc n x= .agg (encs R (R.lf n) (R.of n x))
 leaf:∀n,(R.lf n).all jI=true
 pc:∀n x,aD (R.enc n x)=true
def Ab (ρ:aK) (top:Nat→Nat) (sz len:Nat):Cp→Cap→Prop
 |.any,_=>True
 |.sh,c=>c= .sh
 |.nil,c=>c= .nil
 |.full,c=>c= .full
 |.own t,c=>c= .nil∨c= .full∨∃s,c= .own sz s∧ρ.tk t=some s∧top s=len
mutual
def Rl (ρ:aK) (top:Nat→Nat):TV R.T→V→Prop
 |.int k n,v=>v= .int k n
 |.bool b,v=>v= .bool b
 |.fq b,v=>v= .bool b
 |.str s,v=>v= .str s
 |.dQ,v=>v= .dQ
 |.dJ,v=>v= .dJ
 |.dF,v=>v= .dF
 |.dK,v=>v= .dK
 |.d9,v=>v= .aj .nil []
 |.agg cs,v=> ∃l,v= .agg l∧ay ρ top cs l
 |.aT cs,v=> ∃l,v= .aT l∧ay ρ top cs l
 |.aj c t l,v=> ∃c',v= .aj c' (l.map (aC R t))∧Ab ρ top (bR R t) l.length c c'
 |.ref o off,v=> ∃s,ρ.ob o=some s∧v= .ref (ρ.om.lc o) s off
 |.aH cs off,v=> ∃l,v= .aH l off∧ay ρ top cs l
 |.bq o,v=> ∃s,ρ.ob o=some s∧v= .bq (ρ.om.lc o) s
 |.bL k e m,v=>v= .bL (m.map fun p=>aC R k p.1) (m.map fun p=>aC R e p.2)
 |.fn f a b,v=> ∃a' b',v= .fn (.func f) a' b'∧ay ρ top a a'∧ay ρ top b b'
 |.opt _ _ _,_=>False
 |.vw o t,v=>(∃s,ρ.ob o=some s∧v= .vw (ρ.om.lc o) s 0 (ρ.ln o) (ρ.ln o) (bR R t) (fK t))∨(ρ.ln o=0∧(v= .aj .nil []∨v= .aj .full []))
 |.iq o t i off,v=> ∃s,ρ.ob o=some s∧0≤i∧v= .ref (ρ.om.lc o) s (i.toNat*bR R t+off)
 |.sg ss,v=>v= .agg (bf ss)
 |.sv o off k n lo hi,v=> ∃s,ρ.ob o=some s∧oK n lo hi=true∧v= .vw (ρ.om.lc o) s (off+(bP lo).toNat) ((dY n hi).toNat-(bP lo).toNat) (n-(bP lo).toNat) 1 false
 |.sel o off k n i m,v=> ∃s,ρ.ob o=some s∧0≤i∧i.toNat+m≤n∧v= .ref (ρ.om.lc o) s (off+i.toNat)
 |.nL k n x i,v=>0≤i∧i<n∧v= .aH (x.l.map (V.int k)) i.toNat
 |.undef,v=>v=aA
 |.gone,_=>True
def ay (ρ:aK) (top:Nat→Nat):List (TV R.T)→List V→Prop
 | [],l=>l=[]
 |t::ts,l=> ∃v vs,l=v::vs∧Rl ρ top t v∧ay ρ top ts vs
end
variable {R}
variable {ρ ρ':aK} {top top':Nat→Nat}
theorem ay.dO {vs:List V} (h:ay R ρ top [] vs):vs=[]:=by unfold ay at h;exact h
theorem ay.bX {t:TV R.T} {ts:List (TV R.T)} {vs:List V} (h:ay R ρ top (t::ts) vs):∃v l,vs=v::l∧Rl R ρ top t v∧ay R ρ top ts l:=by unfold ay at h;exact h
theorem Rl.dZ {k:IntKind} {n:Int} {v:V} (h:Rl R ρ top (.int k n) v):v= .int k n:=by unfold Rl at h;exact h
theorem Rl.mK {b:Bool} {v:V} (h:Rl R ρ top (.bool b) v):v= .bool b:=by unfold Rl at h;exact h
theorem Rl.qh {b:Bool} {v:V} (h:Rl R ρ top (.fq b) v):v= .bool b:=by unfold Rl at h;exact h
theorem Rl.jJ {b:List UInt8} {v:V} (h:Rl R ρ top (.str b) v):v= .str b:=by unfold Rl at h;exact h
theorem Rl.nQ {v:V} (h:Rl R ρ top .d9 v):v= .aj .nil []:=by unfold Rl at h;exact h
theorem Rl.iK {cs:List (TV R.T)} {v:V} (h:Rl R ρ top (.agg cs) v):∃l,v= .agg l∧ay R ρ top cs l:=by unfold Rl at h;exact h
theorem Rl.Gh {cs:List (TV R.T)} {v:V} (h:Rl R ρ top (.aT cs) v):∃l,v= .aT l∧ay R ρ top cs l:=by unfold Rl at h;exact h
theorem Rl.iV {c:Cp} {t:Ty} {l:List (Den R.T t)} {v:V} (h:Rl R ρ top (.aj c t l) v):∃c',v= .aj c' (l.map (aC R t))∧Ab ρ top (bR R t) l.length c c':=by unfold Rl at h;exact h
theorem Rl.lT {o off:Nat} {v:V} (h:Rl R ρ top (.ref o off) v):∃s,ρ.ob o=some s∧v= .ref (ρ.om.lc o) s off:=by unfold Rl at h;exact h
theorem Rl.qj {cs:List (TV R.T)} {off:Nat} {v:V} (h:Rl R ρ top (.aH cs off) v):∃l,v= .aH l off∧ay R ρ top cs l:=by unfold Rl at h;exact h
theorem Rl.um {o:Nat} {v:V} (h:Rl R ρ top (.bq o) v):∃s,ρ.ob o=some s∧v= .bq (ρ.om.lc o) s:=by unfold Rl at h;exact h
theorem Rl.Ac {k e:Ty} {m:List (Den R.T k×Den R.T e)} {v:V} (h:Rl R ρ top (.bL k e m) v):v= .bL (m.map fun p=>aC R k p.1) (m.map fun p=>aC R e p.2):=by unfold Rl at h;exact h
theorem Rl.jY {f:Nat} {a b:List (TV R.T)} {v:V} (h:Rl R ρ top (.fn f a b) v):∃a' b',v= .fn (.func f) a' b'∧ay R ρ top a a'∧ay R ρ top b b':=by unfold Rl at h;exact h
theorem Rl.xG {o:Nat} {t:Ty} {v:V} (h:Rl R ρ top (.vw o t) v):(∃s,ρ.ob o=some s∧v= .vw (ρ.om.lc o) s 0 (ρ.ln o) (ρ.ln o) (bR R t) (fK t))∨(ρ.ln o=0∧(v= .aj .nil []∨v= .aj .full [])):=by unfold Rl at h;exact h
theorem Rl.xH {o off:Nat} {t:Ty} {i:Int} {v:V} (h:Rl R ρ top (.iq o t i off) v):∃s,ρ.ob o=some s∧0≤i∧v= .ref (ρ.om.lc o) s (i.toNat*bR R t+off):=by unfold Rl at h;exact h
theorem Rl.Da {ss:List Sg} {v:V} (h:Rl R ρ top (.sg ss) v):v= .agg (bf ss):=by unfold Rl at h;exact h
theorem Rl.vJ {o off n:Nat} {k:IntKind} {lo hi:Option Int} {v:V} (h:Rl R ρ top (.sv o off k n lo hi) v):∃s,ρ.ob o=some s∧oK n lo hi=true∧v= .vw (ρ.om.lc o) s (off+(bP lo).toNat) ((dY n hi).toNat-(bP lo).toNat) (n-(bP lo).toNat) 1 false:=by unfold Rl at h;exact h
theorem Rl.Db {o off n m:Nat} {k:IntKind} {i:Int} {v:V} (h:Rl R ρ top (.sel o off k n i m) v):∃s,ρ.ob o=some s∧0≤i∧i.toNat+m≤n∧v= .ref (ρ.om.lc o) s (off+i.toNat):=by unfold Rl at h;exact h
theorem Rl.Gi {n:Nat} {k:IntKind} {x:Vec n} {i:Int} {v:V} (h:Rl R ρ top (.nL k n x i) v):0≤i∧i<n∧v= .aH (x.l.map (V.int k)) i.toNat:=by unfold Rl at h;exact h
theorem Rl.QV {v:V} (h:Rl R ρ top .undef v):v=aA:=by unfold Rl at h;exact h
theorem Rl.QW {j:Nat} {w:Bool} {x:TV R.T} {v:V} (h:Rl R ρ top (.opt j w x) v):False:=by unfold Rl at h;exact h
theorem ay.nil':ay R ρ top [] []:=rfl
theorem ay.cons' {t:TV R.T} {ts:List (TV R.T)} {v:V} {vs:List V} (h:Rl R ρ top t v) (h':ay R ρ top ts vs):ay R ρ top (t::ts) (v::vs):=⟨v,vs,rfl,h,h'⟩
theorem ay.length:∀{ts:List (TV R.T)} {vs:List V},ay R ρ top ts vs→vs.length=ts.length
 | [],_,h=>by cases h;rfl
 |_::ts,_,⟨v,vs,e,_,h'⟩=>by subst e;simp[ay.length h']
theorem ay.append:∀{ts ts':List (TV R.T)} {vs vs':List V},ay R ρ top ts vs→ay R ρ top ts' vs'→ay R ρ top (ts++ts') (vs++vs')
 | [],_,_,_,h,h2=>by cases h;exact h2
 |_::ts,_,_,_,⟨v,vs,e,h1,h'⟩,h2=>by subst e;exact .cons' h1 (ay.append h' h2)
theorem ay.drop:∀(n:Nat) {ts:List (TV R.T)} {vs:List V},ay R ρ top ts vs→ay R ρ top (ts.drop n) (vs.drop n)
 |0,_,_,h=>by simpa using h
 |n+1,[],_,h=>by cases h;simp;rfl
 |n+1,_::ts,_,⟨v,vs,e,h1,h'⟩=>by subst e;simpa using ay.drop n h'
theorem ay.take:∀(n:Nat) {ts:List (TV R.T)} {vs:List V},ay R ρ top ts vs→ay R ρ top (ts.take n) (vs.take n)
 |0,_,_,h=>by simp;rfl
 |n+1,[],_,h=>by cases h;simp;rfl
 |n+1,_::ts,_,⟨v,vs,e,h1,h'⟩=>by subst e;simpa using .cons' h1 (ay.take n h')
theorem ay.get:∀{ts:List (TV R.T)} {vs:List V} {i:Nat} {t:TV R.T},ay R ρ top ts vs→ts[i]? =some t→∃v,vs[i]? =some v∧Rl R ρ top t v
 | [],_,_,_,_,h=>by simp at h
 |_::ts,_,0,_,⟨v,vs,e,h1,h'⟩,h=>by subst e;simp at h;subst h;exact⟨v,by simp,h1⟩
 |_::ts,_,i+1,_,⟨v,vs,e,h1,h'⟩,h=>by subst e;simpa using ay.get h' (by simpa using h)
mutual
theorem Rl.wk (t:Nat) (ho:ρ'.ob=ρ.ob∧ρ'.ln=ρ.ln∧ρ'.om=ρ.om) (ht:∀u s,u≠t→ρ.tk u=some s→ρ'.tk u=some s∧top' s=top s):∀(x:TV R.T) (v:V),Rl R ρ top x v→Rl R ρ' top' (wk t x) v
 |.aj (.own u) ty l,v,h=>by
  obtain⟨c',hv,hc⟩:=h
  unfold Aq.wk
  by_cases e:Nat.beq u t=true
  ·rw[e,cond_true];exact⟨c',hv,trivial⟩
  ·have e':Nat.beq u t=false:=Bool.eq_false_iff.2 e
   rw[e',cond_false]
   refine⟨c',hv, ?_⟩
   rcases hc with hc|hc| ⟨s,h1,h2,h3⟩
   ·exact .inl hc
   ·exact .inr (.inl hc)
   ·have hne:u≠t:=fun h=>e (by rw[h];exact Nat.beq_refl t)
    have:=ht u s hne h2
    exact .inr (.inr ⟨s,h1,this.1,by rw[this.2];exact h3⟩)
 |.aj .any ty l,v,h=>by obtain⟨c',hv,hc⟩:=h;exact⟨c',hv,trivial⟩
 |.aj .sh ty l,v,h=>by obtain⟨c',hv,hc⟩:=h;exact⟨c',hv,hc⟩
 |.aj .nil ty l,v,h=>by obtain⟨c',hv,hc⟩:=h;exact⟨c',hv,hc⟩
 |.aj .full ty l,v,h=>by obtain⟨c',hv,hc⟩:=h;exact⟨c',hv,hc⟩
 |.agg cs,v,h=>by obtain⟨l,hv,hl⟩:=h;exact⟨l,hv,ay.wk t ho ht cs l hl⟩
 |.aT cs,v,h=>by obtain⟨l,hv,hl⟩:=h;exact⟨l,hv,ay.wk t ho ht cs l hl⟩
 |.aH cs off,v,h=>by obtain⟨l,hv,hl⟩:=h;exact⟨l,hv,ay.wk t ho ht cs l hl⟩
 |.fn f a b,v,h=>by obtain⟨a',b',hv,ha,hb⟩:=h;exact⟨a',b',hv,ay.wk t ho ht a a' ha,ay.wk t ho ht b b' hb⟩
 |.ref o off,v,h=>by obtain⟨s,h1,h2⟩:=h;exact⟨s,by rw[ho.1];exact h1,by rw[ho.2.2];exact h2⟩
 |.bq o,v,h=>by obtain⟨s,h1,h2⟩:=h;exact⟨s,by rw[ho.1];exact h1,by rw[ho.2.2];exact h2⟩
 |.vw o ty,v,h=>by
  rcases h with ⟨s,h1,h2⟩| ⟨h1,h2⟩
  ·exact .inl ⟨s,by rw[ho.1];exact h1,by rw[ho.2.1,ho.2.2];exact h2⟩
  ·exact .inr ⟨by rw[ho.2.1];exact h1,h2⟩
 |.iq o ty i off,v,h=>by obtain⟨s,h1,h2⟩:=h;exact⟨s,by rw[ho.1];exact h1,by rw[ho.2.2];exact h2⟩
 |.sv o _ _ _ _ _,v,h=>by obtain⟨s,h1,h2⟩:=h;exact⟨s,by rw[ho.1];exact h1,by rw[ho.2.2];exact h2⟩
 |.sel o _ _ _ _ _,v,h=>by obtain⟨s,h1,h2⟩:=h;exact⟨s,by rw[ho.1];exact h1,by rw[ho.2.2];exact h2⟩
 |.sg _,_,h=>h
 |.nL _ _ _ _,_,h=>h
 |.opt _ _ _,_,h=>h.elim
 |.int _ _,_,h=>h
 |.bool _,_,h=>h
 |.fq _,_,h=>h
 |.str _,_,h=>h
 |.dQ,_,h=>h
 |.dJ,_,h=>h
 |.dF,_,h=>h
 |.dK,_,h=>h
 |.d9,_,h=>h
 |.bL _ _ _,_,h=>h
 |.undef,_,h=>h
 |.gone,_,h=>h
theorem ay.wk (t:Nat) (ho:ρ'.ob=ρ.ob∧ρ'.ln=ρ.ln∧ρ'.om=ρ.om) (ht:∀u s,u≠t→ρ.tk u=some s→ρ'.tk u=some s∧top' s=top s):∀(x:List (TV R.T)) (v:List V),ay R ρ top x v→ay R ρ' top' (qZ t x) v
 | [],_,h=>h
 |x::xs,_,⟨v,vs,e,h1,h2⟩=>⟨v,vs,e,Rl.wk t ho ht x v h1,ay.wk t ho ht xs vs h2⟩
end
mutual
theorem Rl.kill (o:Nat) (ho:∀p,p≠o→ρ'.ob p=ρ.ob p∧ρ'.ln p=ρ.ln p) (ht:ρ'.tk=ρ.tk) (hx:ρ'.om=ρ.om):∀(x:TV R.T) (v:V),jq o x=false→Rl R ρ top x v→Rl R ρ' top x v
 |.aj c ty l,v,_,h=>by
  obtain⟨c',hv,hc⟩:=h
  refine⟨c',hv, ?_⟩
  cases c<;>try exact hc
  rcases hc with hc|hc| ⟨s,h1,h2,h3⟩
  ·exact .inl hc
  ·exact .inr (.inl hc)
  ·exact .inr (.inr ⟨s,h1,by rw[ht];exact h2,h3⟩)
 |.agg cs,v,hm,h=>by obtain⟨l,hv,hl⟩:=h;exact⟨l,hv,ay.kill o ho ht hx cs l hm hl⟩
 |.aT cs,v,hm,h=>by obtain⟨l,hv,hl⟩:=h;exact⟨l,hv,ay.kill o ho ht hx cs l hm hl⟩
 |.aH cs off,v,hm,h=>by obtain⟨l,hv,hl⟩:=h;exact⟨l,hv,ay.kill o ho ht hx cs l hm hl⟩
 |.fn f a b,v,hm,h=>by
  obtain⟨a',b',hv,ha,hb⟩:=h
  unfold jq at hm
  rw[Bool.or_eq_false_iff] at hm
  exact⟨a',b',hv,ay.kill o ho ht hx a a' hm.1 ha,ay.kill o ho ht hx b b' hm.2 hb⟩
 |.ref p off,v,hm,h=>by
  obtain⟨s,h1,h2⟩:=h
  unfold jq at hm
  exact⟨s,((ho p (fun e=>by rw[e,Nat.beq_refl] at hm;cases hm)).1.trans h1),by rw[hx];exact h2⟩
 |.bq p,v,hm,h=>by
  obtain⟨s,h1,h2⟩:=h
  unfold jq at hm
  exact⟨s,((ho p (fun e=>by rw[e,Nat.beq_refl] at hm;cases hm)).1.trans h1),by rw[hx];exact h2⟩
 |.vw p ty,v,hm,h=>by
  unfold jq at hm
  obtain⟨k1,k2⟩:=ho p (fun e=>by rw[e,Nat.beq_refl] at hm;cases hm)
  rcases h with ⟨s,h1,h2⟩| ⟨h1,h2⟩
  ·exact .inl ⟨s,k1.trans h1,by rw[k2,hx];exact h2⟩
  ·exact .inr ⟨by rw[k2];exact h1,h2⟩
 |.iq p ty i off,v,hm,h=>by
  obtain⟨s,h1,h2⟩:=h
  unfold jq at hm
  exact⟨s,((ho p (fun e=>by rw[e,Nat.beq_refl] at hm;cases hm)).1.trans h1),by rw[hx];exact h2⟩
 |.sv p _ _ _ _ _,v,hm,h=>by
  obtain⟨s,h1,h2⟩:=h
  unfold jq at hm
  exact⟨s,((ho p (fun e=>by rw[e,Nat.beq_refl] at hm;cases hm)).1.trans h1),by rw[hx];exact h2⟩
 |.sel p _ _ _ _ _,v,hm,h=>by
  obtain⟨s,h1,h2⟩:=h
  unfold jq at hm
  exact⟨s,((ho p (fun e=>by rw[e,Nat.beq_refl] at hm;cases hm)).1.trans h1),by rw[hx];exact h2⟩
 |.sg _,_,_,h=>h
 |.nL _ _ _ _,_,_,h=>h
 |.opt _ _ _,_,_,h=>h.elim
 |.int _ _,_,_,h=>h
 |.bool _,_,_,h=>h
 |.fq _,_,_,h=>h
 |.str _,_,_,h=>h
 |.dQ,_,_,h=>h
 |.dJ,_,_,h=>h
 |.dF,_,_,h=>h
 |.dK,_,_,h=>h
 |.d9,_,_,h=>h
 |.bL _ _ _,_,_,h=>h
 |.undef,_,_,h=>h
 |.gone,_,_,h=>h
theorem ay.kill (o:Nat) (ho:∀p,p≠o→ρ'.ob p=ρ.ob p∧ρ'.ln p=ρ.ln p) (ht:ρ'.tk=ρ.tk) (hx:ρ'.om=ρ.om):∀(x:List (TV R.T)) (v:List V),jT o x=false→ay R ρ top x v→ay R ρ' top x v
 | [],_,_,h=>h
 |x::xs,_,hm,⟨v,vs,e,h1,h2⟩=>by
  unfold jT at hm
  rw[Bool.or_eq_false_iff] at hm
  exact⟨v,vs,e,Rl.kill o ho ht hx x v hm.1 h1,ay.kill o ho ht hx xs vs hm.2 h2⟩
end
section
variable (hR:kY R)
include hR
def Ad (v w:V):Prop:=dw v=w∧er v=w∧aD w=true∧(∀n σ,aJ (n+2) σ v=some w)∧oneCell v=true∧v.cells=[v]
omit hR in
theorem abe {v:V} (h:∀cs,v≠ .agg cs):er v=dw v:=by cases v<;>first|rfl|exact absurd rfl (h _)
theorem nR:∀(t:Ty) (x:Den R.T t),aD (aC R t x)=true
 |.int _,x=>by simp[aC,aD]
 |.bool,x=>by simp[aC,aD]
 |.str,x=>by simp[aC,aD]
 |.slice t,x=>Fx (nR t) x
 |.st n,x=>hR.pc n x
theorem QX (c:Cp) (hc:Ab ρ top 1 0 c .sh∧(c= .any∨c= .sh)):∀(t:Ty) (x:Den R.T t),jI t=true→Rl R ρ top (tX R c t x) (aC R t x)
 |.int _,x,_=>rfl
 |.bool,x,_=>rfl
 |.str,x,_=>rfl
 |.slice t,x,_=>⟨.sh,rfl,by rcases hc.2 with rfl|rfl<;>first|trivial|rfl⟩
 |.st n,x,h=>by simp[jI] at h
theorem QY (c:Cp) (hc:Ab ρ top 1 0 c .sh∧(c= .any∨c= .sh)):∀(l:List Ty) (p:jS R.T l),l.all jI=true→ay R ρ top (gM R c l p) (encs R l p)
 | [],_,_=>rfl
 | [t],x,h=>.cons' (QX hR c hc t x (by simpa using h)) rfl
 |t::u::l,p,h=>by
  rw[List.all_cons,Bool.and_eq_true] at h
  exact .cons' (QX hR c hc t p.1 h.1) (QY c hc (u::l) p.2 h.2)
theorem Gj (c:Cp) (hc:c= .any∨c= .sh):∀(t:Ty) (x:Den R.T t),Rl R ρ top (dN R c t x) (aC R t x)
 |.int _,x=>rfl
 |.bool,x=>rfl
 |.str,x=>rfl
 |.slice t,x=>⟨.sh,rfl,by rcases hc with rfl|rfl<;>first|trivial|rfl⟩
 |.st n,x=>⟨_,hR.enc n x,QY hR c ⟨by rcases hc with rfl|rfl<;>first|trivial|rfl,hc⟩ _ _ (hR.leaf n)⟩
theorem QZ (t:Ty) (x:Den R.T t):Rl R ρ top (dN R .sh t x) (aC R t x):=Gj hR .sh (.inr rfl) t x
omit hR in
theorem abf (k:IntKind) (n:Int):Ad (.int k n) (.int k n):=⟨rfl,rfl,by simp[aD],fun n σ=>J8 (n+1) _ _,rfl,rfl⟩
omit hR in
theorem abg (b:Bool):Ad (.bool b) (.bool b):=⟨rfl,rfl,by simp[aD],fun n σ=>J9 (n+1) _,rfl,rfl⟩
omit hR in
theorem abh (b:List UInt8):Ad (.str b) (.str b):=⟨rfl,rfl,by simp[aD],fun n σ=>Ka (n+1) _,rfl,rfl⟩
theorem abj (c:Cap) (t:Ty) (l:List (Den R.T t)):Ad (.aj c (l.map (aC R t))) (aC R (.slice t) l):=⟨rfl,rfl,nR hR (.slice _) _,fun n σ=>wX _ _ (nR hR _),rfl,rfl⟩
omit hR in
theorem KR {k:IntKind} {x:Int} {tv:TV R.T} {v:V} (h:FB R k tv=some x) (hr:Rl R ρ top tv v):v= .int k x:=by
 unfold FB at h
 split at h
 ·split at h
  ·rename_i e;cases e;cases h;exact hr.dZ
  ·cases h
 ·cases h
omit hR in
theorem KS {x:Bool} {tv:TV R.T} {v:V} (h:FC R tv=some x) (hr:Rl R ρ top tv v):v= .bool x:=by
 unfold FC at h
 split at h<;>cases h
 ·exact hr.mK
 ·exact hr.qh
omit hR in
theorem KT {x:List UInt8} {tv:TV R.T} {v:V} (h:FD R tv=some x) (hr:Rl R ρ top tv v):v= .str x:=by
 unfold FD at h
 split at h<;>cases h
 exact hr.jJ
omit hR in
theorem oO {t u:Ty} {l:List (Den R.T t)} {m:List (Den R.T u)} (h:mq R l=some m):t=u∧HEq l m:=by
 unfold mq at h
 split at h
 ·rename_i e;subst e;cases h;exact⟨rfl,HEq.rfl⟩
 ·cases h
omit hR in
theorem Q0 {t:Ty} {x:List (Den R.T t)} {tv:TV R.T} {v:V} (h:FE R t tv=some x) (hr:Rl R ρ top tv v):∃c,v= .aj c (x.map (aC R t)):=by
 unfold FE at h
 split at h
 ·obtain⟨e,e2⟩:=oO h;subst e;cases e2
  obtain⟨c',hv,hc⟩:=hr.iV
  exact⟨c',hv⟩
 ·cases h;exact⟨.nil,hr.nQ⟩
 ·cases h
theorem Ae {t:Ty} {x:Den R.T t} {tv:TV R.T} {v:V} (h:mD R t tv=some x) (hr:Rl R ρ top tv v):Ad v (aC R t x):=by
 cases t with
 |int k=>rw[KR h hr];exact abf _ _
 |bool=>rw[KS h hr];exact abg _
 |str=>rw[KT h hr];exact abh _
 |slice t=>obtain⟨c,hv⟩:=Q0 h hr;rw[hv];exact abj hR _ _ _
 |st n=>cases h
theorem abk {t:Ty} {x:Den R.T t} {cs:List (TV R.T)} {vs:List V} (h:mD R t (hd1 R cs)=some x) (hr:ay R ρ top cs vs):∃v,vs=[v]∧Ad v (aC R t x):=by
 cases cs with
 |nil=>cases t<;>cases h
 |cons c cs=>
  cases cs with
  |nil=>
   obtain⟨v,l,rfl,h1,h2⟩:=hr.bX
   rw[h2.dO]
   exact⟨v,rfl,Ae hR h h1⟩
  |cons c' cs=>cases t<;>cases h
theorem Q5:∀(l:List Ty) (p:jS R.T l) (cs:List (TV R.T)) (vs:List V),u7 R l cs=some p→ay R ρ top cs vs→
 vs.map dw=encs R l p∧(∀n σ,vs.mapM (aJ (n+2) σ)=some (encs R l p))∧aY (encs R l p)=true∧vs.all (fun v=>oneCell v)=true
 | [],p,cs,vs,h,hr=>by
   cases cs with
   |nil=>rw[hr.dO];exact⟨rfl,fun _ _=>rfl,by simp[encs,aY],rfl⟩
   |cons c cs=>cases h
 | [t],p,cs,vs,h,hr=>by
   obtain⟨v,rfl,a,b,c,d,e,_⟩:=abk hR (show mD R t (hd1 R cs)=some p from h) hr
   exact⟨by simp[encs,a],fun n σ=>by simp[encs,d],by simp[encs,aY,c],by simp[e]⟩
 |t::u::l,p,cs,vs,h,hr=>by
  cases cs with
  |nil=>cases h
  |cons c cs=>
   obtain⟨v,vs,rfl,h1,h2⟩:=hr.bX
   unfold u7 at h
   cases hu:mD R t c with
   |none=>simp only[hu] at h;cases h
   |some y=>
    cases hs:u7 R (u::l) cs with
    |none=>simp only[hu,hs] at h;cases h
    |some q=>
     simp only[hu,hs] at h
     obtain rfl:=Option.some.inj h
     obtain⟨a,b,c,d,e,_⟩:=Ae hR hu h1
     obtain⟨a',d',c',o'⟩:=Q5 (u::l) q cs vs hs h2
     exact⟨by simp[encs,a,a'],fun n σ=>by simp[encs,d,d'],by simp[encs,aY,c,c'],by simp[e,o']⟩
omit hR in
theorem KU:∀(l:List Ty) (p:jS R.T l),(encs R l p).length=l.length
 | [],_=>rfl
 | [_],_=>rfl
 |_::u::l,p=>by show (encs R (u::l) p.2).length+1=_;rw[KU];rfl
omit hR in
theorem KV {n:Nat} {σ:ah} (cs:List V):aJ (n+3) σ (.agg cs)=(cs.mapM (aJ (n+2) σ)).map .agg:=by
 by_cases hp:aD (.agg cs)=true
 ·rw[iG hp]
  have:∀cs:List V,aY cs=true→cs.mapM (aJ (n+2) σ)=some cs:=by
   intro cs
   induction cs with
   |nil=>intro _;rfl
   |cons a l ih=>
    intro h
    simp only[aY,Bool.and_eq_true] at h
    rw[List.mapM_cons,iG h.1,ih h.2];rfl
  rw[this cs (by simpa [aD] using hp)];rfl
 ·conv=>lhs;unfold aJ
  simp only[hp,if_false,Bool.false_eq_true]
theorem KW {t:Ty} {x:Den R.T t} {tv:TV R.T} {v:V} (h:lK R t tv=some x) (hr:Rl R ρ top tv v):
 er v=aC R t x∧aD (aC R t x)=true∧(∀n σ,aJ (n+3) σ v=some (aC R t x))∧v.cells.length=bR R t∧bn v.cells=true:=by
 cases t with
 |st n=>
  change w9 R n tv=some x at h
  unfold w9 at h
  split at h
  ·rename_i cs
   split at h
   ·rename_i p hp
    obtain rfl:=Option.some.inj h
    obtain⟨l,hv,hl⟩:=hr.iK
    subst hv
    obtain⟨a,d,c,o⟩:=Q5 hR _ _ _ _ hp hl
    have he:aC R (.st n) (R.to n p)= .agg (encs R (R.lf n) p):=by
     show R.enc n (R.to n p)=_
     rw[hR.enc,hR.C9]
    refine⟨?_,nR hR (.st n) _,fun k σ=> ?_, ?_,o⟩
    ·rw[he];show V.agg (l.map dw)=_;rw[a]
    ·rw[he,KV,d k σ];rfl
    ·show l.length=_
     have:=congrArg List.length a
     rw[List.length_map] at this
     rw[this];exact KU _ _
   ·cases h
  ·cases h
 |int k=>
  obtain⟨a,b,c,d,e,f⟩:=Ae hR (t:=.int k) h hr
  exact⟨b,c,fun n σ=>d (n+1) σ,by rw[f];rfl,by rw[f];simp[bn,e]⟩
 |bool=>
  obtain⟨a,b,c,d,e,f⟩:=Ae hR (t:=.bool) h hr
  exact⟨b,c,fun n σ=>d (n+1) σ,by rw[f];rfl,by rw[f];simp[bn,e]⟩
 |str=>
  obtain⟨a,b,c,d,e,f⟩:=Ae hR (t:=.str) h hr
  exact⟨b,c,fun n σ=>d (n+1) σ,by rw[f];rfl,by rw[f];simp[bn,e]⟩
 |slice t=>
  obtain⟨a,b,c,d,e,f⟩:=Ae hR (t:=.slice t) h hr
  exact⟨b,c,fun n σ=>d (n+1) σ,by rw[f];rfl,by rw[f];simp[bn,e]⟩
end
end
end Aq
end
