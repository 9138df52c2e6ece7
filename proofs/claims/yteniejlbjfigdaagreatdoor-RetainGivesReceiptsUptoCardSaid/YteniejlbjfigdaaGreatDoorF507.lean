import Derived.Test.YteniejlbjfigdaaGreatDoorF506
set_option linter.all false
section
namespace aR
open Go
inductive eY (R:kE) where
 |t (v:au R.T)
 |c (b:Bool) (v:au R.T)
 |w (v:au R.T) (st:aM R.T)
 |wc (b:Bool) (v:au R.T) (st:aM R.T)
 |p (J:Type) (d:J) (o:Option J) (f:J->au R.T)
section
variable (E:Env)(R:kE)
def Rh {T:Nat->Type}(agg:Bool)(n:Nat)(cs:List (au T))(off:Nat):Option (au T):=bif agg then (bif Nat.ble (off+n) cs.length then some (.agg ((cs.drop off).take n)) else none) else cs[off]?
def nO {T:Nat->Type}(t:TypeId)(cs:List (au T))(off:Nat):Option (au T):=
 match j5 E.P t with
 |some a=>match dF E.P t with
  |some n=>Rh a n cs off|none=>none
 |none=>none
def HZ {T:Nat->Type}(cs:List (au T))(off:Nat)(vs:List (au T)):List (au T):=cs.take off++vs++cs.drop (off+vs.length)
def Ri {T:Nat->Type}(place:Nat->Option (Nat×Nat))(cells:List (au T)):List (Nat×au T)->Option (List (au T))
 | []=>some cells| (i,v)::rest=>match place i with
   |none=>none|some (off,size)=>bif Nat.beq v.cells.length size&& Nat.ble (off+size) cells.length&& wR v then Ri place (HZ cells off v.cells) rest else none
def Ct {T:Nat->Type}(t:TypeId):Option (au T):=match E.P.info? t with
 |some i=>match i.zero with
  |some z=>Ht z|none=>none
 |none=>none
def L9 {T:Nat->Type}:au T->Option Bool
 |.bool a=>some a|.jy a=>some a|_=>none
def Rj {T:Nat->Type}(x y:au T):Option Bool:=match L9 x,L9 y with
 |some a,some b=>some (a==b)|_,_=>none
def H6 {T:Nat->Type}(eq:TypeId->au T->au T->Option Bool)(xs ys:List (au T)):List Field->Option Bool
 | []=>some true|f::fs=>if f.name= "_" then H6 eq xs ys fs else match nO E f.type xs f.offset with
  |none=>none|some a=>match nO E f.type ys f.offset with
   |none=>none|some b=>match eq f.type a b with
    |none=>none|some r=>match H6 eq xs ys fs with
     |none=>none|some q=>some (r&& q)
def Ma {T:Nat->Type}(eq:TypeId->au T->au T->Option Bool)(e:TypeId)(sz:Nat)(xs ys:List (au T)):List Nat->Option Bool
 | []=>some true|i::is=>match nO E e xs (i*sz) with
  |none=>none|some a=>match nO E e ys (i*sz) with
   |none=>none|some b=>match eq e a b with
    |none=>none|some r=>match Ma eq e sz xs ys is with
     |none=>none|some q=>some (r&& q)
def H7 {T:Nat->Type}:Nat->TypeId->au T->au T->Option Bool
 |0,_,_,_=>none|d+1,t,x,y=>
  match E.P.underlying t,x,y with
  |some (.struct fs),.agg xs,.agg ys=>if E.P.stoodInHeld t then none else H6 E (H7 d) xs ys fs.toList|some (.array n e),.agg xs,.agg ys=>match dF E.P e with
   |some sz=>Ma E (H7 d) e sz xs ys (List.range n)|none=>none
  |some (.struct _),_,_=>none|some (.array _ _),_,_=>none|some .bool,x,y=>Rj x y|some (.int _),.int k a,.int k' b=>if k=k' then some (a==b) else none|some .string,.str a,.str b=>some (a==b)|_,_,_=>none
def Rk {T:Nat->Type}(t:TypeId)(x y:au T):Option Bool:=
 match E.P.underlying t,x,y with
 |some (.struct _),.agg a,.agg b=>if E.P.eqGuardType E.P.depth t then none else H7 E 8 t (.agg a) (.agg b)|some (.array _ _),.agg a,.agg b=>if E.P.eqGuardType E.P.depth t then none else H7 E 8 t (.agg a) (.agg b)|some (.func ..),.gH,.gH=>some true|some (.func ..),.gH,.fn _ _ _=>some false|some (.func ..),.fn _ _ _,.gH=>some false|some .bool,x,y=>Rj x y|_,_,_=>none
def Rl (op:BinOp)(k:IntKind)(x y:Int):Option (eY R):=
 match op with
 |.add=>some (.t (.int k (k.wrap (x+y))))|.sub=>some (.t (.int k (k.wrap (x-y))))|.mul=>some (.t (.int k (k.wrap (x*y))))|.quo=>some (.c (!(y==0)) (.int k (k.wrap (x.tdiv y))))|.rem=>some (.c (!(y==0)) (.int k (x.tmod y)))|.and=>some (.t (.int k (k.wrap (BitVec.ofInt k.bits x&&& BitVec.ofInt k.bits y).toNat)))|.or=>some (.t (.int k (k.wrap (BitVec.ofInt k.bits x|||BitVec.ofInt k.bits y).toNat)))|.xor=>some (.t (.int k (k.wrap (BitVec.ofInt k.bits x^^^BitVec.ofInt k.bits y).toNat)))
 |.andNot=>some (.t (.int k (k.wrap (BitVec.ofInt k.bits x&&& ~~~BitVec.ofInt k.bits y).toNat)))|.eql=>some (.t (.bool (x==y)))|.neq=>some (.t (.bool (x !=y)))|.lss=>some (.t (.bool (decide (x<y))))|.leq=>some (.t (.bool (decide (x<=y))))|.gtr=>some (.t (.bool (decide (x>y))))|.geq=>some (.t (.bool (decide (x>=y))))|_=>none
def Wy (op:BinOp)(k:IntKind)(x y:Int):Option (eY R):=
 match op with
 |.shl=>some (.c (decide (0<=y)) (.int k (k.wrap (x*2^min y.toNat k.bits))))|.shr=>some (.c (decide (0<=y)) (.int k (x.fdiv (2^min y.toNat k.bits))))|_=>none
def Wz (op:BinOp)(x y:List UInt8):Option (eY R):=
 match op with
 |.add=>some (.c (decide (((x.length+y.length:Nat):Int)<=IntKind.i64.max)) (.str (x++y)))|.eql=>some (.t (.bool (x==y)))|.neq=>some (.t (.bool (!(x==y))))|.lss=>some (.t (.bool (Op.bytesLess x y)))|.leq=>some (.t (.bool (Op.bytesLess x y||x==y)))|.gtr=>some (.t (.bool (!(Op.bytesLess x y||x==y))))|.geq=>some (.t (.bool (!(Op.bytesLess x y))))|_=>none
def H8:BinOp->Bool
 |.shl=>true|.shr=>true|_=>false
def WA (op:BinOp)(t:TypeId)(x y:au R.T):Option (eY R):=
 match x,y with
 |.int k a,.int k' b=>bif H8 op then Wy R op k a b else (if k=k' then Rl R op k a b else none)|.str a,.str b=>Wz R op a b|x,y=>match op with
  |.eql=>match Rk E t x y with
   |some b=>some (.t (.bool b))|none=>none
  |.neq=>match Rk E t x y with
   |some b=>some (.t (.bool (!b)))|none=>none
  |_=>none
def WB (op:UnOp)(x:au R.T):Option (eY R):=
 match op,x with
 |.neg,.int k n=>some (.t (.int k (k.wrap (0-n))))|.xor,.int k n=>Rl R .xor k (if k.signed then-1 else k.max) n|.not,.bool b=>some (.t (.bool (!b)))|.not,.jy b=>some (.t (.jy (!b)))|_,_=>none
def Rm (src dst:TypeId)(x:au R.T):Option (eY R):=
 match E.P.underlying src,E.P.underlying dst,x with
 |some _,some (.int k),.int _ n=>some (.t (.int k (k.wrap n)))|some _,some .string,.str s=>some (.t (.str s))|some (.slice e),some .string,.ak _ (.int .u8) l=>match E.P.underlying e with
  |some (.int .u8)=>some (.t (.str (List.map (fun n:Int=>UInt8.ofNat n.toNat) l)))
  |_=>none
 |some (.slice e),some .string,.fE=>match E.P.underlying e with
  |some (.int .u8)=>some (.t (.str []))|_=>none
 |_,_,_=>none
def kK (i:Int)(n:Nat):Bool:=decide (0<=i/\i<=n)
def Cu:Option (au R.T)->Option (Option Int)
 |none=>some none|some (.int _ n)=>some (some n)|_=>none
def uh {J:Type}(l:List J):Option Int->Option Int->List J
 |none,none=>l|some i,none=>l.drop i.toNat|none,some j=>l.take j.toNat|some i,some j=>(l.take j.toNat).drop i.toNat
def WC (n:Nat):Option Int->Option Int->Bool
 |none,none=>true|some i,none=>kK i n|none,some j=>kK j n|some i,some j=>kK j n&& kK i j.toNat
def Rn (t:TypeId)(x:au R.T)(lo hi:Option (au R.T)):Option (eY R):=
 match Cu R lo,Cu R hi with
 |some lo,some hi=>match E.P.underlying t,x with
  |some .string,.str s=>some (.c (WC s.length lo hi) (.str (uh s lo hi)))|some (.slice e),.ak _ u l=>match dF E.P e with
   |some sz=>bif Nat.beq sz (dB R u) then some (.c (WC l.length lo hi) (.ak .any u (uh l lo hi))) else none|none=>none
  |_,_=>none
 |_,_=>none
def H9 {T:Nat->Type}(st:aM T):au T->Option (Nat×Ty×Int×Int)
 |.aU o t=>match oK st o with
  |some (.arr _ l)=>some (o,t,0,(l.length:Int))|_=>none
 |.sub o t a b=>some (o,t,a,b)|_=>none
def afw (a b c:Int):Bool:=decide (0<=a/\a<=b/\b<=c)
def aqd (i n:Int):Bool:=decide (0<=i/\i<n)
def sI (n:Int):Option Int->Int
 |some i=>i|none=>n
def pK:Option Int->Int
 |some i=>i|none=>0
def Ro (t:TypeId)(x:au R.T)(lo hi:Option (au R.T))(st:aM R.T):Option (eY R):=
 match H9 st x,Cu R lo,Cu R hi,E.P.underlying t with
 |some (o,τ,a,b),some lo,some hi,some (.slice e)=>match dF E.P e with
  |some sz=>bif Nat.beq sz (dB R τ) then some (.c (afw (pK lo) (sI (b-a) hi) (b-a)) (.sub o τ (a+pK lo) (a+sI (b-a) hi))) else none|none=>none
 |_,_,_,_=>none
def Cv (t:TypeId)(x:au R.T)(lo hi:Option (au R.T))(st:aM R.T):Option (eY R):=
 match Ro E R t x lo hi st with
 |some r=>some r|none=>Rn E R t x lo hi
def afx {T:Nat->Type}(t:TypeId)(f:Nat)(x:au T):Option (au T):=
 match xL E.P t f with
 |some (o,_)=>match x with
  |.ref p off=>some (.ref p (off+o))|.aX cs off=>some (.aX cs (off+o))|.l8 p t i off=>some (.l8 p t i (off+o))|_=>none
 |none=>none
def mK (R:kE):(t:Ty)->Den R.T t->Den R.T t->Bool
 |.int _=>fun (a b:Int)=>a==b
 |.bool=>fun (a b:Bool)=>a==b
 |.str=>fun (a b:List UInt8)=>a==b
 |.slice _=>fun _ _=>false
 |.st _=>fun _ _=>false
def Au (t:TypeId)(k:Ty):Bool:=match E.P.underlying t,k with
 |some (.int _),.int _=>true|some .string,.str=>true|some .bool,.bool=>true|_,_=>false
def yh {J β:Type}(eq:J->J->Bool)(x:J):List (J×β)->Option β
 | []=>none| (a,v)::m=>bif eq x a then some v else yh eq x m
def zm {J β:Type}(eq:J->J->Bool)(x:J)(v:β):List (J×β)->List (J×β)
 | []=>[(x,v)]| (a,w)::m=>bif eq x a then (x,v)::m else (a,w)::zm eq x v m
def Ia {J:Type}(d:J):Option J->J
 |some x=>x|none=>d
def afy (t:Ty)(v:au R.T):Option (Den R.T t):=bif pz v then uf R t v else none
def Mc (t:TypeId)(k e:Ty)(m:List (Den R.T k×Den R.T e))(x:au R.T)(ok:Bool):Option (eY R):=
 match wE E.P t with
 |some (kt,et)=>bif Au E kt k then (match Ct (T:=R.T) E et with
  |some z=>match uf R e z,uf R k x with
   |some z,some x=>some (.t (bif ok then .bK [iI R .any e (Ia z (yh (mK R k) x m)),.bool (yh (mK R k) x m).isSome] else iI R .any e (Ia z (yh (mK R k) x m))))|_,_=>none
  |none=>none) else none
 |none=>none
def Rp (t:TypeId)(m x:au R.T)(ok:Bool)(st:aM R.T):Option (eY R):=
 match m with
 |.dQ o=>match oK st o with
  |some (.map k e m)=>Mc E R t k e m x ok|_=>none
 |.eF k e m=>Mc E R t k e m x ok|.gP=>match wE E.P t with
  |some (kt,et)=>match R.ty kt,R.ty et with
   |some k,some e=>Mc E R t k e [] x ok|_,_=>none
  |none=>none
 |_=>none
def Rq {T:Nat->Type}:au T->au T->Option Bool
 |.int k a,.int k' b=>if k=k' then some (a==b) else none|.str a,.str b=>some (a==b)|_,_=>none
def Rs {T:Nat->Type}(t:TypeId):au T->Bool:=fun v=>match E.P.underlying t,v with
 |some (.int _),.int _ _=>true|some .string,.str _=>true|_,_=>false
def Rt {T:Nat->Type}(x v:au T):List (au T)->List (au T)->Option (List (au T)×List (au T))
 | [],[]=>some ([x],[v])|a::ks,w::vs=>match Rq x a with
  |some b=>bif b then some (x::ks,v::vs) else (match Rt x v ks vs with
   |some (ks,vs)=>some (a::ks,w::vs)|none=>none)
  |none=>none
 |_,_=>none
def Ib (t:TypeId)(m x v:au R.T)(st:aM R.T):Option (eY R):=
 match m with
 |.dQ o=>match look st.ob o with
  |some (.map k e m)=>match wE E.P t with
   |some (kt,_)=>bif Au E kt k then (match uf R k x,afy R e v with
    |some x,some v=>some (.w .undef (st.set o (.map k e (zm (mK R k) x v m))))|_,_=>none) else none
   |none=>none
  |some (.smap ks vs)=>match wE E.P t with
   |some (kt,_)=>bif Rs E kt x then (match Rt x v ks vs with
    |some (ks,vs)=>some (.w .undef (st.set o (.smap ks vs)))|none=>none) else none
   |none=>none
  |_=>none
 |_=>none
def jC:Ty->Bool
 |.st _=>true|_=>false
def Ic (t:TypeId):Option (TypeId×Ty×Nat×Nat):=
 match lG E.P t with
 |some e=>match R.ty e,dF E.P e,wD E.P e,j5 E.P e,iM E.P e with
  |some u,some sz,some gy,some ag,some z=>bif Nat.beq sz (dB R u)&& Nat.blt 0 sz&& (ag||Nat.beq sz 1)&& Nat.beq z.cells.length sz&& (ag==jC u) then some (e,u,sz,gy) else none|_,_,_,_,_=>none
 |none=>none
def Av (t:Ty)(n:Nat):List (Nat×au R.T)->Option (List (Den R.T t))
 | []=>some []| (i,v)::l=>bif Nat.beq i n then (match uf R t v with
   |some x=>match Av t (n+1) l with
    |some y=>some (x::y)|none=>none
   |none=>none) else none
def WE (t:TypeId)(len:Nat)(ps:List (Nat×au R.T)):Option (eY R):=
 match Ic E R t with
 |some (_,u,sz,_)=>bif Nat.ble (len*sz) (2^24)&& Nat.beq ps.length len then (match Av R u 0 ps with
  |some l=>some (.t (.ak .full u l))|none=>none) else none
 |none=>none
def WG (d:Option Nat)(t:TypeId)(len:Nat)(ps:List (Nat×au R.T))(st:aM R.T):Option (eY R):=
 match d,Ic E R t with
 |some d,some (_,u,sz,_)=>bif Nat.ble (len*sz) (2^24)&& Nat.beq ps.length len then (match Av R u 0 ps with
  |some l=>bif Nat.ble F0 (E.cn d) then none else some (.w (.aU (E.cn d) u) (st.new (E.cn d) (.arr u l)))|none=>none) else none
 |_,_=>none
def Md (u:Ty):au R.T->Option (List (Den R.T u))
 |.ak _ _ l=>tY R l|.fE=>some []|.str s=>tY (t:=.int .u8) (u:=u) R (s.map fun b=>(b.toNat:Int))
 |_=>none
def afz (u:Ty)(d:Nat):au R.T->Option (Nat×List (Den R.T u))
 |.ak .nil _ l=>match tY R l with
  |some l=>some (d,l)|none=>none
 |.ak .full _ l=>match tY R l with
  |some l=>some (d,l)|none=>none
 |.ak (.own t) _ l=>match tY R l with
  |some l=>some (t,l)|none=>none
 |.fE=>some (d,[])|_=>none
def Ie (t:TypeId):Bool:=match E.P.underlying t with
 |some (.slice _)=>true|some .string=>true|_=>false
def Me (d:Option Nat)(t u:TypeId)(x y:au R.T)(st:aM R.T):Option (eY R):=
 match d with
 |some d=>match Ic E R t with
  |some (_,τ,_,gy)=>bif Ie E u then (match afz R τ d x,Md R τ y with
   |some (tk,l),some l'=>some (.wc (cK (l.length+l'.length) gy) (.ak (.own tk) τ (l++l')) (st.wk tk))|_,_=>none) else none
  |none=>none
 |none=>none
def Mf (d:Option Nat)(t u:TypeId)(x y:au R.T)(st:aM R.T):Option (eY R):=
 match d with
 |some d=>bif Nat.ble F0 (E.cn d) then none else match Ic E R t with
  |some (_,τ,_,gy)=>bif Ie E u then (match Md R τ y with
   |some l'=>match x with
    |.aU o afA=>if afA=τ then (match look st.ob o with
     |some (.arr gT l)=>match tY R (u:=τ) l with
      |some l=>bif Nat.beq o (E.cn d) then some (.wc (cK (l.length+l'.length) gy) (.aU (E.cn d) τ) ((st.del o).new (E.cn d) (.arr τ (l++l')))) else (match l' with
       |a::l'=>some (.wc (cK (l.length+(a::l').length) gy) (.aU (E.cn d) τ) ((st.del o).new (E.cn d) (.arr τ (l++a::l'))))| []=>none)
      |none=>none
     |_=>none) else none
    |x=>bif HY x then some (.wc (cK l'.length gy) (.aU (E.cn d) τ) (st.new (E.cn d) (.arr τ l'))) else none
   |none=>none) else none
  |none=>none
 |none=>none
def WH (aj:Bool)(d:Option Nat)(t:TypeId)(n m:au R.T)(st:aM R.T):Option (eY R):=(fun (_:Env) (_:kE) (_:Bool) (_:Option Nat) (_:TypeId) (_ _:au R.T) (_:aM R.T)=>none) E R aj d t n m st
def Ig {T:Nat->Type}(mx:Bool):au T->List (au T)->Option (au T)
 |x,[]=>some x|.int k a,.int k' b::l=>if k=k' then Ig mx (.int k (bif mx then imax a b else wO a b)) l else none|_,_=>none
def WI {T:Nat->Type}(t:TypeId)(x:au T)(st:aM T):Option Nat:=
 match E.P.underlying t,x with
 |some (.slice _),.ak _ _ l=>some l.length|some (.slice _),.fE=>some 0|some (.slice _),.aU o _=>match oK st o with
  |some (.arr _ l)=>some l.length|_=>none
 |some (.slice _),.sub _ _ a b=>some (b-a).toNat|some .string,.str s=>some s.length|some (.map _ _),.dQ o=>match oK st o with
  |some (.map _ _ m)=>some m.length|_=>none
 |some (.map _ _),.eF _ _ m=>some m.length|some (.map _ _),.gP=>some 0|some (.array n _),_=>some n|_,_=>none
def WJ (t:TypeId)(x:au R.T)(st:aM R.T):Option (eY R):=
 (fun (_:Env) (_:kE) (_:TypeId) (_:au R.T) (_:aM R.T)=>none) E R t x st
def blt (aj:Bool)(d:Option Nat)(b:Builtin)(tys:Array TypeId)(args:List (au R.T))(st:aM R.T):Option (eY R):=
 match b,args with
 |.len,[x]=>match tys[0]? with
  |some t=>match WI E t x st with
   |some n=>some (.t (.int .i64 ((n:Nat):Int)))|none=>none
  |none=>none
 |.append,[x,y]=>match tys[0]?,tys[1]? with
  |some t,some u=>bif aj then Mf E R d t u x y st else Me E R d t u x y st|_,_=>none
 |.clear,[x]=>match tys[0]? with
  |some t=>WJ E R t x st|none=>none
 |.min,x::l=>match Ig false x l with
  |some v=>some (.t v)|none=>none
 |.max,x::l=>match Ig true x l with
  |some v=>some (.t v)|none=>none
 |_,_=>none
def afB:List (au R.T)->au R.T
 | [v]=>v|vs=>.bK vs
def findF (args dU:List (au R.T)):List (iF R)->Option (eY R)
 | []=>none|r::l=>match jl R r.args dU with
  |some p=>bif lK r.args&& Nat.ble (vF r.args) 18&& lK r.res&& (Cq args||Hy r.res) then some (.p (bB R.T r.res) r.d (r.F p) fun x=>afB R (jB R .sh r.res x)) else none
  |none=>findF args dU l
def WK (t:TypeId)(x i:au R.T):Option (eY R):=
 match E.P.underlying t,x,i with
 |some (.slice e),.ak _ u l,.int _ n=>match dF E.P e with
  |some sz=>bif Nat.beq sz (dB R u) then some (.p (Den R.T u) (Ho R u) (aK l n) fun y=>.aX (iI R .sh u y).cells 0) else none
  |none=>none
 |some (.array n e),.ref o off,.int _ k=>match dF E.P e with
  |some sz=>some (.c (decide (0<=k/\k<n)) (.ref o (off+k.toNat*sz)))|none=>none
 |some (.array n e),.aX cs off,.int _ k=>match dF E.P e with
  |some sz=>some (.c (decide (0<=k/\k<n)) (.aX cs (off+k.toNat*sz)))|none=>none
 |_,_,_=>none
def WL (t:TypeId)(o:Nat)(τ:Ty)(i:au R.T)(st:aM R.T):Option (eY R):=
 match E.P.underlying t,i with
 |some (.slice e),.int _ n=>match dF E.P e with
  |some sz=>bif Nat.beq sz (dB R τ) then (match oK st o with
   |some (.arr _ l)=>some (.c (decide (0<=n/\n< (l.length:Int))) (.l8 o τ n 0))|_=>none) else none
  |none=>none
 |_,_=>none
def WM (t:TypeId)(o:Nat)(τ:Ty)(a b:Int)(i:au R.T):Option (eY R):=
 match E.P.underlying t,i with
 |some (.slice e),.int _ n=>match dF E.P e with
  |some sz=>bif Nat.beq sz (dB R τ) then some (.c (aqd n (b-a)) (.l8 o τ (a+n) 0)) else none|none=>none
 |_,_=>none
def aqe {T:Nat->Type}:Option (au T)->au T
 |some v=>v|none=>.gone
def WO (t:TypeId)(τ:Ty)(i:Int)(off:Nat)(o:bI R.T):Option (eY R):=
 match o with
 |.arr gT l=>match tY R (u:=τ) l with
  |some l=>bif (nO E t (iI R .any τ (Ho R τ)).cells off).isSome then some (.p (Den R.T τ) (Ho R τ) (aK l i) fun y=>aqe (nO E t (iI R .any τ y).cells off)) else none
  |none=>none
 |_=>none
def WQ (τ:Ty)(cs:List (au R.T)):Option (Den R.T τ):=match τ with
 |.st n=>EJ R n (.agg cs)|.int k=>tZ R (.int k) (hd1 R cs)|.bool=>tZ R .bool (hd1 R cs)|.str=>tZ R .str (hd1 R cs)|.slice t=>tZ R (.slice t) (hd1 R cs)
def WR (t:TypeId)(x i:au R.T):Option (eY R):=
 match E.P.underlying t,x,i with
 |some .string,.str s,.int _ n=>some (.p UInt8 0 (aK s n) fun b=>.int .u8 (b.toNat:Int))
 |_,_,_=>none
def Ih {T:Nat->Type}(c:Bool):au T->au T->Option (au T)
 |.int k a,.int k' b=>if k=k' then some (.int k (bif c then a else b)) else none|.bool a,.bool b=>some (.bool (bif c then a else b))|.bool a,.jy b=>some (.bool (bif c then a else b))|.jy a,.bool b=>some (.bool (bif c then a else b))|.jy a,.jy b=>some (.bool (bif c then a else b))|.str a,.str b=>some (.str (bif c then a else b))|_,_=>none
def afC (P:Program):Nat->TypeId->Option (List kY)
 |0,_=>none|n+1,t=>match P.underlying t with
  |some (.int k)=>some [.i k]|some (.array m e)=>match P.underlying e with
   |some (.int k)=>some [.a k m]|_=>none
  |some (.struct fs)=>fs.toList.foldr (fun f acc=>match afC P n f.type,acc with
   |some a,some b=>some (a++b)|_,_=>none) (some [])
  |_=>none
def afD:List kY->Bool
 | []=>false|.a _ _::_=>true|_::l=>afD l
def afE (t:TypeId):Option (List kY):=match R.ty t with
 |some _=>none|none=>match afC E.P 4 t with
  |some ks=>bif afD ks then some ks else none|none=>none
def bS.sk:bS->kY
 |.i k _=>.i k|.a k n _=>.a k n
def Ru:kY->bS
 |.i k=>.i k 0|.a k n=>.a k n (Vec.rep n 0)
def ET {T:Nat->Type}(k:IntKind):List (au T)->Bool
 | []=>true|.int k' x::l=>(if k'=k then (if x=0 then true else false) else false)&& ET k l|_=>false
def Ii {T:Nat->Type}:List kY->List (au T)->Bool
 | [],[]=>true|.i k::l,v::vs=>ET k [v]&& Ii l vs|.a k n::l,vs=>Nat.ble n vs.length&& ET k (vs.take n)&& Ii l (vs.drop n)|_,_=>false
def Cw {T:Nat->Type}:List kY->List (au T)->Option (List bS)
 | [],[]=>some []|.i k::l,.int k' x::vs=>if k'=k then (match Cw l vs with
  |some r=>some (.i k x::r)|none=>none) else none
 |.a k n::l,vs=>match Cm k (vs.take n) with
  |some xs=>bif Nat.beq xs.length n then (match Cw l (vs.drop n) with
   |some r=>some (.a k n (Vec.lit n xs)::r)|none=>none) else none
  |none=>none
 |_,_=>none
def Mg {T:Nat->Type}:List bS->List (au T)
 | []=>[]|.i k x::l=>.int k x::Mg l|.a k n v::l=>(List.range n).map (fun j=>au.int k (v.nth j))++Mg l
def Ij:List kY->List kY->Bool
 | [],[]=>true|.i k::l,.i k'::l'=>(if k=k' then true else false)&& Ij l l'|.a k n::l,.a k' n'::l'=>(if k=k' then true else false)&& Nat.beq n n'&& Ij l l'|_,_=>false
def Rv {T:Nat->Type}(ks:List kY):au T->Option (List bS)
 |.sg ss=>bif Ij ks (ss.map bS.sk) then some ss else none|.agg cs=>Cw ks cs|.int k x=>match ks with
  | [.i k']=>if k'=k then some [.i k x] else none|_=>none
 |_=>none
def Rw (t:TypeId)(ss:List bS)(off:Nat):Option (au R.T):=
 match sG ss off,dF E.P t,j5 E.P t with
 |some (_,rest),some sz,some ag=>match sG rest sz with
  |some (mid,_)=>bif ag then (match R.ty t with
   |none=>some (.sg mid)|some _=>some (.agg (Mg mid))) else (match mid with
   | [.i k x]=>some (.int k x)|_=>none)
  |none=>none
 |_,_,_=>none
def WS (t:TypeId)(k:IntKind)(m n:Nat)(v:Vec n)(i:Int):Option (au R.T):=
 match uW E.P t,dF E.P t,j5 E.P t with
 |some (m',e),some sz,some true=>bif Nat.beq m' m&& Nat.beq sz m then (match R.ty t with
  |none=>some (.sg [.a k m (v.slc i m)])|some _=>some (.agg ((List.range m).map fun j=>.int k (v.nth (i.toNat+j))))) else none
 |_,_,_=>none
def uj (t:TypeId):Bool:=match dF E.P t,j5 E.P t with
 |some sz,some ag=>Nat.beq sz 1&& !ag|_,_=>false
def Rx (k:IntKind):List V->List Int->Bool
 | [],[]=>true|.int k' x::l,y::m=>(if k'=k then (if x=y then true else false) else false)&& Rx k l m|_,_=>false
def Ry (g:Nat)(t:TypeId):Option ((k:IntKind)×(n:Nat)×Vec n):=
 match E.glob g,R.gl g,uW E.P t,dF E.P t,j5 E.P t with
 |some cs,some ⟨k,n,v⟩,some (m,e),some sz,some ag=>bif ag&& Nat.beq m n&& Nat.beq sz n&& uj E e&& Rx k cs v.l then some ⟨k,n,v⟩ else none|_,_,_,_,_=>none
def cO (i:Int)(n:Nat):Bool:=decide (0<=i/\i<n)
def qK (n:Nat):Option Int->Option Int->Bool
 |none,none=>true|some i,none=>decide (0<=i/\(i<n\/i=0))|none,some j=>decide (0<=j/\j<=n)|some i,some j=>decide (0<=i/\i<=j/\j<=n/\(i<j\/i=0))
def fG:Option Int->Int
 |some i=>i|none=>0
def iX (n:Nat):Option Int->Int
 |some i=>i|none=>n
def Cx (t:TypeId)(x:au R.T)(lo hi:Option (au R.T))(st:aM R.T):Option (eY R):=
 match x,Cu R lo,Cu R hi,uW E.P t with
 |.ref o off,some lo,some hi,some (n,e)=>bif uj E e then (match oK st o with
  |some (.sg ss)=>match sG ss off with
   |some (_,.a k n' _::_)=>bif Nat.beq n' n then some (.c (qK n lo hi) (.sv o off k n lo hi)) else none|_=>none
  |some (.cells cs)=>match (cs.drop off) with
   |.int k _::_=>bif Nat.ble (off+n) cs.length then some (.c (qK n lo hi) (.sv o off k n lo hi)) else none|_=>none
  |_=>none) else none
 |.aX cs off,some none,some none,some (n,e)=>bif uj E e&& Nat.ble (off+n) cs.length then (match cs with
  |.int k _::_=>match Cm k cs with
   |some l=>some (.t (.ak .any (.int k) ((l.drop off).take n)))|none=>none
  |_=>none) else none
 |_,_,_,_=>none
def afF (d:Option Nat):Bool:=match d with
 |some d=>E.own F0 d|none=>false
def afG (k:IntKind)(m:Nat)(l:List Int):List (au R.T):=(List.range m).map fun j=>.int k (l.getD j 0)
def um (g:List (Nat×Bool))(d:Option Nat)(o:Op)(st:aM R.T):Option (eY R):=
 match o with
 |.alloc t=>match d,afE E R t,Ct (T:=R.T) E t with
  |some d,some ks,some (.agg cs)=>bif Ii ks cs then some (.w (.ref d 0) (st.new d (.sg (ks.map Ru)))) else none|_,_,_=>none
 |.box t x=>bif tK E t d then none else match d,afE E R t,cu g st x with
  |some d,some ks,some v=>match Rv ks v with
   |some ss=>some (.w (.ref d 0) (st.new d (.sg ss)))|none=>none
  |_,_,_=>none
 |.load t a=>match a with
  |.global gl=>match Ry E R gl t with
   |some ⟨k,n,v⟩=>some (.t (.sg [.a k n v]))|none=>none
  |a=>match cu g st a with
   |some (.ref o off)=>match oK st o with
    |some (.sg ss)=>match Rw E R t ss off with
     |some v=>some (.t v)|none=>none
    |_=>none
   |some (.sel o off k n i m)=>match oK st o with
    |some (.sg ss)=>match sG ss off with
     |some (_,.a k' n' v::_)=>if k'=k then (bif Nat.beq n' n then (bif Nat.beq m 1&& uj E t then some (.t (.int k (v.at' i))) else (match WS E R t k m n' v i with
      |some v=>some (.t v)|none=>none)) else none) else none
     |_=>none
    |_=>none
   |some (.vC k n v i)=>bif uj E t then some (.t (.int k (v.at' i))) else none|_=>none
 |.store t a x=>match cu g st a,cu g st x with
  |some (.ref o off),some v=>match look st.ob o,dF E.P t with
   |some (.sg ss),some sz=>match sG ss off with
    |some (pre,rest)=>match sG rest sz with
     |some (mid,post)=>match Rv (mid.map bS.sk) v with
      |some mid'=>some (.w .undef (st.set o (.sg (pre++(mid'++post)))))|none=>none
     |none=>none
    |none=>none
   |_,_=>none
  |some (.sel o off k n i m),some (.int k' y)=>match look st.ob o with
   |some (.sg ss)=>match sG ss off with
    |some (pre,.a k2 n' v::post)=>if k2=k then (if k'=k then (bif Nat.beq n' n&& Nat.beq m 1&& uj E t then some (.w .undef (st.set o (.sg (pre++(.a k n' (v.set i y)::post))))) else none) else none) else none|_=>none
   |_=>none
  |_,_=>none
 |.indexAddr t x i=>match uW E.P t,cu g st i with
  |some (n,e),some (.int _ i)=>bif uj E e then (match x with
   |.global gl=>match Ry E R gl t with
    |some ⟨k,n,v⟩=>some (.c (cO i n) (.vC k n v i))|none=>none
   |x=>match cu g st x with
    |some (.ref o off)=>match oK st o with
     |some (.sg ss)=>match sG ss off with
      |some (_,.a k n' _::_)=>bif Nat.beq n' n then some (.c (cO i n) (.sel o off k n i 1)) else none|_=>none
     |_=>none
    |_=>none) else none
  |_,_=>none
 |.index t x i=>match uW E.P t,cu g st x,cu g st i with
  |some (n,e),some (.sg [.a k n' v]),some (.int _ i)=>bif uj E e&& Nat.beq n' n then some (.c (cO i n) (.int k (v.at' i))) else none|_,_,_=>none
 |.slice t x lo hi none=>match cu g st x with
  |some x=>match lo,hi with
   |none,none=>Cx E R t x none none st|some lo,none=>match cu g st lo with
    |some lo=>Cx E R t x (some lo) none st|none=>none
   |none,some hi=>match cu g st hi with
    |some hi=>Cx E R t x none (some hi) st|none=>none
   |some lo,some hi=>match cu g st lo,cu g st hi with
    |some lo,some hi=>Cx E R t x (some lo) (some hi) st|_,_=>none
  |none=>none
 |.slice t x lo (some hi) (some mx)=>match cu g st x,cu g st hi,cu g st mx,E.P.underlying t with
  |some (.ak _ u l),some (.int _ h),some (.int _ m),some (.slice e)=>match dF E.P e with
   |some sz=>bif Nat.beq sz (dB R u) then (match lo with
    |none=>bif afF E d then some (.c (kK m l.length&& (kK h m.toNat&& (h==m))) (.ak .full u (uh l none (some h)))) else some (.c (kK m l.length&& kK h m.toNat) (.ak .any u (uh l none (some h))))|some lo=>match cu g st lo with
     |some (.int _ a)=>some (.c (kK m l.length&& (kK h m.toNat&& kK a h.toNat)) (.ak .any u (uh l (some a) (some h))))|_=>none) else none
   |none=>none
  |_,_,_,_=>none
 |.convert a b x=>match cu g st x with
  |some (.sv o off k n lo hi)=>match E.P.underlying a,E.P.underlying b with
   |some (.slice e),some .string=>match E.P.underlying e,k with
    |some (.int .u8),.u8=>match Rb st o off .u8 n lo hi with
     |some l=>some (.t (.str (List.map (fun n:Int=>UInt8.ofNat n.toNat) l)))
     |none=>none
    |_,_=>none
   |_,_=>none
  |_=>none
 |.sliceToArrayPointer t x=>match uW E.P t,cu g st x with
  |some (m,e),some (.sv o off k n lo hi)=>some (.c (decide (0<m/\m<=iX n hi-fG lo)) (.sel o off k n (fG lo) m))|some (m,_),some (.ak _ (.int k) l)=>some (.c (decide (0<m/\m<=l.length)) (.aX (afG R k m l) 0))|_,_=>none
 |.call c=>match c.callee,qJ g st c.args.toList with
  |.builtin .copy,some [.sv o off k n lo hi,y]=>match c.argTypes[0]? with
   |some t=>match lG E.P t with
    |some e=>bif uj E e then (match Md R (.int k) y,look st.ob o with
     |some l,some (.sg ss)=>match sG ss off with
      |some (pre,.a k' n' v::post)=>if k'=k then (bif Nat.beq n' n then some (.w (.int .i64 (((l.take (iX n hi-fG lo).toNat).length:Nat):Int)) (st.set o (.sg (pre++(.a k n' (v.wP (fG lo) (l.take (iX n hi-fG lo).toNat))::post))))) else none) else none
      |_=>none
     |_,_=>none) else none
    |none=>none
   |none=>none
  |_,_=>none
 |_=>none
def vH (aj:Bool)(F:Nat->List (iF R))(g:List (Nat×Bool))(d:Option Nat)(o:Op)(st:aM R.T):Option (eY R):=
 match o with
 |.move x=>bif y7 E d then (match cu g st x with
  |some (.aU p t)=>match look st.ob p with
   |some (.arr t' l)=>match tY R (u:=t) l with
    |some l=>some (.w (.ak .any t l) (st.del p))|none=>none
   |_=>none
  |some (.int k n)=>some (.t (.int k n))|_=>none) else (match cu g st x with
  |some v=>some (.t v)|none=>none)
 |.assign x=>match cu g st x with
  |some v=>some (.t v)|none=>none
 |.pick c a b=>match c with
  |.tmp j=>match cu g st c with
   |some (.bool t)=>match cu ((j,true)::g) st a,cu ((j,false)::g) st b with
    |some x,some y=>match Ih t x y with
     |some v=>some (.t v)|none=>none
    |_,_=>none
   |some (.jy t)=>match cu g st (bif t then a else b) with
    |some v=>some (.t v)|none=>none
   |_=>none
  |_=>none
 |.alloc t=>match d,Ct E t with
  |some d,some z=>bif Cn z.cells&& !(ql d z.cells) then some (.w (.ref d 0) (st.new d (.cells z.cells))) else none|_,_=>none
 |.box t x=>bif tK E t d then (match cu g st x with
  |some v=>bif pz (Co v)&& wR v then some (.t (.aX (Co v).cells 0)) else none|none=>none) else match d,cu g st x with
  |some d,some v=>bif Cn v.cells&& wR v&& !(ql d v.cells) then some (.w (.ref d 0) (st.new d (.cells v.cells))) else none|_,_=>none
 |.build t parts=>match Gq E t,Ct (T:=R.T) E t,Hu g st parts.toList with
  |some pl,some z,some ps=>match Ri pl z.cells ps with
   |some cs=>some (.t (.agg cs))|none=>none
  |_,_,_=>none
 |.buildSlice t len parts=>match Hu g st parts.toList with
  |some ps=>bif Aj E d then WG E R d t len ps st else WE E R t len ps|none=>none
 |.load t a=>match cu g st a with
  |some (.ref o off)=>match oK st o with
   |some (.cells cs)=>match nO E t cs off with
    |some v=>some (.t v)|none=>none
   |_=>none
  |some (.aX cs off)=>match nO E t cs off with
   |some v=>some (.t v)|none=>none
  |some (.l8 o τ i off)=>match oK st o with
   |some b=>WO E R t τ i off b|none=>none
  |_=>none
 |.store t a x=>match cu g st a,cu g st x with
  |some (.ref o off),some v=>match look st.ob o,dF E.P t with
   |some (.cells cs),some sz=>bif Nat.beq v.cells.length sz&& Nat.ble (off+v.cells.length) cs.length&& Cn v.cells&& wR v then some (.w .undef (st.set o (.cells (HZ cs off v.cells)))) else none
   |_,_=>none
  |_,_=>none
 |.nilCheck x=>match cu g st x with
  |some (.ref o off)=>some (.t (.ref o off))|some (.aX cs off)=>some (.t (.aX cs off))|some (.l8 o τ i off)=>some (.t (.l8 o τ i off))|some (.fn f a b)=>some (.t (.fn f a b))|_=>none
 |.binOp op t x y _=>match cu g st x,cu g st y with
  |some x,some y=>WA E R op t x y|_,_=>none
 |.unOp op _ x=>match cu g st x with
  |some x=>WB R op x|none=>none
 |.convert a b x=>match cu g st x with
  |some x=>Rm E R a b x|none=>none
 |.makeFunc (.func f) a b=>match qJ g st a.toList,qJ g st b.toList with
  |some a,some b=>some (.t (.fn f a b))|_,_=>none
 |.makeMap t none=>match d,wE E.P t with
  |some d,some (k,e)=>match R.ty k,R.ty e with
   |some k,some e=>some (.w (.dQ d) (st.new d (.map k e [])))|_,_=>some (.w (.dQ d) (st.new d (.smap [] [])))
  |_,_=>none
 |.makeSlice t l c=>match cu g st l,cu g st c with
  |some n,some m=>WH E R aj d t n m st|_,_=>none
 |.slice t x lo hi none=>match cu g st x with
  |some x=>match lo,hi with
   |none,none=>Cv E R t x none none st|some lo,none=>match cu g st lo with
    |some lo=>Cv E R t x (some lo) none st|none=>none
   |none,some hi=>match cu g st hi with
    |some hi=>Cv E R t x none (some hi) st|none=>none
   |some lo,some hi=>match cu g st lo,cu g st hi with
    |some lo,some hi=>Cv E R t x (some lo) (some hi) st|_,_=>none
  |none=>none
 |.fieldAddr t x f=>match cu g st x with
  |some x=>match afx E t f x with
   |some v=>some (.t v)|none=>none
  |none=>none
 |.field t x f=>match xL E.P t f,cu g st x with
  |some (o,u),some (.agg cs)=>match nO E u cs o with
   |some v=>some (.t v)|none=>none
  |_,_=>none
 |.indexAddr t x i=>match cu g st x,cu g st i with
  |some (.aU o τ),some i=>WL E R t o τ i st|some (.sub o τ a b),some i=>WM E R t o τ a b i|some x,some i=>WK E R t x i|_,_=>none
 |.index t x i=>match cu g st x,cu g st i with
  |some x,some i=>WR E R t x i|_,_=>none
 |.lookup t x i ok=>match cu g st x,cu g st i with
  |some x,some i=>Rp E R t x i ok st|_,_=>none
 |.mapUpdate t m k v=>match cu g st m,cu g st k,cu g st v with
  |some m,some k,some v=>Ib E R t m k v st|_,_,_=>none
 |.insert t m k v=>match cu g st m,cu g st k,cu g st v with
  |some m,some k,some v=>Ib E R t m k v st|_,_,_=>none
 |.extract x i=>match cu g st x with
  |some (.bK vs)=>match vs[i]? with
   |some v=>some (.t v)|none=>none
  |_=>none
 |.call c=>match c.callee with
  |.builtin b=>match qJ g st c.args.toList with
   |some vs=>blt E R aj d b c.argTypes vs st|none=>none
  |.value f=>match cu g st f,qJ g st c.args.toList with
   |some (.fn f a b),some vs=>bif E.imp f then none else findF R (a++vs++b) (rF st (a++vs++b)) (F f)|_,_=>none
  |_=>none
 |_=>none
def zn (aj:Bool)(F:Nat->List (iF R))(g:List (Nat×Bool))(d:Option Nat)(o:Op)(st:aM R.T):Option (eY R):=
 match um E R g d o st with
 |some r=>some r|none=>vH E R aj F g d o st
inductive aqf where
 |no
 |run
 |skip
 |dyn (j:Nat) (w:Bool) (c:Bool) (g:List (Nat×Bool))
def Ik (b w:Bool):Bool:=bif w then b else !b
def WT (a b:Bool):Bool:=bif a then b else false
def qL {T:Nat->Type}(st:aM T):Nat->Nat->Bool->Option (Bool×List (Nat×Bool))
 |0,_,_=>none|n+1,j,w=>match look st.fr j with
  |some (.bool b)=>some (Ik b w,[(j,w)])|some (.opt i u (.bool b))=>match qL st n i u with
   |some (c,g)=>some (WT c (Ik b w),(j,w)::g)|none=>none
  |some (.opt i u (.jy b))=>match qL st n i u with
   |some (c,g)=>some (WT c (Ik b w),(j,w)::g)|none=>none
  |_=>none
def Rz {T:Nat->Type}(all:List Oper)(st:aM T)(o:Oper):aqf:=
 match o.guard with
 |none=>.run|some (j,w)=>match all[j]? with
  |some p=>match p.dst with
   |some t=>match look st.fr t with
    |some (.jy b)=>bif b==w then .run else .skip|some .undef=>.skip|_=>match qL st 12 t w with
     |some (c,g)=>.dyn t w c g|none=>.no
   |none=>.skip
  |none=>.skip
def aM.oo {T:Nat->Type}(st:aM T):List (Nat×Bool)->aM T
 | []=>st| (j,w)::g=>(st.oo g).learn j w
def aM.Aw {T:Nat->Type}(st:aM T):List (Nat×Bool)->aM T
 | [(j,w)]=>st.learn j (!w)|_=>st
def pO {J:Type}(c:Bool)(o:Option J)(d:J):Option J:=bif c then o else some d
def WU (st:aM R.T)(t:TypeId)(m x:Operand):Option (List (au R.T)×List (au R.T)×au R.T×au R.T):=
 match cu [] st m with
 |some (.dQ o)=>match oK st o with
  |some (.smap ks vs)=>match cu [] st x,wE E.P t with
   |some x,some (kt,et)=>match Ct (T:=R.T) E et with
    |some z=>bif Rs E kt x then some (ks,vs,x,z) else none|none=>none
   |_,_=>none
  |_=>none
 |_=>none
def RA {T:Nat->Type}{β:Type}(x:au T):List (au T)->List (au T)->au T->(au T->Bool->Option β)->Option β
 | [],[],z,k=>k z false|a::ks,v::vs,z,k=>match Rq x a with
  |some b=>bif b then k v true else RA x ks vs z k|none=>none
 |_,_,_,_=>none
section
variable (aj:Bool){β:Type}(F:Nat->List (iF R))
def WV (t:TypeId)(a x:Operand)(st:aM R.T):Option ((τ:Ty)×Nat×Int×Nat×List (Den R.T τ)×au R.T):=
 match cu [] st a,cu [] st x with
 |some (.l8 o τ i off),some v=>match look st.ob o,dF E.P t with
  |some (.arr gT l),some sz=>match tY R (u:=τ) l with
   |some l=>bif Nat.beq v.cells.length sz&& Nat.ble (off+v.cells.length) (dB R τ)&& Cn v.cells&& wR v then some ⟨τ,o,i,off,l,v⟩ else none|none=>none
  |_,_=>none
 |_,_=>none
def eX {J:Type}(l:List J)(i:Int)(y:J):List J:=l.set i.toNat y
def runM (o:Oper)(st:aM R.T)(k:aM R.T->Option β):Option β:=
 match o.op with
 |.pick c a b=>match cu [] st c with
  |some (.jy t)=>match cu [] st (bif t then a else b) with
   |some v=>k (st.gZ o.dst v)|none=>none
  |some (.bool t)=>match c with
   |.tmp j=>match cu [(j,true)] st a,cu [(j,false)] st b with
    |some x,some y=>match Ih t x y with
     |some v=>k (st.gZ o.dst v)|none=>bif t then k ((st.learn j true).gZ o.dst x) else k ((st.learn j false).gZ o.dst y)
    |_,_=>none
   |_=>none
  |_=>none
 |.store t a x=>match WV E R t a x st with
  |some ⟨τ,p,i,off,l,v⟩=>(aK l i).bind fun y=>match WQ R τ (HZ (iI R .any τ y).cells off v.cells) with
   |some y'=>k ((st.set p (.arr τ (eX l i y'))).gZ o.dst .undef)|none=>none
  |none=>match zn E R aj F [] o.dst (.store t a x) st with
   |some (.w v st')=>k (st'.gZ o.dst v)|_=>none
 |.lookup t m x ok=>match WU E R st t m x with
  |some (ks,vs,x,z)=>RA x ks vs z fun v b=>k (st.gZ o.dst (bif ok then .bK [v,.jy b] else v))
  |none=>match zn E R aj F [] o.dst (.lookup t m x ok) st with
   |some (.t v)=>k (st.gZ o.dst v)|_=>none
 |op=>match zn E R aj F [] o.dst op st with
  |some (.t v)=>k (st.gZ o.dst v)|some (.c b v)=>bif b then k (st.gZ o.dst v) else none|some (.w v st')=>k (st'.gZ o.dst v)|some (.wc b v st')=>bif b then k (st'.gZ o.dst v) else none|some (.p _ _ x f)=>x.bind fun a=>k (st.gZ o.dst (f a))
  |none=>none
def Mh (b c:Bool):Bool:=bif b then c else true
def WW (o:Oper)(j:Nat)(w c:Bool)(g:List (Nat×Bool))(st:aM R.T)(k:aM R.T->Option β):Option β:=
 match o.dst with
 |some d=>match (bif bL d (g.map (·.1)) then none else zn E R aj F g o.dst o.op st) with
  |some (.t v)=>k (st.put d (.opt j w v))|some (.c b v)=>bif Mh c b then k (st.put d (.opt j w v)) else none|some (.p _ z x f)=>(pO c x z).bind fun a=>k (st.put d (.opt j w (f a)))
  |_=>bif c then runM E R aj F o (st.oo g) k else k ((st.Aw g).gZ o.dst .undef)
 |none=>bif c then runM E R aj F o (st.oo g) k else k ((st.Aw g).gZ o.dst .undef)
def nk {T:Nat->Type}(st:aM T)(o:Oper):Bool:=match o.op with
 |.call c=>match c.callee with
  |.value f=>match cu [] st f with
   |some (.fn g _ _)=>match o.dst with
    |some d=>E.own g d|none=>false
   |_=>true
  |_=>false
 |_=>false
def aqg:List bR->Bool
 |.fE::k::l=>lK (k::l)|_=>false
def Il (args dU:List (au R.T)):List (iF R)->Option ((τ:Ty)×Option (List (Den R.T τ)))
 | []=>none| ⟨cB,[.d (.slice τ)],G,_,true⟩::l=>match jl R cB dU with
   |some p=>bif (lK cB||aqg cB)&& Nat.ble (vF cB) 18&& Cq args then some ⟨τ,G p⟩ else none|none=>Il args dU l
 |_::l=>Il args dU l
def zo (o:Oper)(st:aM R.T)(k:aM R.T->Option β):Option β:=match o.op,o.dst with
 |.call c,some d=>match c.callee with
  |.value f=>match cu [] st f,qJ [] st c.args.toList with
   |some (.fn g a b),some vs=>match Il R (a++vs++b) (rF st (a++vs++b)) (F g) with
    |some ⟨τ,x⟩=>x.bind fun l=>k ((st.wk d).put d (.ak (.own d) τ l))
    |none=>none
   |_,_=>none
  |_=>none
 |_,_=>none
def EU (o:Nat)(l:List Nat):List Nat:=bif bL o l then l else l++[o]
mutual
def aqh {T:Nat->Type}:au T->List Nat->List Nat
 |.ref o _,l=>EU o l|.dQ o,l=>EU o l|.aU o _,l=>EU o l|.sub o _ _ _,l=>EU o l|.l8 o _ _ _,l=>EU o l|.sv o _ _ _ _ _,l=>EU o l|.sel o _ _ _ _ _,l=>EU o l|.agg cs,l=>vI cs l|.bK cs,l=>vI cs l|.aX cs _,l=>vI cs l|.fn _ a b,l=>vI b (vI a l)|_,l=>l
def vI {T:Nat->Type}:List (au T)->List Nat->List Nat
 | [],l=>l|v::vs,l=>vI vs (aqh v l)
end
mutual
def zq {T:Nat->Type}(m:List (Nat×Nat)):au T->au T
 |.ref o off=>match look m o with
  |some p=>.ref p off|none=>.gone
 |.dQ o=>match look m o with
  |some p=>.dQ p|none=>.gone
 |.aU o t=>match look m o with
  |some p=>.aU p t|none=>.gone
 |.sub o t a b=>match look m o with
  |some p=>.sub p t a b|none=>.gone
 |.l8 o t i off=>match look m o with
  |some p=>.l8 p t i off|none=>.gone
 |.sv o off k n lo hi=>match look m o with
  |some p=>.sv p off k n lo hi|none=>.gone
 |.sel o off k n i j=>match look m o with
  |some p=>.sel p off k n i j|none=>.gone
 |.ak c t l=>match c with
  |.own _=>.ak .any t l|c=>.ak c t l
 |.agg cs=>.agg (Ay m cs)|.bK cs=>.bK (Ay m cs)|.aX cs off=>.aX (Ay m cs) off|.fn f a b=>.fn f (Ay m a) (Ay m b)|v=>v
def Ay {T:Nat->Type}(m:List (Nat×Nat)):List (au T)->List (au T)
 | []=>[]|v::vs=>zq m v::Ay m vs
end
def lN:List Nat->Nat->List (Nat×Nat)
 | [],_=>[]|o::l,n=>(o,n)::lN l (n+1)
def EW:List Nat->Bool
 | []=>true|o::l=>!(bL o l)&& EW l
def Im {T:Nat->Type}(st:aM T):List (Nat×Nat)->List (Nat×bI T)
 | []=>[]| (o,p)::m=>match look st.ob o with
   |some x=>(p,x)::Im st m|none=>Im st m
def wT {T:Nat->Type}:List (Nat×Nat)->List (Nat×bI T)->List (Nat×bI T)
 | [],_=>[]| (o,p)::m,l=>match look l p with
   |some y=>(o,y)::wT m l|none=>wT m l
def Io:List (Nat×Nat)->List (Nat×jA)->Bool
 | [],[]=>true| (_,p)::m,(q,_)::l=>Nat.beq p q&& Io m l|_,_=>false
def uo:List bR->Bool
 | []=>true|.d (.int _)::l=>uo l|.d .bool::l=>uo l|.d .str::l=>uo l|.sub p _::l=>Nat.ble F0 p&& uo l|_=>false
mutual
def RB:bR->Bool
 |.d _=>true|.aX l _=>Cy l|.fn _ a b=>Cy a&& Cy b|_=>false
def Cy:List bR->Bool
 | []=>true|k::l=>RB k&& Cy l
end
def okO:jA->Bool
 |.cells l=>Cy l|_=>true
def wU:List (Nat×jA)->Bool
 | []=>true| (_,k)::l=>okO k&& wU l
def RD (m:List (Nat×Nat))(A:List (au R.T))(B:List (Nat×bI R.T)):List (qI R)->Option ((r:qI R)×Option (bB R.T r.res×kZ R.T r.obs))
 | []=>none|r::l=>match jl R r.args A,oM R B r.obs with
  |some p,some q=>bif Io m r.obs&& (uo r.res&& wU r.obs) then some ⟨r,r.F p q⟩ else none|_,_=>RD m A B l
def RF:List (Nat×Nat)->List (Nat×Nat)
 | []=>[]| (o,p)::l=>(p,o)::RF l
def afH {T:Nat->Type}:List (au T)->au T
 | [v]=>v|vs=>.bK vs
def wV {T:Nat->Type}(st:aM T)(o:Oper):Bool:=match o.op with
 |.call c=>match c.callee with
  |.value f=>match cu [] st f with
   |some (.fn g _ _)=>E.imp g|_=>false
  |_=>false
 |_=>false
def yj (o:Oper):Bool:=match o.op with
 |.call c=>match c.callee with
  |.value (.func g)=>!(E.imp g)|.value _=>false|_=>true
 |_=>true
def EX (M:Nat->List (qI R))(o:Oper)(st:aM R.T)(k:aM R.T->Option β):Option β:=match o.op with
 |.call c=>match c.callee with
  |.value f=>match cu [] st f,qJ [] st c.args.toList with
   |some (.fn g a b),some vs=>bif EW (vI (a++vs++b) []) then (match RD R (lN (vI (a++vs++b) []) F0) (Ay (lN (vI (a++vs++b) []) F0) (a++vs++b)) (Im st (lN (vI (a++vs++b) []) F0)) (M g) with
    |some ⟨r,x⟩=>x.bind fun y=>k (aM.gZ ⟨st.fr,wT (lN (vI (a++vs++b) []) F0) (lM R r.obs y.2)++st.ob⟩ o.dst (afH (Ay (RF (lN (vI (a++vs++b) []) F0)) (jB R .any r.res y.1))))
    |none=>none) else none
   |_,_=>none
  |_=>none
 |_=>none
variable (M:Nat->List (qI R))
def yt (all:List Oper):List Oper->aM R.T->(aM R.T->Option β)->Option β
 | [],st,k=>k st|o::os,st,k=>match Rz all st o with
  |.run=>bif nk E st o then zo R F o st (fun st=>yt all os st k) else (bif wV E st o then EX R M o st (fun st=>yt all os st k) else runM E R aj F o st (fun st=>yt all os st k))
  |.skip=>yt all os (st.gZ o.dst .undef) k|.dyn j w c g=>bif nk E st o||nk E (st.oo g) o then none else (bif wV E (st.oo g) o then (bif c then EX R M o (st.oo g) (fun st=>yt all os st k) else yt all os ((st.Aw g).gZ o.dst .undef) k) else WW E R aj F o j w c g st (fun st=>yt all os st k))
  |.no=>none
def afI {T:Nat->Type}:au T->List Key
 |.ref o _=>[.obj (1,o)]|.dQ o=>[.obj (1,o)]|.l8 o _ _ _=>[.obj (1,o)]|.sv o _ _ _ _ _=>[.obj (1,o)]|.sel o _ _ _ _ _=>[.obj (1,o)]|_=>[]
def Az {T:Nat->Type}(st:aM T)(x:Operand):List Key:=match cu [] st x with
 |some v=>afI v|none=>[]
def RG (o:Oper):List Key:=match o.dst with
 |some t=>[.obj (1,t)]|none=>[]
def RH {T:Nat->Type}:List (au T)->Bool
 | []=>false|.sv _ _ _ _ _ _::_=>true|.ref _ _::_=>true|_::l=>RH l
def Mi (aj:Bool){T:Nat->Type}(st:aM T)(o:Oper):dJ:=
 match o.op with
 |.buildSlice .. =>bif Aj E o.dst then gB else mE []
 |.move _|.assign _|.pick .. |.build .. |.nilCheck _|.binOp .. |.unOp .. |.makeInterface .. |.typeAssert .. |.makeFunc .. |.fieldAddr .. |.field .. |.indexAddr .. |.index .. |.extract ..
 |.sliceToArrayPointer .. =>mE []|.convert _ _ x|.slice _ x _ _ _|.load _ x|.lookup _ x _ _=>mE (Az st x)|.alloc _|.box .. |.makeMap .. =>mG (RG o)|.makeSlice .. =>mG (.top::RG o)|.store _ a _=>mG (Az st a)|.mapUpdate _ m _ _|.insert _ m _ _=>mG (Az st m)|.call c=>match c.callee with
  |.builtin b=>match b with
   |.len|.cap|.min|.max=>mE (c.args.toList.flatMap fun x=>Az st x)
   |.append=>bif aj then gB else ⟨false,false,c.args.toList.flatMap fun x=>Az st x,[.top]⟩
   |_=>gB
  |.value f=>match cu [] st f with
   |some (.fn g a b)=>if E.imp g then gB else (match qJ [] st c.args.toList with
    |some vs=>if Cq (a++vs++b) then mE [] else ⟨true,false,[],[]⟩|none=>gB)
   |_=>gB
  |_=>gB
 |_=>gB
def sJ (aj:Bool){T:Nat->Type}(all:List Oper)(st:aM T)(o:Oper)(wanted:Bool):dJ:=
 if wanted then let f:=Mi E aj st o;⟨f.qb,f.lH,rU all o++f.t,nG o++f.w⟩else ⟨false,false,rU all o,nG o⟩
def Ip {T:Nat->Type}:au T->Bool
 |.gone=>false|.opt _ _ _=>false|.aU _ _=>false|.sub _ _ _ _=>false|_=>true
def zu (aj:Bool){T:Nat->Type}(st:aM T)(o:Oper):Bool:= !(nk E st o)&&
 match o.op with
 |.call c=>match c.callee with
  |.value f=>match cu [] st f,qJ [] st c.args.toList with
   |some (.fn _ a b),some vs=>Cq (a++vs++b)||RH (a++vs++b)|_,_=>false
  |.builtin b=>(match b with
   |.append=>aj|_=>false)||match qJ [] st c.args.toList with
   |some vs=>vs.all Ip|none=>false
  |_=>true
 |.move _=>!(y7 E o.dst)|.slice _ x _ _ _=>match cu [] st x with
  |some v=>(H9 st v).isNone|none=>false
 |_=>true
def Key.nm:Key->Key
 |.obj l=>.obj (1,l.2)|k=>k
def dJ.nm (f:dJ):dJ:=⟨f.qb,f.lH,f.t.map Key.nm,f.w.map Key.nm⟩
def Mj (all:List Oper)(o:Oper):dJ:=⟨false,false,rU all o++[],nG o++[.top]⟩
def qM (ms:List Nat)(all:List Oper):List Oper->aM R.T->List dJ->(aM R.T->Option β)->Option β
 | [],st,fs,k=>bif Ak ms (fs.map dJ.nm) then k st else none|o::os,st,fs,k=>match Rz all st o with
  |.run=>bif wV E st o then (bif nk E st o then none else EX R M o st (fun st'=>qM ms all os st' (fs++[sJ E aj all st o true]) k)) else bif nk E st o then zo R F o st (fun st'=>qM ms all os st' (fs++[Mj all o]) k) else bif !(zu E aj st o) then none else runM E R aj F o st (fun st'=>qM ms all os st' (fs++[sJ E aj all st o true]) k)
  |.skip=>qM ms all os (st.gZ o.dst .undef) (fs++[sJ E aj all st o false]) k|.dyn _ _ c g=>bif c then (bif wV E (st.oo g) o then (bif nk E (st.oo g) o then none else EX R M o (st.oo g) (fun st'=>qM ms all os st' (fs++[sJ E aj all (st.oo g) o true]) k)) else bif nk E (st.oo g) o then zo R F o (st.oo g) (fun st'=>qM ms all os st' (fs++[Mj all o]) k) else bif !(zu E aj (st.oo g) o) then none else runM E R aj F o (st.oo g) (fun st'=>qM ms all os st' (fs++[sJ E aj all (st.oo g) o true]) k))else qM ms all os ((st.Aw g).gZ o.dst .undef) (fs++[sJ E aj all st o false]) k
  |.no=>none
end
def yu {R:kE}(key:Nat)(W:List Nat)(b:aM R.T)(sh:Shape)(outs:List (Ex×Shape))(body:{β:Type}->aM R.T->(Ex->aM R.T->Option β)->Option β):Nat->wQ R.T sh->Option (Out R.T outs)
 |0,_=>none|m+1,p=>body (b.over (unpack R sh p)) fun e st=>match e with
  |.normal=>match sH R W st sh with
   |some p=>yu key W b sh outs body m p|none=>none
  |e=>ER R W e st outs
def aM.obs {T:Nat->Type}(st:aM T):aM T:=⟨[],st.ob⟩
def Mk {R:kE}{β:Type}(body:aM R.T->(Ex->aM R.T->Option β)->Option β):Nat->aM R.T->(Ex->aM R.T->Option β)->Option β
 |0,_,_=>none|m+1,st,k=>body st fun e st'=>match e with
  |.normal=>Mk body m st' k|e=>k e st'
def mg:List Oper->List Nat
 | []=>[]|o::l=>match o.dst with
  |some d=>d::E.cn d::mg l|none=>mg l
def dD:Code->List Nat
 |.region _ ops _=>mg E ops.toList|.seq a b=>dD a++dD b|.cond _ a b=>dD a++dD b|.block _ c=>dD c|.loop c=>dD c|.scope c=>dD c|.rangeFunc _ ps a b=>ps.toList++dD a++dD b|_=>[]
def yw:Code->Nat
 |.region i _ _=>i|.seq a _=>yw a|.loop a=>yw a+500|.scope a=>yw a|.block _ a=>yw a|.rangeFunc _ _ _ b=>yw b|_=>0
def lQ:Code->Bool
 |.region _ ops _=>ops.toList.all (yj E)|.seq a b=>lQ a&& lQ b|.cond _ a b=>lQ a&& lQ b|.block _ c=>lQ c|.loop c=>lQ c|.scope c=>lQ c|.rangeFunc _ _ _ _=>false|_=>true
variable (n:Nat)(aj:Bool)(F:Nat->List (iF R))(I:IR R)(A:bP)
def je:Code->{β:Type}->aM R.T->(Ex->aM R.T->Option β)->Option β
 |.skip,_,st,k=>k .normal st|.region _ ops dr,_,st,k=>bif dr then (bif qc ops.toList then qM E R aj F I.im (nK ops.toList) ops.toList ops.toList st [] (fun st=>k .normal st) else none) else yt E R aj F I.im ops.toList ops.toList st (fun st=>k .normal st)
 |.seq a b,_,st,k=>
  match look A.joins (yw b) with
  |none=>je a st fun e st=>match e with
   |.normal=>je b st k|e=>k e st
  |some q=>(je (β:=Out R.T q.outs) a ((base (dD E a) q.K q.O .ro st).over st) fun e st=>ER R (dD E a) e st q.outs).bind (ES R (base (dD E a) q.K q.O (fun b=>b) st) (fun e st=>match e with
   |.normal=>je b st k|e=>k e st) q.outs)
 |.cond c a b,_,st,k=>match cu [] st c with
  |some (.jy t)=>bif t then je a st k else je b st k|some (.bool t)=>bif t then je a (st.Hq c true) k else je b (st.Hq c false) k|_=>none
 |.block id c,_,st,k=>je c st fun e st=>match e with
  |.exit i=>bif Nat.beq i id then k .normal st else k (.exit i) st|e=>k e st
 |.loop c,_,st,k=>match look A.loops (yw c) with
  |some q=>match sH R (dD E c) st q.sh with
   |some p=>(yu (yw c) (dD E c) (base (dD E c) q.K q.O .ro st) q.sh q.outs (fun st k=>je c st k) n p).bind (ES R (base (dD E c) q.K q.O (fun b=>b) st) k q.outs)
   |none=>none
  |none=>Mk (fun st k=>je c st k) 130 st k
 |.rangeFunc _ _ _ _,_,_,_=>none|.scope c,_,st,k=>je c st k|.label _,_,st,k=>k .normal st|.exit i,_,st,k=>k (.exit i) st|.ret,_,st,k=>k .ret st|_,_,_,_=>none
def wW (st:aM R.T):List ResultVar->Option (List (au R.T))
 | []=>some []|.tmp t::l=>match cu [] st (.tmp t) with
  |some v=>match wW st l with
   |some vs=>some (v::vs)|none=>none
  |none=>none
 |.cell a t::l=>match cu [] st (.tmp a) with
  |some (.ref o off)=>match oK st o with
   |some (.cells cs)=>match nO E t cs off with
    |some v=>match wW st l with
     |some vs=>some (v::vs)|none=>none
    |none=>none
   |some (.sg ss)=>match Rw E R t ss off with
    |some v=>match wW st l with
     |some vs=>some (v::vs)|none=>none
    |none=>none
   |_=>none
  |_=>none
def AA {T:Nat->Type}:Nat->List (au T)->List (Nat×au T)
 |_,[]=>[]|i,v::l=>(i,v)::AA (i+1) l
def dz (fn:Func)(args res:List bR)(p:bB R.T args):Option (bB R.T res):=
 match fn.body with
 |some c=>je E R n aj F I A c ⟨AA 0 (jB R .sh args p),[]⟩ fun e st=>match e with
  |.exit _=>none|_=>match wW E R st fn.results.toList with
   |some vs=>bif lK res&& Nat.ble (vF res) 16 then jl R res (rF st vs) else none|none=>none
 |none=>none
def WX {T:Nat->Type}:au T->Bool
 |.ak (.own _) _ _=>true|.ak .full _ _=>true|.fE=>true|_=>false
def wv1 {T:Nat->Type}(st:aM T)(k:bR)(v:au T):au T:=match k with
 |.sub _ _=>match H9 st v with
  |some (o,t,a,b)=>.sub o t a b|none=>v
 |_=>v
def RI {T:Nat->Type}(st:aM T):List bR->List (au T)->List (au T)
 |k::l,v::vs=>wv1 st k v::RI st l vs|_,vs=>vs
def zw (fn:Func)(args:List bR)(obs:List (Nat×jA))(res:List bR)(p:bB R.T args)(q:kZ R.T obs):Option (bB R.T res×kZ R.T obs):=
 match fn.body with
 |some c=>je E R n aj F I A c ⟨AA 0 (jB R .any args p),lM R obs q⟩ fun e st=>match e with
  |.exit _=>none|_=>match wW E R st fn.results.toList with
   |some vs=>match jl R res (RI st res vs) with
    |some y=>match oM R st.ob obs with
     |some q'=>some (y,q')|none=>none
    |none=>none
   |none=>none
 |none=>none
def Cz (fn:Func)(args:List bR)(τ:Ty)(p:bB R.T args):Option (List (Den R.T τ)):=
 match fn.body with
 |some c=>je E R n aj F I A c ⟨AA 0 (jB R .sh args p),[]⟩ fun e st=>match e with
  |.exit _=>none|_=>match wW E R st fn.results.toList with
   |some [v]=>bif WX v then EI R τ v else none|_=>none
 |none=>none
end
end aR
end
section
namespace aR
open Go
structure eG where
 aj:Bool
 dp:Nat
 lo:Nat
 fl:Nat->Option Loc
 lt:∀o L,fl o=some L->F0<=o/\L.1<dp
 inj:∀o p L,fl o=some L->fl p=some L->o=p
def eG.lc (c:eG)(o:Nat):Loc:=match c.fl o with
 |some L=>L|none=>(c.dp,o)
theorem eG.WY (c:eG){o:Nat}(h:o<F0):c.lc o=(c.dp,o):=by
 unfold eG.lc;split
 .rename_i L hL;have:=(c.lt _ _ hL).1;omega
 .rfl
theorem eG.WZ (c:eG){o p:Nat}(h:c.lc o=c.lc p):o=p:=by
 unfold eG.lc at h;split at h<;>split at h
 .rename_i L h1 _ M h2;subst h;exact c.inj _ _ _ h1 h2
 .rename_i L h1 _ h2;have:=(c.lt _ _ h1).2;rw[h] at this;exact absurd this (Nat.lt_irrefl _)
 .rename_i h1 _ L h2;have:=(c.lt _ _ h2).2;rw[<-h] at this;exact absurd this (Nat.lt_irrefl _)
 .exact congrArg Prod.snd h
theorem eG.afJ (c:eG){o p:Nat}(h:o≠p):c.lc o≠c.lc p:=fun e=>h (c.WZ e)
theorem eG.RJ (c:eG)(o:Nat):(c.lc o).1<=c.dp:=by
 unfold eG.lc;split
 .rename_i L hL;exact Nat.le_of_lt (c.lt _ _ hL).2
 .exact mF _
def eG.out (c:eG)(L:Loc):Prop:=∀o,L≠c.lc o
structure bA where
 ob:Nat->Option Nat
 tk:Nat->Option Nat
 ln:Nat->Nat
 aj:eG
section
variable (R:kE)
def pQ:Ty->Bool
 |.st _=>false|_=>true
structure rG:Prop where
 Ml:∀n p,R.of n (R.to n p)=p
 enc:∀n x,R.enc n x= .agg (encs R (R.lf n) (R.of n x))
 leaf:∀n,(R.lf n).all pQ=true
 pc:∀n x,aQ (R.enc n x)=true
def Iq (C:bA)(top:Nat->Nat)(sz len:Nat):Cp->Cap->Prop
 |.any,_=>True|.sh,c=>c= .sh|.nil,c=>c= .nil|.full,c=>c= .full|.own t,c=>c= .nil\/c= .full\/∃s,c= .own sz s/\C.tk t=some s/\top s=len
mutual
def aA (C:bA)(top:Nat->Nat):au R.T->V->Prop
 |.int k n,v=>v= .int k n|.bool b,v=>v= .bool b|.jy b,v=>v= .bool b|.str s,v=>v= .str s|.gU,v=>v= .gU|.gH,v=>v= .gH|.gP,v=>v= .gP|.iH,v=>v= .iH|.fE,v=>v= .ak .nil []|.agg cs,v=>∃l,v= .agg l/\aF C top cs l|.bK cs,v=>∃l,v= .bK l/\aF C top cs l|.ak c t l,v=>∃c',v= .ak c' (l.map (aO R t))/\Iq C top (dB R t) l.length c c'|.ref o off,v=>∃s,C.ob o=some s/\v= .ref (C.aj.lc o) s off|.aX cs off,v=>∃l,v= .aX l off/\aF C top cs l
 |.dQ o,v=>∃s,C.ob o=some s/\v= .dQ (C.aj.lc o) s|.eF k e m,v=>v= .eF (m.map fun p=>aO R k p.1) (m.map fun p=>aO R e p.2)
 |.fn f a b,v=>∃a' b',v= .fn (.func f) a' b'/\aF C top a a'/\aF C top b b'|.opt _ _ _,_=>False|.aU o t,v=>(∃s,C.ob o=some s/\v= .aU (C.aj.lc o) s 0 (C.ln o) (C.ln o) (dB R t) (jC t))\/(C.ln o=0/\(v= .ak .nil []\/v= .ak .full []))|.sub o t a b,v=>0<=a/\a<=b/\b<=C.ln o/\((∃s cp,C.ob o=some s/\(b-a).toNat<=cp/\v= .aU (C.aj.lc o) s (a.toNat*dB R t) (b-a).toNat cp (dB R t) (jC t))\/(a=b/\∃c,v= .ak c []))
 |.l8 o t i off,v=>∃s,C.ob o=some s/\0<=i/\v= .ref (C.aj.lc o) s (i.toNat*dB R t+off)|.sg ss,v=>v= .agg (dN ss)|.sv o off k n lo hi,v=>∃s,C.ob o=some s/\qK n lo hi=true/\v= .aU (C.aj.lc o) s (off+(fG lo).toNat) ((iX n hi).toNat-(fG lo).toNat) (n-(fG lo).toNat) 1 false|.sel o off k n i m,v=>∃s,C.ob o=some s/\0<=i/\i.toNat+m<=n/\v= .ref (C.aj.lc o) s (off+i.toNat)|.vC k n x i,v=>0<=i/\i<n/\v= .aX (x.l.map (V.int k)) i.toNat
 |.undef,v=>v=aJ|.gone,_=>True
def aF (C:bA)(top:Nat->Nat):List (au R.T)->List V->Prop
 | [],l=>l=[]|t::ts,l=>∃v vs,l=v::vs/\aA C top t v/\aF C top ts vs
end
variable {R}
variable {C C':bA}{top top':Nat->Nat}
theorem aF.iL {vs:List V}(h:aF R C top [] vs):vs=[]:=by unfold aF at h;exact h
theorem aF.fB {t:au R.T}{ts:List (au R.T)}{vs:List V}(h:aF R C top (t::ts) vs):∃v l,vs=v::l/\aA R C top t v/\aF R C top ts l:=by unfold aF at h;exact h
theorem aA.iO {k:IntKind}{n:Int}{v:V}(h:aA R C top (.int k n) v):v= .int k n:=nH
theorem aA.rH {b:Bool}{v:V}(h:aA R C top (.bool b) v):v= .bool b:=nH
theorem aA.vJ {b:Bool}{v:V}(h:aA R C top (.jy b) v):v= .bool b:=nH
theorem aA.oN {b:List UInt8}{v:V}(h:aA R C top (.str b) v):v= .str b:=nH
theorem aA.uq {v:V}(h:aA R C top .fE v):v= .ak .nil []:=nH
theorem aA.mh {cs:List (au R.T)}{v:V}(h:aA R C top (.agg cs) v):∃l,v= .agg l/\aF R C top cs l:=nH
theorem aA.Ir {cs:List (au R.T)}{v:V}(h:aA R C top (.bK cs) v):∃l,v= .bK l/\aF R C top cs l:=nH
theorem aA.mo {c:Cp}{t:Ty}{l:List (Den R.T t)}{v:V}(h:aA R C top (.ak c t l) v):∃c',v= .ak c' (l.map (aO R t))/\Iq C top (dB R t) l.length c c':=nH
theorem aA.rJ {o off:Nat}{v:V}(h:aA R C top (.ref o off) v):∃s,C.ob o=some s/\v= .ref (C.aj.lc o) s off:=nH
theorem aA.uw {cs:List (au R.T)}{off:Nat}{v:V}(h:aA R C top (.aX cs off) v):∃l,v= .aX l off/\aF R C top cs l:=nH
theorem aA.AB {o:Nat}{v:V}(h:aA R C top (.dQ o) v):∃s,C.ob o=some s/\v= .dQ (C.aj.lc o) s:=nH
theorem aA.CB {k e:Ty}{m:List (Den R.T k×Den R.T e)}{v:V}(h:aA R C top (.eF k e m) v):v= .eF (m.map fun p=>aO R k p.1) (m.map fun p=>aO R e p.2):=nH
theorem aA.oO {f:Nat}{a b:List (au R.T)}{v:V}(h:aA R C top (.fn f a b) v):∃a' b',v= .fn (.func f) a' b'/\aF R C top a a'/\aF R C top b b':=nH
theorem aA.AJ {o:Nat}{t:Ty}{v:V}(h:aA R C top (.aU o t) v):(∃s,C.ob o=some s/\v= .aU (C.aj.lc o) s 0 (C.ln o) (C.ln o) (dB R t) (jC t))\/(C.ln o=0/\(v= .ak .nil []\/v= .ak .full [])):=nH
theorem aA.EY {o:Nat}{t:Ty}{a b:Int}{v:V}(h:aA R C top (.sub o t a b) v):0<=a/\a<=b/\b<=C.ln o/\((∃s cp,C.ob o=some s/\(b-a).toNat<=cp/\v= .aU (C.aj.lc o) s (a.toNat*dB R t) (b-a).toNat cp (dB R t) (jC t))\/(a=b/\∃c,v= .ak c [])):=nH
theorem aA.EZ {o off:Nat}{t:Ty}{i:Int}{v:V}(h:aA R C top (.l8 o t i off) v):∃s,C.ob o=some s/\0<=i/\v= .ref (C.aj.lc o) s (i.toNat*dB R t+off):=nH
theorem aA.Iu {ss:List bS}{v:V}(h:aA R C top (.sg ss) v):v= .agg (dN ss):=nH
theorem aA.CF {o off n:Nat}{k:IntKind}{lo hi:Option Int}{v:V}(h:aA R C top (.sv o off k n lo hi) v):∃s,C.ob o=some s/\qK n lo hi=true/\v= .aU (C.aj.lc o) s (off+(fG lo).toNat) ((iX n hi).toNat-(fG lo).toNat) (n-(fG lo).toNat) 1 false:=nH
theorem aA.Mq {o off n m:Nat}{k:IntKind}{i:Int}{v:V}(h:aA R C top (.sel o off k n i m) v):∃s,C.ob o=some s/\0<=i/\i.toNat+m<=n/\v= .ref (C.aj.lc o) s (off+i.toNat):=nH
theorem aA.RL {n:Nat}{k:IntKind}{x:Vec n}{i:Int}{v:V}(h:aA R C top (.vC k n x i) v):0<=i/\i<n/\v= .aX (x.l.map (V.int k)) i.toNat:=nH
theorem aA.afK {v:V}(h:aA R C top .undef v):v=aJ:=nH
theorem aA.afL {j:Nat}{w:Bool}{x:au R.T}{v:V}(h:aA R C top (.opt j w x) v):False:=nH
theorem aF.nil':aF R C top [] []:=rfl
theorem aF.cons' {t:au R.T}{ts:List (au R.T)}{v:V}{vs:List V}(h:aA R C top t v)(h':aF R C top ts vs):aF R C top (t::ts) (v::vs):=⟨v,vs,rfl,h,h'⟩
theorem aF.length:∀{ts:List (au R.T)}{vs:List V},aF R C top ts vs->vs.length=ts.length
 | [],_,h=>by cases h;rfl|_::ts,_,⟨v,vs,e,_,h'⟩=>by subst e;simp[aF.length h']
theorem aF.append:∀{ts ts':List (au R.T)}{vs vs':List V},aF R C top ts vs->aF R C top ts' vs'->aF R C top (ts++ts') (vs++vs')
 | [],_,_,_,h,h2=>by cases h;exact h2|_::ts,_,_,_,⟨v,vs,e,h1,h'⟩,h2=>by subst e;exact .cons' h1 (aF.append h' h2)
theorem aF.drop:∀(n:Nat){ts:List (au R.T)}{vs:List V},aF R C top ts vs->aF R C top (ts.drop n) (vs.drop n)
 |0,_,_,h=>yP|n+1,[],_,h=>by cases h;simp;rfl|n+1,_::ts,_,⟨v,vs,e,h1,h'⟩=>by subst e;simpa using aF.drop n h'
theorem aF.take:∀(n:Nat){ts:List (au R.T)}{vs:List V},aF R C top ts vs->aF R C top (ts.take n) (vs.take n)
 |0,_,_,h=>by simp;rfl|n+1,[],_,h=>by cases h;simp;rfl|n+1,_::ts,_,⟨v,vs,e,h1,h'⟩=>by subst e;simpa using .cons' h1 (aF.take n h')
theorem aF.get:∀{ts:List (au R.T)}{vs:List V}{i:Nat}{t:au R.T},aF R C top ts vs->ts[i]? =some t->∃v,vs[i]? =some v/\aA R C top t v
 | [],_,_,_,_,h=>wz|_::ts,_,0,_,⟨v,vs,e,h1,h'⟩,h=>by subst e;simp at h;subst h;exact⟨v,aB,h1⟩|_::ts,_,i+1,_,⟨v,vs,e,h1,h'⟩,h=>by subst e;simpa using aF.get h' yP
mutual
theorem aA.wk (t:Nat)(ho:C'.ob=C.ob/\C'.ln=C.ln/\C'.aj=C.aj)(ht:∀u s,u≠t->C.tk u=some s->C'.tk u=some s/\top' s=top s):∀(x:au R.T)(v:V),aA R C top x v->aA R C' top' (wk t x) v
 |.ak (.own u) ty l,v,h=>by
  obtain⟨c',hv,hc⟩:=h;unfold aR.wk;by_cases e:Nat.beq u t=true
  .rw[e,cond_true];exact⟨c',hv,trivial⟩
  .have e':Nat.beq u t=false:=Bool.eq_false_iff.2 e;rw[e',cond_false];refine⟨c',hv,?_⟩;rcases hc with hc|hc| ⟨s,h1,h2,h3⟩
   .exact .inl hc
   .exact .inr (.inl hc)
   .have hne:u≠t:=fun h=>e (by rw[h];exact yO t);have:=ht u s hne h2;exact .inr (.inr ⟨s,h1,this.1,by rw[this.2];exact h3⟩)
 |.ak .any ty l,v,h=>by obtain⟨c',hv,hc⟩:=h;exact⟨c',hv,trivial⟩
 |.ak .sh ty l,v,h=>by obtain⟨c',hv,hc⟩:=h;exact⟨c',hv,hc⟩
 |.ak .nil ty l,v,h=>by obtain⟨c',hv,hc⟩:=h;exact⟨c',hv,hc⟩
 |.ak .full ty l,v,h=>by obtain⟨c',hv,hc⟩:=h;exact⟨c',hv,hc⟩
 |.agg cs,v,h=>by obtain⟨l,hv,hl⟩:=h;exact⟨l,hv,aF.wk t ho ht cs l hl⟩
 |.bK cs,v,h=>by obtain⟨l,hv,hl⟩:=h;exact⟨l,hv,aF.wk t ho ht cs l hl⟩
 |.aX cs off,v,h=>by obtain⟨l,hv,hl⟩:=h;exact⟨l,hv,aF.wk t ho ht cs l hl⟩
 |.fn f a b,v,h=>by obtain⟨a',b',hv,ha,hb⟩:=h;exact⟨a',b',hv,aF.wk t ho ht a a' ha,aF.wk t ho ht b b' hb⟩
 |.ref o off,v,h=>KE
 |.dQ o,v,h=>KE
 |.aU o ty,v,h=>by
  rcases h with ⟨s,h1,h2⟩| ⟨h1,h2⟩
  .exact .inl ⟨s,adI,by rw[ho.2.1,ho.2.2];exact h2⟩
  .exact .inr ⟨by rw[ho.2.1];exact h1,h2⟩
 |.sub o ty a b,v,h=>by
  obtain⟨k0,k1,k2,h⟩:=h;refine⟨k0,k1,by rw[ho.2.1];exact k2,?_⟩;rcases h with ⟨s,cp,h1,h2,h3⟩|h
  .exact .inl ⟨s,cp,adI,h2,by rw[ho.2.2];exact h3⟩
  .exact .inr h
 |.l8 o ty i off,v,h=>KE
 |.sv o _ _ _ _ _,v,h=>KE
 |.sel o _ _ _ _ _,v,h=>KE
 |.sg _,_,h=>h|.vC _ _ _ _,_,h=>h|.opt _ _ _,_,h=>h.elim|.int _ _,_,h=>h|.bool _,_,h=>h|.jy _,_,h=>h|.str _,_,h=>h|.gU,_,h=>h|.gH,_,h=>h|.gP,_,h=>h|.iH,_,h=>h|.fE,_,h=>h|.eF _ _ _,_,h=>h|.undef,_,h=>h|.gone,_,h=>h
theorem aF.wk (t:Nat)(ho:C'.ob=C.ob/\C'.ln=C.ln/\C'.aj=C.aj)(ht:∀u s,u≠t->C.tk u=some s->C'.tk u=some s/\top' s=top s):∀(x:List (au R.T))(v:List V),aF R C top x v->aF R C' top' (zk t x) v
 | [],_,h=>h|x::xs,_,⟨v,vs,e,h1,h2⟩=>⟨v,vs,e,aA.wk t ho ht x v h1,aF.wk t ho ht xs vs h2⟩
end
mutual
theorem aA.kill (o:Nat)(ho:∀p,p≠o->C'.ob p=C.ob p/\C'.ln p=C.ln p)(ht:C'.tk=C.tk)(hx:C'.aj=C.aj):∀(x:au R.T)(v:V),nU o x=false->aA R C top x v->aA R C' top x v
 |.ak c ty l,v,_,h=>by
  obtain⟨c',hv,hc⟩:=h;refine⟨c',hv,?_⟩;cases c<;>try exact hc
  rcases hc with hc|hc| ⟨s,h1,h2,h3⟩
  .exact .inl hc
  .exact .inr (.inl hc)
  .exact .inr (.inr ⟨s,h1,by rw[ht];exact h2,h3⟩)
 |.agg cs,v,hm,h=>by obtain⟨l,hv,hl⟩:=h;exact⟨l,hv,aF.kill o ho ht hx cs l hm hl⟩
 |.bK cs,v,hm,h=>by obtain⟨l,hv,hl⟩:=h;exact⟨l,hv,aF.kill o ho ht hx cs l hm hl⟩
 |.aX cs off,v,hm,h=>by obtain⟨l,hv,hl⟩:=h;exact⟨l,hv,aF.kill o ho ht hx cs l hm hl⟩
 |.fn f a b,v,hm,h=>by obtain⟨a',b',hv,ha,hb⟩:=h;unfold nU at hm;rw[tJ] at hm;exact⟨a',b',hv,aF.kill o ho ht hx a a' hm.1 ha,aF.kill o ho ht hx b b' hm.2 hb⟩
 |.ref p off,v,hm,h=>KC
 |.dQ p,v,hm,h=>KC
 |.aU p ty,v,hm,h=>by
  unfold nU at hm;obtain⟨k1,k2⟩:=ho p (fun e=>adH);rcases h with ⟨s,h1,h2⟩| ⟨h1,h2⟩
  .exact .inl ⟨s,k1.trans h1,by rw[k2,hx];exact h2⟩
  .exact .inr ⟨by rw[k2];exact h1,h2⟩
 |.sub p ty a b,v,hm,h=>by
  unfold nU at hm;obtain⟨k1,k2⟩:=ho p (fun e=>adH);obtain⟨g0,g1,g2,h⟩:=h;refine⟨g0,g1,by rw[k2];exact g2,?_⟩;rcases h with ⟨s,cp,h1,h2,h3⟩|h
  .exact .inl ⟨s,cp,k1.trans h1,h2,by rw[hx];exact h3⟩
  .exact .inr h
 |.l8 p ty i off,v,hm,h=>KC
 |.sv p _ _ _ _ _,v,hm,h=>KC
 |.sel p _ _ _ _ _,v,hm,h=>KC
 |.sg _,_,_,h=>h|.vC _ _ _ _,_,_,h=>h|.opt _ _ _,_,_,h=>h.elim|.int _ _,_,_,h=>h|.bool _,_,_,h=>h|.jy _,_,_,h=>h|.str _,_,_,h=>h|.gU,_,_,h=>h|.gH,_,_,h=>h|.gP,_,_,h=>h|.iH,_,_,h=>h|.fE,_,_,h=>h|.eF _ _ _,_,_,h=>h|.undef,_,_,h=>h|.gone,_,_,h=>h
theorem aF.kill (o:Nat)(ho:∀p,p≠o->C'.ob p=C.ob p/\C'.ln p=C.ln p)(ht:C'.tk=C.tk)(hx:C'.aj=C.aj):∀(x:List (au R.T))(v:List V),ql o x=false->aF R C top x v->aF R C' top x v
 | [],_,_,h=>h|x::xs,_,hm,⟨v,vs,e,h1,h2⟩=>by unfold ql at hm;rw[tJ] at hm;exact⟨v,vs,e,aA.kill o ho ht hx x v hm.1 h1,aF.kill o ho ht hx xs vs hm.2 h2⟩
end
section
variable (hR:rG R)
include hR
def Iw (v w:V):Prop:=gu v=w/\er v=w/\aQ w=true/\(∀n Z,bg (n+2) Z v=some w)/\oneCell v=true/\v.cells=[v]
omit hR in
theorem aqi {v:V}(h:∀cs,v≠ .agg cs):er v=gu v:=by cases v<;>first|rfl|exact absurd rfl (h _)
theorem qN:∀(t:Ty)(x:Den R.T t),aQ (aO R t x)=true
 |.int _,x=>by simp[aO,aQ]|.bool,x=>by simp[aO,aQ]|.str,x=>by simp[aO,aQ]|.slice t,x=>LV (qN t) x|.st n,x=>hR.pc n x
theorem afM (c:Cp)(hc:Iq C top 1 0 c .sh/\(c= .any\/c= .sh)):∀(t:Ty)(x:Den R.T t),pQ t=true->aA R C top (Ar R c t x) (aO R t x)
 |.int _,x,_=>rfl|.bool,x,_=>rfl|.str,x,_=>rfl|.slice t,x,_=>⟨.sh,rfl,by rcases hc.2 with rfl|rfl<;>first|trivial|rfl⟩
 |.st n,x,h=>by simp[pQ] at h
theorem afN (c:Cp)(hc:Iq C top 1 0 c .sh/\(c= .any\/c= .sh)):∀(l:List Ty)(p:qj R.T l),l.all pQ=true->aF R C top (l9 R c l p) (encs R l p)
 | [],_,_=>rfl| [t],x,h=>.cons' (afM hR c hc t x yP) rfl|t::u::l,p,h=>by rw[List.all_cons,aZ] at h;exact .cons' (afM hR c hc t p.1 h.1) (afN c hc (u::l) p.2 h.2)
theorem RN (c:Cp)(hc:c= .any\/c= .sh):∀(t:Ty)(x:Den R.T t),aA R C top (iI R c t x) (aO R t x)
 |.int _,x=>rfl|.bool,x=>rfl|.str,x=>rfl|.slice t,x=>⟨.sh,rfl,by rcases hc with rfl|rfl<;>first|trivial|rfl⟩
 |.st n,x=>⟨_,hR.enc n x,afN hR c ⟨by rcases hc with rfl|rfl<;>first|trivial|rfl,hc⟩ _ _ (hR.leaf n)⟩
theorem afO (t:Ty)(x:Den R.T t):aA R C top (iI R .sh t x) (aO R t x):=RN hR .sh (.inr rfl) t x
omit hR in
theorem aqj (k:IntKind)(n:Int):Iw (.int k n) (.int k n):=⟨rfl,rfl,tF,fun n Z=>Wh (n+1) _ _,rfl,rfl⟩
omit hR in
theorem aqk (b:Bool):Iw (.bool b) (.bool b):=⟨rfl,rfl,tF,fun n Z=>Wi (n+1) _,rfl,rfl⟩
omit hR in
theorem aql (b:List UInt8):Iw (.str b) (.str b):=⟨rfl,rfl,tF,fun n Z=>Wj (n+1) _,rfl,rfl⟩
theorem aqm (c:Cap)(t:Ty)(l:List (Den R.T t)):Iw (.ak c (l.map (aO R t))) (aO R (.slice t) l):=⟨rfl,rfl,qN hR (.slice _) _,fun n Z=>x9 _ _ (qN hR _),rfl,rfl⟩
omit hR in
theorem W9 {k:IntKind}{x:Int}{tv:au R.T}{v:V}(h:Q7 R k tv=some x)(hr:aA R C top tv v):v= .int k x:=by
 unfold Q7 at h;split at h
 .split at h
  .rename_i e;cases e;cases h;exact hr.iO
  .cases h
 .cases h
omit hR in
theorem Xa {x:Bool}{tv:au R.T}{v:V}(h:Q8 R tv=some x)(hr:aA R C top tv v):v= .bool x:=by
 unfold Q8 at h;split at h<;>cases h
 .exact hr.rH
 .exact hr.vJ
omit hR in
theorem Xb {x:List UInt8}{tv:au R.T}{v:V}(h:Q9 R tv=some x)(hr:aA R C top tv v):v= .str x:=by unfold Q9 at h;split at h<;>cases h;exact hr.oN
omit hR in
theorem vK {t u:Ty}{l:List (Den R.T t)}{m:List (Den R.T u)}(h:tY R l=some m):t=u/\HEq l m:=by
 unfold tY at h;split at h
 .rename_i e;subst e;cases h;exact⟨rfl,HEq.rfl⟩
 .cases h
omit hR in
theorem afP {t:Ty}{x:List (Den R.T t)}{tv:au R.T}{v:V}(h:EI R t tv=some x)(hr:aA R C top tv v):∃c,v= .ak c (x.map (aO R t)):=by
 unfold EI at h;split at h
 .obtain⟨e,e2⟩:=vK h;subst e;cases e2;obtain⟨c',hv,hc⟩:=hr.mo;exact⟨c',hv⟩
 .cases h;exact⟨.nil,hr.uq⟩
 .cases h
theorem Iy {t:Ty}{x:Den R.T t}{tv:au R.T}{v:V}(h:tZ R t tv=some x)(hr:aA R C top tv v):Iw v (aO R t x):=by
 cases t with
 |int k=>rw[W9 h hr];exact aqj _ _|bool=>rw[Xa h hr];exact aqk _|str=>rw[Xb h hr];exact aql _|slice t=>obtain⟨c,hv⟩:=afP h hr;rw[hv];exact aqm hR _ _ _
 |st n=>cases h
theorem aqn {t:Ty}{x:Den R.T t}{cs:List (au R.T)}{vs:List V}(h:tZ R t (hd1 R cs)=some x)(hr:aF R C top cs vs):∃v,vs=[v]/\Iw v (aO R t x):=by
 cases cs with
 |nil=>cases t<;>cases h|cons c cs=>
  cases cs with
  |nil=>obtain⟨v,l,rfl,h1,h2⟩:=hr.fB;rw[h2.iL];exact⟨v,rfl,Iy hR h h1⟩
  |cons c' cs=>cases t<;>cases h
theorem afQ:∀(l:List Ty)(p:qj R.T l)(cs:List (au R.T))(vs:List V),Ck R l cs=some p->aF R C top cs vs->
 vs.map gu=encs R l p/\(∀n Z,vs.mapM (bg (n+2) Z)=some (encs R l p))/\bQ (encs R l p)=true/\vs.all (fun v=>oneCell v)=true
 | [],p,cs,vs,h,hr=>by
   cases cs with
   |nil=>rw[hr.iL];exact⟨rfl,fun _ _=>rfl,by simp[encs,bQ],rfl⟩
   |cons c cs=>cases h
 | [t],p,cs,vs,h,hr=>by obtain⟨v,rfl,a,b,c,d,e,_⟩:=aqn hR (show tZ R t (hd1 R cs)=some p from h) hr;exact⟨by simp[encs,a],fun n Z=>by simp[encs,d],by simp[encs,bQ,c],Eb⟩
 |t::u::l,p,cs,vs,h,hr=>by
  cases cs with
  |nil=>cases h|cons c cs=>
   obtain⟨v,vs,rfl,h1,h2⟩:=hr.fB;unfold Ck at h;cases hu:tZ R t c with
   |none=>simp only[hu] at h;cases h|some y=>
    cases hs:Ck R (u::l) cs with
    |none=>simp only[hu,hs] at h;cases h|some q=>simp only[hu,hs] at h;obtain rfl:=jW h;obtain⟨a,b,c,d,e,_⟩:=Iy hR hu h1;obtain⟨a',d',c',o'⟩:=afQ (u::l) q cs vs hs h2;exact⟨by simp[encs,a,a'],fun n Z=>by simp[encs,d,d'],by simp[encs,bQ,c,c'],by simp[e,o']⟩
omit hR in
theorem Xc:∀(l:List Ty)(p:qj R.T l),(encs R l p).length=l.length
 | [],_=>rfl| [_],_=>rfl|_::u::l,p=>by show (encs R (u::l) p.2).length+1=_;rw[Xc];rfl
omit hR in
theorem Xd {n:Nat}{Z:ah}(cs:List V):bg (n+3) Z (.agg cs)=(cs.mapM (bg (n+2) Z)).map .agg:=by
 by_cases hp:aQ (.agg cs)=true
 .rw[ni hp];have:∀cs:List V,bQ cs=true->cs.mapM (bg (n+2) Z)=some cs:=by
   intro cs;induction cs with
   |nil=>intro _;rfl|cons a l ih=>intro h;simp only[bQ,aZ] at h;rw[iG,ni h.1,ih h.2];rfl
  rw[this cs Bw];rfl
 .conv=>lhs;unfold bg
  simp only[hp,if_false,bZ]
theorem Xe {t:Ty}{x:Den R.T t}{tv:au R.T}{v:V}(h:uf R t tv=some x)(hr:aA R C top tv v):
 er v=aO R t x/\aQ (aO R t x)=true/\(∀n Z,bg (n+3) Z v=some (aO R t x))/\v.cells.length=dB R t/\bY v.cells=true:=by
 cases t with
 |st n=>
  change EJ R n tv=some x at h;unfold EJ at h;split at h
  .rename_i cs;split at h
   .rename_i p hp;obtain rfl:=jW h;obtain⟨l,hv,hl⟩:=hr.mh;subst hv;obtain⟨a,d,c,o⟩:=afQ hR _ _ _ _ hp hl;have he:aO R (.st n) (R.to n p)= .agg (encs R (R.lf n) p):=(by show R.enc n (R.to n p)=_;rw[hR.enc,hR.Ml]);refine⟨?_,qN hR (.st n) _,fun k Z=>?_,?_,o⟩
    .rw[he];show V.agg (l.map gu)=_;rw[a]
    .rw[he,Xd,d k Z];rfl
    .show l.length=_;have:=congrArg List.length a;rw[eU] at this;rw[this];exact Xc _ _
   .cases h
  .cases h
 |int k=>obtain⟨a,b,c,d,e,f⟩:=Iy hR (t:=.int k) h hr;exact⟨b,c,fun n Z=>d (n+1) Z,by rw[f];rfl,Qe⟩
 |bool=>obtain⟨a,b,c,d,e,f⟩:=Iy hR (t:=.bool) h hr;exact⟨b,c,fun n Z=>d (n+1) Z,by rw[f];rfl,Qe⟩
 |str=>obtain⟨a,b,c,d,e,f⟩:=Iy hR (t:=.str) h hr;exact⟨b,c,fun n Z=>d (n+1) Z,by rw[f];rfl,Qe⟩
 |slice t=>obtain⟨a,b,c,d,e,f⟩:=Iy hR (t:=.slice t) h hr;exact⟨b,c,fun n Z=>d (n+1) Z,by rw[f];rfl,Qe⟩
end
end
end aR
end
