import Derived.Test.YthadiihdjhakdaaGreatF2206
set_option linter.all false
section
namespace aR
open Go
inductive ZK (T:Nat->Type) where
 |b (c:Bool) (v:au T)
 |o (α:Type) (x:Option α) (f:α->au T)
def EX {T:Nat->Type}{β:Type}(k:au T->Option β):List (ZK T)->Option β
 | []=>none|.b c v::l=>bif c then k v else EX k l|.o _ x f::l=>match x with
  |some a=>k (f a)|none=>EX k l
inductive eT (R:iI) where
 |t (v:au R.T)
 |c (b:Bool) (v:au R.T)
 |w (v:au R.T) (st:aH R.T)
 |wc (b:Bool) (v:au R.T) (st:aH R.T)
 |p (α:Type) (d:α) (o:Option α) (f:α->au R.T)
 |alt (l:List (ZK R.T))
section
variable (E:Env)(R:iI)
def Vm {T:Nat->Type}(agg:Bool)(n:Nat)(cs:List (au T))(off:Nat):Option (au T):=bif agg then (bif Nat.ble (off+n) cs.length then some (.agg ((cs.drop off).take n)) else none) else cs[off]?
def nk {T:Nat->Type}(t:TypeId)(cs:List (au T))(off:Nat):Option (au T):=
 match pI E.P t with
 |some a=>match fq E.P t with
  |some n=>Vm a n cs off|none=>none
 |none=>none
def Im {T:Nat->Type}(cs:List (au T))(off:Nat)(vs:List (au T)):List (au T):=cs.take off++vs++cs.drop (off+vs.length)
def Vn {T:Nat->Type}(place:Nat->Option (Nat×Nat))(cells:List (au T)):List (Nat×au T)->Option (List (au T))
 | []=>some cells| (i,v)::rest=>match place i with
   |none=>none|some (off,size)=>bif Nat.beq v.cells.length size&& Nat.ble (off+size) cells.length&& wQ v then Vn place (Im cells off v.cells) rest else none
def EY {T:Nat->Type}(t:TypeId):Option (au T):=match E.P.info? t with
 |some i=>match i.zero with
  |some z=>Ig z|none=>none
 |none=>none
def Ou {T:Nat->Type}:au T->Option Bool
 |.bool a=>some a|.jA a=>some a|_=>none
def Vo {T:Nat->Type}(x y:au T):Option Bool:=match Ou x,Ou y with
 |some a,some b=>some (a==b)|_,_=>none
def Io {T:Nat->Type}(eq:TypeId->au T->au T->Option Bool)(xs ys:List (au T)):List Field->Option Bool
 | []=>some true|f::fs=>if f.name= "_" then Io eq xs ys fs else match nk E f.type xs f.offset with
  |none=>none|some a=>match nk E f.type ys f.offset with
   |none=>none|some b=>match eq f.type a b with
    |none=>none|some r=>match Io eq xs ys fs with
     |none=>none|some q=>some (r&& q)
def Ov {T:Nat->Type}(eq:TypeId->au T->au T->Option Bool)(e:TypeId)(sz:Nat)(xs ys:List (au T)):List Nat->Option Bool
 | []=>some true|i::is=>match nk E e xs (i*sz) with
  |none=>none|some a=>match nk E e ys (i*sz) with
   |none=>none|some b=>match eq e a b with
    |none=>none|some r=>match Ov eq e sz xs ys is with
     |none=>none|some q=>some (r&& q)
def Ip {T:Nat->Type}:Nat->TypeId->au T->au T->Option Bool
 |0,_,_,_=>none|d+1,t,x,y=>
  match E.P.underlying t,x,y with
  |some (.struct fs),.agg xs,.agg ys=>if E.P.stoodInHeld t then none else Io E (Ip d) xs ys fs.toList|some (.array n e),.agg xs,.agg ys=>match fq E.P e with
   |some sz=>Ov E (Ip d) e sz xs ys (List.range n)|none=>none
  |some (.struct _),_,_=>none|some (.array _ _),_,_=>none|some .bool,x,y=>Vo x y|some (.int _),.int k a,.int k' b=>if k=k' then some (a==b) else none|some .string,.str a,.str b=>some (a==b)|_,_,_=>none
def Vp {T:Nat->Type}(t:TypeId)(x y:au T):Option Bool:=
 match E.P.underlying t,x,y with
 |some (.struct _),.agg a,.agg b=>if E.P.eqGuardType E.P.depth t then none else Ip E 8 t (.agg a) (.agg b)|some (.array _ _),.agg a,.agg b=>if E.P.eqGuardType E.P.depth t then none else Ip E 8 t (.agg a) (.agg b)|some (.func ..),.gQ,.gQ=>some true|some (.func ..),.gQ,.fn _ _ _=>some false|some (.func ..),.fn _ _ _,.gQ=>some false|some .bool,x,y=>Vo x y|_,_,_=>none
def Vq (op:BinOp)(k:IntKind)(x y:Int):Option (eT R):=
 match op with
 |.add=>some (.t (.int k (k.wrap (x+y))))|.sub=>some (.t (.int k (k.wrap (x-y))))|.mul=>some (.t (.int k (k.wrap (x*y))))|.quo=>some (.c (!(y==0)) (.int k (k.wrap (x.tdiv y))))|.rem=>some (.c (!(y==0)) (.int k (x.tmod y)))|.and=>some (.t (.int k (k.wrap (BitVec.ofInt k.bits x&&& BitVec.ofInt k.bits y).toNat)))|.or=>some (.t (.int k (k.wrap (BitVec.ofInt k.bits x|||BitVec.ofInt k.bits y).toNat)))|.xor=>some (.t (.int k (k.wrap (BitVec.ofInt k.bits x^^^BitVec.ofInt k.bits y).toNat)))
 |.andNot=>some (.t (.int k (k.wrap (BitVec.ofInt k.bits x&&& ~~~BitVec.ofInt k.bits y).toNat)))|.eql=>some (.t (.bool (x==y)))|.neq=>some (.t (.bool (x !=y)))|.lss=>some (.t (.bool (decide (x<y))))|.leq=>some (.t (.bool (decide (x<=y))))|.gtr=>some (.t (.bool (decide (x>y))))|.geq=>some (.t (.bool (decide (x>=y))))|_=>none
def ZL (op:BinOp)(k:IntKind)(x y:Int):Option (eT R):=
 match op with
 |.shl=>some (.c (decide (0<=y)) (.int k (k.wrap (x*2^min y.toNat k.bits))))|.shr=>some (.c (decide (0<=y)) (.int k (x.fdiv (2^min y.toNat k.bits))))|_=>none
def ZM (op:BinOp)(x y:List UInt8):Option (eT R):=
 match op with
 |.add=>some (.c (decide (((x.length+y.length:Nat):Int)<=IntKind.i64.max)) (.str (x++y)))|.eql=>some (.t (.bool (x==y)))|.neq=>some (.t (.bool (!(x==y))))|.lss=>some (.t (.bool (Op.bytesLess x y)))|.leq=>some (.t (.bool (Op.bytesLess x y||x==y)))|.gtr=>some (.t (.bool (!(Op.bytesLess x y||x==y))))|.geq=>some (.t (.bool (!(Op.bytesLess x y))))|_=>none
def Iq:BinOp->Bool
 |.shl=>true|.shr=>true|_=>false
def Vr (t:TypeId)(x y:au R.T):Option (Bool×Bool):=match E.P.underlying t,x,y with
 |some (.slice _),.fF,.fF=>some (true,true)|some (.slice _),.ay .nil _ l,.fF=>some (l.isEmpty,true)|some (.slice _),.ay _ _ l,.fF=>some (!l.isEmpty,false)|_,_,_=>none
def ZN (op:BinOp)(t:TypeId)(x y:au R.T):Option (eT R):=
 match x,y with
 |.int k a,.int k' b=>bif Iq op then ZL R op k a b else (if k=k' then Vq R op k a b else none)|.str a,.str b=>ZM R op a b|x,y=>match op with
  |.eql=>match Vr E R t x y with
   |some (c,b)=>some (.c c (.jA b))|none=>match Vp E t x y with
    |some b=>some (.t (.bool b))|none=>none
  |.neq=>match Vr E R t x y with
   |some (c,b)=>some (.c c (.jA (!b)))|none=>match Vp E t x y with
    |some b=>some (.t (.bool (!b)))|none=>none
  |_=>none
def ZO (op:UnOp)(x:au R.T):Option (eT R):=
 match op,x with
 |.neg,.int k n=>some (.t (.int k (k.wrap (0-n))))|.xor,.int k n=>Vq R .xor k (if k.signed then-1 else k.max) n|.not,.bool b=>some (.t (.bool (!b)))|.not,.jA b=>some (.t (.jA (!b)))|_,_=>none
def Vs (src dst:TypeId)(x:au R.T):Option (eT R):=
 match E.P.underlying src,E.P.underlying dst,x with
 |some _,some (.int k),.int _ n=>some (.t (.int k (k.wrap n)))|some _,some .string,.str s=>some (.t (.str s))|some (.slice e),some .string,.ay _ (.int .u8) l=>match E.P.underlying e with
  |some (.int .u8)=>some (.t (.str (List.map (fun n:Int=>UInt8.ofNat n.toNat) l)))
  |_=>none
 |some (.slice e),some .string,.fF=>match E.P.underlying e with
  |some (.int .u8)=>some (.t (.str []))|_=>none
 |_,_,_=>none
def u6 (i:Int)(n:Nat):Bool:=decide (0<=i/\i<=n)
def Ir:Option (au R.T)->Option (Option Int)
 |none=>some none|some (.int _ n)=>some (some n)|_=>none
def kS {α:Type}(l:List α):Option Int->Option Int->List α
 |none,none=>l|some i,none=>l.drop i.toNat|none,some j=>l.take j.toNat|some i,some j=>(l.take j.toNat).drop i.toNat
def af4 (n:Nat):Option Int->Option Int->Bool
 |none,none=>true|some i,none=>u6 i n|none,some j=>u6 j n|some i,some j=>u6 j n&& u6 i j.toNat
def Vt (t:TypeId)(x:au R.T)(lo hi:Option (au R.T)):Option (eT R):=
 match Ir R lo,Ir R hi with
 |some lo,some hi=>match E.P.underlying t,x with
  |some (.slice e),.ay _ u l=>match fq E.P e with
   |some sz=>bif Nat.beq sz (dA R u) then some (.c (af4 l.length lo hi) (.ay .any u (kS l lo hi))) else none|none=>none
  |_,_=>none
 |_,_=>none
def Iu {T:Nat->Type}(st:aH T):au T->Option (Nat×Ty×Int×Int)
 |.aM o t=>match mE st o with
  |some (.arr _ l)=>some (o,t,0,(l.length:Int))|_=>none
 |.sub o t a b=>some (o,t,a,b)|_=>none
def Vu (a b c:Int):Bool:=decide (0<=a/\a<=b/\b<=c)
def asR (i n:Int):Bool:=decide (0<=i/\i<n)
def sD (n:Int):Option Int->Int
 |some i=>i|none=>n
def oU:Option Int->Int
 |some i=>i|none=>0
def Vv (t:TypeId)(x:au R.T)(lo hi:Option (au R.T))(st:aH R.T):Option (eT R):=
 match Iu st x,Ir R lo,Ir R hi,E.P.underlying t with
 |some (o,τ,a,b),some lo,some hi,some (.slice e)=>match fq E.P e with
  |some sz=>bif Nat.beq sz (dA R τ) then some (.c (Vu (oU lo) (sD (b-a) hi) (b-a)) (.sub o τ (a+oU lo) (a+sD (b-a) hi))) else none|none=>none
 |_,_,_,_=>none
def Dp (t:TypeId)(x:au R.T)(lo hi:Option (au R.T))(st:aH R.T):Option (eT R):=
 match Vv E R t x lo hi st with
 |some r=>some r|none=>Vt E R t x lo hi
def af5 {T:Nat->Type}(t:TypeId)(f:Nat)(x:au T):Option (au T):=
 match xR E.P t f with
 |some (o,_)=>match x with
  |.ref p off=>some (.ref p (off+o))|.aY cs off=>some (.aY cs (off+o))|.lT p t i off=>some (.lT p t i (off+o))|_=>none
 |none=>none
def jo (R:iI):(t:Ty)->Den R.T t->Den R.T t->Bool
 |.int _=>fun (a b:Int)=>a==b
 |.bool=>fun (a b:Bool)=>a==b
 |.str=>fun (a b:List UInt8)=>a==b
 |.slice _=>fun _ _=>false
 |.st _=>fun _ _=>false
def Bt (t:TypeId)(k:Ty):Bool:=match E.P.underlying t,k with
 |some (.int _),.int _=>true|some .string,.str=>true|some .bool,.bool=>true|_,_=>false
def oV {α β:Type}(eq:α->α->Bool)(x:α):List (α×β)->Option β
 | []=>none| (a,v)::m=>bif eq x a then some v else oV eq x m
def wT {α β:Type}(eq:α->α->Bool)(x:α)(v:β):List (α×β)->List (α×β)
 | []=>[(x,v)]| (a,w)::m=>bif eq x a then (x,v)::m else (a,w)::wT eq x v m
def EZ {α:Type}(d:α):Option α->α
 |some x=>x|none=>d
def af6 (t:Ty)(v:au R.T):Option (Den R.T t):=bif nT v then tZ R t v else none
def Ow (t:TypeId)(k e:Ty)(m:List (Den R.T k×Den R.T e))(x:au R.T)(ok:Bool):Option (eT R):=
 match wz E.P t with
 |some (kt,et)=>bif Bt E kt k then (match EY (T:=R.T) E et with
  |some z=>match tZ R e z,tZ R k x with
   |some z,some x=>some (.t (bif ok then .bB [iJ R .any e (EZ z (oV (jo R k) x m)),.bool (oV (jo R k) x m).isSome] else iJ R .any e (EZ z (oV (jo R k) x m))))|_,_=>none
  |none=>none) else none
 |none=>none
def Vw (t:TypeId)(m x:au R.T)(ok:Bool)(st:aH R.T):Option (eT R):=
 match m with
 |.cu o=>match mE st o with
  |some (.map k e m)=>Ow E R t k e m x ok|_=>none
 |.dV k e m=>Ow E R t k e m x ok|.gD=>match wz E.P t with
  |some (kt,et)=>match R.ty kt,R.ty et with
   |some k,some e=>Ow E R t k e [] x ok|_,_=>none
  |none=>none
 |_=>none
def Vx {T:Nat->Type}:au T->au T->Option Bool
 |.int k a,.int k' b=>if k=k' then some (a==b) else none|.str a,.str b=>some (a==b)|_,_=>none
def zU {T:Nat->Type}(t:TypeId):au T->Bool:=fun v=>match E.P.underlying t,v with
 |some (.int _),.int _ _=>true|some .string,.str _=>true|_,_=>false
def Vy {T:Nat->Type}(x v:au T):List (au T)->List (au T)->Option (List (au T)×List (au T))
 | [],[]=>some ([x],[v])|a::ks,w::vs=>match Vx x a with
  |some b=>bif b then some (x::ks,v::vs) else (match Vy x v ks vs with
   |some (ks,vs)=>some (a::ks,w::vs)|none=>none)
  |none=>none
 |_,_=>none
def Iw (t:TypeId)(m x v:au R.T)(st:aH R.T):Option (eT R):=
 match m with
 |.cu o=>match look st.ob o with
  |some (.map k e m)=>match wz E.P t with
   |some (kt,_)=>bif Bt E kt k then (match tZ R k x,af6 R e v with
    |some x,some v=>some (.w .undef (st.set o (.map k e (wT (jo R k) x v m))))|_,_=>none) else none
   |none=>none
  |some (.smap ks vs)=>match wz E.P t with
   |some (kt,_)=>bif zU E kt x then (match Vy x v ks vs with
    |some (ks,vs)=>some (.w .undef (st.set o (.smap ks vs)))|none=>none) else none
   |none=>none
  |_=>none
 |_=>none
def jq:Ty->Bool
 |.st _=>true|_=>false
def Iy (t:TypeId):Option (TypeId×Ty×Nat×Nat):=
 match nW E.P t with
 |some e=>match R.ty e,fq E.P e,xQ E.P e,pI E.P e,kC E.P e with
  |some u,some sz,some iO,some ag,some z=>bif Nat.beq sz (dA R u)&& Nat.blt 0 sz&& (ag||Nat.beq sz 1)&& Nat.beq z.cells.length sz&& (ag==jq u) then some (e,u,sz,iO) else none|_,_,_,_,_=>none
 |none=>none
def Bu (t:Ty)(n:Nat):List (Nat×au R.T)->Option (List (Den R.T t))
 | []=>some []| (i,v)::l=>bif Nat.beq i n then (match tZ R t v with
   |some x=>match Bu t (n+1) l with
    |some y=>some (x::y)|none=>none
   |none=>none) else none
def ZP (t:TypeId)(len:Nat)(ps:List (Nat×au R.T)):Option (eT R):=
 match Iy E R t with
 |some (_,u,sz,_)=>bif Nat.ble (len*sz) (2^24)&& Nat.beq ps.length len then (match Bu R u 0 ps with
  |some l=>some (.t (.ay .full u l))|none=>none) else none
 |none=>none
def ZQ (d:Option Nat)(t:TypeId)(len:Nat)(ps:List (Nat×au R.T))(st:aH R.T):Option (eT R):=
 match d,Iy E R t with
 |some d,some (_,u,sz,_)=>bif Nat.ble (len*sz) (2^24)&& Nat.beq ps.length len then (match Bu R u 0 ps with
  |some l=>bif Nat.ble F0 (E.cn d) then none else some (.w (.aM (E.cn d) u) (st.new (E.cn d) (.arr u l)))|none=>none) else none
 |_,_=>none
def Vz (u:Ty):au R.T->Option (List (Den R.T u))
 |.ay _ _ l=>pW R l|.fF=>some []|.str s=>pW (t:=.int .u8) (u:=u) R (s.map fun b=>(b.toNat:Int))
 |_=>none
def af7 (u:Ty)(d:Nat):au R.T->Option (Nat×List (Den R.T u))
 |.ay .nil _ l=>match pW R l with
  |some l=>some (d,l)|none=>none
 |.ay .full _ l=>match pW R l with
  |some l=>some (d,l)|none=>none
 |.ay (.own t) _ l=>match pW R l with
  |some l=>some (t,l)|none=>none
 |.fF=>some (d,[])|_=>none
def Iz (t:TypeId):Bool:=match E.P.underlying t with
 |some (.slice _)=>true|some .string=>true|_=>false
def Ox (d:Option Nat)(t u:TypeId)(x y:au R.T)(st:aH R.T):Option (eT R):=
 match d with
 |some d=>match Iy E R t with
  |some (_,τ,_,iO)=>bif Iz E u then (match af7 R τ d x,Vz R τ y with
   |some (tk,l),some l'=>some (.wc (dB (l.length+l'.length) iO) (.ay (.own tk) τ (l++l')) (st.wk tk))|_,_=>none) else none
  |none=>none
 |none=>none
def Oy (d:Option Nat)(t u:TypeId)(x y:au R.T)(st:aH R.T):Option (eT R):=
 match d with
 |some d=>bif Nat.ble F0 (E.cn d) then none else match Iy E R t with
  |some (_,τ,_,iO)=>bif Iz E u then (match Vz R τ y with
   |some l'=>match x with
    |.aM o af8=>if af8=τ then (match look st.ob o with
     |some (.arr gq l)=>match pW R (u:=τ) l with
      |some l=>bif Nat.beq o (E.cn d) then some (.wc (dB (l.length+l'.length) iO) (.aM (E.cn d) τ) ((st.del o).new (E.cn d) (.arr τ (l++l')))) else (match l' with
       |a::l'=>some (.wc (dB (l.length+(a::l').length) iO) (.aM (E.cn d) τ) ((st.del o).new (E.cn d) (.arr τ (l++a::l'))))| []=>none)
      |none=>none
     |_=>none) else none
    |x=>bif uf x then some (.wc (dB l'.length iO) (.aM (E.cn d) τ) (st.new (E.cn d) (.arr τ l'))) else none
   |none=>none) else none
  |none=>none
 |none=>none
def ZR (aj:Bool)(d:Option Nat)(t:TypeId)(n m:au R.T)(st:aH R.T):Option (eT R):=(fun (_:Env) (_:iI) (_:Bool) (_:Option Nat) (_:TypeId) (_ _:au R.T) (_:aH R.T)=>none) E R aj d t n m st
def IB {T:Nat->Type}(mx:Bool):au T->List (au T)->Option (au T)
 |x,[]=>some x|.int k a,.int k' b::l=>if k=k' then IB mx (.int k (bif mx then imax a b else tV a b)) l else none|_,_=>none
def ZT {T:Nat->Type}(t:TypeId)(x:au T)(st:aH T):Option Nat:=
 match E.P.underlying t,x with
 |some (.slice _),.ay _ _ l=>some l.length|some (.slice _),.fF=>some 0|some (.slice _),.aM o _=>match mE st o with
  |some (.arr _ l)=>some l.length|_=>none
 |some (.slice _),.sub _ _ a b=>some (b-a).toNat|some .string,.str s=>some s.length|some (.map _ _),.cu o=>match mE st o with
  |some (.map _ _ m)=>some m.length|_=>none
 |some (.map _ _),.dV _ _ m=>some m.length|some (.map _ _),.gD=>some 0|some (.array n _),_=>some n|_,_=>none
def ZU (t:TypeId)(x:au R.T)(st:aH R.T):Option (eT R):=
 (fun (_:Env) (_:iI) (_:TypeId) (_:au R.T) (_:aH R.T)=>none) E R t x st
def blt (aj:Bool)(d:Option Nat)(b:Builtin)(tys:Array TypeId)(args:List (au R.T))(st:aH R.T):Option (eT R):=
 match b,args with
 |.len,[x]=>match tys[0]? with
  |some t=>match ZT E t x st with
   |some n=>some (.t (.int .i64 ((n:Nat):Int)))|none=>none
  |none=>none
 |.append,[x,y]=>match tys[0]?,tys[1]? with
  |some t,some u=>bif aj then Oy E R d t u x y st else Ox E R d t u x y st|_,_=>none
 |.clear,[x]=>match tys[0]? with
  |some t=>ZU E R t x st|none=>none
 |.min,x::l=>match IB false x l with
  |some v=>some (.t v)|none=>none
 |.max,x::l=>match IB true x l with
  |some v=>some (.t v)|none=>none
 |_,_=>none
def VA:List (au R.T)->au R.T
 | [v]=>v|vs=>.bB vs
def IC (args cO:List (au R.T)):List (fC R)->List (ZK R.T)
 | []=>[]|r::l=>match dQ R r.args cO with
  |some p=>bif r.alt&& (gP r.args&& Nat.ble (l8 r.args) 18&& gP r.res&& (yA args||Br r.res)) then .o (av R.T r.res) (r.F p) (fun x=>VA R (eF R .sh r.res x))::IC args cO l else IC args cO l
  |none=>IC args cO l
def findF (args cO:List (au R.T)):List (fC R)->Option (eT R)
 | []=>none|r::l=>match dQ R r.args cO with
  |some p=>bif r.alt then some (.alt (IC R args cO (r::l))) else bif gP r.args&& Nat.ble (l8 r.args) 18&& gP r.res&& (yA args||Br r.res) then some (.p (av R.T r.res) r.d (r.F p) fun x=>VA R (eF R .sh r.res x)) else none
  |none=>findF args cO l
def ZV (t:TypeId)(x i:au R.T):Option (eT R):=
 match E.P.underlying t,x,i with
 |some (.slice e),.ay _ u l,.int _ n=>match fq E.P e with
  |some sz=>bif Nat.beq sz (dA R u) then some (.p (Den R.T u) (Ib R u) (aN l n) fun y=>.aY (iJ R .sh u y).cells 0) else none
  |none=>none
 |some (.array n e),.ref o off,.int _ k=>match fq E.P e with
  |some sz=>some (.c (decide (0<=k/\k<n)) (.ref o (off+k.toNat*sz)))|none=>none
 |some (.array n e),.aY cs off,.int _ k=>match fq E.P e with
  |some sz=>some (.c (decide (0<=k/\k<n)) (.aY cs (off+k.toNat*sz)))|none=>none
 |_,_,_=>none
def ZW (t:TypeId)(o:Nat)(τ:Ty)(i:au R.T)(st:aH R.T):Option (eT R):=
 match E.P.underlying t,i with
 |some (.slice e),.int _ n=>match fq E.P e with
  |some sz=>bif Nat.beq sz (dA R τ) then (match mE st o with
   |some (.arr _ l)=>some (.c (decide (0<=n/\n< (l.length:Int))) (.lT o τ n 0))|_=>none) else none
  |none=>none
 |_,_=>none
def ZX (t:TypeId)(o:Nat)(τ:Ty)(a b:Int)(i:au R.T):Option (eT R):=
 match E.P.underlying t,i with
 |some (.slice e),.int _ n=>match fq E.P e with
  |some sz=>bif Nat.beq sz (dA R τ) then some (.c (asR n (b-a)) (.lT o τ (a+n) 0)) else none|none=>none
 |_,_=>none
def asS {T:Nat->Type}:Option (au T)->au T
 |some v=>v|none=>.gone
def ZY (t:TypeId)(τ:Ty)(i:Int)(off:Nat)(o:bA R.T):Option (eT R):=
 match o with
 |.arr gq l=>match pW R (u:=τ) l with
  |some l=>bif (nk E t (iJ R .any τ (Ib R τ)).cells off).isSome then some (.p (Den R.T τ) (Ib R τ) (aN l i) fun y=>asS (nk E t (iJ R .any τ y).cells off)) else none
  |none=>none
 |_=>none
def Z0 (τ:Ty)(cs:List (au R.T)):Option (Den R.T τ):=match τ with
 |.st n=>ER R n (.agg cs)|.int k=>tY R (.int k) (hd1 R cs)|.bool=>tY R .bool (hd1 R cs)|.str=>tY R .str (hd1 R cs)|.slice t=>tY R (.slice t) (hd1 R cs)
def Z4 (t:TypeId)(x i:au R.T):Option (eT R):=
 match E.P.underlying t,x,i with
 |some .string,.str s,.int _ n=>some (.p UInt8 0 (aN s n) fun b=>.int .u8 (b.toNat:Int))
 |_,_,_=>none
def IE {T:Nat->Type}(c:Bool):au T->au T->Option (au T)
 |.int k a,.int k' b=>if k=k' then some (.int k (bif c then a else b)) else none|.bool a,.bool b=>some (.bool (bif c then a else b))|.bool a,.jA b=>some (.bool (bif c then a else b))|.jA a,.bool b=>some (.bool (bif c then a else b))|.jA a,.jA b=>some (.bool (bif c then a else b))|.str a,.str b=>some (.str (bif c then a else b))|_,_=>none
def af9 (n:Nat):Option Int->Option Int->Bool
 |none,none=>true|some i,none=>decide (0<=i/\(i<n\/i=0))|none,some j=>decide (0<=j/\j<=n)|some i,some j=>decide (0<=i/\i<=j/\j<=n/\(i<j\/i=0))
def IG:Option Int->Int
 |some i=>i|none=>0
def aga (n:Nat):Option Int->Int
 |some i=>i|none=>n
def u7 (g:List (Nat×Bool))(d:Option Nat)(o:Op)(st:aH R.T):Option (eT R):=(fun (_:Env) (_:iI) (_:List (Nat×Bool)) (_:Option Nat) (_:Op) (_:aH R.T)=>none) E R g d o st
def vg (aj:Bool)(F:Nat->List (fC R))(g:List (Nat×Bool))(d:Option Nat)(o:Op)(st:aH R.T):Option (eT R):=
 match o with
 |.move x=>bif zG E d then (match dF g st x with
  |some (.aM p t)=>match look st.ob p with
   |some (.arr t' l)=>match pW R (u:=t) l with
    |some l=>some (.w (.ay .any t l) (st.del p))|none=>none
   |_=>none
  |some (.int k n)=>some (.t (.int k n))|_=>none) else (match dF g st x with
  |some v=>some (.t v)|none=>none)
 |.assign x=>match dF g st x with
  |some v=>some (.t v)|none=>none
 |.pick c a b=>match c with
  |.tmp j=>match dF g st c with
   |some (.bool t)=>match dF ((j,true)::g) st a,dF ((j,false)::g) st b with
    |some x,some y=>match IE t x y with
     |some v=>some (.t v)|none=>none
    |_,_=>none
   |some (.jA t)=>match dF g st (bif t then a else b) with
    |some v=>some (.t v)|none=>none
   |_=>none
  |_=>none
 |.alloc t=>match d,EY E t with
  |some d,some z=>bif Dl z.cells&& !(nO d z.cells) then some (.w (.ref d 0) (st.new d (.cells z.cells))) else none|_,_=>none
 |.box t x=>bif AZ E t d then (match dF g st x with
  |some v=>bif nT (Dm v)&& wQ v then some (.t (.aY (Dm v).cells 0)) else none|none=>none) else match d,dF g st x with
  |some d,some v=>bif Dl v.cells&& wQ v&& !(nO d v.cells) then some (.w (.ref d 0) (st.new d (.cells v.cells))) else none|_,_=>none
 |.build t parts=>match Uv E t,EY (T:=R.T) E t,Ih g st parts.toList with
  |some pl,some z,some ps=>match Vn pl z.cells ps with
   |some cs=>some (.t (.agg cs))|none=>none
  |_,_,_=>none
 |.buildSlice t len parts=>match Ih g st parts.toList with
  |some ps=>bif CQ E d then ZQ E R d t len ps st else ZP E R t len ps|none=>none
 |.load t a=>match dF g st a with
  |some (.ref o off)=>match mE st o with
   |some (.cells cs)=>match nk E t cs off with
    |some v=>some (.t v)|none=>none
   |_=>none
  |some (.aY cs off)=>match nk E t cs off with
   |some v=>some (.t v)|none=>none
  |some (.lT o τ i off)=>match mE st o with
   |some b=>ZY E R t τ i off b|none=>none
  |_=>none
 |.store t a x=>match dF g st a,dF g st x with
  |some (.ref o off),some v=>match look st.ob o,fq E.P t with
   |some (.cells cs),some sz=>bif Nat.beq v.cells.length sz&& Nat.ble (off+v.cells.length) cs.length&& Dl v.cells&& wQ v then some (.w .undef (st.set o (.cells (Im cs off v.cells)))) else none
   |_,_=>none
  |_,_=>none
 |.nilCheck x=>match dF g st x with
  |some (.ref o off)=>some (.t (.ref o off))|some (.aY cs off)=>some (.t (.aY cs off))|some (.lT o τ i off)=>some (.t (.lT o τ i off))|some (.fn f a b)=>some (.t (.fn f a b))|_=>none
 |.binOp op t x y _=>match dF g st x,dF g st y with
  |some x,some y=>ZN E R op t x y|_,_=>none
 |.unOp op _ x=>match dF g st x with
  |some x=>ZO R op x|none=>none
 |.convert a b x=>match dF g st x with
  |some x=>Vs E R a b x|none=>none
 |.makeFunc (.func f) a b=>match mZ g st a.toList,mZ g st b.toList with
  |some a,some b=>some (.t (.fn f a b))|_,_=>none
 |.makeMap t none=>match d,wz E.P t with
  |some d,some (k,e)=>match R.ty k,R.ty e with
   |some k,some e=>some (.w (.cu d) (st.new d (.map k e [])))|_,_=>some (.w (.cu d) (st.new d (.smap [] [])))
  |_,_=>none
 |.makeSlice t l c=>match dF g st l,dF g st c with
  |some n,some m=>ZR E R aj d t n m st|_,_=>none
 |.slice t x lo hi none=>match dF g st x with
  |some x=>match lo,hi with
   |none,none=>Dp E R t x none none st|some lo,none=>match dF g st lo with
    |some lo=>Dp E R t x (some lo) none st|none=>none
   |none,some hi=>match dF g st hi with
    |some hi=>Dp E R t x none (some hi) st|none=>none
   |some lo,some hi=>match dF g st lo,dF g st hi with
    |some lo,some hi=>Dp E R t x (some lo) (some hi) st|_,_=>none
  |none=>none
 |.fieldAddr t x f=>match dF g st x with
  |some x=>match af5 E t f x with
   |some v=>some (.t v)|none=>none
  |none=>none
 |.field t x f=>match xR E.P t f,dF g st x with
  |some (o,u),some (.agg cs)=>match nk E u cs o with
   |some v=>some (.t v)|none=>none
  |_,_=>none
 |.indexAddr t x i=>match dF g st x,dF g st i with
  |some (.aM o τ),some i=>ZW E R t o τ i st|some (.sub o τ a b),some i=>ZX E R t o τ a b i|some x,some i=>ZV E R t x i|_,_=>none
 |.index t x i=>match dF g st x,dF g st i with
  |some x,some i=>Z4 E R t x i|_,_=>none
 |.lookup t x i ok=>match dF g st x,dF g st i with
  |some x,some i=>Vw E R t x i ok st|_,_=>none
 |.mapUpdate t m k v=>match dF g st m,dF g st k,dF g st v with
  |some m,some k,some v=>Iw E R t m k v st|_,_,_=>none
 |.insert t m k v=>match dF g st m,dF g st k,dF g st v with
  |some m,some k,some v=>Iw E R t m k v st|_,_,_=>none
 |.extract x i=>match dF g st x with
  |some (.bB vs)=>match vs[i]? with
   |some v=>some (.t v)|none=>none
  |_=>none
 |.call c=>match c.callee with
  |.builtin b=>match mZ g st c.args.toList with
   |some vs=>blt E R aj d b c.argTypes vs st|none=>none
  |.value f=>match dF g st f,mZ g st c.args.toList with
   |some (.fn f a b),some vs=>bif E.imp f then none else findF R (a++vs++b) (ng st (a++vs++b)) (F f)|_,_=>none
  |_=>none
 |_=>none
def zV (aj:Bool)(F:Nat->List (fC R))(g:List (Nat×Bool))(d:Option Nat)(o:Op)(st:aH R.T):Option (eT R):=
 match u7 E R g d o st with
 |some r=>some r|none=>vg E R aj F g d o st
inductive asT where
 |no
 |run
 |skip
 |dyn (j:Nat) (w:Bool) (c:Bool) (g:List (Nat×Bool))
def II (b w:Bool):Bool:=bif w then b else !b
def Z5 (a b:Bool):Bool:=bif a then b else false
def qC {T:Nat->Type}(st:aH T):Nat->Nat->Bool->Option (Bool×List (Nat×Bool))
 |0,_,_=>none|n+1,j,w=>match look st.fr j with
  |some (.bool b)=>some (II b w,[(j,w)])|some (.opt i u (.bool b))=>match qC st n i u with
   |some (c,g)=>some (Z5 c (II b w),(j,w)::g)|none=>none
  |some (.opt i u (.jA b))=>match qC st n i u with
   |some (c,g)=>some (Z5 c (II b w),(j,w)::g)|none=>none
  |_=>none
def VB {T:Nat->Type}(all:List Oper)(st:aH T)(o:Oper):asT:=
 match o.guard with
 |none=>.run|some (j,w)=>match all[j]? with
  |some p=>match p.dst with
   |some t=>match look st.fr t with
    |some (.jA b)=>bif b==w then .run else .skip|some .undef=>.skip|_=>match qC st 12 t w with
     |some (c,g)=>.dyn t w c g|none=>.no
   |none=>.skip
  |none=>.skip
def aH.nu {T:Nat->Type}(st:aH T):List (Nat×Bool)->aH T
 | []=>st| (j,w)::g=>(st.nu g).learn j w
def aH.Bv {T:Nat->Type}(st:aH T):List (Nat×Bool)->aH T
 | [(j,w)]=>st.learn j (!w)|_=>st
def jS {α:Type}(c:Bool)(o:Option α)(d:α):Option α:=bif c then o else some d
def Z6 (st:aH R.T)(t:TypeId)(m x:Operand):Option (List (au R.T)×List (au R.T)×au R.T×au R.T):=
 match dF [] st m with
 |some (.cu o)=>match mE st o with
  |some (.smap ks vs)=>match dF [] st x,wz E.P t with
   |some x,some (kt,et)=>match EY (T:=R.T) E et with
    |some z=>bif zU E kt x then some (ks,vs,x,z) else none|none=>none
   |_,_=>none
  |_=>none
 |_=>none
def VD {T:Nat->Type}{β:Type}(x:au T):List (au T)->List (au T)->au T->(au T->Bool->Option β)->Option β
 | [],[],z,k=>k z false|a::ks,v::vs,z,k=>match Vx x a with
  |some b=>bif b then k v true else VD x ks vs z k|none=>none
 |_,_,_,_=>none
section
variable (aj:Bool){β:Type}(F:Nat->List (fC R))
def Z7 (t:TypeId)(a x:Operand)(st:aH R.T):Option ((τ:Ty)×Nat×Int×Nat×List (Den R.T τ)×au R.T):=
 match dF [] st a,dF [] st x with
 |some (.lT o τ i off),some v=>match look st.ob o,fq E.P t with
  |some (.arr gq l),some sz=>match pW R (u:=τ) l with
   |some l=>bif Nat.beq v.cells.length sz&& Nat.ble (off+v.cells.length) (dA R τ)&& Dl v.cells&& wQ v then some ⟨τ,o,i,off,l,v⟩ else none|none=>none
  |_,_=>none
 |_,_=>none
def dH {α:Type}(l:List α)(i:Int)(y:α):List α:=l.set i.toNat y
def runM (o:Oper)(st:aH R.T)(k:aH R.T->Option β):Option β:=
 match o.op with
 |.pick c a b=>match dF [] st c with
  |some (.jA t)=>match dF [] st (bif t then a else b) with
   |some v=>k (st.gN o.dst v)|none=>none
  |some (.bool t)=>match c with
   |.tmp j=>match dF [(j,true)] st a,dF [(j,false)] st b with
    |some x,some y=>match IE t x y with
     |some v=>k (st.gN o.dst v)|none=>bif t then k ((st.learn j true).gN o.dst x) else k ((st.learn j false).gN o.dst y)
    |_,_=>none
   |_=>none
  |_=>none
 |.store t a x=>match Z7 E R t a x st with
  |some ⟨τ,p,i,off,l,v⟩=>(aN l i).bind fun y=>match Z0 R τ (Im (iJ R .any τ y).cells off v.cells) with
   |some y'=>k ((st.set p (.arr τ (dH l i y'))).gN o.dst .undef)|none=>none
  |none=>match zV E R aj F [] o.dst (.store t a x) st with
   |some (.w v st')=>k (st'.gN o.dst v)|_=>none
 |.lookup t m x ok=>match Z6 E R st t m x with
  |some (ks,vs,x,z)=>VD x ks vs z fun v b=>k (st.gN o.dst (bif ok then .bB [v,.jA b] else v))
  |none=>match zV E R aj F [] o.dst (.lookup t m x ok) st with
   |some (.t v)=>k (st.gN o.dst v)|_=>none
 |op=>match zV E R aj F [] o.dst op st with
  |some (.t v)=>k (st.gN o.dst v)|some (.c b v)=>bif b then k (st.gN o.dst v) else none|some (.w v st')=>k (st'.gN o.dst v)|some (.wc b v st')=>bif b then k (st'.gN o.dst v) else none|some (.p _ _ x f)=>x.bind fun a=>k (st.gN o.dst (f a))
  |some (.alt l)=>EX (fun v=>k (st.gN o.dst v)) l
  |none=>none
def Oz (b c:Bool):Bool:=bif b then c else true
def Z8 (o:Oper)(j:Nat)(w c:Bool)(g:List (Nat×Bool))(st:aH R.T)(k:aH R.T->Option β):Option β:=
 match o.dst with
 |some d=>match (bif bg d (g.map (·.1)) then none else zV E R aj F g o.dst o.op st) with
  |some (.t v)=>k (st.put d (.opt j w v))|some (.c b v)=>bif Oz c b then k (st.put d (.opt j w v)) else none|some (.p _ z x f)=>(jS c x z).bind fun a=>k (st.put d (.opt j w (f a)))
  |_=>bif c then runM E R aj F o (st.nu g) k else k ((st.Bv g).gN o.dst .undef)
 |none=>bif c then runM E R aj F o (st.nu g) k else k ((st.Bv g).gN o.dst .undef)
def ny {T:Nat->Type}(st:aH T)(o:Oper):Bool:=match o.op with
 |.call c=>match c.callee with
  |.value f=>match dF [] st f with
   |some (.fn g _ _)=>match o.dst with
    |some d=>E.own g d|none=>false
   |_=>true
  |_=>false
 |_=>false
def asU:List aC->Bool
 |.fF::k::l=>gP (k::l)|_=>false
def IJ (args cO:List (au R.T)):List (fC R)->Option ((τ:Ty)×Option (List (Den R.T τ)))
 | []=>none| ⟨dz,[.d (.slice τ)],G,_,true,_⟩::l=>match dQ R dz cO with
   |some p=>bif (gP dz||asU dz)&& Nat.ble (l8 dz) 18&& yA args then some ⟨τ,G p⟩ else none|none=>IJ args cO l
 |_::l=>IJ args cO l
def wU (o:Oper)(st:aH R.T)(k:aH R.T->Option β):Option β:=match o.op,o.dst with
 |.call c,some d=>match c.callee with
  |.value f=>match dF [] st f,mZ [] st c.args.toList with
   |some (.fn g a b),some vs=>match IJ R (a++vs++b) (ng st (a++vs++b)) (F g) with
    |some ⟨τ,x⟩=>x.bind fun l=>k ((st.wk d).put d (.ay (.own d) τ l))
    |none=>none
   |_,_=>none
  |_=>none
 |_,_=>none
def E5 (o:Nat)(l:List Nat):List Nat:=bif bg o l then l else l++[o]
mutual
def asV {T:Nat->Type}:au T->List Nat->List Nat
 |.ref o _,l=>E5 o l|.cu o,l=>E5 o l|.aM o _,l=>E5 o l|.sub o _ _ _,l=>E5 o l|.lT o _ _ _,l=>E5 o l|.sv o _ _ _ _ _,l=>E5 o l|.sel o _ _ _ _ _,l=>E5 o l|.agg cs,l=>pY cs l|.bB cs,l=>pY cs l|.aY cs _,l=>pY cs l|.fn _ a b,l=>pY b (pY a l)|_,l=>l
def pY {T:Nat->Type}:List (au T)->List Nat->List Nat
 | [],l=>l|v::vs,l=>pY vs (asV v l)
end
mutual
def zW {T:Nat->Type}(m:List (Nat×Nat)):au T->au T
 |.ref o off=>match look m o with
  |some p=>.ref p off|none=>.gone
 |.cu o=>match look m o with
  |some p=>.cu p|none=>.gone
 |.aM o t=>match look m o with
  |some p=>.aM p t|none=>.gone
 |.sub o t a b=>match look m o with
  |some p=>.sub p t a b|none=>.gone
 |.lT o t i off=>match look m o with
  |some p=>.lT p t i off|none=>.gone
 |.sv o off k n lo hi=>match look m o with
  |some p=>.sv p off k n lo hi|none=>.gone
 |.sel o off k n i j=>match look m o with
  |some p=>.sel p off k n i j|none=>.gone
 |.ay c t l=>match c with
  |.own _=>.ay .any t l|c=>.ay c t l
 |.agg cs=>.agg (wV m cs)|.bB cs=>.bB (wV m cs)|.aY cs off=>.aY (wV m cs) off|.fn f a b=>.fn f (wV m a) (wV m b)|v=>v
def wV {T:Nat->Type}(m:List (Nat×Nat)):List (au T)->List (au T)
 | []=>[]|v::vs=>zW m v::wV m vs
end
def iW:List Nat->Nat->List (Nat×Nat)
 | [],_=>[]|o::l,n=>(o,n)::iW l (n+1)
def yB:List Nat->Bool
 | []=>true|o::l=>!(bg o l)&& yB l
def Bw {T:Nat->Type}(st:aH T):List (Nat×Nat)->List (Nat×bA T)
 | []=>[]| (o,p)::m=>match look st.ob o with
   |some x=>(p,x)::Bw st m|none=>Bw st m
def qD {T:Nat->Type}:List (Nat×Nat)->List (Nat×bA T)->List (Nat×bA T)
 | [],_=>[]| (o,p)::m,l=>match look l p with
   |some y=>(o,y)::qD m l|none=>qD m l
def yC:List (Nat×Nat)->List (Nat×fA)->Bool
 | [],[]=>true| (_,p)::m,(q,_)::l=>Nat.beq p q&& yC m l|_,_=>false
def uh:List aC->Bool
 | []=>true|.d (.int _)::l=>uh l|.d .bool::l=>uh l|.d .str::l=>uh l|.sub p _::l=>Nat.ble F0 p&& uh l|_=>false
mutual
def VE:aC->Bool
 |.d _=>true|.aY l _=>wW l|.fn _ a b=>wW a&& wW b|_=>false
def wW:List aC->Bool
 | []=>true|k::l=>VE k&& wW l
end
def okO:fA->Bool
 |.cells l=>wW l|_=>true
def og:List (Nat×fA)->Bool
 | []=>true| (_,k)::l=>okO k&& og l
def VF (m:List (Nat×Nat))(A:List (au R.T))(B:List (Nat×bA R.T)):List (mD R)->Option ((r:mD R)×Option (av R.T r.res×eD R.T r.obs))
 | []=>none|r::l=>match dQ R r.args A,lF R B r.obs with
  |some p,some q=>bif yC m r.obs&& (uh r.res&& og r.obs) then some ⟨r,r.F p q⟩ else none|_,_=>VF m A B l
def OA:List (Nat×Nat)->List (Nat×Nat)
 | []=>[]| (o,p)::l=>(p,o)::OA l
def agb {T:Nat->Type}:List (au T)->au T
 | [v]=>v|vs=>.bB vs
def q8 {T:Nat->Type}(st:aH T)(o:Oper):Bool:=match o.op with
 |.call c=>match c.callee with
  |.value f=>match dF [] st f with
   |some (.fn g _ _)=>E.imp g|_=>false
  |_=>false
 |_=>false
def yD (o:Oper):Bool:=match o.op with
 |.call c=>match c.callee with
  |.value (.func g)=>!(E.imp g)|.value _=>false|_=>true
 |_=>true
def asW:aC->Bool
 |.ref _ _=>true|_=>false
def Z9:aC->Cp
 |.fn _ _ _=>.sh|_=>.any
def Dq:(l:List aC)->av R.T l->List (au R.T)
 | [],_=>[]| [k],x=>[up R (Z9 k) k x]|k::h::l,p=>up R (Z9 k) k p.1::Dq (h::l) p.2
def okV {T:Nat->Type}(k:aC)(v:au T):Bool:=asW k||(vW k&& nT v&& Nat.ble (dep k) 18)
def E8 {T:Nat->Type}:List aC->List (au T)->Bool
 | [],[]=>true|k::l,v::vs=>okV k v&& E8 l vs|_,_=>false
def VG {T:Nat->Type}(k:aC)(v:au T):Bool:=match k with
 |.fn _ a b=>match v with
  |.fn _ a' b'=>E8 a a'&& E8 b b'|_=>false
 |_=>true
def IK {T:Nat->Type}:List aC->List (au T)->Bool
 | [],_=>true|_::_,[]=>false|k::l,v::vs=>VG k v&& IK l vs
def OB (m:List (Nat×Nat))(A:List (au R.T))(B:List (Nat×bA R.T)):List (mD R)->Option ((r:mD R)×Option (tX R.T r.jB×eD R.T r.gV))
 | []=>none|r::l=>match dQ R r.args A,lF R B r.obs with
  |some p,some q=>bif r.jB.is&& (yC m r.obs&& og r.obs&& og r.gV)&& IK r.args A then some ⟨r,r.G p q⟩ else OB m A B l|_,_=>OB m A B l
def E9 {α:Type}:List Nat->List (Nat×α)->List (Nat×α)
 | [],l=>l|i::is,l=>E9 is (jE i l)
def agc (d d':Nat):(k:sw)->tX R.T k->aH R.T->(aH R.T->Option β)->Option β
 |.no,_,_,_=>none|.arr t,l,st,k=>k ((st.new d' (.arr t l)).put d (.aM d' t))|.Ia g a b cs,(x,y,z),st,k=>bif nO d' (eF R .any cs z) then none else k ((st.new d' (.cells (eF R .any cs z))).put d (.fn g (eF R .sh a x) (.ref d' 0::eF R .sh b y)))
def Fa (M:Nat->List (mD R))(o:Oper)(st:aH R.T)(k:aH R.T->Option β):Option β:=match o.op with
 |.call c=>match c.callee with
  |.value f=>match dF [] st f,mZ [] st c.args.toList with
   |some (.fn g a b),some vs=>bif yB (pY (a++vs++b) []) then (match o.dst,OB R (iW (pY (a++vs++b) []) F0) (wV (iW (pY (a++vs++b) []) F0) (a++vs++b)) (Bw st (iW (pY (a++vs++b) []) F0)) (M g) with
    |some d,some ⟨r,x⟩=>bif Nat.ble F0 (E.cn d) then none else x.bind fun y=>agc R d (E.cn d) r.jB y.1 ⟨st.fr,qD (iW (pY (a++vs++b) []) F0) (iF R r.gV y.2)++E9 (pY (a++vs++b) []) st.ob⟩ k
    |_,_=>match VF R (iW (pY (a++vs++b) []) F0) (wV (iW (pY (a++vs++b) []) F0) (a++vs++b)) (Bw st (iW (pY (a++vs++b) []) F0)) (M g) with
    |some ⟨r,x⟩=>x.bind fun y=>k (aH.gN ⟨st.fr,qD (iW (pY (a++vs++b) []) F0) (iF R r.obs y.2)++st.ob⟩ o.dst (agb (wV (OA (iW (pY (a++vs++b) []) F0)) (eF R .any r.res y.1))))
    |none=>none) else none
   |_,_=>none
  |_=>none
 |_=>none
def OC (M:Nat->List (mD R))(o:Oper)(st:aH R.T)(k:aH R.T->Option β):Option β:=(fun (_:Env) (_:iI) (_:Nat->List (mD R)) (_:Oper) (_:aH R.T) (_:aH R.T->Option β)=>none) E R M o st k
variable (M:Nat->List (mD R))
def yE (all:List Oper):List Oper->aH R.T->(aH R.T->Option β)->Option β
 | [],st,k=>k st|o::os,st,k=>match VB all st o with
  |.run=>bif ny E st o then (bif q8 E st o then none else wU R F o st (fun st=>yE all os st k)) else (bif q8 E st o then Fa E R M o st (fun st=>yE all os st k) else runM E R aj F o st (fun st=>yE all os st k))
  |.skip=>yE all os (st.gN o.dst .undef) k|.dyn j w c g=>bif ny E (st.nu g) o then none else (bif q8 E (st.nu g) o then (bif c then Fa E R M o (st.nu g) (fun st=>yE all os st k) else yE all os ((st.Bv g).gN o.dst .undef) k) else Z8 E R aj F o j w c g st (fun st=>yE all os st k))
  |.no=>none
def VH {T:Nat->Type}:au T->List Key
 |.ref o _=>[.obj (1,o)]|.cu o=>[.obj (1,o)]|.lT o _ _ _=>[.obj (1,o)]|.sv o _ _ _ _ _=>[.obj (1,o)]|.sel o _ _ _ _ _=>[.obj (1,o)]|_=>[]
def VI {T:Nat->Type}:au T->List Key
 |.aM o _=>[.obj (1,o)]|.sub o _ _ _=>[.obj (1,o)]|v=>VH v
def VJ {T:Nat->Type}(st:aH T)(x:Operand):List Key:=match dF [] st x with
 |some v=>VI v|none=>[]
def Dr {T:Nat->Type}(st:aH T)(x:Operand):List Key:=match dF [] st x with
 |some v=>VH v|none=>[]
def VK (o:Oper):List Key:=match o.dst with
 |some t=>[.obj (1,t)]|none=>[]
def Fb (o:Oper):List Key:=match o.dst with
 |some t=>[.obj (1,E.cn t)]|none=>[]
def VL {T:Nat->Type}:au T->Bool
 |.gone=>false|.opt _ _ _=>false|_=>true
def VN {T:Nat->Type}:List (au T)->Bool
 | []=>false|.sv _ _ _ _ _ _::_=>true|.ref _ _::_=>true|_::l=>VN l
def Fe (aj:Bool){T:Nat->Type}(st:aH T)(o:Oper):dO:=
 match o.op with
 |.buildSlice .. =>bif CQ E o.dst then gT else nX []
 |.move _|.assign _|.pick .. |.build .. |.nilCheck _|.binOp .. |.unOp .. |.makeInterface .. |.typeAssert .. |.makeFunc .. |.fieldAddr .. |.field .. |.indexAddr .. |.index .. |.extract ..
 |.sliceToArrayPointer .. =>nX []|.convert _ _ x|.slice _ x _ _ _|.load _ x|.lookup _ x _ _=>nX (Dr st x)|.alloc _|.box .. |.makeMap .. =>mq (VK o)|.makeSlice .. =>mq (.top::VK o)|.store _ a _=>mq (Dr st a)|.mapUpdate _ m _ _|.insert _ m _ _=>mq (Dr st m)|.call c=>match c.callee with
  |.builtin b=>match b with
   |.len|.cap|.min|.max=>nX (c.args.toList.flatMap fun x=>Dr st x)
   |.append=>bif aj then ⟨false,false,c.args.toList.flatMap fun x=>VJ st x,.top::(Fb E o++c.args.toList.flatMap fun x=>VJ st x)⟩ else ⟨false,false,c.args.toList.flatMap fun x=>Dr st x,[.top]⟩
   |_=>gT
  |.value f=>match dF [] st f with
   |some (.fn g a b)=>if E.imp g then gT else (match mZ [] st c.args.toList with
    |some vs=>if yA (a++vs++b) then nX [] else ⟨true,false,[],[]⟩|none=>gT)
   |_=>gT
  |_=>gT
 |_=>gT
def sF (aj:Bool){T:Nat->Type}(all:List Oper)(st:aH T)(o:Oper)(wanted:Bool):dO:=
 if wanted then let f:=Fe E aj st o;⟨f.rY,f.oH,wF all o++f.t,nY o++f.w⟩else ⟨false,false,wF all o,nY o⟩
def OD {T:Nat->Type}:au T->Bool
 |.gone=>false|.opt _ _ _=>false|.aM _ _=>false|.sub _ _ _ _=>false|_=>true
def wX (aj:Bool){T:Nat->Type}(st:aH T)(o:Oper):Bool:= !(ny E st o)&&
 match o.op with
 |.call c=>match c.callee with
  |.value f=>match dF [] st f,mZ [] st c.args.toList with
   |some (.fn _ a b),some vs=>yA (a++vs++b)||VN (a++vs++b)|_,_=>false
  |.builtin b=>(match b with
   |.append=>aj&& (match mZ [] st c.args.toList with
    |some vs=>vs.all VL|none=>false)
   |_=>false)||match mZ [] st c.args.toList with
   |some vs=>vs.all OD|none=>false
  |_=>true
 |.move _=>!(zG E o.dst)|.slice _ x _ _ _=>match dF [] st x with
  |some v=>(Iu st v).isNone|none=>false
 |_=>true
def Key.nm:Key->Key
 |.obj l=>.obj (1,l.2)|k=>k
def dO.nm (f:dO):dO:=⟨f.rY,f.oH,f.t.map Key.nm,f.w.map Key.nm⟩
def zX (all:List Oper)(o:Oper):dO:=⟨false,false,wF all o++[],nY o++ .top::Fb E o⟩
def oh (ms:List Nat)(all:List Oper):List Oper->aH R.T->List dO->(aH R.T->Option β)->Option β
 | [],st,fs,k=>bif wG ms (fs.map dO.nm) then k st else none|o::os,st,fs,k=>match VB all st o with
  |.run=>bif q8 E st o then (bif ny E st o then OC E R M o st (fun st'=>oh ms all os st' (fs++[zX E all o]) k) else Fa E R M o st (fun st'=>oh ms all os st' (fs++[sF E aj all st o true]) k)) else bif ny E st o then wU R F o st (fun st'=>oh ms all os st' (fs++[zX E all o]) k) else bif !(wX E aj st o) then none else runM E R aj F o st (fun st'=>oh ms all os st' (fs++[sF E aj all st o true]) k)
  |.skip=>oh ms all os (st.gN o.dst .undef) (fs++[sF E aj all st o false]) k|.dyn _ _ c g=>bif c then (bif q8 E (st.nu g) o then (bif ny E (st.nu g) o then OC E R M o (st.nu g) (fun st'=>oh ms all os st' (fs++[zX E all o]) k) else Fa E R M o (st.nu g) (fun st'=>oh ms all os st' (fs++[sF E aj all (st.nu g) o true]) k)) else bif ny E (st.nu g) o then wU R F o (st.nu g) (fun st'=>oh ms all os st' (fs++[zX E all o]) k) else bif !(wX E aj (st.nu g) o) then none else runM E R aj F o (st.nu g) (fun st'=>oh ms all os st' (fs++[sF E aj all (st.nu g) o true]) k))else oh ms all os ((st.Bv g).gN o.dst .undef) (fs++[sF E aj all st o false]) k
  |.no=>none
end
def yF {R:iI}(key:Nat)(W:List Nat)(b:aH R.T)(sh:Shape)(outs:List (Ex×Shape))(body:{β:Type}->aH R.T->(Ex->aH R.T->Option β)->Option β):Nat->qY R.T sh->Option (Out R.T outs)
 |0,_=>none|m+1,p=>body (b.over (unpack R sh p)) fun e st=>match e with
  |.normal=>match nP R W st sh with
   |some p=>yF key W b sh outs body m p|none=>none
  |e=>wS R W e st outs
def aH.obs {T:Nat->Type}(st:aH T):aH T:=⟨[],st.ob⟩
def OE {R:iI}{β:Type}(body:aH R.T->(Ex->aH R.T->Option β)->Option β):Nat->aH R.T->(Ex->aH R.T->Option β)->Option β
 |0,_,_=>none|m+1,st,k=>body st fun e st'=>match e with
  |.normal=>OE body m st' k|e=>k e st'
def Fg {R:iI}{X:Type}(key:Nat)(W:List Nat)(b:aH R.T)(sh:Shape)(outs:List (Ex×Shape))(body:{β:Type}->X->aH R.T->(Ex->aH R.T->Option β)->Option β):List X->qY R.T sh->Option (Out R.T outs)
 | [],p=>wS R W .normal (unpack R sh p).obs outs|x::xs,p=>body x (b.over (unpack R sh p)) fun e st=>match e with
  |.normal=>match nP R W st.obs sh with
   |some p=>Fg key W b sh outs body xs p|none=>none
  |e=>wS R W e st.obs outs
def VO {R:iI}(a b:List (au R.T)):List (Ol R)->Option ((el:List aC)×Option (List (av R.T el)))
 | []=>none|i::l=>match dQ R i.a a,dQ R i.b b with
  |some pa,some pb=>bif gP i.a&& gP i.b&& gP i.el&& Nat.ble (l8 i.a) 18&& Nat.ble (l8 i.b) 18 then some ⟨i.el,i.F pa pb⟩ else none|_,_=>VO a b l
def VP {R:iI}(a b c:List (au R.T)):List (FO R)->Option ((el:List aC)×Option (List (av R.T el))×Bool)
 | []=>none|i::l=>match dQ R i.a a,dQ R i.b b,dQ R i.cs c with
  |some pa,some pb,some pc=>bif gP i.a&& gP i.b&& wW i.cs&& gP i.el&& Nat.ble (l8 i.a) 18&& Nat.ble (l8 i.b) 18 then some ⟨i.el,i.F pa pb pc,i.q⟩ else none|_,_,_=>VP a b c l
def zY (O:List Nat):List (Nat×fA)->Bool
 | []=>true| (o,_)::l=>!(bg o O)&& zY O l
def iterM {R:iI}(st:aH R.T)(I:IR R)(g:Nat)(u v:List (au R.T)):Option ((el:List aC)×Option (List (av R.T el))×Option Nat×Bool):=match v with
 |.ref o off::v'=>bif ni u&& ni v'&& Nat.beq off 0 then (match look st.ob o with
  |some (.cells c)=>match VP u v' c (I.io g) with
   |some ⟨el,xs,q⟩=>some ⟨el,xs,some o,q⟩|none=>none
  |_=>none) else none
 |v=>bif ni u&& ni v then (match VO u v (I.it g) with
  |some ⟨el,xs⟩=>some ⟨el,xs,none,true⟩|none=>none) else none
def Dt (jf:Option Nat)(W:List Nat):List Nat:=match jf with
 |some o=>o::W|none=>W
def agd (jf:Option Nat)(W:List Nat)(l:List (Nat×fA)):Bool:=match jf with
 |some o=>!(bg o W)&& zY [o] l|none=>true
def Fh {T:Nat->Type}(st:aH T):List Nat->List (au T)->Option (aH T)
 | [],[]=>some st|i::l,v::vs=>Fh (st.put i v) l vs|_,_=>none
def kT:List Oper->List Nat
 | []=>[]|o::l=>match o.dst with
  |some d=>d::E.cn d::kT l|none=>kT l
def bJ:Code->List Nat
 |.region _ ops _=>kT E ops.toList|.seq a b=>bJ a++bJ b|.cond _ a b=>bJ a++bJ b|.block _ c=>bJ c|.loop c=>bJ c|.scope c=>bJ c|.rangeFunc _ ps a b=>ps.toList++bJ a++bJ b|_=>[]
def oW:Code->Nat
 |.region i _ _=>i|.seq a _=>oW a|.loop a=>oW a+500|.scope a=>oW a|.block _ a=>oW a|.rangeFunc _ _ _ b=>oW b|_=>0
def jW:Code->Bool
 |.region _ ops _=>ops.toList.all (yD E)|.seq a b=>jW a&& jW b|.cond _ a b=>jW a&& jW b|.block _ c=>jW c|.loop c=>jW c|.scope c=>jW c|.rangeFunc _ _ _ _=>false|_=>true
variable (n:Nat)(aj:Bool)(F:Nat->List (fC R))(I:IR R)(A:bC)
def fK:Code->{β:Type}->aH R.T->(Ex->aH R.T->Option β)->Option β
 |.skip,_,st,k=>k .normal st|.region _ ops dr,_,st,k=>bif dr then (bif rZ ops.toList then oh E R aj F I.im (tH ops.toList) ops.toList ops.toList st [] (fun st=>k .normal st) else none) else yE E R aj F I.im ops.toList ops.toList st (fun st=>k .normal st)
 |.seq a b,_,st,k=>
  match look A.joins (oW b) with
  |none=>fK a st fun e st=>match e with
   |.normal=>fK b st k|e=>k e st
  |some q=>(fK (β:=Out R.T q.outs) a ((base (bJ E a) q.K q.O .ro st).over st) fun e st=>wS R (bJ E a) e st q.outs).bind (zT R (base (bJ E a) q.K q.O (fun b=>b) st) (fun e st=>match e with
   |.normal=>fK b st k|e=>k e st) q.outs)
 |.cond c a b,_,st,k=>match dF [] st c with
  |some (.jA t)=>bif t then fK a st k else fK b st k|some (.bool t)=>bif t then fK a (st.Ic c true) k else fK b (st.Ic c false) k|_=>none
 |.block id c,_,st,k=>fK c st fun e st=>match e with
  |.exit i=>bif Nat.beq i id then k .normal st else k (.exit i) st|e=>k e st
 |.loop c,_,st,k=>match look A.loops (oW c) with
  |some q=>match nP R (bJ E c) st q.sh with
   |some p=>(yF (oW c) (bJ E c) (base (bJ E c) q.K q.O .ro st) q.sh q.outs (fun st k=>fK c st k) n p).bind (zT R (base (bJ E c) q.K q.O (fun b=>b) st) k q.outs)
   |none=>none
  |none=>OE (fun st k=>fK c st k) 130 st k
 |.rangeFunc f ps a c,_,st,k=>match look A.loops (oW c) with
  |some q=>match dF [] st f with
   |some (.fn g u v)=>bif zY q.O q.sh.ob then (match iterM st I g u v with
    |some ⟨el,xs,jf,kq⟩=>bif agd jf (ps.toList++bJ E a++bJ E c) q.sh.ob&& (bif kq then jW E a&& jW E c else true) then (match nP R (ps.toList++bJ E a++bJ E c) st.obs q.sh with
     |some p=>(xs.bind fun xs=>Fg (oW c) (ps.toList++bJ E a++bJ E c) (base (Dt jf (ps.toList++bJ E a++bJ E c)) q.K q.O .ro st) q.sh q.outs (fun x st k=>match Fh st ps.toList (eF R .sh el x) with
       |some st=>fK a st fun e st=>match e with
        |.normal=>fK c st k|_=>none
       |none=>none) xs p).bind (zT R (base (Dt jf (ps.toList++bJ E a++bJ E c)) q.K q.O (fun b=>b) st) k q.outs)
     |none=>none) else none
    |none=>none) else none
   |_=>none
  |none=>none
 |.scope c,_,st,k=>fK c st k|.label _,_,st,k=>k .normal st|.exit i,_,st,k=>k (.exit i) st|.ret,_,st,k=>k .ret st|_,_,_,_=>none
def sG (st:aH R.T):List ResultVar->Option (List (au R.T))
 | []=>some []|.tmp t::l=>match dF [] st (.tmp t) with
  |some v=>match sG st l with
   |some vs=>some (v::vs)|none=>none
  |none=>none
 |.cell a t::l=>match dF [] st (.tmp a) with
  |some (.ref o off)=>match mE st o with
   |some (.cells cs)=>match nk E t cs off with
    |some v=>match sG st l with
     |some vs=>some (v::vs)|none=>none
    |none=>none
   |_=>none
  |_=>none
def vk {T:Nat->Type}:Nat->List (au T)->List (Nat×au T)
 |_,[]=>[]|i,v::l=>(i,v)::vk (i+1) l
def bP (fn:Func)(args res:List aC)(p:av R.T args):Option (av R.T res):=
 match fn.body with
 |some c=>fK E R n aj F I A c ⟨vk 0 (eF R .sh args p),[]⟩ fun e st=>match e with
  |.exit _=>none|_=>match sG E R st fn.results.toList with
   |some vs=>bif gP res&& Nat.ble (l8 res) 16 then dQ R res (ng st vs) else none|none=>none
 |none=>none
def aac {T:Nat->Type}:au T->Bool
 |.ay (.own _) _ _=>true|.ay .full _ _=>true|.fF=>true|_=>false
def wv1 {T:Nat->Type}(st:aH T)(k:aC)(v:au T):au T:=match k with
 |.sub _ _=>match Iu st v with
  |some (o,t,a,b)=>.sub o t a b|none=>v
 |_=>v
def VQ {T:Nat->Type}(st:aH T):List aC->List (au T)->List (au T)
 |k::l,v::vs=>wv1 st k v::VQ st l vs|_,vs=>vs
def Bz (fn:Func)(args:List aC)(obs:List (Nat×fA))(res:List aC)(p:av R.T args)(q:eD R.T obs):Option (av R.T res×eD R.T obs):=
 match fn.body with
 |some c=>fK E R n aj F I A c ⟨vk 0 (eF R .any args p),iF R obs q⟩ fun e st=>match e with
  |.exit _=>none|_=>match sG E R st fn.results.toList with
   |some vs=>match dQ R res (VQ st res vs) with
    |some y=>match lF R st.ob obs with
     |some q'=>some (y,q')|none=>none
    |none=>none
   |none=>none
 |none=>none
def aad (st:aH R.T):(k:sw)->au R.T->Option (tX R.T k)
 |.no,_=>none|.arr t,v=>match v with
  |.aM p t'=>if t'=t then (bif Nat.blt p F0 then (match mE st p with
   |some (.arr _ l)=>pW R l|_=>none) else none) else none
  |v=>bif uf v then some [] else none
 |.Ia g a b cs,v=>match v with
  |.fn g' a' (.ref p off::b')=>bif Nat.beq g' g&& (Nat.beq off 0&& (Nat.blt p F0&& (gP a&& (gP b&& wW cs))))&& (ni a'&& ni b'&& Nat.ble (l8 a) 18&& Nat.ble (l8 b) 18) then (match mE st p with
   |some (.cells c)=>match dQ R a a',dQ R b b',dQ R cs c with
    |some x,some y,some z=>some (x,y,z)|_,_,_=>none
   |_=>none) else none
  |_=>none
def aae (fn:Func)(args:List aC)(obs:List (Nat×fA))(jB:sw)(gV:List (Nat×fA))(p:av R.T args)(q:eD R.T obs):Option (tX R.T jB×eD R.T gV):=
 match fn.body with
 |some c=>fK E R n aj F I A c ⟨vk 0 (Dq R args p),iF R obs q⟩ fun e st=>match e with
  |.exit _=>none|_=>match sG E R st fn.results.toList with
   |some [v]=>match aad R st jB v with
    |some y=>match lF R st.ob gV with
     |some q'=>some (y,q')|none=>none
    |none=>none
   |_=>none
 |none=>none
def VR (fn:Func)(args:List aC)(τ:Ty)(p:av R.T args):Option (List (Den R.T τ)):=
 match fn.body with
 |some c=>fK E R n aj F I A c ⟨vk 0 (eF R .sh args p),[]⟩ fun e st=>match e with
  |.exit _=>none|_=>match sG E R st fn.results.toList with
   |some [v]=>bif aac v then EP R τ v else none|_=>none
 |none=>none
end
end aR
end
section
namespace aR
open Go
structure cZ where
 aj:Bool
 dp:Nat
 lo:Nat
 fl:Nat->Option Loc
 lt:∀o L,fl o=some L->F0<=o/\L.1<dp
 inj:∀o p L,fl o=some L->fl p=some L->o=p
def cZ.lc (c:cZ)(o:Nat):Loc:=match c.fl o with
 |some L=>L|none=>(c.dp,o)
theorem cZ.Fj (c:cZ){o:Nat}(h:o<F0):c.lc o=(c.dp,o):=by
 unfold cZ.lc;split
 ·rename_i L hL
  have:=(c.lt _ _ hL).1;omega
 ·rfl
theorem cZ.OG (c:cZ){o p:Nat}(h:c.lc o=c.lc p):o=p:=by
 unfold cZ.lc at h;split at h<;>split at h
 ·rename_i L h1 _ M h2;subst h;exact c.inj _ _ _ h1 h2
 ·rename_i L h1 _ h2;have:=(c.lt _ _ h1).2;rw[h] at this;exact absurd this (Nat.lt_irrefl _)
 ·rename_i h1 _ L h2;have:=(c.lt _ _ h2).2;rw[<-h] at this;exact absurd this (Nat.lt_irrefl _)
 ·exact congrArg Prod.snd h
theorem cZ.agf (c:cZ){o p:Nat}(h:o≠p):c.lc o≠c.lc p:=fun e=>h (c.OG e)
theorem cZ.vo (c:cZ)(o:Nat):(c.lc o).1<=c.dp:=by
 unfold cZ.lc;split
 ·rename_i L hL;exact Nat.le_of_lt (c.lt _ _ hL).2
 ·exact iP _
def cZ.out (c:cZ)(L:Loc):Prop:=∀o,L≠c.lc o
structure aV where
 ob:Nat->Option Nat
 tk:Nat->Option Nat
 ln:Nat->Nat
 aj:cZ
section
variable (R:iI)
def oZ:Ty->Bool
 |.st _=>false|_=>true
structure qE:Prop where
 OH:∀n p,R.of n (R.to n p)=p
 enc:∀n x,R.enc n x= .agg (encs R (R.lf n) (R.of n x))
 leaf:∀n,(R.lf n).all oZ=true
 pc:∀n x,aW (R.enc n x)=true
def IL (ρ:aV)(top:Nat->Nat)(sz len:Nat):Cp->Cap->Prop
 |.any,_=>True|.sh,c=>c= .sh|.nil,c=>c= .nil|.full,c=>c= .full|.own t,c=>c= .nil\/c= .full\/∃s,c= .own sz s/\ρ.tk t=some s/\top s=len
mutual
def aB (ρ:aV)(top:Nat->Nat):au R.T->V->Prop
 |.int k n,v=>v= .int k n|.bool b,v=>v= .bool b|.jA b,v=>v= .bool b|.str s,v=>v= .str s|.iC,v=>v= .iC|.gQ,v=>v= .gQ|.gD,v=>v= .gD|.iH,v=>v= .iH|.fF,v=>v= .ay .nil []|.agg cs,v=>∃l,v= .agg l/\aI ρ top cs l|.bB cs,v=>∃l,v= .bB l/\aI ρ top cs l|.ay c t l,v=>∃c',v= .ay c' (l.map (aP R t))/\IL ρ top (dA R t) l.length c c'|.ref o off,v=>∃s,ρ.ob o=some s/\v= .ref (ρ.aj.lc o) s off|.aY cs off,v=>∃l,v= .aY l off/\aI ρ top cs l
 |.cu o,v=>∃s,ρ.ob o=some s/\v= .cu (ρ.aj.lc o) s|.dV k e m,v=>v= .dV (m.map fun p=>aP R k p.1) (m.map fun p=>aP R e p.2)
 |.fn f a b,v=>∃a' b',v= .fn (.func f) a' b'/\aI ρ top a a'/\aI ρ top b b'|.opt _ _ _,_=>False|.aM o t,v=>(∃s,ρ.ob o=some s/\v= .aM (ρ.aj.lc o) s 0 (ρ.ln o) (ρ.ln o) (dA R t) (jq t))\/(ρ.ln o=0/\(v= .ay .nil []\/v= .ay .full []))|.sub o t a b,v=>0<=a/\a<=b/\b<=ρ.ln o/\((∃s cp,ρ.ob o=some s/\(b-a).toNat<=cp/\v= .aM (ρ.aj.lc o) s (a.toNat*dA R t) (b-a).toNat cp (dA R t) (jq t))\/(a=b/\∃c,v= .ay c []))
 |.lT o t i off,v=>∃s,ρ.ob o=some s/\0<=i/\v= .ref (ρ.aj.lc o) s (i.toNat*dA R t+off)|.sg ss,v=>v= .agg (l6 ss)|.sv o off k n lo hi,v=>∃s,ρ.ob o=some s/\af9 n lo hi=true/\v= .aM (ρ.aj.lc o) s (off+(IG lo).toNat) ((aga n hi).toNat-(IG lo).toNat) (n-(IG lo).toNat) 1 false|.sel o off k n i m,v=>∃s,ρ.ob o=some s/\0<=i/\i.toNat+m<=n/\v= .ref (ρ.aj.lc o) s (off+i.toNat)|.yx k n x i,v=>0<=i/\i<n/\v= .aY (x.l.map (V.int k)) i.toNat
 |.undef,v=>v=aL|.gone,_=>True
def aI (ρ:aV)(top:Nat->Nat):List (au R.T)->List V->Prop
 | [],l=>l=[]|t::ts,l=>∃v vs,l=v::vs/\aB ρ top t v/\aI ρ top ts vs
end
variable {R}
variable {ρ ρ':aV}{top top':Nat->Nat}
theorem aI.iq {vs:List V}(h:aI R ρ top [] vs):vs=[]:=by unfold aI at h;exact h
theorem aI.dS {t:au R.T}{ts:List (au R.T)}{vs:List V}(h:aI R ρ top (t::ts) vs):∃v l,vs=v::l/\aB R ρ top t v/\aI R ρ top ts l:=by unfold aI at h;exact h
theorem aB.kI {k:IntKind}{n:Int}{v:V}(h:aB R ρ top (.int k n) v):v= .int k n:=mQ
theorem aB.q9 {b:Bool}{v:V}(h:aB R ρ top (.bool b) v):v= .bool b:=mQ
theorem aB.vv {b:Bool}{v:V}(h:aB R ρ top (.jA b) v):v= .bool b:=mQ
theorem aB.o7 {b:List UInt8}{v:V}(h:aB R ρ top (.str b) v):v= .str b:=mQ
theorem aB.p8 {v:V}(h:aB R ρ top .fF v):v= .ay .nil []:=mQ
theorem aB.mH {cs:List (au R.T)}{v:V}(h:aB R ρ top (.agg cs) v):∃l,v= .agg l/\aI R ρ top cs l:=mQ
theorem aB.IQ {cs:List (au R.T)}{v:V}(h:aB R ρ top (.bB cs) v):∃l,v= .bB l/\aI R ρ top cs l:=mQ
theorem aB.lU {c:Cp}{t:Ty}{l:List (Den R.T t)}{v:V}(h:aB R ρ top (.ay c t l) v):∃c',v= .ay c' (l.map (aP R t))/\IL ρ top (dA R t) l.length c c':=mQ
theorem aB.uj {o off:Nat}{v:V}(h:aB R ρ top (.ref o off) v):∃s,ρ.ob o=some s/\v= .ref (ρ.aj.lc o) s off:=mQ
theorem aB.vw {cs:List (au R.T)}{off:Nat}{v:V}(h:aB R ρ top (.aY cs off) v):∃l,v= .aY l off/\aI R ρ top cs l:=mQ
theorem aB.zZ {o:Nat}{v:V}(h:aB R ρ top (.cu o) v):∃s,ρ.ob o=some s/\v= .cu (ρ.aj.lc o) s:=mQ
theorem aB.Du {k e:Ty}{m:List (Den R.T k×Den R.T e)}{v:V}(h:aB R ρ top (.dV k e m) v):v= .dV (m.map fun p=>aP R k p.1) (m.map fun p=>aP R e p.2):=mQ
theorem aB.lG {f:Nat}{a b:List (au R.T)}{v:V}(h:aB R ρ top (.fn f a b) v):∃a' b',v= .fn (.func f) a' b'/\aI R ρ top a a'/\aI R ρ top b b':=mQ
theorem aB.z8 {o:Nat}{t:Ty}{v:V}(h:aB R ρ top (.aM o t) v):(∃s,ρ.ob o=some s/\v= .aM (ρ.aj.lc o) s 0 (ρ.ln o) (ρ.ln o) (dA R t) (jq t))\/(ρ.ln o=0/\(v= .ay .nil []\/v= .ay .full [])):=mQ
theorem aB.BA {o:Nat}{t:Ty}{a b:Int}{v:V}(h:aB R ρ top (.sub o t a b) v):0<=a/\a<=b/\b<=ρ.ln o/\((∃s cp,ρ.ob o=some s/\(b-a).toNat<=cp/\v= .aM (ρ.aj.lc o) s (a.toNat*dA R t) (b-a).toNat cp (dA R t) (jq t))\/(a=b/\∃c,v= .ay c [])):=mQ
theorem aB.Fp {o off:Nat}{t:Ty}{i:Int}{v:V}(h:aB R ρ top (.lT o t i off) v):∃s,ρ.ob o=some s/\0<=i/\v= .ref (ρ.aj.lc o) s (i.toNat*dA R t+off):=mQ
theorem aB.VT {ss:List nM}{v:V}(h:aB R ρ top (.sg ss) v):v= .agg (l6 ss):=mQ
theorem aB.VU {o off n:Nat}{k:IntKind}{lo hi:Option Int}{v:V}(h:aB R ρ top (.sv o off k n lo hi) v):∃s,ρ.ob o=some s/\af9 n lo hi=true/\v= .aM (ρ.aj.lc o) s (off+(IG lo).toNat) ((aga n hi).toNat-(IG lo).toNat) (n-(IG lo).toNat) 1 false:=mQ
theorem aB.aaf {o off n m:Nat}{k:IntKind}{i:Int}{v:V}(h:aB R ρ top (.sel o off k n i m) v):∃s,ρ.ob o=some s/\0<=i/\i.toNat+m<=n/\v= .ref (ρ.aj.lc o) s (off+i.toNat):=mQ
theorem aB.aag {n:Nat}{k:IntKind}{x:Vec n}{i:Int}{v:V}(h:aB R ρ top (.yx k n x i) v):0<=i/\i<n/\v= .aY (x.l.map (V.int k)) i.toNat:=mQ
theorem aB.agh {v:V}(h:aB R ρ top .undef v):v=aL:=mQ
theorem aB.agi {j:Nat}{w:Bool}{x:au R.T}{v:V}(h:aB R ρ top (.opt j w x) v):False:=mQ
theorem aI.cons' {t:au R.T}{ts:List (au R.T)}{v:V}{vs:List V}(h:aB R ρ top t v)(h':aI R ρ top ts vs):aI R ρ top (t::ts) (v::vs):=⟨v,vs,rfl,h,h'⟩
theorem aI.length:∀{ts:List (au R.T)}{vs:List V},aI R ρ top ts vs->vs.length=ts.length
 | [],_,h=>by cases h;rfl|_::ts,_,⟨v,vs,e,_,h'⟩=>by subst e;simp[aI.length h']
theorem aI.append:∀{ts ts':List (au R.T)}{vs vs':List V},aI R ρ top ts vs->aI R ρ top ts' vs'->aI R ρ top (ts++ts') (vs++vs')
 | [],_,_,_,h,h2=>by cases h;exact h2|_::ts,_,_,_,⟨v,vs,e,h1,h'⟩,h2=>by subst e;exact .cons' h1 (aI.append h' h2)
theorem aI.drop:∀(n:Nat){ts:List (au R.T)}{vs:List V},aI R ρ top ts vs->aI R ρ top (ts.drop n) (vs.drop n)
 |0,_,_,h=>xJ|n+1,[],_,h=>by cases h;simp;rfl|n+1,_::ts,_,⟨v,vs,e,h1,h'⟩=>by subst e;simpa using aI.drop n h'
theorem aI.take:∀(n:Nat){ts:List (au R.T)}{vs:List V},aI R ρ top ts vs->aI R ρ top (ts.take n) (vs.take n)
 |0,_,_,h=>by simp;rfl|n+1,[],_,h=>by cases h;simp;rfl|n+1,_::ts,_,⟨v,vs,e,h1,h'⟩=>by subst e;simpa using .cons' h1 (aI.take n h')
theorem aI.get:∀{ts:List (au R.T)}{vs:List V}{i:Nat}{t:au R.T},aI R ρ top ts vs->ts[i]? =some t->∃v,vs[i]? =some v/\aB R ρ top t v
 | [],_,_,_,_,h=>uH|_::ts,_,0,_,⟨v,vs,e,h1,h'⟩,h=>by subst e;simp at h;subst h;exact⟨v,aD,h1⟩|_::ts,_,i+1,_,⟨v,vs,e,h1,h'⟩,h=>by subst e;simpa using aI.get h' xJ
mutual
theorem aB.wk (t:Nat)(ho:ρ'.ob=ρ.ob/\ρ'.ln=ρ.ln/\ρ'.aj=ρ.aj)(ht:∀u s,u≠t->ρ.tk u=some s->ρ'.tk u=some s/\top' s=top s):∀(x:au R.T)(v:V),aB R ρ top x v->aB R ρ' top' (wk t x) v
 |.ay (.own u) ty l,v,h=>by
  obtain⟨c',hv,hc⟩:=h;unfold aR.wk;by_cases e:Nat.beq u t=true
  ·rw[e,cond_true];exact⟨c',hv,trivial⟩
  ·have e':Nat.beq u t=false:=Bool.eq_false_iff.2 e
   rw[e',cond_false];refine⟨c',hv,?_⟩;rcases hc with hc|hc| ⟨s,h1,h2,h3⟩
   ·exact .inl hc
   ·exact .inr (.inl hc)
   ·have hne:u≠t:=fun h=>e (by rw[h];exact vS t)
    have:=ht u s hne h2;exact .inr (.inr ⟨s,h1,this.1,by rw[this.2];exact h3⟩)
 |.ay .any ty l,v,h=>by obtain⟨c',hv,hc⟩:=h;exact⟨c',hv,trivial⟩
 |.ay .sh ty l,v,h=>by obtain⟨c',hv,hc⟩:=h;exact⟨c',hv,hc⟩
 |.ay .nil ty l,v,h=>by obtain⟨c',hv,hc⟩:=h;exact⟨c',hv,hc⟩
 |.ay .full ty l,v,h=>by obtain⟨c',hv,hc⟩:=h;exact⟨c',hv,hc⟩
 |.agg cs,v,h=>by obtain⟨l,hv,hl⟩:=h;exact⟨l,hv,aI.wk t ho ht cs l hl⟩
 |.bB cs,v,h=>by obtain⟨l,hv,hl⟩:=h;exact⟨l,hv,aI.wk t ho ht cs l hl⟩
 |.aY cs off,v,h=>by obtain⟨l,hv,hl⟩:=h;exact⟨l,hv,aI.wk t ho ht cs l hl⟩
 |.fn f a b,v,h=>by obtain⟨a',b',hv,ha,hb⟩:=h;exact⟨a',b',hv,aI.wk t ho ht a a' ha,aI.wk t ho ht b b' hb⟩
 |.ref o off,v,h=>MN
 |.cu o,v,h=>MN
 |.aM o ty,v,h=>by
  rcases h with ⟨s,h1,h2⟩| ⟨h1,h2⟩
  ·exact .inl ⟨s,ad5,by rw[ho.2.1,ho.2.2];exact h2⟩
  ·exact .inr ⟨by rw[ho.2.1];exact h1,h2⟩
 |.sub o ty a b,v,h=>by
  obtain⟨k0,k1,k2,h⟩:=h;refine⟨k0,k1,by rw[ho.2.1];exact k2,?_⟩;rcases h with ⟨s,cp,h1,h2,h3⟩|h
  ·exact .inl ⟨s,cp,ad5,h2,by rw[ho.2.2];exact h3⟩
  ·exact .inr h
 |.lT o ty i off,v,h=>MN
 |.sv o _ _ _ _ _,v,h=>MN
 |.sel o _ _ _ _ _,v,h=>MN
 |.sg _,_,h=>h|.yx _ _ _ _,_,h=>h|.opt _ _ _,_,h=>h.elim|.int _ _,_,h=>h|.bool _,_,h=>h|.jA _,_,h=>h|.str _,_,h=>h|.iC,_,h=>h|.gQ,_,h=>h|.gD,_,h=>h|.iH,_,h=>h|.fF,_,h=>h|.dV _ _ _,_,h=>h|.undef,_,h=>h|.gone,_,h=>h
theorem aI.wk (t:Nat)(ho:ρ'.ob=ρ.ob/\ρ'.ln=ρ.ln/\ρ'.aj=ρ.aj)(ht:∀u s,u≠t->ρ.tk u=some s->ρ'.tk u=some s/\top' s=top s):∀(x:List (au R.T))(v:List V),aI R ρ top x v->aI R ρ' top' (zR t x) v
 | [],_,h=>h|x::xs,_,⟨v,vs,e,h1,h2⟩=>⟨v,vs,e,aB.wk t ho ht x v h1,aI.wk t ho ht xs vs h2⟩
end
mutual
theorem aB.kill (o:Nat)(ho:∀p,p≠o->ρ'.ob p=ρ.ob p/\ρ'.ln p=ρ.ln p)(ht:ρ'.tk=ρ.tk)(hx:ρ'.aj=ρ.aj):∀(x:au R.T)(v:V),nE o x=false->aB R ρ top x v->aB R ρ' top x v
 |.ay c ty l,v,_,h=>by
  obtain⟨c',hv,hc⟩:=h;refine⟨c',hv,?_⟩;cases c<;>try exact hc
  rcases hc with hc|hc| ⟨s,h1,h2,h3⟩
  ·exact .inl hc
  ·exact .inr (.inl hc)
  ·exact .inr (.inr ⟨s,h1,by rw[ht];exact h2,h3⟩)
 |.agg cs,v,hm,h=>by obtain⟨l,hv,hl⟩:=h;exact⟨l,hv,aI.kill o ho ht hx cs l hm hl⟩
 |.bB cs,v,hm,h=>by obtain⟨l,hv,hl⟩:=h;exact⟨l,hv,aI.kill o ho ht hx cs l hm hl⟩
 |.aY cs off,v,hm,h=>by obtain⟨l,hv,hl⟩:=h;exact⟨l,hv,aI.kill o ho ht hx cs l hm hl⟩
 |.fn f a b,v,hm,h=>by obtain⟨a',b',hv,ha,hb⟩:=h;unfold nE at hm;rw[rR] at hm;exact⟨a',b',hv,aI.kill o ho ht hx a a' hm.1 ha,aI.kill o ho ht hx b b' hm.2 hb⟩
 |.ref p off,v,hm,h=>MK
 |.cu p,v,hm,h=>MK
 |.aM p ty,v,hm,h=>by
  unfold nE at hm;obtain⟨k1,k2⟩:=ho p (fun e=>ad4);rcases h with ⟨s,h1,h2⟩| ⟨h1,h2⟩
  ·exact .inl ⟨s,k1.trans h1,by rw[k2,hx];exact h2⟩
  ·exact .inr ⟨by rw[k2];exact h1,h2⟩
 |.sub p ty a b,v,hm,h=>by
  unfold nE at hm;obtain⟨k1,k2⟩:=ho p (fun e=>ad4);obtain⟨g0,g1,g2,h⟩:=h;refine⟨g0,g1,by rw[k2];exact g2,?_⟩;rcases h with ⟨s,cp,h1,h2,h3⟩|h
  ·exact .inl ⟨s,cp,k1.trans h1,h2,by rw[hx];exact h3⟩
  ·exact .inr h
 |.lT p ty i off,v,hm,h=>MK
 |.sv p _ _ _ _ _,v,hm,h=>MK
 |.sel p _ _ _ _ _,v,hm,h=>MK
 |.sg _,_,_,h=>h|.yx _ _ _ _,_,_,h=>h|.opt _ _ _,_,_,h=>h.elim|.int _ _,_,_,h=>h|.bool _,_,_,h=>h|.jA _,_,_,h=>h|.str _,_,_,h=>h|.iC,_,_,h=>h|.gQ,_,_,h=>h|.gD,_,_,h=>h|.iH,_,_,h=>h|.fF,_,_,h=>h|.dV _ _ _,_,_,h=>h|.undef,_,_,h=>h|.gone,_,_,h=>h
theorem aI.kill (o:Nat)(ho:∀p,p≠o->ρ'.ob p=ρ.ob p/\ρ'.ln p=ρ.ln p)(ht:ρ'.tk=ρ.tk)(hx:ρ'.aj=ρ.aj):∀(x:List (au R.T))(v:List V),nO o x=false->aI R ρ top x v->aI R ρ' top x v
 | [],_,_,h=>h|x::xs,_,hm,⟨v,vs,e,h1,h2⟩=>by unfold nO at hm;rw[rR] at hm;exact⟨v,vs,e,aB.kill o ho ht hx x v hm.1 h1,aI.kill o ho ht hx xs vs hm.2 h2⟩
end
section
variable (hR:qE R)
include hR
def IU (v w:V):Prop:=fB v=w/\er v=w/\aW w=true/\(∀n σ,bG (n+2) σ v=some w)/\oneCell v=true/\v.cells=[v]
omit hR in
theorem asX {v:V}(h:∀cs,v≠ .agg cs):er v=fB v:=by cases v<;>first|rfl|exact absurd rfl (h _)
theorem qF:∀(t:Ty)(x:Den R.T t),aW (aP R t x)=true
 |.int _,x=>by simp[aP,aW]|.bool,x=>by simp[aP,aW]|.str,x=>by simp[aP,aW]|.slice t,x=>Og (qF t) x|.st n,x=>hR.pc n x
theorem agj (c:Cp)(hc:IL ρ top 1 0 c .sh/\(c= .any\/c= .sh)):∀(t:Ty)(x:Den R.T t),oZ t=true->aB R ρ top (Bo R c t x) (aP R t x)
 |.int _,x,_=>rfl|.bool,x,_=>rfl|.str,x,_=>rfl|.slice t,x,_=>⟨.sh,rfl,by rcases hc.2 with rfl|rfl<;>first|trivial|rfl⟩
 |.st n,x,h=>by simp[oZ] at h
theorem agk (c:Cp)(hc:IL ρ top 1 0 c .sh/\(c= .any\/c= .sh)):∀(l:List Ty)(p:pV R.T l),l.all oZ=true->aI R ρ top (fJ R c l p) (encs R l p)
 | [],_,_=>rfl| [t],x,h=>.cons' (agj hR c hc t x xJ) rfl|t::u::l,p,h=>by rw[List.all_cons,aT] at h;exact .cons' (agj hR c hc t p.1 h.1) (agk c hc (u::l) p.2 h.2)
theorem VW (c:Cp)(hc:c= .any\/c= .sh):∀(t:Ty)(x:Den R.T t),aB R ρ top (iJ R c t x) (aP R t x)
 |.int _,x=>rfl|.bool,x=>rfl|.str,x=>rfl|.slice t,x=>⟨.sh,rfl,by rcases hc with rfl|rfl<;>first|trivial|rfl⟩
 |.st n,x=>⟨_,hR.enc n x,agk hR c ⟨by rcases hc with rfl|rfl<;>first|trivial|rfl,hc⟩ _ _ (hR.leaf n)⟩
theorem agl (t:Ty)(x:Den R.T t):aB R ρ top (iJ R .sh t x) (aP R t x):=VW hR .sh (.inr rfl) t x
omit hR in
theorem asY (k:IntKind)(n:Int):IU (.int k n) (.int k n):=⟨rfl,rfl,vX,fun n σ=>Zq (n+1) _ _,rfl,rfl⟩
omit hR in
theorem asZ (b:Bool):IU (.bool b) (.bool b):=⟨rfl,rfl,vX,fun n σ=>Zr (n+1) _,rfl,rfl⟩
omit hR in
theorem as0 (b:List UInt8):IU (.str b) (.str b):=⟨rfl,rfl,vX,fun n σ=>Zt (n+1) _,rfl,rfl⟩
theorem as1 (c:Cap)(t:Ty)(l:List (Den R.T t)):IU (.ay c (l.map (aP R t))) (aP R (.slice t) l):=⟨rfl,rfl,qF hR (.slice _) _,fun n σ=>Bl _ _ (qF hR _),rfl,rfl⟩
omit hR in
theorem aah {k:IntKind}{x:Int}{tv:au R.T}{v:V}(h:Vg R k tv=some x)(hr:aB R ρ top tv v):v= .int k x:=by
 unfold Vg at h;split at h
 ·split at h
  ·rename_i e;cases e;cases h;exact hr.kI
  ·cases h
 ·cases h
omit hR in
theorem aai {x:Bool}{tv:au R.T}{v:V}(h:Vh R tv=some x)(hr:aB R ρ top tv v):v= .bool x:=by
 unfold Vh at h;split at h<;>cases h
 ·exact hr.q9
 ·exact hr.vv
omit hR in
theorem aaj {x:List UInt8}{tv:au R.T}{v:V}(h:Vi R tv=some x)(hr:aB R ρ top tv v):v= .str x:=by unfold Vi at h;split at h<;>cases h;exact hr.o7
omit hR in
theorem vB {t u:Ty}{l:List (Den R.T t)}{m:List (Den R.T u)}(h:pW R l=some m):t=u/\HEq l m:=by
 unfold pW at h;split at h
 ·rename_i e;subst e;cases h;exact⟨rfl,HEq.rfl⟩
 ·cases h
omit hR in
theorem agm {t:Ty}{x:List (Den R.T t)}{tv:au R.T}{v:V}(h:EP R t tv=some x)(hr:aB R ρ top tv v):∃c,v= .ay c (x.map (aP R t)):=by
 unfold EP at h;split at h
 ·obtain⟨e,e2⟩:=vB h;subst e;cases e2
  obtain⟨c',hv,hc⟩:=hr.lU;exact⟨c',hv⟩
 ·cases h;exact⟨.nil,hr.p8⟩
 ·cases h
theorem IV {t:Ty}{x:Den R.T t}{tv:au R.T}{v:V}(h:tY R t tv=some x)(hr:aB R ρ top tv v):IU v (aP R t x):=by
 cases t with
 |int k=>rw[aah h hr];exact asY _ _|bool=>rw[aai h hr];exact asZ _|str=>rw[aaj h hr];exact as0 _|slice t=>obtain⟨c,hv⟩:=agm h hr;rw[hv];exact as1 hR _ _ _
 |st n=>cases h
theorem as2 {t:Ty}{x:Den R.T t}{cs:List (au R.T)}{vs:List V}(h:tY R t (hd1 R cs)=some x)(hr:aI R ρ top cs vs):∃v,vs=[v]/\IU v (aP R t x):=by
 cases cs with
 |nil=>cases t<;>cases h|cons c cs=>
  cases cs with
  |nil=>obtain⟨v,l,rfl,h1,h2⟩:=hr.dS;rw[h2.iq];exact⟨v,rfl,IV hR h h1⟩
  |cons c' cs=>cases t<;>cases h
theorem agn:∀(l:List Ty)(p:pV R.T l)(cs:List (au R.T))(vs:List V),Dk R l cs=some p->aI R ρ top cs vs->
 vs.map fB=encs R l p/\(∀n σ,vs.mapM (bG (n+2) σ)=some (encs R l p))/\cB (encs R l p)=true/\vs.all (fun v=>oneCell v)=true
 | [],p,cs,vs,h,hr=>by
   cases cs with
   |nil=>rw[hr.iq];exact⟨rfl,fun _ _=>rfl,by simp[encs,cB],rfl⟩
   |cons c cs=>cases h
 | [t],p,cs,vs,h,hr=>by obtain⟨v,rfl,a,b,c,d,e,_⟩:=as2 hR (show tY R t (hd1 R cs)=some p from h) hr;exact⟨by simp[encs,a],fun n σ=>by simp[encs,d],by simp[encs,cB,c],zn⟩
 |t::u::l,p,cs,vs,h,hr=>by
  cases cs with
  |nil=>cases h|cons c cs=>
   obtain⟨v,vs,rfl,h1,h2⟩:=hr.dS;unfold Dk at h;cases hu:tY R t c with
   |none=>simp only[hu] at h;cases h|some y=>
    cases hs:Dk R (u::l) cs with
    |none=>simp only[hu,hs] at h;cases h|some q=>simp only[hu,hs] at h;obtain rfl:=jP h;obtain⟨a,b,c,d,e,_⟩:=IV hR hu h1;obtain⟨a',d',c',o'⟩:=agn (u::l) q cs vs hs h2;exact⟨by simp[encs,a,a'],fun n σ=>by simp[encs,d,d'],by simp[encs,cB,c,c'],by simp[e,o']⟩
omit hR in
theorem aak:∀(l:List Ty)(p:pV R.T l),(encs R l p).length=l.length
 | [],_=>rfl| [_],_=>rfl|_::u::l,p=>by show (encs R (u::l) p.2).length+1=_;rw[aak];rfl
omit hR in
theorem aal {n:Nat}{σ:ak}(cs:List V):bG (n+3) σ (.agg cs)=(cs.mapM (bG (n+2) σ)).map .agg:=by
 by_cases hp:aW (.agg cs)=true
 ·rw[mY hp]
  have:∀cs:List V,cB cs=true->cs.mapM (bG (n+2) σ)=some cs:=by
   intro cs;induction cs with
   |nil=>intro _;rfl|cons a l ih=>intro h;simp only[cB,aT] at h;rw[j5,mY h.1,ih h.2];rfl
  rw[this cs Cq];rfl
 ·conv=>lhs;unfold bG
  simp only[hp,if_false,dL]
theorem aam {t:Ty}{x:Den R.T t}{tv:au R.T}{v:V}(h:tZ R t tv=some x)(hr:aB R ρ top tv v):
 er v=aP R t x/\aW (aP R t x)=true/\(∀n σ,bG (n+3) σ v=some (aP R t x))/\v.cells.length=dA R t/\dU v.cells=true:=by
 cases t with
 |st n=>
  change ER R n tv=some x at h;unfold ER at h;split at h
  ·rename_i cs
   split at h
   ·rename_i p hp
    obtain rfl:=jP h;obtain⟨l,hv,hl⟩:=hr.mH;subst hv;obtain⟨a,d,c,o⟩:=agn hR _ _ _ _ hp hl;have he:aP R (.st n) (R.to n p)= .agg (encs R (R.lf n) p):=(by show R.enc n (R.to n p)=_;rw[hR.enc,hR.OH]);refine⟨?_,qF hR (.st n) _,fun k σ=>?_,?_,o⟩
    ·rw[he];show V.agg (l.map fB)=_;rw[a]
    ·rw[he,aal,d k σ];rfl
    ·show l.length=_
     have:=congrArg List.length a;rw[iG] at this;rw[this];exact aak _ _
   ·cases h
  ·cases h
 |int k=>obtain⟨a,b,c,d,e,f⟩:=IV hR (t:=.int k) h hr;exact⟨b,c,fun n σ=>d (n+1) σ,by rw[f];rfl,Uq⟩
 |bool=>obtain⟨a,b,c,d,e,f⟩:=IV hR (t:=.bool) h hr;exact⟨b,c,fun n σ=>d (n+1) σ,by rw[f];rfl,Uq⟩
 |str=>obtain⟨a,b,c,d,e,f⟩:=IV hR (t:=.str) h hr;exact⟨b,c,fun n σ=>d (n+1) σ,by rw[f];rfl,Uq⟩
 |slice t=>obtain⟨a,b,c,d,e,f⟩:=IV hR (t:=.slice t) h hr;exact⟨b,c,fun n σ=>d (n+1) σ,by rw[f];rfl,Uq⟩
end
end
end aR
end
