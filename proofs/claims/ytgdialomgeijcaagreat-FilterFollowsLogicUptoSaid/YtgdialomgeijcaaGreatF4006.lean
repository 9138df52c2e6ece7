import Derived.Test.YtgdialomgeijcaaGreatF4005
set_option linter.all false
section
namespace Aq
open Go
inductive Sl (R:TQ) where
 |t (v:TV R.T)
 |c (b:Bool) (v:TV R.T)
 |w (v:TV R.T) (st:MS R.T)
 |wc (b:Bool) (v:TV R.T) (st:MS R.T)
 |p (U:Type) (d:U) (o:Option U) (f:U->TV R.T)
section
variable (E:Env)(R:TQ)
def agG {T:Nat->Type}(agg:Bool)(n:Nat)(cs:List (TV T))(off:Nat):Option (TV T):=bif agg then (bif Nat.ble (off+n) cs.length then some (.agg ((cs.drop off).take n)) else none) else cs[off]?
def Vb {T:Nat->Type}(t:TypeId)(cs:List (TV T))(off:Nat):Option (TV T):=
 match VD E.P t with
 |some a=>match RY E.P t with
  |some n=>agG a n cs off|none=>none
 |none=>none
def adT {T:Nat->Type}(cs:List (TV T))(off:Nat)(vs:List (TV T)):List (TV T):=cs.take off++vs++cs.drop (off+vs.length)
def agH {T:Nat->Type}(place:Nat->Option (Nat×Nat))(cells:List (TV T)):List (Nat×TV T)->Option (List (TV T))
 | []=>some cells| (i,v)::rest=>match place i with
   |none=>none|some (off,size)=>bif Nat.beq v.cells.length size&& Nat.ble (off+size) cells.length&& Yk v then agH place (adT cells off v.cells) rest else none
def acf {T:Nat->Type}(t:TypeId):Option (TV T):=match E.P.info? t with
 |some i=>match i.zero with
  |some z=>adN z|none=>none
 |none=>none
def bM {T:Nat->Type}:TV T->Option Bool
 |.bool a=>some a|.TN a=>some a|_=>none
def agI {T:Nat->Type}(x y:TV T):Option Bool:=match bM x,bM y with
 |some a,some b=>some (a==b)|_,_=>none
def adU {T:Nat->Type}(eq:TypeId->TV T->TV T->Option Bool)(xs ys:List (TV T)):List Field->Option Bool
 | []=>some true|f::fs=>if f.name= "_" then adU eq xs ys fs else match Vb E f.type xs f.offset with
  |none=>none|some a=>match Vb E f.type ys f.offset with
   |none=>none|some b=>match eq f.type a b with
    |none=>none|some r=>match adU eq xs ys fs with
     |none=>none|some q=>some (r&& q)
def aeU {T:Nat->Type}(eq:TypeId->TV T->TV T->Option Bool)(e:TypeId)(sz:Nat)(xs ys:List (TV T)):List Nat->Option Bool
 | []=>some true|i::is=>match Vb E e xs (i*sz) with
  |none=>none|some a=>match Vb E e ys (i*sz) with
   |none=>none|some b=>match eq e a b with
    |none=>none|some r=>match aeU eq e sz xs ys is with
     |none=>none|some q=>some (r&& q)
def adV {T:Nat->Type}:Nat->TypeId->TV T->TV T->Option Bool
 |0,_,_,_=>none|d+1,t,x,y=>
  match E.P.underlying t,x,y with
  |some (.struct fs),.agg xs,.agg ys=>if E.P.stoodInHeld t then none else adU E (adV d) xs ys fs.toList|some (.array n e),.agg xs,.agg ys=>match RY E.P e with
   |some sz=>aeU E (adV d) e sz xs ys (List.range n)|none=>none
  |some (.struct _),_,_=>none|some (.array _ _),_,_=>none|some .bool,x,y=>agI x y|some (.int _),.int k a,.int k' b=>if k=k' then some (a==b) else none|some .string,.str a,.str b=>some (a==b)|_,_,_=>none
def eqM {T:Nat->Type}(t:TypeId)(x y:TV T):Option Bool:=
 match E.P.underlying t,x,y with
 |some (.struct _),.agg a,.agg b=>if E.P.eqGuardType E.P.depth t then none else adV E 8 t (.agg a) (.agg b)|some (.array _ _),.agg a,.agg b=>if E.P.eqGuardType E.P.depth t then none else adV E 8 t (.agg a) (.agg b)|some (.func ..),.Tm,.Tm=>some true|some (.func ..),.Tm,.fn _ _ _=>some false|some (.func ..),.fn _ _ _,.Tm=>some false|some .bool,x,y=>agI x y|_,_,_=>none
def agK (op:BinOp)(k:IntKind)(x y:Int):Option (Sl R):=
 match op with
 |.add=>some (.t (.int k (k.wrap (x+y))))|.sub=>some (.t (.int k (k.wrap (x-y))))|.mul=>some (.t (.int k (k.wrap (x*y))))|.quo=>some (.c (!(y==0)) (.int k (k.wrap (x.tdiv y))))|.rem=>some (.c (!(y==0)) (.int k (x.tmod y)))|.and=>some (.t (.int k (k.wrap (BitVec.ofInt k.bits x&&& BitVec.ofInt k.bits y).toNat)))|.or=>some (.t (.int k (k.wrap (BitVec.ofInt k.bits x|||BitVec.ofInt k.bits y).toNat)))|.xor=>some (.t (.int k (k.wrap (BitVec.ofInt k.bits x^^^BitVec.ofInt k.bits y).toNat)))
 |.andNot=>some (.t (.int k (k.wrap (BitVec.ofInt k.bits x&&& ~~~BitVec.ofInt k.bits y).toNat)))|.eql=>some (.t (.bool (x==y)))|.neq=>some (.t (.bool (x !=y)))|.lss=>some (.t (.bool (decide (x<y))))|.leq=>some (.t (.bool (decide (x<=y))))|.gtr=>some (.t (.bool (decide (x>y))))|.geq=>some (.t (.bool (decide (x>=y))))|_=>none
def ait (op:BinOp)(k:IntKind)(x y:Int):Option (Sl R):=
 match op with
 |.shl=>some (.c (decide (0<=y)) (.int k (k.wrap (x*2^min y.toNat k.bits))))|.shr=>some (.c (decide (0<=y)) (.int k (x.fdiv (2^min y.toNat k.bits))))|_=>none
def aiu (op:BinOp)(x y:List UInt8):Option (Sl R):=
 match op with
 |.add=>some (.c (decide (((x.length+y.length:Nat):Int)<=IntKind.i64.max)) (.str (x++y)))|.eql=>some (.t (.bool (x==y)))|.neq=>some (.t (.bool (!(x==y))))|.lss=>some (.t (.bool (Op.bytesLess x y)))|.leq=>some (.t (.bool (Op.bytesLess x y||x==y)))|.gtr=>some (.t (.bool (!(Op.bytesLess x y||x==y))))|.geq=>some (.t (.bool (!(Op.bytesLess x y))))|_=>none
def adW:BinOp->Bool
 |.shl=>true|.shr=>true|_=>false
def aiv (op:BinOp)(t:TypeId)(x y:TV R.T):Option (Sl R):=
 match x,y with
 |.int k a,.int k' b=>bif adW op then ait R op k a b else (if k=k' then agK R op k a b else none)|.str a,.str b=>aiu R op a b|x,y=>match op with
  |.eql=>match eqM E t x y with
   |some b=>some (.t (.bool b))|none=>none
  |.neq=>match eqM E t x y with
   |some b=>some (.t (.bool (!b)))|none=>none
  |_=>none
def unM (op:UnOp)(x:TV R.T):Option (Sl R):=
 match op,x with
 |.neg,.int k n=>some (.t (.int k (k.wrap (0-n))))|.xor,.int k n=>agK R .xor k (if k.signed then-1 else k.max) n|.not,.bool b=>some (.t (.bool (!b)))|.not,.TN b=>some (.t (.TN (!b)))|_,_=>none
def agL (src dst:TypeId)(x:TV R.T):Option (Sl R):=
 match E.P.underlying src,E.P.underlying dst,x with
 |some _,some (.int k),.int _ n=>some (.t (.int k (k.wrap n)))|some _,some .string,.str s=>some (.t (.str s))|_,_,_=>none
def Yn (i:Int)(n:Nat):Bool:=decide (0<=i/\i<=n)
def adX:Option (TV R.T)->Option (Option Int)
 |none=>some none|some (.int _ n)=>some (some n)|_=>none
def adY {U:Type}(l:List U):Option Int->Option Int->List U
 |none,none=>l|some i,none=>l.drop i.toNat|none,some j=>l.take j.toNat|some i,some j=>(l.take j.toNat).drop i.toNat
def ao4 (n:Nat):Option Int->Option Int->Bool
 |none,none=>true|some i,none=>Yn i n|none,some j=>Yn j n|some i,some j=>Yn j n&& Yn i j.toNat
def agM (t:TypeId)(x:TV R.T)(lo hi:Option (TV R.T)):Option (Sl R):=
 match adX R lo,adX R hi with
 |some lo,some hi=>match E.P.underlying t,x with
  |some (.slice e),.tX _ u l=>match RY E.P e with
   |some sz=>bif Nat.beq sz (RU R u) then some (.c (ao4 l.length lo hi) (.tX .any u (adY l lo hi))) else none|none=>none
  |_,_=>none
 |_,_=>none
def asW {T:Nat->Type}(st:MS T):TV T->Option (Nat×Ty×Int×Int)
 |.vw o t=>match WM st o with
  |some (.arr _ l)=>some (o,t,0,(l.length:Int))|_=>none
 |.sub o t a b=>some (o,t,a,b)|_=>none
def VG (a b c:Int):Bool:=decide (0<=a/\a<=b/\b<=c)
def Uu (i n:Int):Bool:=decide (0<=i/\i<n)
def WQ (n:Int):Option Int->Int
 |some i=>i|none=>n
def VH:Option Int->Int
 |some i=>i|none=>0
def agN (t:TypeId)(x:TV R.T)(lo hi:Option (TV R.T))(st:MS R.T):Option (Sl R):=
 match asW st x,adX R lo,adX R hi,E.P.underlying t with
 |some (o,τ,a,b),some lo,some hi,some (.slice e)=>match RY E.P e with
  |some sz=>bif Nat.beq sz (RU R τ) then some (.c (VG (VH lo) (WQ (b-a) hi) (b-a)) (.sub o τ (a+VH lo) (a+WQ (b-a) hi))) else none|none=>none
 |_,_,_,_=>none
def acg (t:TypeId)(x:TV R.T)(lo hi:Option (TV R.T))(st:MS R.T):Option (Sl R):=
 match agN E R t x lo hi st with
 |some r=>some r|none=>agM E R t x lo hi
def ao5 {T:Nat->Type}(t:TypeId)(f:Nat)(x:TV T):Option (TV T):=
 match YG E.P t f with
 |some (o,_)=>match x with
  |.ref p off=>some (.ref p (off+o))|.Q9 cs off=>some (.Q9 cs (off+o))|.UK p t i off=>some (.UK p t i (off+o))|_=>none
 |none=>none
def SV (R:TQ):(t:Ty)->Den R.T t->Den R.T t->Bool
 |.int _=>fun (a b:Int)=>a==b
 |.bool=>fun (a b:Bool)=>a==b
 |.str=>fun (a b:List UInt8)=>a==b
 |.slice _=>fun _ _=>false
 |.st _=>fun _ _=>false
def abE (t:TypeId)(k:Ty):Bool:=match E.P.underlying t,k with
 |some (.int _),.int _=>true|some .string,.str=>true|some .bool,.bool=>true|_,_=>false
def Vd {U β:Type}(eq:U->U->Bool)(x:U):List (U×β)->Option β
 | []=>none| (a,v)::m=>bif eq x a then some v else Vd eq x m
def WR {U β:Type}(eq:U->U->Bool)(x:U)(v:β):List (U×β)->List (U×β)
 | []=>[(x,v)]| (a,w)::m=>bif eq x a then (x,v)::m else (a,w)::WR eq x v m
def Yo {U:Type}(d:U):Option U->U
 |some x=>x|none=>d
def unE (t:Ty)(v:TV R.T):Option (Den R.T t):=bif Un v then WL R t v else none
def aeV (t:TypeId)(k e:Ty)(m:List (Den R.T k×Den R.T e))(x:TV R.T)(ok:Bool):Option (Sl R):=
 match YH E.P t with
 |some (kt,et)=>bif abE E kt k then (match acf (T:=R.T) E et with
  |some z=>match WL R e z,WL R k x with
   |some z,some x=>some (.t (bif ok then .Rw [Tn R .any e (Yo z (Vd (SV R k) x m)),.bool (Vd (SV R k) x m).isSome] else Tn R .any e (Yo z (Vd (SV R k) x m))))|_,_=>none
  |none=>none) else none
 |none=>none
def agO (t:TypeId)(m x:TV R.T)(ok:Bool)(st:MS R.T):Option (Sl R):=
 match m with
 |.RP o=>match WM st o with
  |some (.map k e m)=>aeV E R t k e m x ok|_=>none
 |.Si k e m=>aeV E R t k e m x ok|.S9=>match YH E.P t with
  |some (kt,et)=>match R.ty kt,R.ty et with
   |some k,some e=>aeV E R t k e [] x ok|_,_=>none
  |none=>none
 |_=>none
def agP {T:Nat->Type}:TV T->TV T->Option Bool
 |.int k a,.int k' b=>if k=k' then some (a==b) else none|.str a,.str b=>some (a==b)|_,_=>none
def agQ {T:Nat->Type}(t:TypeId):TV T->Bool:=fun v=>match E.P.underlying t,v with
 |some (.int _),.int _ _=>true|some .string,.str _=>true|_,_=>false
def agR {T:Nat->Type}(x v:TV T):List (TV T)->List (TV T)->Option (List (TV T)×List (TV T))
 | [],[]=>some ([x],[v])|a::ks,w::vs=>match agP x a with
  |some b=>bif b then some (x::ks,v::vs) else (match agR x v ks vs with
   |some (ks,vs)=>some (a::ks,w::vs)|none=>none)
  |none=>none
 |_,_=>none
def adZ (t:TypeId)(m x v:TV R.T)(st:MS R.T):Option (Sl R):=
 match m with
 |.RP o=>match look st.ob o with
  |some (.map k e m)=>match YH E.P t with
   |some (kt,_)=>bif abE E kt k then (match WL R k x,unE R e v with
    |some x,some v=>some (.w .undef (st.set o (.map k e (WR (SV R k) x v m))))|_,_=>none) else none
   |none=>none
  |some (.smap ks vs)=>match YH E.P t with
   |some (kt,_)=>bif agQ E kt x then (match agR x v ks vs with
    |some (ks,vs)=>some (.w .undef (st.set o (.smap ks vs)))|none=>none) else none
   |none=>none
  |_=>none
 |_=>none
def TJ:Ty->Bool
 |.st _=>true|_=>false
def elM (t:TypeId):Option (TypeId×Ty×Nat×Nat):=
 match U8 E.P t with
 |some e=>match R.ty e,RY E.P e,aaM E.P e,VD E.P e,Ut E.P e with
  |some u,some sz,some SQ,some ag,some z=>bif Nat.beq sz (RU R u)&& Nat.blt 0 sz&& (ag||Nat.beq sz 1)&& Nat.beq z.cells.length sz&& (ag==TJ u) then some (e,u,sz,SQ) else none|_,_,_,_,_=>none
 |none=>none
def abF (t:Ty)(n:Nat):List (Nat×TV R.T)->Option (List (Den R.T t))
 | []=>some []| (i,v)::l=>bif Nat.beq i n then (match WL R t v with
   |some x=>match abF t (n+1) l with
    |some y=>some (x::y)|none=>none
   |none=>none) else none
def aix (t:TypeId)(len:Nat)(ps:List (Nat×TV R.T)):Option (Sl R):=
 match elM E R t with
 |some (_,u,sz,_)=>bif Nat.ble (len*sz) (2^24)&& Nat.beq ps.length len then (match abF R u 0 ps with
  |some l=>some (.t (.tX .full u l))|none=>none) else none
 |none=>none
def aiy (d:Option Nat)(t:TypeId)(len:Nat)(ps:List (Nat×TV R.T))(st:MS R.T):Option (Sl R):=
 match d,elM E R t with
 |some d,some (_,u,sz,_)=>bif Nat.ble (len*sz) (2^24)&& Nat.beq ps.length len then (match abF R u 0 ps with
  |some l=>bif Nat.ble F0 (E.cn d) then none else some (.w (.vw (E.cn d) u) (st.new (E.cn d) (.arr u l)))|none=>none) else none
 |_,_=>none
def agS (u:Ty):TV R.T->Option (List (Den R.T u))
 |.tX _ _ l=>WK R l|.Uc=>some []|.str s=>WK (t:=.int .u8) (u:=u) R (s.map fun b=>(b.toNat:Int))
 |_=>none
def ao7 (u:Ty)(d:Nat):TV R.T->Option (Nat×List (Den R.T u))
 |.tX .nil _ l=>match WK R l with
  |some l=>some (d,l)|none=>none
 |.tX .full _ l=>match WK R l with
  |some l=>some (d,l)|none=>none
 |.tX (.own t) _ l=>match WK R l with
  |some l=>some (t,l)|none=>none
 |.Uc=>some (d,[])|_=>none
def ad1 (t:TypeId):Bool:=match E.P.underlying t with
 |some (.slice _)=>true|some .string=>true|_=>false
def aeW (d:Option Nat)(t u:TypeId)(x y:TV R.T)(st:MS R.T):Option (Sl R):=
 match d with
 |some d=>match elM E R t with
  |some (_,τ,_,SQ)=>bif ad1 E u then (match ao7 R τ d x,agS R τ y with
   |some (tk,l),some l'=>some (.wc (SB (l.length+l'.length) SQ) (.tX (.own tk) τ (l++l')) (st.wk tk))|_,_=>none) else none
  |none=>none
 |none=>none
def aeX (d:Option Nat)(t u:TypeId)(x y:TV R.T)(st:MS R.T):Option (Sl R):=
 match d with
 |some d=>bif Nat.ble F0 (E.cn d) then none else match elM E R t with
  |some (_,τ,_,SQ)=>bif ad1 E u then (match agS R τ y with
   |some l'=>match x with
    |.vw o τ0=>if τ0=τ then (match look st.ob o with
     |some (.arr τ' l)=>match WK R (u:=τ) l with
      |some l=>bif Nat.beq o (E.cn d) then some (.wc (SB (l.length+l'.length) SQ) (.vw (E.cn d) τ) ((st.del o).new (E.cn d) (.arr τ (l++l')))) else (match l' with
       |a::l'=>some (.wc (SB (l.length+(a::l').length) SQ) (.vw (E.cn d) τ) ((st.del o).new (E.cn d) (.arr τ (l++a::l'))))| []=>none)
      |none=>none
     |_=>none) else none
    |x=>bif isE x then some (.wc (SB l'.length SQ) (.vw (E.cn d) τ) (st.new (E.cn d) (.arr τ l'))) else none
   |none=>none) else none
  |none=>none
 |none=>none
def aiz (om:Bool)(d:Option Nat)(t:TypeId)(n m:TV R.T)(st:MS R.T):Option (Sl R):=(fun (_:Env) (_:TQ) (_:Bool) (_:Option Nat) (_:TypeId) (_ _:TV R.T) (_:MS R.T)=>none) E R om d t n m st
def mmM {T:Nat->Type}(_:Bool):TV T->List (TV T)->Option (TV T):=fun _ _=>none
def aiA {T:Nat->Type}(t:TypeId)(x:TV T)(st:MS T):Option Nat:=
 match E.P.underlying t,x with
 |some (.slice _),.tX _ _ l=>some l.length|some (.slice _),.Uc=>some 0|some (.slice _),.vw o _=>match WM st o with
  |some (.arr _ l)=>some l.length|_=>none
 |some (.slice _),.sub _ _ a b=>some (b-a).toNat|some .string,.str s=>some s.length|some (.map _ _),.RP o=>match WM st o with
  |some (.map _ _ m)=>some m.length|_=>none
 |some (.map _ _),.Si _ _ m=>some m.length|some (.map _ _),.S9=>some 0|some (.array n _),_=>some n|_,_=>none
def Ve {U:Type}(l:List U)(a b:Int)(z:U):List U:=l.take a.toNat++(List.replicate (b-a).toNat z++l.drop b.toNat)
def aiB (t:TypeId)(x:TV R.T)(st:MS R.T):Option (Sl R):=
 match asW st x,elM E R t with
 |some (o,τ,a,b),some (e,τ',_,_)=>if τ'=τ then (match look st.ob o,acf (T:=R.T) E e with
  |some (.arr τ2 l),some z=>match WK R (u:=τ) l,WL R τ z with
   |some l,some z'=>bif abD z.cells&& Yk z then some (.w .undef (st.set o (.arr τ (Ve l a b z')))) else none|_,_=>none
  |_,_=>none) else none
 |_,_=>none
def blt (om:Bool)(d:Option Nat)(b:Builtin)(tys:Array TypeId)(args:List (TV R.T))(st:MS R.T):Option (Sl R):=
 match b,args with
 |.len,[x]=>match tys[0]? with
  |some t=>match aiA E t x st with
   |some n=>some (.t (.int .i64 ((n:Nat):Int)))|none=>none
  |none=>none
 |.append,[x,y]=>match tys[0]?,tys[1]? with
  |some t,some u=>bif om then aeX E R d t u x y st else aeW E R d t u x y st|_,_=>none
 |.clear,[x]=>match tys[0]? with
  |some t=>aiB E R t x st|none=>none
 |.min,x::l=>match mmM false x l with
  |some v=>some (.t v)|none=>none
 |.max,x::l=>match mmM true x l with
  |some v=>some (.t v)|none=>none
 |_,_=>none
def ao8:List (TV R.T)->TV R.T
 | [v]=>v|vs=>.Rw vs
def findF (args RA:List (TV R.T)):List (FR R)->Option (Sl R)
 | []=>none|r::l=>match Ug R r.args RA with
  |some p=>bif UM r.args&& Nat.ble (Yl r.args) 18&& UM r.res&& (ac1 args||adP r.res) then some (.p (FN R.T r.res) r.d (r.F p) fun x=>ao8 R (TH R .sh r.res x)) else none
  |none=>findF args RA l
def iaM (t:TypeId)(x i:TV R.T):Option (Sl R):=
 match E.P.underlying t,x,i with
 |some (.slice e),.tX _ u l,.int _ n=>match RY E.P e with
  |some sz=>bif Nat.beq sz (RU R u) then some (.p (Den R.T u) (dfl R u) (Q5 l n) fun y=>.Q9 (Tn R .sh u y).cells 0) else none
  |none=>none
 |some (.array n e),.ref o off,.int _ k=>match RY E.P e with
  |some sz=>some (.c (decide (0<=k/\k<n)) (.ref o (off+k.toNat*sz)))|none=>none
 |some (.array n e),.Q9 cs off,.int _ k=>match RY E.P e with
  |some sz=>some (.c (decide (0<=k/\k<n)) (.Q9 cs (off+k.toNat*sz)))|none=>none
 |_,_,_=>none
def ivM (t:TypeId)(o:Nat)(τ:Ty)(i:TV R.T)(st:MS R.T):Option (Sl R):=
 match E.P.underlying t,i with
 |some (.slice e),.int _ n=>match RY E.P e with
  |some sz=>bif Nat.beq sz (RU R τ) then (match WM st o with
   |some (.arr _ l)=>some (.c (decide (0<=n/\n< (l.length:Int))) (.UK o τ n 0))|_=>none) else none
  |none=>none
 |_,_=>none
def isM (t:TypeId)(o:Nat)(τ:Ty)(a b:Int)(i:TV R.T):Option (Sl R):=
 match E.P.underlying t,i with
 |some (.slice e),.int _ n=>match RY E.P e with
  |some sz=>bif Nat.beq sz (RU R τ) then some (.c (Uu n (b-a)) (.UK o τ (a+n) 0)) else none|none=>none
 |_,_=>none
def auJ {T:Nat->Type}:Option (TV T)->TV T
 |some v=>v|none=>.gone
def aiF (t:TypeId)(τ:Ty)(i:Int)(off:Nat)(o:Ob R.T):Option (Sl R):=
 match o with
 |.arr τ' l=>match WK R (u:=τ) l with
  |some l=>bif (Vb E t (Tn R .any τ (dfl R τ)).cells off).isSome then some (.p (Den R.T τ) (dfl R τ) (Q5 l i) fun y=>auJ (Vb E t (Tn R .any τ y).cells off)) else none
  |none=>none
 |_=>none
def unC (τ:Ty)(cs:List (TV R.T)):Option (Den R.T τ):=match τ with
 |.st n=>acX R n (.agg cs)|.int k=>X0 R (.int k) (hd1 R cs)|.bool=>X0 R .bool (hd1 R cs)|.str=>X0 R .str (hd1 R cs)|.slice t=>X0 R (.slice t) (hd1 R cs)
def ixM (t:TypeId)(x i:TV R.T):Option (Sl R):=
 match E.P.underlying t,x,i with
 |some .string,.str s,.int _ n=>some (.p UInt8 0 (Q5 s n) fun b=>.int .u8 (b.toNat:Int))
 |_,_,_=>none
def ad2 {T:Nat->Type}(c:Bool):TV T->TV T->Option (TV T)
 |.int k a,.int k' b=>if k=k' then some (.int k (bif c then a else b)) else none|.bool a,.bool b=>some (.bool (bif c then a else b))|.bool a,.TN b=>some (.bool (bif c then a else b))|.TN a,.bool b=>some (.bool (bif c then a else b))|.TN a,.TN b=>some (.bool (bif c then a else b))|.str a,.str b=>some (.str (bif c then a else b))|_,_=>none
def svB (n:Nat):Option Int->Option Int->Bool
 |none,none=>true|some i,none=>decide (0<=i/\(i<n\/i=0))|none,some j=>decide (0<=j/\j<=n)|some i,some j=>decide (0<=i/\i<=j/\j<=n/\(i<j\/i=0))
def loI:Option Int->Int
 |some i=>i|none=>0
def hiI (n:Nat):Option Int->Int
 |some i=>i|none=>n
def Yp (g:List (Nat×Bool))(d:Option Nat)(o:Op)(st:MS R.T):Option (Sl R):=(fun (_:Env) (_:TQ) (_:List (Nat×Bool)) (_:Option Nat) (_:Op) (_:MS R.T)=>none) E R g d o st
def Yq (om:Bool)(F:Nat->List (FR R))(g:List (Nat×Bool))(d:Option Nat)(o:Op)(st:MS R.T):Option (Sl R):=
 match o with
 |.move x=>bif fzM E d then (match RV g st x with
  |some (.vw p t)=>match look st.ob p with
   |some (.arr t' l)=>match WK R (u:=t) l with
    |some l=>some (.w (.tX .any t l) (st.del p))|none=>none
   |_=>none
  |some (.int k n)=>some (.t (.int k n))|_=>none) else (match RV g st x with
  |some v=>some (.t v)|none=>none)
 |.assign x=>match RV g st x with
  |some v=>some (.t v)|none=>none
 |.pick c a b=>match c with
  |.tmp j=>match RV g st c with
   |some (.bool t)=>match RV ((j,true)::g) st a,RV ((j,false)::g) st b with
    |some x,some y=>match ad2 t x y with
     |some v=>some (.t v)|none=>none
    |_,_=>none
   |some (.TN t)=>match RV g st (bif t then a else b) with
    |some v=>some (.t v)|none=>none
   |_=>none
  |_=>none
 |.alloc t=>match d,acf E t with
  |some d,some z=>bif abD z.cells&& !(VW d z.cells) then some (.w (.ref d 0) (st.new d (.cells z.cells))) else none|_,_=>none
 |.box t x=>bif YJ E t d then (match RV g st x with
  |some v=>bif Un (erM v)&& Yk v then some (.t (.Q9 (erM v).cells 0)) else none|none=>none) else match d,RV g st x with
  |some d,some v=>bif abD v.cells&& Yk v&& !(VW d v.cells) then some (.w (.ref d 0) (st.new d (.cells v.cells))) else none|_,_=>none
 |.build t parts=>match agq E t,acf (T:=R.T) E t,adO g st parts.toList with
  |some pl,some z,some ps=>match agH pl z.cells ps with
   |some cs=>some (.t (.agg cs))|none=>none
  |_,_,_=>none
 |.buildSlice t len parts=>match adO g st parts.toList with
  |some ps=>bif bsM E d then aiy E R d t len ps st else aix E R t len ps|none=>none
 |.load t a=>match RV g st a with
  |some (.ref o off)=>match WM st o with
   |some (.cells cs)=>match Vb E t cs off with
    |some v=>some (.t v)|none=>none
   |_=>none
  |some (.Q9 cs off)=>match Vb E t cs off with
   |some v=>some (.t v)|none=>none
  |some (.UK o τ i off)=>match WM st o with
   |some b=>aiF E R t τ i off b|none=>none
  |_=>none
 |.store t a x=>match RV g st a,RV g st x with
  |some (.ref o off),some v=>match look st.ob o,RY E.P t with
   |some (.cells cs),some sz=>bif Nat.beq v.cells.length sz&& Nat.ble (off+v.cells.length) cs.length&& abD v.cells&& Yk v then some (.w .undef (st.set o (.cells (adT cs off v.cells)))) else none
   |_,_=>none
  |_,_=>none
 |.nilCheck x=>match RV g st x with
  |some (.ref o off)=>some (.t (.ref o off))|some (.Q9 cs off)=>some (.t (.Q9 cs off))|some (.UK o τ i off)=>some (.t (.UK o τ i off))|some (.fn f a b)=>some (.t (.fn f a b))|_=>none
 |.binOp op t x y _=>match RV g st x,RV g st y with
  |some x,some y=>aiv E R op t x y|_,_=>none
 |.unOp op _ x=>match RV g st x with
  |some x=>unM R op x|none=>none
 |.convert a b x=>match RV g st x with
  |some x=>agL E R a b x|none=>none
 |.makeFunc (.func f) a b=>match WO g st a.toList,WO g st b.toList with
  |some a,some b=>some (.t (.fn f a b))|_,_=>none
 |.makeMap t none=>match d,YH E.P t with
  |some d,some (k,e)=>match R.ty k,R.ty e with
   |some k,some e=>some (.w (.RP d) (st.new d (.map k e [])))|_,_=>some (.w (.RP d) (st.new d (.smap [] [])))
  |_,_=>none
 |.makeSlice t l c=>match RV g st l,RV g st c with
  |some n,some m=>aiz E R om d t n m st|_,_=>none
 |.slice t x lo hi none=>match RV g st x with
  |some x=>match lo,hi with
   |none,none=>acg E R t x none none st|some lo,none=>match RV g st lo with
    |some lo=>acg E R t x (some lo) none st|none=>none
   |none,some hi=>match RV g st hi with
    |some hi=>acg E R t x none (some hi) st|none=>none
   |some lo,some hi=>match RV g st lo,RV g st hi with
    |some lo,some hi=>acg E R t x (some lo) (some hi) st|_,_=>none
  |none=>none
 |.fieldAddr t x f=>match RV g st x with
  |some x=>match ao5 E t f x with
   |some v=>some (.t v)|none=>none
  |none=>none
 |.field t x f=>match YG E.P t f,RV g st x with
  |some (o,u),some (.agg cs)=>match Vb E u cs o with
   |some v=>some (.t v)|none=>none
  |_,_=>none
 |.indexAddr t x i=>match RV g st x,RV g st i with
  |some (.vw o τ),some i=>ivM E R t o τ i st|some (.sub o τ a b),some i=>isM E R t o τ a b i|some x,some i=>iaM E R t x i|_,_=>none
 |.index t x i=>match RV g st x,RV g st i with
  |some x,some i=>ixM E R t x i|_,_=>none
 |.lookup t x i ok=>match RV g st x,RV g st i with
  |some x,some i=>agO E R t x i ok st|_,_=>none
 |.mapUpdate t m k v=>match RV g st m,RV g st k,RV g st v with
  |some m,some k,some v=>adZ E R t m k v st|_,_,_=>none
 |.insert t m k v=>match RV g st m,RV g st k,RV g st v with
  |some m,some k,some v=>adZ E R t m k v st|_,_,_=>none
 |.extract x i=>match RV g st x with
  |some (.Rw vs)=>match vs[i]? with
   |some v=>some (.t v)|none=>none
  |_=>none
 |.call c=>match c.callee with
  |.builtin b=>match WO g st c.args.toList with
   |some vs=>blt E R om d b c.argTypes vs st|none=>none
  |.value f=>match RV g st f,WO g st c.args.toList with
   |some (.fn f a b),some vs=>bif E.imp f then none else findF R (a++vs++b) (abC st (a++vs++b)) (F f)|_,_=>none
  |_=>none
 |_=>none
def opM (om:Bool)(F:Nat->List (FR R))(g:List (Nat×Bool))(d:Option Nat)(o:Op)(st:MS R.T):Option (Sl R):=
 match Yp E R g d o st with
 |some r=>some r|none=>Yq E R om F g d o st
inductive Gd where
 |no
 |run
 |skip
 |dyn (j:Nat) (w:Bool) (c:Bool) (g:List (Nat×Bool))
def eqw (b w:Bool):Bool:=bif w then b else !b
def aiI (a b:Bool):Bool:=bif a then b else false
def Wd {T:Nat->Type}(st:MS T):Nat->Nat->Bool->Option (Bool×List (Nat×Bool))
 |0,_,_=>none|n+1,j,w=>match look st.fr j with
  |some (.bool b)=>some (eqw b w,[(j,w)])|some (.opt i u (.bool b))=>match Wd st n i u with
   |some (c,g)=>some (aiI c (eqw b w),(j,w)::g)|none=>none
  |some (.opt i u (.TN b))=>match Wd st n i u with
   |some (c,g)=>some (aiI c (eqw b w),(j,w)::g)|none=>none
  |_=>none
def agU {T:Nat->Type}(all:List Oper)(st:MS T)(o:Oper):Gd:=
 match o.guard with
 |none=>.run|some (j,w)=>match all[j]? with
  |some p=>match p.dst with
   |some t=>match look st.fr t with
    |some (.TN b)=>bif b==w then .run else .skip|some .undef=>.skip|_=>match Wd st 12 t w with
     |some (c,g)=>.dyn t w c g|none=>.no
   |none=>.skip
  |none=>.skip
def MS.Vl {T:Nat->Type}(st:MS T):List (Nat×Bool)->MS T
 | []=>st| (j,w)::g=>(st.Vl g).learn j w
def MS.abG {T:Nat->Type}(st:MS T):List (Nat×Bool)->MS T
 | [(j,w)]=>st.learn j (!w)|_=>st
def VZ {U:Type}(c:Bool)(o:Option U)(d:U):Option U:=bif c then o else some d
def aiJ (st:MS R.T)(t:TypeId)(m x:Operand):Option (List (TV R.T)×List (TV R.T)×TV R.T×TV R.T):=
 match RV [] st m with
 |some (.RP o)=>match WM st o with
  |some (.smap ks vs)=>match RV [] st x,YH E.P t with
   |some x,some (kt,et)=>match acf (T:=R.T) E et with
    |some z=>bif agQ E kt x then some (ks,vs,x,z) else none|none=>none
   |_,_=>none
  |_=>none
 |_=>none
def agV {T:Nat->Type}{β:Type}(x:TV T):List (TV T)->List (TV T)->TV T->(TV T->Bool->Option β)->Option β
 | [],[],z,k=>k z false|a::ks,v::vs,z,k=>match agP x a with
  |some b=>bif b then k v true else agV x ks vs z k|none=>none
 |_,_,_,_=>none
section
variable (om:Bool){β:Type}(F:Nat->List (FR R))
def aiK (t:TypeId)(a x:Operand)(st:MS R.T):Option ((τ:Ty)×Nat×Int×Nat×List (Den R.T τ)×TV R.T):=
 match RV [] st a,RV [] st x with
 |some (.UK o τ i off),some v=>match look st.ob o,RY E.P t with
  |some (.arr τ' l),some sz=>match WK R (u:=τ) l with
   |some l=>bif Nat.beq v.cells.length sz&& Nat.ble (off+v.cells.length) (RU R τ)&& abD v.cells&& Yk v then some ⟨τ,o,i,off,l,v⟩ else none|none=>none
  |_,_=>none
 |_,_=>none
def Rk {U:Type}(l:List U)(i:Int)(y:U):List U:=l.set i.toNat y
def runM (o:Oper)(st:MS R.T)(k:MS R.T->Option β):Option β:=
 match o.op with
 |.pick c a b=>match RV [] st c with
  |some (.TN t)=>match RV [] st (bif t then a else b) with
   |some v=>k (st.Ti o.dst v)|none=>none
  |some (.bool t)=>match c with
   |.tmp j=>match RV [(j,true)] st a,RV [(j,false)] st b with
    |some x,some y=>match ad2 t x y with
     |some v=>k (st.Ti o.dst v)|none=>bif t then k ((st.learn j true).Ti o.dst x) else k ((st.learn j false).Ti o.dst y)
    |_,_=>none
   |_=>none
  |_=>none
 |.store t a x=>match aiK E R t a x st with
  |some ⟨τ,p,i,off,l,v⟩=>(Q5 l i).bind fun y=>match unC R τ (adT (Tn R .any τ y).cells off v.cells) with
   |some y'=>k ((st.set p (.arr τ (Rk l i y'))).Ti o.dst .undef)|none=>none
  |none=>match opM E R om F [] o.dst (.store t a x) st with
   |some (.w v st')=>k (st'.Ti o.dst v)|_=>none
 |.lookup t m x ok=>match aiJ E R st t m x with
  |some (ks,vs,x,z)=>agV x ks vs z fun v b=>k (st.Ti o.dst (bif ok then .Rw [v,.TN b] else v))
  |none=>match opM E R om F [] o.dst (.lookup t m x ok) st with
   |some (.t v)=>k (st.Ti o.dst v)|_=>none
 |op=>match opM E R om F [] o.dst op st with
  |some (.t v)=>k (st.Ti o.dst v)|some (.c b v)=>bif b then k (st.Ti o.dst v) else none|some (.w v st')=>k (st'.Ti o.dst v)|some (.wc b v st')=>bif b then k (st'.Ti o.dst v) else none|some (.p _ _ x f)=>x.bind fun a=>k (st.Ti o.dst (f a))
  |none=>none
def auK (b c:Bool):Bool:=bif b then c else true
def aiL (o:Oper)(j:Nat)(w c:Bool)(g:List (Nat×Bool))(st:MS R.T)(k:MS R.T->Option β):Option β:=
 match o.dst with
 |some d=>match (bif Ru d (g.map (·.1)) then none else opM E R om F g o.dst o.op st) with
  |some (.t v)=>k (st.put d (.opt j w v))|some (.c b v)=>bif auK c b then k (st.put d (.opt j w v)) else none|some (.p _ z x f)=>(VZ c x z).bind fun a=>k (st.put d (.opt j w (f a)))
  |_=>bif c then runM E R om F o (st.Vl g) k else k ((st.abG g).Ti o.dst .undef)
 |none=>bif c then runM E R om F o (st.Vl g) k else k ((st.abG g).Ti o.dst .undef)
def Vu {T:Nat->Type}(st:MS T)(o:Oper):Bool:=match o.op with
 |.call c=>match c.callee with
  |.value f=>match RV [] st f with
   |some (.fn g _ _)=>match o.dst with
    |some d=>E.own g d|none=>false
   |_=>true
  |_=>false
 |_=>false
def aaU (o:Oper)(st:MS R.T)(k:MS R.T->Option β):Option β:=(fun (_:TQ) (_:Nat->List (FR R)) (_:Oper) (_:MS R.T) (_:MS R.T->Option β)=>none) R F o st k
def ac5 (o:Nat)(l:List Nat):List Nat:=bif Ru o l then l else l++[o]
mutual
def auL {T:Nat->Type}:TV T->List Nat->List Nat
 |.ref o _,l=>ac5 o l|.RP o,l=>ac5 o l|.vw o _,l=>ac5 o l|.sub o _ _ _,l=>ac5 o l|.UK o _ _ _,l=>ac5 o l|.sv o _ _ _ _ _,l=>ac5 o l|.sel o _ _ _ _ _,l=>ac5 o l|.agg cs,l=>Yr cs l|.Rw cs,l=>Yr cs l|.Q9 cs _,l=>Yr cs l|.fn _ a b,l=>Yr b (Yr a l)|_,l=>l
def Yr {T:Nat->Type}:List (TV T)->List Nat->List Nat
 | [],l=>l|v::vs,l=>Yr vs (auL v l)
end
mutual
def aaV {T:Nat->Type}(m:List (Nat×Nat)):TV T->TV T
 |.ref o off=>match look m o with
  |some p=>.ref p off|none=>.gone
 |.RP o=>match look m o with
  |some p=>.RP p|none=>.gone
 |.vw o t=>match look m o with
  |some p=>.vw p t|none=>.gone
 |.sub o t a b=>match look m o with
  |some p=>.sub p t a b|none=>.gone
 |.UK o t i off=>match look m o with
  |some p=>.UK p t i off|none=>.gone
 |.sv o off k n lo hi=>match look m o with
  |some p=>.sv p off k n lo hi|none=>.gone
 |.sel o off k n i j=>match look m o with
  |some p=>.sel p off k n i j|none=>.gone
 |.tX c t l=>match c with
  |.own _=>.tX .any t l|c=>.tX c t l
 |.agg cs=>.agg (abH m cs)|.Rw cs=>.Rw (abH m cs)|.Q9 cs off=>.Q9 (abH m cs) off|.fn f a b=>.fn f (abH m a) (abH m b)|v=>v
def abH {T:Nat->Type}(m:List (Nat×Nat)):List (TV T)->List (TV T)
 | []=>[]|v::vs=>aaV m v::abH m vs
end
def UF:List Nat->Nat->List (Nat×Nat)
 | [],_=>[]|o::l,n=>(o,n)::UF l (n+1)
def ndB:List Nat->Bool
 | []=>true|o::l=>!(Ru o l)&& ndB l
def ad5 {T:Nat->Type}(st:MS T):List (Nat×Nat)->List (Nat×Ob T)
 | []=>[]| (o,p)::m=>match look st.ob o with
   |some x=>(p,x)::ad5 st m|none=>ad5 st m
def YV {T:Nat->Type}:List (Nat×Nat)->List (Nat×Ob T)->List (Nat×Ob T)
 | [],_=>[]| (o,p)::m,l=>match look l p with
   |some y=>(o,y)::YV m l|none=>YV m l
def ad6:List (Nat×Nat)->List (Nat×R8)->Bool
 | [],[]=>true| (_,p)::m,(q,_)::l=>Nat.beq p q&& ad6 m l|_,_=>false
def X4:List Sk->Bool
 | []=>true|.d (.int _)::l=>X4 l|.d .bool::l=>X4 l|.d .str::l=>X4 l|.sub p _::l=>Nat.ble F0 p&& X4 l|_=>false
mutual
def dS1:Sk->Bool
 |.d _=>true|.Q9 l _=>dSk l|.fn _ a b=>dSk a&& dSk b|_=>false
def dSk:List Sk->Bool
 | []=>true|k::l=>dS1 k&& dSk l
end
def okO:R8->Bool
 |.cells l=>dSk l|_=>true
def YX:List (Nat×R8)->Bool
 | []=>true| (_,k)::l=>okO k&& YX l
def agX (m:List (Nat×Nat))(A:List (TV R.T))(B:List (Nat×Ob R.T)):List (FM R)->Option ((r:FM R)×Option (FN R.T r.res×TP R.T r.obs))
 | []=>none|r::l=>match Ug R r.args A,Vt R B r.obs with
  |some p,some q=>bif ad6 m r.obs&& (X4 r.res&& YX r.obs) then some ⟨r,r.F p q⟩ else none|_,_=>agX m A B l
def agY:List (Nat×Nat)->List (Nat×Nat)
 | []=>[]| (o,p)::l=>(p,o)::agY l
def apb {T:Nat->Type}:List (TV T)->TV T
 | [v]=>v|vs=>.Rw vs
def YZ {T:Nat->Type}(st:MS T)(o:Oper):Bool:=match o.op with
 |.call c=>match c.callee with
  |.value f=>match RV [] st f with
   |some (.fn g _ _)=>E.imp g|_=>false
  |_=>false
 |_=>false
def aaf (o:Oper):Bool:=match o.op with
 |.call c=>match c.callee with
  |.value (.func g)=>!(E.imp g)|.value _=>false|_=>true
 |_=>true
def ac7 (M:Nat->List (FM R))(o:Oper)(st:MS R.T)(k:MS R.T->Option β):Option β:=match o.op with
 |.call c=>match c.callee with
  |.value f=>match RV [] st f,WO [] st c.args.toList with
   |some (.fn g a b),some vs=>bif ndB (Yr (a++vs++b) []) then (match agX R (UF (Yr (a++vs++b) []) F0) (abH (UF (Yr (a++vs++b) []) F0) (a++vs++b)) (ad5 st (UF (Yr (a++vs++b) []) F0)) (M g) with
    |some ⟨r,x⟩=>x.bind fun y=>k (MS.Ti ⟨st.fr,YV (UF (Yr (a++vs++b) []) F0) (Uy R r.obs y.2)++st.ob⟩ o.dst (apb (abH (agY (UF (Yr (a++vs++b) []) F0)) (TH R .any r.res y.1))))
    |none=>none) else none
   |_,_=>none
  |_=>none
 |_=>none
variable (M:Nat->List (FM R))
def aag (all:List Oper):List Oper->MS R.T->(MS R.T->Option β)->Option β
 | [],st,k=>k st|o::os,st,k=>match agU all st o with
  |.run=>bif Vu E st o then aaU R F o st (fun st=>aag all os st k) else (bif YZ E st o then ac7 R M o st (fun st=>aag all os st k) else runM E R om F o st (fun st=>aag all os st k))
  |.skip=>aag all os (st.Ti o.dst .undef) k|.dyn j w c g=>bif Vu E st o||Vu E (st.Vl g) o then none else (bif YZ E (st.Vl g) o then (bif c then ac7 R M o (st.Vl g) (fun st=>aag all os st k) else aag all os ((st.abG g).Ti o.dst .undef) k) else aiL E R om F o j w c g st (fun st=>aag all os st k))
  |.no=>none
def apc {T:Nat->Type}:TV T->List Key
 |.ref o _=>[.obj (1,o)]|.RP o=>[.obj (1,o)]|.UK o _ _ _=>[.obj (1,o)]|.sv o _ _ _ _ _=>[.obj (1,o)]|.sel o _ _ _ _ _=>[.obj (1,o)]|_=>[]
def rkM {T:Nat->Type}(st:MS T)(x:Operand):List Key:=match RV [] st x with
 |some v=>apc v|none=>[]
def agZ (o:Oper):List Key:=match o.dst with
 |some t=>[.obj (1,t)]|none=>[]
def ag0 {T:Nat->Type}:List (TV T)->Bool
 | []=>false|.sv _ _ _ _ _ _::_=>true|.ref _ _::_=>true|_::l=>ag0 l
def aeY (om:Bool){T:Nat->Type}(st:MS T)(o:Oper):R6:=
 match o.op with
 |.buildSlice .. =>bif bsM E o.dst then Ta else Vq []
 |.move _|.assign _|.pick .. |.build .. |.nilCheck _|.binOp .. |.unOp .. |.makeInterface .. |.typeAssert .. |.makeFunc .. |.fieldAddr .. |.field .. |.indexAddr .. |.index .. |.extract ..
 |.sliceToArrayPointer .. =>Vq []|.convert _ _ x|.slice _ x _ _ _|.load _ x|.lookup _ x _ _=>Vq (rkM st x)|.alloc _|.box .. |.makeMap .. =>U9 (agZ o)|.makeSlice .. =>U9 (.top::agZ o)|.store _ a _=>U9 (rkM st a)|.mapUpdate _ m _ _|.insert _ m _ _=>U9 (rkM st m)|.call c=>match c.callee with
  |.builtin b=>match b with
   |.len|.cap|.min|.max=>Vq (c.args.toList.flatMap fun x=>rkM st x)
   |.append=>bif om then Ta else ⟨false,false,c.args.toList.flatMap fun x=>rkM st x,[.top]⟩
   |_=>Ta
  |.value f=>match RV [] st f with
   |some (.fn g a b)=>if E.imp g then Ta else (match WO [] st c.args.toList with
    |some vs=>if ac1 (a++vs++b) then Vq [] else ⟨true,false,[],[]⟩|none=>Ta)
   |_=>Ta
  |_=>Ta
 |_=>Ta
def WS (om:Bool){T:Nat->Type}(all:List Oper)(st:MS T)(o:Oper)(wanted:Bool):R6:=
 if wanted then let f:=aeY E om st o;⟨f.Yi,f.VE,YK all o++f.t,Vr o++f.w⟩else ⟨false,false,YK all o,Vr o⟩
def aeZ {T:Nat->Type}:TV T->Bool
 |.gone=>false|.opt _ _ _=>false|.vw _ _=>false|.sub _ _ _ _=>false|_=>true
def aaW {T:Nat->Type}(st:MS T)(o:Oper):Bool:= !(Vu E st o)&&
 match o.op with
 |.call c=>match c.callee with
  |.value f=>match RV [] st f,WO [] st c.args.toList with
   |some (.fn _ a b),some vs=>ac1 (a++vs++b)||ag0 (a++vs++b)|_,_=>false
  |.builtin _=>match WO [] st c.args.toList with
   |some vs=>vs.all aeZ|none=>false
  |_=>true
 |.move _=>!(fzM E o.dst)|.slice _ x _ _ _=>match RV [] st x with
  |some v=>(asW st v).isNone|none=>false
 |_=>true
def Key.nm:Key->Key
 |.obj l=>.obj (1,l.2)|k=>k
def R6.nm (f:R6):R6:=⟨f.Yi,f.VE,f.t.map Key.nm,f.w.map Key.nm⟩
def ag1 (all:List Oper)(o:Oper):R6:=⟨false,false,YK all o++[],Vr o++[.top]⟩
def Wh (ms:List Nat)(all:List Oper):List Oper->MS R.T->List R6->(MS R.T->Option β)->Option β
 | [],st,fs,k=>bif abu ms (fs.map R6.nm) then k st else none|o::os,st,fs,k=>match agU all st o with
  |.run=>bif YZ E st o then (bif Vu E st o then none else ac7 R M o st (fun st'=>Wh ms all os st' (fs++[WS E om all st o true]) k)) else bif Vu E st o then aaU R F o st (fun st'=>Wh ms all os st' (fs++[ag1 all o]) k) else bif !(aaW E st o) then none else runM E R om F o st (fun st'=>Wh ms all os st' (fs++[WS E om all st o true]) k)
  |.skip=>Wh ms all os (st.Ti o.dst .undef) (fs++[WS E om all st o false]) k|.dyn _ _ c g=>bif c then (bif YZ E (st.Vl g) o then (bif Vu E (st.Vl g) o then none else ac7 R M o (st.Vl g) (fun st'=>Wh ms all os st' (fs++[WS E om all (st.Vl g) o true]) k)) else bif Vu E (st.Vl g) o then aaU R F o (st.Vl g) (fun st'=>Wh ms all os st' (fs++[ag1 all o]) k) else bif !(aaW E (st.Vl g) o) then none else runM E R om F o (st.Vl g) (fun st'=>Wh ms all os st' (fs++[WS E om all (st.Vl g) o true]) k))else Wh ms all os ((st.abG g).Ti o.dst .undef) (fs++[WS E om all st o false]) k
  |.no=>none
end
def acj {R:TQ}(key:Nat)(W:List Nat)(b:MS R.T)(sh:Shape)(outs:List (Ex×Shape))(body:{β:Type}->MS R.T->(Ex->MS R.T->Option β)->Option β):Nat->WJ R.T sh->Option (Out R.T outs)
 |0,_=>none|m+1,p=>body (b.over (unpack R sh p)) fun e st=>match e with
  |.normal=>match Vk R W st sh with
   |some p=>acj key W b sh outs body m p|none=>none
  |e=>YU R W e st outs
def MS.obs {T:Nat->Type}(st:MS T):MS T:=⟨[],st.ob⟩
def ae0 {R:TQ}{β:Type}(body:MS R.T->(Ex->MS R.T->Option β)->Option β):Nat->MS R.T->(Ex->MS R.T->Option β)->Option β
 |0,_,_=>none|m+1,st,k=>body st fun e st'=>match e with
  |.normal=>ae0 body m st' k|e=>k e st'
def aah {R:TQ}{X:Type}(key:Nat)(W:List Nat)(b:MS R.T)(sh:Shape)(outs:List (Ex×Shape))(body:{β:Type}->X->MS R.T->(Ex->MS R.T->Option β)->Option β):List X->WJ R.T sh->Option (Out R.T outs)
 | [],p=>YU R W .normal (unpack R sh p).obs outs|x::xs,p=>body x (b.over (unpack R sh p)) fun e st=>match e with
  |.normal=>match Vk R W st.obs sh with
   |some p=>aah key W b sh outs body xs p|none=>none
  |e=>YU R W e st.obs outs
def ae1 {R:TQ}(a b:List (TV R.T)):List (FI R)->Option ((el:List Sk)×Option (List (FN R.T el)))
 | []=>none|i::l=>match Ug R i.a a,Ug R i.b b with
  |some pa,some pb=>bif UM i.a&& UM i.b&& UM i.el&& Nat.ble (Yl i.a) 18&& Nat.ble (Yl i.b) 18 then some ⟨i.el,i.F pa pb⟩ else none|_,_=>ae1 a b l
def ac8 (O:List Nat):List (Nat×R8)->Bool
 | []=>true| (o,_)::l=>!(Ru o O)&& ac8 O l
def ac9 {T:Nat->Type}(st:MS T):List Nat->List (TV T)->Option (MS T)
 | [],[]=>some st|i::l,v::vs=>ac9 (st.put i v) l vs|_,_=>none
def UN:List Oper->List Nat
 | []=>[]|o::l=>match o.dst with
  |some d=>d::E.cn d::UN l|none=>UN l
def Rv:Code->List Nat
 |.region _ ops _=>UN E ops.toList|.seq a b=>Rv a++Rv b|.cond _ a b=>Rv a++Rv b|.block _ c=>Rv c|.loop c=>Rv c|.scope c=>Rv c|.rangeFunc _ ps a b=>ps.toList++Rv a++Rv b|_=>[]
def V3:Code->Nat
 |.region i _ _=>i|.seq a _=>V3 a|.loop a=>V3 a+500|.scope a=>V3 a|.block _ a=>V3 a|.rangeFunc _ _ _ b=>V3 b|_=>0
def Uo:Code->Bool
 |.region _ ops _=>ops.toList.all (aaf E)|.seq a b=>Uo a&& Uo b|.cond _ a b=>Uo a&& Uo b|.block _ c=>Uo c|.loop c=>Uo c|.scope c=>Uo c|.rangeFunc _ _ _ _=>false|_=>true
variable (n:Nat)(om:Bool)(F:Nat->List (FR R))(I:IR R)(A:Rs)
def Tt:Code->{β:Type}->MS R.T->(Ex->MS R.T->Option β)->Option β
 |.skip,_,st,k=>k .normal st|.region _ ops dr,_,st,k=>bif dr then (bif V6 ops.toList then Wh E R om F I.im (VT ops.toList) ops.toList ops.toList st [] (fun st=>k .normal st) else none) else aag E R om F I.im ops.toList ops.toList st (fun st=>k .normal st)
 |.seq a b,_,st,k=>
  match look A.joins (V3 b) with
  |none=>Tt a st fun e st=>match e with
   |.normal=>Tt b st k|e=>k e st
  |some q=>(Tt (β:=Out R.T q.outs) a ((base (Rv E a) q.K q.O .ro st).over st) fun e st=>YU R (Rv E a) e st q.outs).bind (aaS R (base (Rv E a) q.K q.O (fun b=>b) st) (fun e st=>match e with
   |.normal=>Tt b st k|e=>k e st) q.outs)
 |.cond c a b,_,st,k=>match RV [] st c with
  |some (.TN t)=>bif t then Tt a st k else Tt b st k|some (.bool t)=>bif t then Tt a (st.adL c true) k else Tt b (st.adL c false) k|_=>none
 |.block id c,_,st,k=>Tt c st fun e st=>match e with
  |.exit i=>bif Nat.beq i id then k .normal st else k (.exit i) st|e=>k e st
 |.loop c,_,st,k=>match look A.loops (V3 c) with
  |some q=>match Vk R (Rv E c) st q.sh with
   |some p=>(acj (V3 c) (Rv E c) (base (Rv E c) q.K q.O .ro st) q.sh q.outs (fun st k=>Tt c st k) n p).bind (aaS R (base (Rv E c) q.K q.O (fun b=>b) st) k q.outs)
   |none=>none
  |none=>ae0 (fun st k=>Tt c st k) 130 st k
 |.rangeFunc f ps a c,_,st,k=>match look A.loops (V3 c) with
  |some q=>match RV [] st f with
   |some (.fn g u v)=>bif Wp u&& Wp v&& ac8 q.O q.sh.ob&& Uo E a&& Uo E c then (match ae1 u v (I.it g) with
    |some ⟨el,xs⟩=>match Vk R (ps.toList++Rv E a++Rv E c) st.obs q.sh with
     |some p=>(xs.bind fun xs=>aah (V3 c) (ps.toList++Rv E a++Rv E c) (base (ps.toList++Rv E a++Rv E c) q.K q.O .ro st) q.sh q.outs (fun x st k=>match ac9 st ps.toList (TH R .sh el x) with
       |some st=>Tt a st fun e st=>match e with
        |.normal=>Tt c st k|_=>none
       |none=>none) xs p).bind (aaS R (base (ps.toList++Rv E a++Rv E c) q.K q.O (fun b=>b) st) k q.outs)
     |none=>none
    |none=>none) else none
   |_=>none
  |none=>none
 |.scope c,_,st,k=>Tt c st k|.label _,_,st,k=>k .normal st|.exit i,_,st,k=>k (.exit i) st|.ret,_,st,k=>k .ret st|_,_,_,_=>none
def abI (st:MS R.T):List ResultVar->Option (List (TV R.T))
 | []=>some []|.tmp t::l=>match RV [] st (.tmp t) with
  |some v=>match abI st l with
   |some vs=>some (v::vs)|none=>none
  |none=>none
 |.cell a t::l=>match RV [] st (.tmp a) with
  |some (.ref o off)=>match WM st o with
   |some (.cells cs)=>match Vb E t cs off with
    |some v=>match abI st l with
     |some vs=>some (v::vs)|none=>none
    |none=>none
   |_=>none
  |_=>none
def ada {T:Nat->Type}:Nat->List (TV T)->List (Nat×TV T)
 |_,[]=>[]|i,v::l=>(i,v)::ada (i+1) l
def RD (fn:Func)(args res:List Sk)(p:FN R.T args):Option (FN R.T res):=
 match fn.body with
 |some c=>Tt E R n om F I A c ⟨ada 0 (TH R .sh args p),[]⟩ fun e st=>match e with
  |.exit _=>none|_=>match abI E R st fn.results.toList with
   |some vs=>bif UM res&& Nat.ble (Yl res) 16 then Ug R res (abC st vs) else none|none=>none
 |none=>none
def wv1 {T:Nat->Type}(st:MS T)(k:Sk)(v:TV T):TV T:=match k with
 |.sub _ _=>match asW st v with
  |some (o,t,a,b)=>.sub o t a b|none=>v
 |_=>v
def wvs {T:Nat->Type}(st:MS T):List Sk->List (TV T)->List (TV T)
 |k::l,v::vs=>wv1 st k v::wvs st l vs|_,vs=>vs
def TI (fn:Func)(args:List Sk)(obs:List (Nat×R8))(res:List Sk)(p:FN R.T args)(q:TP R.T obs):Option (FN R.T res×TP R.T obs):=
 match fn.body with
 |some c=>Tt E R n om F I A c ⟨ada 0 (TH R .any args p),Uy R obs q⟩ fun e st=>match e with
  |.exit _=>none|_=>match abI E R st fn.results.toList with
   |some vs=>match Ug R res (wvs st res vs) with
    |some y=>match Vt R st.ob obs with
     |some q'=>some (y,q')|none=>none
    |none=>none
   |none=>none
 |none=>none
end
end Aq
end
section
namespace Aq
open Go
structure Cx where
 om:Bool
 dp:Nat
 lo:Nat
 fl:Nat->Option Loc
 lt:∀o L,fl o=some L->F0<=o/\L.1<dp
 inj:∀o p L,fl o=some L->fl p=some L->o=p
def Cx.lc (c:Cx)(o:Nat):Loc:=match c.fl o with
 |some L=>L|none=>(c.dp,o)
theorem Cx.wC (c:Cx){o:Nat}(h:o<F0):c.lc o=(c.dp,o):=by
 unfold Cx.lc;split
 .rename_i L hL;have:=(c.lt _ _ hL).1;omega
 .rfl
theorem Cx.wD (c:Cx){o p:Nat}(h:c.lc o=c.lc p):o=p:=by
 unfold Cx.lc at h;split at h<;>split at h
 .rename_i L h1 _ M h2;subst h;exact c.inj _ _ _ h1 h2
 .rename_i L h1 _ h2;have:=(c.lt _ _ h1).2;rw[h] at this;exact absurd this (Nat.lt_irrefl _)
 .rename_i h1 _ L h2;have:=(c.lt _ _ h2).2;rw[<-h] at this;exact absurd this (Nat.lt_irrefl _)
 .exact congrArg Prod.snd h
theorem Cx.Bl (c:Cx){o p:Nat}(h:o≠p):c.lc o≠c.lc p:=fun e=>h (c.wD e)
theorem Cx.ni (c:Cx)(o:Nat):(c.lc o).1<=c.dp:=by
 unfold Cx.lc;split
 .rename_i L hL;exact Nat.le_of_lt (c.lt _ _ hL).2
 .exact mF _
def Cx.out (c:Cx)(L:Loc):Prop:=∀o,L≠c.lc o
structure ak where
 ob:Nat->Option Nat
 tk:Nat->Option Nat
 ln:Nat->Nat
 om:Cx
section
variable (R:TQ)
def dK:Ty->Bool
 |.st _=>false|_=>true
structure Wq:Prop where
 ae2:∀n p,R.of n (R.to n p)=p
 enc:∀n x,R.enc n x= .agg (encs R (R.lf n) (R.of n x))
 leaf:∀n,(R.lf n).all dK=true
 pc:∀n x,Rf (R.enc n x)=true
def nk (Z:ak)(top:Nat->Nat)(sz len:Nat):Cp->Cap->Prop
 |.any,_=>True|.sh,c=>c= .sh|.nil,c=>c= .nil|.full,c=>c= .full|.own t,c=>c= .nil\/c= .full\/∃s,c= .own sz s/\Z.tk t=some s/\top s=len
mutual
def Rl (Z:ak)(top:Nat->Nat):TV R.T->V->Prop
 |.int k n,v=>v= .int k n|.bool b,v=>v= .bool b|.TN b,v=>v= .bool b|.str s,v=>v= .str s|.Tq,v=>v= .Tq|.Tm,v=>v= .Tm|.S9,v=>v= .S9|.SN,v=>v= .SN|.Uc,v=>v= .tX .nil []|.agg cs,v=>∃l,v= .agg l/\ah Z top cs l|.Rw cs,v=>∃l,v= .Rw l/\ah Z top cs l|.tX c t l,v=>∃c',v= .tX c' (l.map (Rc R t))/\nk Z top (RU R t) l.length c c'|.ref o off,v=>∃s,Z.ob o=some s/\v= .ref (Z.om.lc o) s off|.Q9 cs off,v=>∃l,v= .Q9 l off/\ah Z top cs l
 |.RP o,v=>∃s,Z.ob o=some s/\v= .RP (Z.om.lc o) s|.Si k e m,v=>v= .Si (m.map fun p=>Rc R k p.1) (m.map fun p=>Rc R e p.2)
 |.fn f a b,v=>∃a' b',v= .fn (.func f) a' b'/\ah Z top a a'/\ah Z top b b'|.opt _ _ _,_=>False|.vw o t,v=>(∃s,Z.ob o=some s/\v= .vw (Z.om.lc o) s 0 (Z.ln o) (Z.ln o) (RU R t) (TJ t))\/(Z.ln o=0/\(v= .tX .nil []\/v= .tX .full []))|.sub o t a b,v=>0<=a/\a<=b/\b<=Z.ln o/\((∃s cp,Z.ob o=some s/\(b-a).toNat<=cp/\v= .vw (Z.om.lc o) s (a.toNat*RU R t) (b-a).toNat cp (RU R t) (TJ t))\/(a=b/\∃c,v= .tX c []))
 |.UK o t i off,v=>∃s,Z.ob o=some s/\0<=i/\v= .ref (Z.om.lc o) s (i.toNat*RU R t+off)|.sg ss,v=>v= .agg (UW ss)|.sv o off k n lo hi,v=>∃s,Z.ob o=some s/\svB n lo hi=true/\v= .vw (Z.om.lc o) s (off+(loI lo).toNat) ((hiI n hi).toNat-(loI lo).toNat) (n-(loI lo).toNat) 1 false|.sel o off k n i m,v=>∃s,Z.ob o=some s/\0<=i/\i.toNat+m<=n/\v= .ref (Z.om.lc o) s (off+i.toNat)|.gel k n x i,v=>0<=i/\i<n/\v= .Q9 (x.l.map (V.int k)) i.toNat
 |.undef,v=>v=Q6|.gone,_=>True
def ah (Z:ak)(top:Nat->Nat):List (TV R.T)->List V->Prop
 | [],l=>l=[]|t::ts,l=>∃v vs,l=v::vs/\Rl Z top t v/\ah Z top ts vs
end
variable {R}
variable {Z Z':ak}{top top':Nat->Nat}
theorem ah.bg {vs:List V}(h:ah R Z top [] vs):vs=[]:=by unfold ah at h;exact h
theorem ah.aP {t:TV R.T}{ts:List (TV R.T)}{vs:List V}(h:ah R Z top (t::ts) vs):∃v l,vs=v::l/\Rl R Z top t v/\ah R Z top ts l:=by unfold ah at h;exact h
theorem Rl.bW {k:IntKind}{n:Int}{v:V}(h:Rl R Z top (.int k n) v):v= .int k n:=by unfold Rl at h;exact h
theorem Rl.eO {b:Bool}{v:V}(h:Rl R Z top (.bool b) v):v= .bool b:=by unfold Rl at h;exact h
theorem Rl.gB {b:Bool}{v:V}(h:Rl R Z top (.TN b) v):v= .bool b:=by unfold Rl at h;exact h
theorem Rl.dL {b:List UInt8}{v:V}(h:Rl R Z top (.str b) v):v= .str b:=by unfold Rl at h;exact h
theorem Rl.je {v:V}(h:Rl R Z top .Uc v):v= .tX .nil []:=by unfold Rl at h;exact h
theorem Rl.cO {cs:List (TV R.T)}{v:V}(h:Rl R Z top (.agg cs) v):∃l,v= .agg l/\ah R Z top cs l:=by unfold Rl at h;exact h
theorem Rl.nu {cs:List (TV R.T)}{v:V}(h:Rl R Z top (.Rw cs) v):∃l,v= .Rw l/\ah R Z top cs l:=by unfold Rl at h;exact h
theorem Rl.dz {c:Cp}{t:Ty}{l:List (Den R.T t)}{v:V}(h:Rl R Z top (.tX c t l) v):∃c',v= .tX c' (l.map (Rc R t))/\nk Z top (RU R t) l.length c c':=by unfold Rl at h;exact h
theorem Rl.iM {o off:Nat}{v:V}(h:Rl R Z top (.ref o off) v):∃s,Z.ob o=some s/\v= .ref (Z.om.lc o) s off:=by unfold Rl at h;exact h
theorem Rl.gD {cs:List (TV R.T)}{off:Nat}{v:V}(h:Rl R Z top (.Q9 cs off) v):∃l,v= .Q9 l off/\ah R Z top cs l:=by unfold Rl at h;exact h
theorem Rl.jG {o:Nat}{v:V}(h:Rl R Z top (.RP o) v):∃s,Z.ob o=some s/\v= .RP (Z.om.lc o) s:=by unfold Rl at h;exact h
theorem Rl.ku {k e:Ty}{m:List (Den R.T k×Den R.T e)}{v:V}(h:Rl R Z top (.Si k e m) v):v= .Si (m.map fun p=>Rc R k p.1) (m.map fun p=>Rc R e p.2):=by unfold Rl at h;exact h
theorem Rl.dS {f:Nat}{a b:List (TV R.T)}{v:V}(h:Rl R Z top (.fn f a b) v):∃a' b',v= .fn (.func f) a' b'/\ah R Z top a a'/\ah R Z top b b':=by unfold Rl at h;exact h
theorem Rl.jH {o:Nat}{t:Ty}{v:V}(h:Rl R Z top (.vw o t) v):(∃s,Z.ob o=some s/\v= .vw (Z.om.lc o) s 0 (Z.ln o) (Z.ln o) (RU R t) (TJ t))\/(Z.ln o=0/\(v= .tX .nil []\/v= .tX .full [])):=by unfold Rl at h;exact h
theorem Rl.kC {o:Nat}{t:Ty}{a b:Int}{v:V}(h:Rl R Z top (.sub o t a b) v):0<=a/\a<=b/\b<=Z.ln o/\((∃s cp,Z.ob o=some s/\(b-a).toNat<=cp/\v= .vw (Z.om.lc o) s (a.toNat*RU R t) (b-a).toNat cp (RU R t) (TJ t))\/(a=b/\∃c,v= .tX c [])):=by unfold Rl at h;exact h
theorem Rl.lQ {o off:Nat}{t:Ty}{i:Int}{v:V}(h:Rl R Z top (.UK o t i off) v):∃s,Z.ob o=some s/\0<=i/\v= .ref (Z.om.lc o) s (i.toNat*RU R t+off):=by unfold Rl at h;exact h
theorem Rl.rH {ss:List Sg}{v:V}(h:Rl R Z top (.sg ss) v):v= .agg (UW ss):=by unfold Rl at h;exact h
theorem Rl.rJ {o off n:Nat}{k:IntKind}{lo hi:Option Int}{v:V}(h:Rl R Z top (.sv o off k n lo hi) v):∃s,Z.ob o=some s/\svB n lo hi=true/\v= .vw (Z.om.lc o) s (off+(loI lo).toNat) ((hiI n hi).toNat-(loI lo).toNat) (n-(loI lo).toNat) 1 false:=by unfold Rl at h;exact h
theorem Rl.wE {o off n m:Nat}{k:IntKind}{i:Int}{v:V}(h:Rl R Z top (.sel o off k n i m) v):∃s,Z.ob o=some s/\0<=i/\i.toNat+m<=n/\v= .ref (Z.om.lc o) s (off+i.toNat):=by unfold Rl at h;exact h
theorem Rl.wF {n:Nat}{k:IntKind}{x:Vec n}{i:Int}{v:V}(h:Rl R Z top (.gel k n x i) v):0<=i/\i<n/\v= .Q9 (x.l.map (V.int k)) i.toNat:=by unfold Rl at h;exact h
theorem Rl.Bn {v:V}(h:Rl R Z top .undef v):v=Q6:=by unfold Rl at h;exact h
theorem Rl.Bo {j:Nat}{w:Bool}{x:TV R.T}{v:V}(h:Rl R Z top (.opt j w x) v):False:=by unfold Rl at h;exact h
theorem ah.cons' {t:TV R.T}{ts:List (TV R.T)}{v:V}{vs:List V}(h:Rl R Z top t v)(h':ah R Z top ts vs):ah R Z top (t::ts) (v::vs):=⟨v,vs,rfl,h,h'⟩
theorem ah.length:∀{ts:List (TV R.T)}{vs:List V},ah R Z top ts vs->vs.length=ts.length
 | [],_,h=>by cases h;rfl|_::ts,_,⟨v,vs,e,_,h'⟩=>by subst e;simp[ah.length h']
theorem ah.append:∀{ts ts':List (TV R.T)}{vs vs':List V},ah R Z top ts vs->ah R Z top ts' vs'->ah R Z top (ts++ts') (vs++vs')
 | [],_,_,_,h,h2=>by cases h;exact h2|_::ts,_,_,_,⟨v,vs,e,h1,h'⟩,h2=>by subst e;exact .cons' h1 (ah.append h' h2)
theorem ah.drop:∀(n:Nat){ts:List (TV R.T)}{vs:List V},ah R Z top ts vs->ah R Z top (ts.drop n) (vs.drop n)
 |0,_,_,h=>by simpa using h|n+1,[],_,h=>by cases h;simp;rfl|n+1,_::ts,_,⟨v,vs,e,h1,h'⟩=>by subst e;simpa using ah.drop n h'
theorem ah.take:∀(n:Nat){ts:List (TV R.T)}{vs:List V},ah R Z top ts vs->ah R Z top (ts.take n) (vs.take n)
 |0,_,_,h=>by simp;rfl|n+1,[],_,h=>by cases h;simp;rfl|n+1,_::ts,_,⟨v,vs,e,h1,h'⟩=>by subst e;simpa using .cons' h1 (ah.take n h')
theorem ah.get:∀{ts:List (TV R.T)}{vs:List V}{i:Nat}{t:TV R.T},ah R Z top ts vs->ts[i]? =some t->∃v,vs[i]? =some v/\Rl R Z top t v
 | [],_,_,_,_,h=>by simp at h|_::ts,_,0,_,⟨v,vs,e,h1,h'⟩,h=>by subst e;simp at h;subst h;exact⟨v,by simp,h1⟩|_::ts,_,i+1,_,⟨v,vs,e,h1,h'⟩,h=>by subst e;simpa using ah.get h' (by simpa using h)
mutual
theorem Rl.wk (t:Nat)(ho:Z'.ob=Z.ob/\Z'.ln=Z.ln/\Z'.om=Z.om)(ht:∀u s,u≠t->Z.tk u=some s->Z'.tk u=some s/\top' s=top s):∀(x:TV R.T)(v:V),Rl R Z top x v->Rl R Z' top' (wk t x) v
 |.tX (.own u) ty l,v,h=>by
  obtain⟨c',hv,hc⟩:=h;unfold Aq.wk;by_cases e:Nat.beq u t=true
  .rw[e,cond_true];exact⟨c',hv,trivial⟩
  .have e':Nat.beq u t=false:=Bool.eq_false_iff.2 e;rw[e',cond_false];refine⟨c',hv,?_⟩;rcases hc with hc|hc| ⟨s,h1,h2,h3⟩
   .exact .inl hc
   .exact .inr (.inl hc)
   .have hne:u≠t:=fun h=>e (by rw[h];exact Qw t);have:=ht u s hne h2;exact .inr (.inr ⟨s,h1,this.1,by rw[this.2];exact h3⟩)
 |.tX .any ty l,v,h=>by obtain⟨c',hv,hc⟩:=h;exact⟨c',hv,trivial⟩
 |.tX .sh ty l,v,h=>by obtain⟨c',hv,hc⟩:=h;exact⟨c',hv,hc⟩
 |.tX .nil ty l,v,h=>by obtain⟨c',hv,hc⟩:=h;exact⟨c',hv,hc⟩
 |.tX .full ty l,v,h=>by obtain⟨c',hv,hc⟩:=h;exact⟨c',hv,hc⟩
 |.agg cs,v,h=>by obtain⟨l,hv,hl⟩:=h;exact⟨l,hv,ah.wk t ho ht cs l hl⟩
 |.Rw cs,v,h=>by obtain⟨l,hv,hl⟩:=h;exact⟨l,hv,ah.wk t ho ht cs l hl⟩
 |.Q9 cs off,v,h=>by obtain⟨l,hv,hl⟩:=h;exact⟨l,hv,ah.wk t ho ht cs l hl⟩
 |.fn f a b,v,h=>by obtain⟨a',b',hv,ha,hb⟩:=h;exact⟨a',b',hv,ah.wk t ho ht a a' ha,ah.wk t ho ht b b' hb⟩
 |.ref o off,v,h=>by obtain⟨s,h1,h2⟩:=h;exact⟨s,by rw[ho.1];exact h1,by rw[ho.2.2];exact h2⟩
 |.RP o,v,h=>by obtain⟨s,h1,h2⟩:=h;exact⟨s,by rw[ho.1];exact h1,by rw[ho.2.2];exact h2⟩
 |.vw o ty,v,h=>by
  rcases h with ⟨s,h1,h2⟩| ⟨h1,h2⟩
  .exact .inl ⟨s,by rw[ho.1];exact h1,by rw[ho.2.1,ho.2.2];exact h2⟩
  .exact .inr ⟨by rw[ho.2.1];exact h1,h2⟩
 |.sub o ty a b,v,h=>by
  obtain⟨k0,k1,k2,h⟩:=h;refine⟨k0,k1,by rw[ho.2.1];exact k2,?_⟩;rcases h with ⟨s,cp,h1,h2,h3⟩|h
  .exact .inl ⟨s,cp,by rw[ho.1];exact h1,h2,by rw[ho.2.2];exact h3⟩
  .exact .inr h
 |.UK o ty i off,v,h=>by obtain⟨s,h1,h2⟩:=h;exact⟨s,by rw[ho.1];exact h1,by rw[ho.2.2];exact h2⟩
 |.sv o _ _ _ _ _,v,h=>by obtain⟨s,h1,h2⟩:=h;exact⟨s,by rw[ho.1];exact h1,by rw[ho.2.2];exact h2⟩
 |.sel o _ _ _ _ _,v,h=>by obtain⟨s,h1,h2⟩:=h;exact⟨s,by rw[ho.1];exact h1,by rw[ho.2.2];exact h2⟩
 |.sg _,_,h=>h|.gel _ _ _ _,_,h=>h|.opt _ _ _,_,h=>h.elim|.int _ _,_,h=>h|.bool _,_,h=>h|.TN _,_,h=>h|.str _,_,h=>h|.Tq,_,h=>h|.Tm,_,h=>h|.S9,_,h=>h|.SN,_,h=>h|.Uc,_,h=>h|.Si _ _ _,_,h=>h|.undef,_,h=>h|.gone,_,h=>h
theorem ah.wk (t:Nat)(ho:Z'.ob=Z.ob/\Z'.ln=Z.ln/\Z'.om=Z.om)(ht:∀u s,u≠t->Z.tk u=some s->Z'.tk u=some s/\top' s=top s):∀(x:List (TV R.T))(v:List V),ah R Z top x v->ah R Z' top' (wkL t x) v
 | [],_,h=>h|x::xs,_,⟨v,vs,e,h1,h2⟩=>⟨v,vs,e,Rl.wk t ho ht x v h1,ah.wk t ho ht xs vs h2⟩
end
mutual
theorem Rl.kill (o:Nat)(ho:∀p,p≠o->Z'.ob p=Z.ob p/\Z'.ln p=Z.ln p)(ht:Z'.tk=Z.tk)(hx:Z'.om=Z.om):∀(x:TV R.T)(v:V),UL o x=false->Rl R Z top x v->Rl R Z' top x v
 |.tX c ty l,v,_,h=>by
  obtain⟨c',hv,hc⟩:=h;refine⟨c',hv,?_⟩;cases c<;>try exact hc
  rcases hc with hc|hc| ⟨s,h1,h2,h3⟩
  .exact .inl hc
  .exact .inr (.inl hc)
  .exact .inr (.inr ⟨s,h1,by rw[ht];exact h2,h3⟩)
 |.agg cs,v,hm,h=>by obtain⟨l,hv,hl⟩:=h;exact⟨l,hv,ah.kill o ho ht hx cs l hm hl⟩
 |.Rw cs,v,hm,h=>by obtain⟨l,hv,hl⟩:=h;exact⟨l,hv,ah.kill o ho ht hx cs l hm hl⟩
 |.Q9 cs off,v,hm,h=>by obtain⟨l,hv,hl⟩:=h;exact⟨l,hv,ah.kill o ho ht hx cs l hm hl⟩
 |.fn f a b,v,hm,h=>by obtain⟨a',b',hv,ha,hb⟩:=h;unfold UL at hm;rw[Qv] at hm;exact⟨a',b',hv,ah.kill o ho ht hx a a' hm.1 ha,ah.kill o ho ht hx b b' hm.2 hb⟩
 |.ref p off,v,hm,h=>by obtain⟨s,h1,h2⟩:=h;unfold UL at hm;exact⟨s,((ho p (fun e=>by rw[e,Qw] at hm;cases hm)).1.trans h1),by rw[hx];exact h2⟩
 |.RP p,v,hm,h=>by obtain⟨s,h1,h2⟩:=h;unfold UL at hm;exact⟨s,((ho p (fun e=>by rw[e,Qw] at hm;cases hm)).1.trans h1),by rw[hx];exact h2⟩
 |.vw p ty,v,hm,h=>by
  unfold UL at hm;obtain⟨k1,k2⟩:=ho p (fun e=>by rw[e,Qw] at hm;cases hm);rcases h with ⟨s,h1,h2⟩| ⟨h1,h2⟩
  .exact .inl ⟨s,k1.trans h1,by rw[k2,hx];exact h2⟩
  .exact .inr ⟨by rw[k2];exact h1,h2⟩
 |.sub p ty a b,v,hm,h=>by
  unfold UL at hm;obtain⟨k1,k2⟩:=ho p (fun e=>by rw[e,Qw] at hm;cases hm);obtain⟨g0,g1,g2,h⟩:=h;refine⟨g0,g1,by rw[k2];exact g2,?_⟩;rcases h with ⟨s,cp,h1,h2,h3⟩|h
  .exact .inl ⟨s,cp,k1.trans h1,h2,by rw[hx];exact h3⟩
  .exact .inr h
 |.UK p ty i off,v,hm,h=>by obtain⟨s,h1,h2⟩:=h;unfold UL at hm;exact⟨s,((ho p (fun e=>by rw[e,Qw] at hm;cases hm)).1.trans h1),by rw[hx];exact h2⟩
 |.sv p _ _ _ _ _,v,hm,h=>by obtain⟨s,h1,h2⟩:=h;unfold UL at hm;exact⟨s,((ho p (fun e=>by rw[e,Qw] at hm;cases hm)).1.trans h1),by rw[hx];exact h2⟩
 |.sel p _ _ _ _ _,v,hm,h=>by obtain⟨s,h1,h2⟩:=h;unfold UL at hm;exact⟨s,((ho p (fun e=>by rw[e,Qw] at hm;cases hm)).1.trans h1),by rw[hx];exact h2⟩
 |.sg _,_,_,h=>h|.gel _ _ _ _,_,_,h=>h|.opt _ _ _,_,_,h=>h.elim|.int _ _,_,_,h=>h|.bool _,_,_,h=>h|.TN _,_,_,h=>h|.str _,_,_,h=>h|.Tq,_,_,h=>h|.Tm,_,_,h=>h|.S9,_,_,h=>h|.SN,_,_,h=>h|.Uc,_,_,h=>h|.Si _ _ _,_,_,h=>h|.undef,_,_,h=>h|.gone,_,_,h=>h
theorem ah.kill (o:Nat)(ho:∀p,p≠o->Z'.ob p=Z.ob p/\Z'.ln p=Z.ln p)(ht:Z'.tk=Z.tk)(hx:Z'.om=Z.om):∀(x:List (TV R.T))(v:List V),VW o x=false->ah R Z top x v->ah R Z' top x v
 | [],_,_,h=>h|x::xs,_,hm,⟨v,vs,e,h1,h2⟩=>by unfold VW at hm;rw[Qv] at hm;exact⟨v,vs,e,Rl.kill o ho ht hx x v hm.1 h1,ah.kill o ho ht hx xs vs hm.2 h2⟩
end
section
variable (hR:Wq R)
include hR
def ny (v w:V):Prop:=aN v=w/\er v=w/\Rf w=true/\(∀n Y,Rm (n+2) Y v=some w)/\oneCell v=true/\v.cells=[v]
omit hR in
theorem K5 {v:V}(h:∀cs,v≠ .agg cs):er v=aN v:=by cases v<;>first|rfl|exact absurd rfl (h _)
theorem VI:∀(t:Ty)(x:Den R.T t),Rf (Rc R t x)=true
 |.int _,x=>by simp[Rc,Rf]|.bool,x=>by simp[Rc,Rf]|.str,x=>by simp[Rc,Rf]|.slice t,x=>rF (VI t) x|.st n,x=>hR.pc n x
theorem Bp (c:Cp)(hc:nk Z top 1 0 c .sh/\(c= .any\/c= .sh)):∀(t:Ty)(x:Den R.T t),dK t=true->Rl R Z top (tv1 R c t x) (Rc R t x)
 |.int _,x,_=>rfl|.bool,x,_=>rfl|.str,x,_=>rfl|.slice t,x,_=>⟨.sh,rfl,by rcases hc.2 with rfl|rfl<;>first|trivial|rfl⟩
 |.st n,x,h=>by simp[dK] at h
theorem Bq (c:Cp)(hc:nk Z top 1 0 c .sh/\(c= .any\/c= .sh)):∀(l:List Ty)(p:VU R.T l),l.all dK=true->ah R Z top (Um R c l p) (encs R l p)
 | [],_,_=>rfl| [t],x,h=>.cons' (Bp hR c hc t x (by simpa using h)) rfl|t::u::l,p,h=>by rw[List.all_cons,PD] at h;exact .cons' (Bp hR c hc t p.1 h.1) (Bq c hc (u::l) p.2 h.2)
theorem rM (c:Cp)(hc:c= .any\/c= .sh):∀(t:Ty)(x:Den R.T t),Rl R Z top (Tn R c t x) (Rc R t x)
 |.int _,x=>rfl|.bool,x=>rfl|.str,x=>rfl|.slice t,x=>⟨.sh,rfl,by rcases hc with rfl|rfl<;>first|trivial|rfl⟩
 |.st n,x=>⟨_,hR.enc n x,Bq hR c ⟨by rcases hc with rfl|rfl<;>first|trivial|rfl,hc⟩ _ _ (hR.leaf n)⟩
theorem Br (t:Ty)(x:Den R.T t):Rl R Z top (Tn R .sh t x) (Rc R t x):=rM hR .sh (.inr rfl) t x
omit hR in
theorem K6 (k:IntKind)(n:Int):ny (.int k n) (.int k n):=⟨rfl,rfl,by simp[Rf],fun n Y=>vZ (n+1) _ _,rfl,rfl⟩
omit hR in
theorem K7 (b:Bool):ny (.bool b) (.bool b):=⟨rfl,rfl,by simp[Rf],fun n Y=>ags (n+1) _,rfl,rfl⟩
omit hR in
theorem K8 (b:List UInt8):ny (.str b) (.str b):=⟨rfl,rfl,by simp[Rf],fun n Y=>wh (n+1) _,rfl,rfl⟩
theorem K9 (c:Cap)(t:Ty)(l:List (Den R.T t)):ny (.tX c (l.map (Rc R t))) (Rc R (.slice t) l):=⟨rfl,rfl,VI hR (.slice _) _,fun n Y=>aaQ _ _ (VI hR _),rfl,rfl⟩
omit hR in
theorem wG {k:IntKind}{x:Int}{tv:TV R.T}{v:V}(h:agy R k tv=some x)(hr:Rl R Z top tv v):v= .int k x:=by
 unfold agy at h;split at h
 .split at h
  .rename_i e;cases e;cases h;exact hr.bW
  .cases h
 .cases h
omit hR in
theorem wH {x:Bool}{tv:TV R.T}{v:V}(h:agz R tv=some x)(hr:Rl R Z top tv v):v= .bool x:=by
 unfold agz at h;split at h<;>cases h
 .exact hr.eO
 .exact hr.gB
omit hR in
theorem wI {x:List UInt8}{tv:TV R.T}{v:V}(h:agA R tv=some x)(hr:Rl R Z top tv v):v= .str x:=by unfold agA at h;split at h<;>cases h;exact hr.dL
omit hR in
theorem gF {t u:Ty}{l:List (Den R.T t)}{m:List (Den R.T u)}(h:WK R l=some m):t=u/\HEq l m:=by
 unfold WK at h;split at h
 .rename_i e;subst e;cases h;exact⟨rfl,HEq.rfl⟩
 .cases h
omit hR in
theorem Bt {t:Ty}{x:List (Den R.T t)}{tv:TV R.T}{v:V}(h:agB R t tv=some x)(hr:Rl R Z top tv v):∃c,v= .tX c (x.map (Rc R t)):=by
 unfold agB at h;split at h
 .obtain⟨e,e2⟩:=gF h;subst e;cases e2;obtain⟨c',hv,hc⟩:=hr.dz;exact⟨c',hv⟩
 .cases h;exact⟨.nil,hr.je⟩
 .cases h
theorem nA {t:Ty}{x:Den R.T t}{tv:TV R.T}{v:V}(h:X0 R t tv=some x)(hr:Rl R Z top tv v):ny v (Rc R t x):=by
 cases t with
 |int k=>rw[wG h hr];exact K6 _ _|bool=>rw[wH h hr];exact K7 _|str=>rw[wI h hr];exact K8 _|slice t=>obtain⟨c,hv⟩:=Bt h hr;rw[hv];exact K9 hR _ _ _
 |st n=>cases h
theorem La {t:Ty}{x:Den R.T t}{cs:List (TV R.T)}{vs:List V}(h:X0 R t (hd1 R cs)=some x)(hr:ah R Z top cs vs):∃v,vs=[v]/\ny v (Rc R t x):=by
 cases cs with
 |nil=>cases t<;>cases h|cons c cs=>
  cases cs with
  |nil=>obtain⟨v,l,rfl,h1,h2⟩:=hr.aP;rw[h2.bg];exact⟨v,rfl,nA hR h h1⟩
  |cons c' cs=>cases t<;>cases h
theorem Bu:∀(l:List Ty)(p:VU R.T l)(cs:List (TV R.T))(vs:List V),uns R l cs=some p->ah R Z top cs vs->
 vs.map aN=encs R l p/\(∀n Y,vs.mapM (Rm (n+2) Y)=some (encs R l p))/\RJ (encs R l p)=true/\vs.all (fun v=>oneCell v)=true
 | [],p,cs,vs,h,hr=>by
   cases cs with
   |nil=>rw[hr.bg];exact⟨rfl,fun _ _=>rfl,by simp[encs,RJ],rfl⟩
   |cons c cs=>cases h
 | [t],p,cs,vs,h,hr=>by obtain⟨v,rfl,a,b,c,d,e,_⟩:=La hR (show X0 R t (hd1 R cs)=some p from h) hr;exact⟨by simp[encs,a],fun n Y=>by simp[encs,d],by simp[encs,RJ,c],by simp[e]⟩
 |t::u::l,p,cs,vs,h,hr=>by
  cases cs with
  |nil=>cases h|cons c cs=>
   obtain⟨v,vs,rfl,h1,h2⟩:=hr.aP;unfold uns at h;cases hu:X0 R t c with
   |none=>simp only[hu] at h;cases h|some y=>
    cases hs:uns R (u::l) cs with
    |none=>simp only[hu,hs] at h;cases h|some q=>simp only[hu,hs] at h;obtain rfl:=Qb h;obtain⟨a,b,c,d,e,_⟩:=nA hR hu h1;obtain⟨a',d',c',o'⟩:=Bu (u::l) q cs vs hs h2;exact⟨by simp[encs,a,a'],fun n Y=>by simp[encs,d,d'],by simp[encs,RJ,c,c'],by simp[e,o']⟩
omit hR in
theorem wJ:∀(l:List Ty)(p:VU R.T l),(encs R l p).length=l.length
 | [],_=>rfl| [_],_=>rfl|_::u::l,p=>by show (encs R (u::l) p.2).length+1=_;rw[wJ];rfl
omit hR in
theorem wK {n:Nat}{Y:qd}(cs:List V):Rm (n+3) Y (.agg cs)=(cs.mapM (Rm (n+2) Y)).map .agg:=by
 by_cases hp:Rf (.agg cs)=true
 .rw[UZ hp];have:∀cs:List V,RJ cs=true->cs.mapM (Rm (n+2) Y)=some cs:=by
   intro cs;induction cs with
   |nil=>intro _;rfl|cons a l ih=>intro h;simp only[RJ,PD] at h;rw[PY,UZ h.1,ih h.2];rfl
  rw[this cs (by simpa [Rf] using hp)];rfl
 .conv=>lhs;unfold Rm
  simp only[hp,if_false,PN]
theorem wL {t:Ty}{x:Den R.T t}{tv:TV R.T}{v:V}(h:WL R t tv=some x)(hr:Rl R Z top tv v):
 er v=Rc R t x/\Rf (Rc R t x)=true/\(∀n Y,Rm (n+3) Y v=some (Rc R t x))/\v.cells.length=RU R t/\RZ v.cells=true:=by
 cases t with
 |st n=>
  change acX R n tv=some x at h;unfold acX at h;split at h
  .rename_i cs;split at h
   .rename_i p hp;obtain rfl:=Qb h;obtain⟨l,hv,hl⟩:=hr.cO;subst hv;obtain⟨a,d,c,o⟩:=Bu hR _ _ _ _ hp hl;have he:Rc R (.st n) (R.to n p)= .agg (encs R (R.lf n) p):=(by show R.enc n (R.to n p)=_;rw[hR.enc,hR.ae2]);refine⟨?_,VI hR (.st n) _,fun k Y=>?_,?_,o⟩
    .rw[he];show V.agg (l.map aN)=_;rw[a]
    .rw[he,wK,d k Y];rfl
    .show l.length=_;have:=congrArg List.length a;rw[PX] at this;rw[this];exact wJ _ _
   .cases h
  .cases h
 |int k=>obtain⟨a,b,c,d,e,f⟩:=nA hR (t:=.int k) h hr;exact⟨b,c,fun n Y=>d (n+1) Y,by rw[f];rfl,by rw[f];simp[RZ,e]⟩
 |bool=>obtain⟨a,b,c,d,e,f⟩:=nA hR (t:=.bool) h hr;exact⟨b,c,fun n Y=>d (n+1) Y,by rw[f];rfl,by rw[f];simp[RZ,e]⟩
 |str=>obtain⟨a,b,c,d,e,f⟩:=nA hR (t:=.str) h hr;exact⟨b,c,fun n Y=>d (n+1) Y,by rw[f];rfl,by rw[f];simp[RZ,e]⟩
 |slice t=>obtain⟨a,b,c,d,e,f⟩:=nA hR (t:=.slice t) h hr;exact⟨b,c,fun n Y=>d (n+1) Y,by rw[f];rfl,by rw[f];simp[RZ,e]⟩
end
end
end Aq
end
