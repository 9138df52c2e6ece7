import Derived.Test.YtgdialomgeijcaaGreatF3805
set_option linter.all false
section
namespace Aq
open Go
inductive R3 (R:Tq) where
 |t (v:TV R.T)
 |c (b:Bool) (v:TV R.T)
 |w (v:TV R.T) (st:MS R.T)
 |wc (b:Bool) (v:TV R.T) (st:MS R.T)
 |p (U:Type) (d:U) (o:Option U) (f:U->TV R.T)
section
variable (E:Env)(R:Tq)
def aeI {T:Nat->Type}(agg:Bool)(n:Nat)(cs:List (TV T))(off:Nat):Option (TV T):=bif agg then (bif Nat.ble (off+n) cs.length then some (.agg ((cs.drop off).take n)) else none) else cs[off]?
def UG {T:Nat->Type}(t:TypeId)(cs:List (TV T))(off:Nat):Option (TV T):=
 match U8 E.P t with
 |some a=>match RI E.P t with
  |some n=>aeI a n cs off|none=>none
 |none=>none
def ab4 {T:Nat->Type}(cs:List (TV T))(off:Nat)(vs:List (TV T)):List (TV T):=cs.take off++vs++cs.drop (off+vs.length)
def aeJ {T:Nat->Type}(place:Nat->Option (Nat×Nat))(cells:List (TV T)):List (Nat×TV T)->Option (List (TV T))
 | []=>some cells| (i,v)::rest=>match place i with
   |none=>none|some (off,size)=>bif Nat.beq v.cells.length size&& Nat.ble (off+size) cells.length&& WC v then aeJ place (ab4 cells off v.cells) rest else none
def aaO {T:Nat->Type}(t:TypeId):Option (TV T):=match E.P.info? t with
 |some i=>match i.zero with
  |some z=>abY z|none=>none
 |none=>none
def bM {T:Nat->Type}:TV T->Option Bool
 |.bool a=>some a|.Tn a=>some a|_=>none
def aeK {T:Nat->Type}(x y:TV T):Option Bool:=match bM x,bM y with
 |some a,some b=>some (a==b)|_,_=>none
def ab5 {T:Nat->Type}(eq:TypeId->TV T->TV T->Option Bool)(xs ys:List (TV T)):List Field->Option Bool
 | []=>some true|f::fs=>if f.name= "_" then ab5 eq xs ys fs else match UG E f.type xs f.offset with
  |none=>none|some a=>match UG E f.type ys f.offset with
   |none=>none|some b=>match eq f.type a b with
    |none=>none|some r=>match ab5 eq xs ys fs with
     |none=>none|some q=>some (r&& q)
def ac6 {T:Nat->Type}(eq:TypeId->TV T->TV T->Option Bool)(e:TypeId)(sz:Nat)(xs ys:List (TV T)):List Nat->Option Bool
 | []=>some true|i::is=>match UG E e xs (i*sz) with
  |none=>none|some a=>match UG E e ys (i*sz) with
   |none=>none|some b=>match eq e a b with
    |none=>none|some r=>match ac6 eq e sz xs ys is with
     |none=>none|some q=>some (r&& q)
def ab6 {T:Nat->Type}:Nat->TypeId->TV T->TV T->Option Bool
 |0,_,_,_=>none|d+1,t,x,y=>
  match E.P.underlying t,x,y with
  |some (.struct fs),.agg xs,.agg ys=>if E.P.stoodInHeld t then none else ab5 E (ab6 d) xs ys fs.toList|some (.array n e),.agg xs,.agg ys=>match RI E.P e with
   |some sz=>ac6 E (ab6 d) e sz xs ys (List.range n)|none=>none
  |some (.struct _),_,_=>none|some (.array _ _),_,_=>none|some .bool,x,y=>aeK x y|some (.int _),.int k a,.int k' b=>if k=k' then some (a==b) else none|some .string,.str a,.str b=>some (a==b)|_,_,_=>none
def eqM {T:Nat->Type}(t:TypeId)(x y:TV T):Option Bool:=
 match E.P.underlying t,x,y with
 |some (.struct _),.agg a,.agg b=>if E.P.eqGuardType E.P.depth t then none else ab6 E 8 t (.agg a) (.agg b)|some (.array _ _),.agg a,.agg b=>if E.P.eqGuardType E.P.depth t then none else ab6 E 8 t (.agg a) (.agg b)|some (.func ..),.SQ,.SQ=>some true|some (.func ..),.SQ,.fn _ _ _=>some false|some (.func ..),.fn _ _ _,.SQ=>some false|some .bool,x,y=>aeK x y|_,_,_=>none
def aeM (op:BinOp)(k:IntKind)(x y:Int):Option (R3 R):=
 match op with
 |.add=>some (.t (.int k (k.wrap (x+y))))|.sub=>some (.t (.int k (k.wrap (x-y))))|.mul=>some (.t (.int k (k.wrap (x*y))))|.quo=>some (.c (!(y==0)) (.int k (k.wrap (x.tdiv y))))|.rem=>some (.c (!(y==0)) (.int k (x.tmod y)))|.and=>some (.t (.int k (k.wrap (BitVec.ofInt k.bits x&&& BitVec.ofInt k.bits y).toNat)))|.or=>some (.t (.int k (k.wrap (BitVec.ofInt k.bits x|||BitVec.ofInt k.bits y).toNat)))|.xor=>some (.t (.int k (k.wrap (BitVec.ofInt k.bits x^^^BitVec.ofInt k.bits y).toNat)))
 |.andNot=>some (.t (.int k (k.wrap (BitVec.ofInt k.bits x&&& ~~~BitVec.ofInt k.bits y).toNat)))|.eql=>some (.t (.bool (x==y)))|.neq=>some (.t (.bool (x !=y)))|.lss=>some (.t (.bool (decide (x<y))))|.leq=>some (.t (.bool (decide (x<=y))))|.gtr=>some (.t (.bool (decide (x>y))))|.geq=>some (.t (.bool (decide (x>=y))))|_=>none
def af6 (op:BinOp)(k:IntKind)(x y:Int):Option (R3 R):=
 match op with
 |.shl=>some (.c (decide (0<=y)) (.int k (k.wrap (x*2^min y.toNat k.bits))))|.shr=>some (.c (decide (0<=y)) (.int k (x.fdiv (2^min y.toNat k.bits))))|_=>none
def af7 (op:BinOp)(x y:List UInt8):Option (R3 R):=
 match op with
 |.add=>some (.c (decide (((x.length+y.length:Nat):Int)<=IntKind.i64.max)) (.str (x++y)))|.eql=>some (.t (.bool (x==y)))|.neq=>some (.t (.bool (!(x==y))))|.lss=>some (.t (.bool (Op.bytesLess x y)))|.leq=>some (.t (.bool (Op.bytesLess x y||x==y)))|.gtr=>some (.t (.bool (!(Op.bytesLess x y||x==y))))|.geq=>some (.t (.bool (!(Op.bytesLess x y))))|_=>none
def ab7:BinOp->Bool
 |.shl=>true|.shr=>true|_=>false
def af8 (op:BinOp)(t:TypeId)(x y:TV R.T):Option (R3 R):=
 match x,y with
 |.int k a,.int k' b=>bif ab7 op then af6 R op k a b else (if k=k' then aeM R op k a b else none)|.str a,.str b=>af7 R op a b|x,y=>match op with
  |.eql=>match eqM E t x y with
   |some b=>some (.t (.bool b))|none=>none
  |.neq=>match eqM E t x y with
   |some b=>some (.t (.bool (!b)))|none=>none
  |_=>none
def unM (op:UnOp)(x:TV R.T):Option (R3 R):=
 match op,x with
 |.neg,.int k n=>some (.t (.int k (k.wrap (0-n))))|.xor,.int k n=>aeM R .xor k (if k.signed then-1 else k.max) n|.not,.bool b=>some (.t (.bool (!b)))|.not,.Tn b=>some (.t (.Tn (!b)))|_,_=>none
def aeN (src dst:TypeId)(x:TV R.T):Option (R3 R):=
 match E.P.underlying src,E.P.underlying dst,x with
 |some _,some (.int k),.int _ n=>some (.t (.int k (k.wrap n)))|some _,some .string,.str s=>some (.t (.str s))|_,_,_=>none
def WH (i:Int)(n:Nat):Bool:=decide (0<=i/\i<=n)
def ab8:Option (TV R.T)->Option (Option Int)
 |none=>some none|some (.int _ n)=>some (some n)|_=>none
def ab9 {U:Type}(l:List U):Option Int->Option Int->List U
 |none,none=>l|some i,none=>l.drop i.toNat|none,some j=>l.take j.toNat|some i,some j=>(l.take j.toNat).drop i.toNat
def ak5 (n:Nat):Option Int->Option Int->Bool
 |none,none=>true|some i,none=>WH i n|none,some j=>WH j n|some i,some j=>WH j n&& WH i j.toNat
def aeO (t:TypeId)(x:TV R.T)(lo hi:Option (TV R.T)):Option (R3 R):=
 match ab8 R lo,ab8 R hi with
 |some lo,some hi=>match E.P.underlying t,x with
  |some (.slice e),.tX _ u l=>match RI E.P e with
   |some sz=>bif Nat.beq sz (RD R u) then some (.c (ak5 l.length lo hi) (.tX .any u (ab9 l lo hi))) else none|none=>none
  |_,_=>none
 |_,_=>none
def asW {T:Nat->Type}(st:MS T):TV T->Option (Nat×Ty×Int×Int)
 |.vw o t=>match V6 st o with
  |some (.arr _ l)=>some (o,t,0,(l.length:Int))|_=>none
 |.sub o t a b=>some (o,t,a,b)|_=>none
def VG (a b c:Int):Bool:=decide (0<=a/\a<=b/\b<=c)
def UH (i n:Int):Bool:=decide (0<=i/\i<n)
def V8 (n:Int):Option Int->Int
 |some i=>i|none=>n
def Vb:Option Int->Int
 |some i=>i|none=>0
def aeP (t:TypeId)(x:TV R.T)(lo hi:Option (TV R.T))(st:MS R.T):Option (R3 R):=
 match asW st x,ab8 R lo,ab8 R hi,E.P.underlying t with
 |some (o,τ,a,b),some lo,some hi,some (.slice e)=>match RI E.P e with
  |some sz=>bif Nat.beq sz (RD R τ) then some (.c (VG (Vb lo) (V8 (b-a) hi) (b-a)) (.sub o τ (a+Vb lo) (a+V8 (b-a) hi))) else none|none=>none
 |_,_,_,_=>none
def aaP (t:TypeId)(x:TV R.T)(lo hi:Option (TV R.T))(st:MS R.T):Option (R3 R):=
 match aeP E R t x lo hi st with
 |some r=>some r|none=>aeO E R t x lo hi
def ak6 {T:Nat->Type}(t:TypeId)(f:Nat)(x:TV T):Option (TV T):=
 match WZ E.P t f with
 |some (o,_)=>match x with
  |.ref p off=>some (.ref p (off+o))|.Q5 cs off=>some (.Q5 cs (off+o))|.Uo p t i off=>some (.Uo p t i (off+o))|_=>none
 |none=>none
def SB (R:Tq):(t:Ty)->Den R.T t->Den R.T t->Bool
 |.int _=>fun (a b:Int)=>a==b
 |.bool=>fun (a b:Bool)=>a==b
 |.str=>fun (a b:List UInt8)=>a==b
 |.slice _=>fun _ _=>false
 |.st _=>fun _ _=>false
def aah (t:TypeId)(k:Ty):Bool:=match E.P.underlying t,k with
 |some (.int _),.int _=>true|some .string,.str=>true|some .bool,.bool=>true|_,_=>false
def UJ {U β:Type}(eq:U->U->Bool)(x:U):List (U×β)->Option β
 | []=>none| (a,v)::m=>bif eq x a then some v else UJ eq x m
def V9 {U β:Type}(eq:U->U->Bool)(x:U)(v:β):List (U×β)->List (U×β)
 | []=>[(x,v)]| (a,w)::m=>bif eq x a then (x,v)::m else (a,w)::V9 eq x v m
def WI {U:Type}(d:U):Option U->U
 |some x=>x|none=>d
def unE (t:Ty)(v:TV R.T):Option (Den R.T t):=bif TS v then V5 R t v else none
def ac7 (t:TypeId)(k e:Ty)(m:List (Den R.T k×Den R.T e))(x:TV R.T)(ok:Bool):Option (R3 R):=
 match W9 E.P t with
 |some (kt,et)=>bif aah E kt k then (match aaO (T:=R.T) E et with
  |some z=>match V5 R e z,V5 R k x with
   |some z,some x=>some (.t (bif ok then .Rm [SV R .any e (WI z (UJ (SB R k) x m)),.bool (UJ (SB R k) x m).isSome] else SV R .any e (WI z (UJ (SB R k) x m))))|_,_=>none
  |none=>none) else none
 |none=>none
def aeQ (t:TypeId)(m x:TV R.T)(ok:Bool)(st:MS R.T):Option (R3 R):=
 match m with
 |.RA o=>match V6 st o with
  |some (.map k e m)=>ac7 E R t k e m x ok|_=>none
 |.RX k e m=>ac7 E R t k e m x ok|.SF=>match W9 E.P t with
  |some (kt,et)=>match R.ty kt,R.ty et with
   |some k,some e=>ac7 E R t k e [] x ok|_,_=>none
  |none=>none
 |_=>none
def aeR {T:Nat->Type}:TV T->TV T->Option Bool
 |.int k a,.int k' b=>if k=k' then some (a==b) else none|.str a,.str b=>some (a==b)|_,_=>none
def aeS {T:Nat->Type}(t:TypeId):TV T->Bool:=fun v=>match E.P.underlying t,v with
 |some (.int _),.int _ _=>true|some .string,.str _=>true|_,_=>false
def aeT {T:Nat->Type}(x v:TV T):List (TV T)->List (TV T)->Option (List (TV T)×List (TV T))
 | [],[]=>some ([x],[v])|a::ks,w::vs=>match aeR x a with
  |some b=>bif b then some (x::ks,v::vs) else (match aeT x v ks vs with
   |some (ks,vs)=>some (a::ks,w::vs)|none=>none)
  |none=>none
 |_,_=>none
def acd (t:TypeId)(m x v:TV R.T)(st:MS R.T):Option (R3 R):=
 match m with
 |.RA o=>match look st.ob o with
  |some (.map k e m)=>match W9 E.P t with
   |some (kt,_)=>bif aah E kt k then (match V5 R k x,unE R e v with
    |some x,some v=>some (.w .undef (st.set o (.map k e (V9 (SB R k) x v m))))|_,_=>none) else none
   |none=>none
  |some (.smap ks vs)=>match W9 E.P t with
   |some (kt,_)=>bif aeS E kt x then (match aeT x v ks vs with
    |some (ks,vs)=>some (.w .undef (st.set o (.smap ks vs)))|none=>none) else none
   |none=>none
  |_=>none
 |_=>none
def Tk:Ty->Bool
 |.st _=>true|_=>false
def elM (t:TypeId):Option (TypeId×Ty×Nat×Nat):=
 match UD E.P t with
 |some e=>match R.ty e,RI E.P e,Yn E.P e,U8 E.P e,T9 E.P e with
  |some u,some sz,some Sz,some ag,some z=>bif Nat.beq sz (RD R u)&& Nat.blt 0 sz&& (ag||Nat.beq sz 1)&& Nat.beq z.cells.length sz&& (ag==Tk u) then some (e,u,sz,Sz) else none|_,_,_,_,_=>none
 |none=>none
def aai (t:Ty)(n:Nat):List (Nat×TV R.T)->Option (List (Den R.T t))
 | []=>some []| (i,v)::l=>bif Nat.beq i n then (match V5 R t v with
   |some x=>match aai t (n+1) l with
    |some y=>some (x::y)|none=>none
   |none=>none) else none
def aga (t:TypeId)(len:Nat)(ps:List (Nat×TV R.T)):Option (R3 R):=
 match elM E R t with
 |some (_,u,sz,_)=>bif Nat.ble (len*sz) (2^24)&& Nat.beq ps.length len then (match aai R u 0 ps with
  |some l=>some (.t (.tX .full u l))|none=>none) else none
 |none=>none
def agb (d:Option Nat)(t:TypeId)(len:Nat)(ps:List (Nat×TV R.T))(st:MS R.T):Option (R3 R):=
 match d,elM E R t with
 |some d,some (_,u,sz,_)=>bif Nat.ble (len*sz) (2^24)&& Nat.beq ps.length len then (match aai R u 0 ps with
  |some l=>bif Nat.ble F0 (E.cn d) then none else some (.w (.vw (E.cn d) u) (st.new (E.cn d) (.arr u l)))|none=>none) else none
 |_,_=>none
def aeU (u:Ty):TV R.T->Option (List (Den R.T u))
 |.tX _ _ l=>V4 R l|.TK=>some []|.str s=>V4 (t:=.int .u8) (u:=u) R (s.map fun b=>(b.toNat:Int))
 |_=>none
def ak8 (u:Ty)(d:Nat):TV R.T->Option (Nat×List (Den R.T u))
 |.tX .nil _ l=>match V4 R l with
  |some l=>some (d,l)|none=>none
 |.tX .full _ l=>match V4 R l with
  |some l=>some (d,l)|none=>none
 |.tX (.own t) _ l=>match V4 R l with
  |some l=>some (t,l)|none=>none
 |.TK=>some (d,[])|_=>none
def ace (t:TypeId):Bool:=match E.P.underlying t with
 |some (.slice _)=>true|some .string=>true|_=>false
def ac8 (d:Option Nat)(t u:TypeId)(x y:TV R.T)(st:MS R.T):Option (R3 R):=
 match d with
 |some d=>match elM E R t with
  |some (_,τ,_,Sz)=>bif ace E u then (match ak8 R τ d x,aeU R τ y with
   |some (tk,l),some l'=>some (.wc (Si (l.length+l'.length) Sz) (.tX (.own tk) τ (l++l')) (st.wk tk))|_,_=>none) else none
  |none=>none
 |none=>none
def ac9 (d:Option Nat)(t u:TypeId)(x y:TV R.T)(st:MS R.T):Option (R3 R):=
 match d with
 |some d=>bif Nat.ble F0 (E.cn d) then none else match elM E R t with
  |some (_,τ,_,Sz)=>bif ace E u then (match aeU R τ y with
   |some l'=>match x with
    |.vw o τ0=>if τ0=τ then (match look st.ob o with
     |some (.arr τ' l)=>match V4 R (u:=τ) l with
      |some l=>bif Nat.beq o (E.cn d) then some (.wc (Si (l.length+l'.length) Sz) (.vw (E.cn d) τ) ((st.del o).new (E.cn d) (.arr τ (l++l')))) else (match l' with
       |a::l'=>some (.wc (Si (l.length+(a::l').length) Sz) (.vw (E.cn d) τ) ((st.del o).new (E.cn d) (.arr τ (l++a::l'))))| []=>none)
      |none=>none
     |_=>none) else none
    |x=>bif isE x then some (.wc (Si l'.length Sz) (.vw (E.cn d) τ) (st.new (E.cn d) (.arr τ l'))) else none
   |none=>none) else none
  |none=>none
 |none=>none
def agc (om:Bool)(d:Option Nat)(t:TypeId)(n m:TV R.T)(st:MS R.T):Option (R3 R):=(fun (_:Env) (_:Tq) (_:Bool) (_:Option Nat) (_:TypeId) (_ _:TV R.T) (_:MS R.T)=>none) E R om d t n m st
def mmM {T:Nat->Type}(_:Bool):TV T->List (TV T)->Option (TV T):=fun _ _=>none
def agd {T:Nat->Type}(t:TypeId)(x:TV T)(st:MS T):Option Nat:=
 match E.P.underlying t,x with
 |some (.slice _),.tX _ _ l=>some l.length|some (.slice _),.TK=>some 0|some (.slice _),.vw o _=>match V6 st o with
  |some (.arr _ l)=>some l.length|_=>none
 |some (.slice _),.sub _ _ a b=>some (b-a).toNat|some .string,.str s=>some s.length|some (.map _ _),.RA o=>match V6 st o with
  |some (.map _ _ m)=>some m.length|_=>none
 |some (.map _ _),.RX _ _ m=>some m.length|some (.map _ _),.SF=>some 0|some (.array n _),_=>some n|_,_=>none
def U3 {U:Type}(l:List U)(a b:Int)(z:U):List U:=l.take a.toNat++(List.replicate (b-a).toNat z++l.drop b.toNat)
def agf (t:TypeId)(x:TV R.T)(st:MS R.T):Option (R3 R):=
 match asW st x,elM E R t with
 |some (o,τ,a,b),some (e,τ',_,_)=>if τ'=τ then (match look st.ob o,aaO (T:=R.T) E e with
  |some (.arr τ2 l),some z=>match V4 R (u:=τ) l,V5 R τ z with
   |some l,some z'=>bif aag z.cells&& WC z then some (.w .undef (st.set o (.arr τ (U3 l a b z')))) else none|_,_=>none
  |_,_=>none) else none
 |_,_=>none
def blt (om:Bool)(d:Option Nat)(b:Builtin)(tys:Array TypeId)(args:List (TV R.T))(st:MS R.T):Option (R3 R):=
 match b,args with
 |.len,[x]=>match tys[0]? with
  |some t=>match agd E t x st with
   |some n=>some (.t (.int .i64 ((n:Nat):Int)))|none=>none
  |none=>none
 |.append,[x,y]=>match tys[0]?,tys[1]? with
  |some t,some u=>bif om then ac9 E R d t u x y st else ac8 E R d t u x y st|_,_=>none
 |.clear,[x]=>match tys[0]? with
  |some t=>agf E R t x st|none=>none
 |.min,x::l=>match mmM false x l with
  |some v=>some (.t v)|none=>none
 |.max,x::l=>match mmM true x l with
  |some v=>some (.t v)|none=>none
 |_,_=>none
def ak9:List (TV R.T)->TV R.T
 | [v]=>v|vs=>.Rm vs
def findF (args Rt:List (TV R.T)):List (FR R)->Option (R3 R)
 | []=>none|r::l=>match TL R r.args Rt with
  |some p=>bif Ur r.args&& Nat.ble (WE r.args) 18&& Ur r.res&& (abo args||ab0 r.res) then some (.p (Lv R.T r.res) r.d (r.F p) fun x=>ak9 R (Ti R .sh r.res x)) else none
  |none=>findF args Rt l
def iaM (t:TypeId)(x i:TV R.T):Option (R3 R):=
 match E.P.underlying t,x,i with
 |some (.slice e),.tX _ u l,.int _ n=>match RI E.P e with
  |some sz=>bif Nat.beq sz (RD R u) then some (.p (Den R.T u) (dfl R u) (Fb l n) fun y=>.Q5 (SV R .sh u y).cells 0) else none
  |none=>none
 |some (.array n e),.ref o off,.int _ k=>match RI E.P e with
  |some sz=>some (.c (decide (0<=k/\k<n)) (.ref o (off+k.toNat*sz)))|none=>none
 |some (.array n e),.Q5 cs off,.int _ k=>match RI E.P e with
  |some sz=>some (.c (decide (0<=k/\k<n)) (.Q5 cs (off+k.toNat*sz)))|none=>none
 |_,_,_=>none
def ivM (t:TypeId)(o:Nat)(τ:Ty)(i:TV R.T)(st:MS R.T):Option (R3 R):=
 match E.P.underlying t,i with
 |some (.slice e),.int _ n=>match RI E.P e with
  |some sz=>bif Nat.beq sz (RD R τ) then (match V6 st o with
   |some (.arr _ l)=>some (.c (decide (0<=n/\n< (l.length:Int))) (.Uo o τ n 0))|_=>none) else none
  |none=>none
 |_,_=>none
def isM (t:TypeId)(o:Nat)(τ:Ty)(a b:Int)(i:TV R.T):Option (R3 R):=
 match E.P.underlying t,i with
 |some (.slice e),.int _ n=>match RI E.P e with
  |some sz=>bif Nat.beq sz (RD R τ) then some (.c (UH n (b-a)) (.Uo o τ (a+n) 0)) else none|none=>none
 |_,_=>none
def ao8 {T:Nat->Type}:Option (TV T)->TV T
 |some v=>v|none=>.gone
def agk (t:TypeId)(τ:Ty)(i:Int)(off:Nat)(o:Ob R.T):Option (R3 R):=
 match o with
 |.arr τ' l=>match V4 R (u:=τ) l with
  |some l=>bif (UG E t (SV R .any τ (dfl R τ)).cells off).isSome then some (.p (Den R.T τ) (dfl R τ) (Fb l i) fun y=>ao8 (UG E t (SV R .any τ y).cells off)) else none
  |none=>none
 |_=>none
def unC (τ:Ty)(cs:List (TV R.T)):Option (Den R.T τ):=match τ with
 |.st n=>abk R n (.agg cs)|.int k=>Wo R (.int k) (hd1 R cs)|.bool=>Wo R .bool (hd1 R cs)|.str=>Wo R .str (hd1 R cs)|.slice t=>Wo R (.slice t) (hd1 R cs)
def ixM (t:TypeId)(x i:TV R.T):Option (R3 R):=
 match E.P.underlying t,x,i with
 |some .string,.str s,.int _ n=>some (.p UInt8 0 (Fb s n) fun b=>.int .u8 (b.toNat:Int))
 |_,_,_=>none
def acf {T:Nat->Type}(c:Bool):TV T->TV T->Option (TV T)
 |.int k a,.int k' b=>if k=k' then some (.int k (bif c then a else b)) else none|.bool a,.bool b=>some (.bool (bif c then a else b))|.bool a,.Tn b=>some (.bool (bif c then a else b))|.Tn a,.bool b=>some (.bool (bif c then a else b))|.Tn a,.Tn b=>some (.bool (bif c then a else b))|.str a,.str b=>some (.str (bif c then a else b))|_,_=>none
def svB (n:Nat):Option Int->Option Int->Bool
 |none,none=>true|some i,none=>decide (0<=i/\(i<n\/i=0))|none,some j=>decide (0<=j/\j<=n)|some i,some j=>decide (0<=i/\i<=j/\j<=n/\(i<j\/i=0))
def loI:Option Int->Int
 |some i=>i|none=>0
def hiI (n:Nat):Option Int->Int
 |some i=>i|none=>n
def WJ (g:List (Nat×Bool))(d:Option Nat)(o:Op)(st:MS R.T):Option (R3 R):=(fun (_:Env) (_:Tq) (_:List (Nat×Bool)) (_:Option Nat) (_:Op) (_:MS R.T)=>none) E R g d o st
def WK (om:Bool)(F:Nat->List (FR R))(g:List (Nat×Bool))(d:Option Nat)(o:Op)(st:MS R.T):Option (R3 R):=
 match o with
 |.move x=>bif Yo E d then (match RG g st x with
  |some (.vw p t)=>match look st.ob p with
   |some (.arr t' l)=>match V4 R (u:=t) l with
    |some l=>some (.w (.tX .any t l) (st.del p))|none=>none
   |_=>none
  |some (.int k n)=>some (.t (.int k n))|_=>none) else (match RG g st x with
  |some v=>some (.t v)|none=>none)
 |.assign x=>match RG g st x with
  |some v=>some (.t v)|none=>none
 |.pick c a b=>match c with
  |.tmp j=>match RG g st c with
   |some (.bool t)=>match RG ((j,true)::g) st a,RG ((j,false)::g) st b with
    |some x,some y=>match acf t x y with
     |some v=>some (.t v)|none=>none
    |_,_=>none
   |some (.Tn t)=>match RG g st (bif t then a else b) with
    |some v=>some (.t v)|none=>none
   |_=>none
  |_=>none
 |.alloc t=>match d,aaO E t with
  |some d,some z=>bif aag z.cells&& !(Vn d z.cells) then some (.w (.ref d 0) (st.new d (.cells z.cells))) else none|_,_=>none
 |.box t x=>bif Xz E t d then (match RG g st x with
  |some v=>bif TS (erM v)&& WC v then some (.t (.Q5 (erM v).cells 0)) else none|none=>none) else match d,RG g st x with
  |some d,some v=>bif aag v.cells&& WC v&& !(Vn d v.cells) then some (.w (.ref d 0) (st.new d (.cells v.cells))) else none|_,_=>none
 |.build t parts=>match aer E t,aaO (T:=R.T) E t,abZ g st parts.toList with
  |some pl,some z,some ps=>match aeJ pl z.cells ps with
   |some cs=>some (.t (.agg cs))|none=>none
  |_,_,_=>none
 |.buildSlice t len parts=>match abZ g st parts.toList with
  |some ps=>bif bsM E d then agb E R d t len ps st else aga E R t len ps|none=>none
 |.load t a=>match RG g st a with
  |some (.ref o off)=>match V6 st o with
   |some (.cells cs)=>match UG E t cs off with
    |some v=>some (.t v)|none=>none
   |_=>none
  |some (.Q5 cs off)=>match UG E t cs off with
   |some v=>some (.t v)|none=>none
  |some (.Uo o τ i off)=>match V6 st o with
   |some b=>agk E R t τ i off b|none=>none
  |_=>none
 |.store t a x=>match RG g st a,RG g st x with
  |some (.ref o off),some v=>match look st.ob o,RI E.P t with
   |some (.cells cs),some sz=>bif Nat.beq v.cells.length sz&& Nat.ble (off+v.cells.length) cs.length&& aag v.cells&& WC v then some (.w .undef (st.set o (.cells (ab4 cs off v.cells)))) else none
   |_,_=>none
  |_,_=>none
 |.nilCheck x=>match RG g st x with
  |some (.ref o off)=>some (.t (.ref o off))|some (.Q5 cs off)=>some (.t (.Q5 cs off))|some (.Uo o τ i off)=>some (.t (.Uo o τ i off))|some (.fn f a b)=>some (.t (.fn f a b))|_=>none
 |.binOp op t x y _=>match RG g st x,RG g st y with
  |some x,some y=>af8 E R op t x y|_,_=>none
 |.unOp op _ x=>match RG g st x with
  |some x=>unM R op x|none=>none
 |.convert a b x=>match RG g st x with
  |some x=>aeN E R a b x|none=>none
 |.makeFunc (.func f) a b=>match V7 g st a.toList,V7 g st b.toList with
  |some a,some b=>some (.t (.fn f a b))|_,_=>none
 |.makeMap t none=>match d,W9 E.P t with
  |some d,some (k,e)=>match R.ty k,R.ty e with
   |some k,some e=>some (.w (.RA d) (st.new d (.map k e [])))|_,_=>some (.w (.RA d) (st.new d (.smap [] [])))
  |_,_=>none
 |.makeSlice t l c=>match RG g st l,RG g st c with
  |some n,some m=>agc E R om d t n m st|_,_=>none
 |.slice t x lo hi none=>match RG g st x with
  |some x=>match lo,hi with
   |none,none=>aaP E R t x none none st|some lo,none=>match RG g st lo with
    |some lo=>aaP E R t x (some lo) none st|none=>none
   |none,some hi=>match RG g st hi with
    |some hi=>aaP E R t x none (some hi) st|none=>none
   |some lo,some hi=>match RG g st lo,RG g st hi with
    |some lo,some hi=>aaP E R t x (some lo) (some hi) st|_,_=>none
  |none=>none
 |.fieldAddr t x f=>match RG g st x with
  |some x=>match ak6 E t f x with
   |some v=>some (.t v)|none=>none
  |none=>none
 |.field t x f=>match WZ E.P t f,RG g st x with
  |some (o,u),some (.agg cs)=>match UG E u cs o with
   |some v=>some (.t v)|none=>none
  |_,_=>none
 |.indexAddr t x i=>match RG g st x,RG g st i with
  |some (.vw o τ),some i=>ivM E R t o τ i st|some (.sub o τ a b),some i=>isM E R t o τ a b i|some x,some i=>iaM E R t x i|_,_=>none
 |.index t x i=>match RG g st x,RG g st i with
  |some x,some i=>ixM E R t x i|_,_=>none
 |.lookup t x i ok=>match RG g st x,RG g st i with
  |some x,some i=>aeQ E R t x i ok st|_,_=>none
 |.mapUpdate t m k v=>match RG g st m,RG g st k,RG g st v with
  |some m,some k,some v=>acd E R t m k v st|_,_,_=>none
 |.insert t m k v=>match RG g st m,RG g st k,RG g st v with
  |some m,some k,some v=>acd E R t m k v st|_,_,_=>none
 |.extract x i=>match RG g st x with
  |some (.Rm vs)=>match vs[i]? with
   |some v=>some (.t v)|none=>none
  |_=>none
 |.call c=>match c.callee with
  |.builtin b=>match V7 g st c.args.toList with
   |some vs=>blt E R om d b c.argTypes vs st|none=>none
  |.value f=>match RG g st f,V7 g st c.args.toList with
   |some (.fn f a b),some vs=>bif E.imp f then none else findF R (a++vs++b) (aaf st (a++vs++b)) (F f)|_,_=>none
  |_=>none
 |_=>none
def Yw (om:Bool)(F:Nat->List (FR R))(g:List (Nat×Bool))(d:Option Nat)(o:Op)(st:MS R.T):Option (R3 R):=
 match WJ E R g d o st with
 |some r=>some r|none=>WK E R om F g d o st
inductive Gd where
 |no
 |run
 |skip
 |dyn (j:Nat) (w:Bool) (c:Bool) (g:List (Nat×Bool))
def eqw (b w:Bool):Bool:=bif w then b else !b
def agn (a b:Bool):Bool:=bif a then b else false
def Vy {T:Nat->Type}(st:MS T):Nat->Nat->Bool->Option (Bool×List (Nat×Bool))
 |0,_,_=>none|n+1,j,w=>match look st.fr j with
  |some (.bool b)=>some (eqw b w,[(j,w)])|some (.opt i u (.bool b))=>match Vy st n i u with
   |some (c,g)=>some (agn c (eqw b w),(j,w)::g)|none=>none
  |some (.opt i u (.Tn b))=>match Vy st n i u with
   |some (c,g)=>some (agn c (eqw b w),(j,w)::g)|none=>none
  |_=>none
def aeW {T:Nat->Type}(all:List Oper)(st:MS T)(o:Oper):Gd:=
 match o.guard with
 |none=>.run|some (j,w)=>match all[j]? with
  |some p=>match p.dst with
   |some t=>match look st.fr t with
    |some (.Tn b)=>bif b==w then .run else .skip|some .undef=>.skip|_=>match Vy st 12 t w with
     |some (c,g)=>.dyn t w c g|none=>.no
   |none=>.skip
  |none=>.skip
def MS.UN {T:Nat->Type}(st:MS T):List (Nat×Bool)->MS T
 | []=>st| (j,w)::g=>(st.UN g).learn j w
def MS.aaj {T:Nat->Type}(st:MS T):List (Nat×Bool)->MS T
 | [(j,w)]=>st.learn j (!w)|_=>st
def Uh {U:Type}(c:Bool)(o:Option U)(d:U):Option U:=bif c then o else some d
def agp (st:MS R.T)(t:TypeId)(m x:Operand):Option (List (TV R.T)×List (TV R.T)×TV R.T×TV R.T):=
 match RG [] st m with
 |some (.RA o)=>match V6 st o with
  |some (.smap ks vs)=>match RG [] st x,W9 E.P t with
   |some x,some (kt,et)=>match aaO (T:=R.T) E et with
    |some z=>bif aeS E kt x then some (ks,vs,x,z) else none|none=>none
   |_,_=>none
  |_=>none
 |_=>none
def aeX {T:Nat->Type}{β:Type}(x:TV T):List (TV T)->List (TV T)->TV T->(TV T->Bool->Option β)->Option β
 | [],[],z,k=>k z false|a::ks,v::vs,z,k=>match aeR x a with
  |some b=>bif b then k v true else aeX x ks vs z k|none=>none
 |_,_,_,_=>none
section
variable (om:Bool){β:Type}(F:Nat->List (FR R))
def agq (t:TypeId)(a x:Operand)(st:MS R.T):Option ((τ:Ty)×Nat×Int×Nat×List (Den R.T τ)×TV R.T):=
 match RG [] st a,RG [] st x with
 |some (.Uo o τ i off),some v=>match look st.ob o,RI E.P t with
  |some (.arr τ' l),some sz=>match V4 R (u:=τ) l with
   |some l=>bif Nat.beq v.cells.length sz&& Nat.ble (off+v.cells.length) (RD R τ)&& aag v.cells&& WC v then some ⟨τ,o,i,off,l,v⟩ else none|none=>none
  |_,_=>none
 |_,_=>none
def Rc {U:Type}(l:List U)(i:Int)(y:U):List U:=l.set i.toNat y
def runM (o:Oper)(st:MS R.T)(k:MS R.T->Option β):Option β:=
 match o.op with
 |.pick c a b=>match RG [] st c with
  |some (.Tn t)=>match RG [] st (bif t then a else b) with
   |some v=>k (st.SK o.dst v)|none=>none
  |some (.bool t)=>match c with
   |.tmp j=>match RG [(j,true)] st a,RG [(j,false)] st b with
    |some x,some y=>match acf t x y with
     |some v=>k (st.SK o.dst v)|none=>bif t then k ((st.learn j true).SK o.dst x) else k ((st.learn j false).SK o.dst y)
    |_,_=>none
   |_=>none
  |_=>none
 |.store t a x=>match agq E R t a x st with
  |some ⟨τ,p,i,off,l,v⟩=>(Fb l i).bind fun y=>match unC R τ (ab4 (SV R .any τ y).cells off v.cells) with
   |some y'=>k ((st.set p (.arr τ (Rc l i y'))).SK o.dst .undef)|none=>none
  |none=>match Yw E R om F [] o.dst (.store t a x) st with
   |some (.w v st')=>k (st'.SK o.dst v)|_=>none
 |.lookup t m x ok=>match agp E R st t m x with
  |some (ks,vs,x,z)=>aeX x ks vs z fun v b=>k (st.SK o.dst (bif ok then .Rm [v,.Tn b] else v))
  |none=>match Yw E R om F [] o.dst (.lookup t m x ok) st with
   |some (.t v)=>k (st.SK o.dst v)|_=>none
 |op=>match Yw E R om F [] o.dst op st with
  |some (.t v)=>k (st.SK o.dst v)|some (.c b v)=>bif b then k (st.SK o.dst v) else none|some (.w v st')=>k (st'.SK o.dst v)|some (.wc b v st')=>bif b then k (st'.SK o.dst v) else none|some (.p _ _ x f)=>x.bind fun a=>k (st.SK o.dst (f a))
  |none=>none
def ao9 (b c:Bool):Bool:=bif b then c else true
def agr (o:Oper)(j:Nat)(w c:Bool)(g:List (Nat×Bool))(st:MS R.T)(k:MS R.T->Option β):Option β:=
 match o.dst with
 |some d=>match (bif Rj d (g.map (·.1)) then none else Yw E R om F g o.dst o.op st) with
  |some (.t v)=>k (st.put d (.opt j w v))|some (.c b v)=>bif ao9 c b then k (st.put d (.opt j w v)) else none|some (.p _ z x f)=>(Uh c x z).bind fun a=>k (st.put d (.opt j w (f a)))
  |_=>bif c then runM E R om F o (st.UN g) k else k ((st.aaj g).SK o.dst .undef)
 |none=>bif c then runM E R om F o (st.UN g) k else k ((st.aaj g).SK o.dst .undef)
def U4 {T:Nat->Type}(st:MS T)(o:Oper):Bool:=match o.op with
 |.call c=>match c.callee with
  |.value f=>match RG [] st f with
   |some (.fn g _ _)=>match o.dst with
    |some d=>E.own g d|none=>false
   |_=>true
  |_=>false
 |_=>false
def Yx (o:Oper)(st:MS R.T)(k:MS R.T->Option β):Option β:=(fun (_:Tq) (_:Nat->List (FR R)) (_:Oper) (_:MS R.T) (_:MS R.T->Option β)=>none) R F o st k
def abt (o:Nat)(l:List Nat):List Nat:=bif Rj o l then l else l++[o]
mutual
def apa {T:Nat->Type}:TV T->List Nat->List Nat
 |.ref o _,l=>abt o l|.RA o,l=>abt o l|.vw o _,l=>abt o l|.sub o _ _ _,l=>abt o l|.Uo o _ _ _,l=>abt o l|.sv o _ _ _ _ _,l=>abt o l|.sel o _ _ _ _ _,l=>abt o l|.agg cs,l=>WL cs l|.Rm cs,l=>WL cs l|.Q5 cs _,l=>WL cs l|.fn _ a b,l=>WL b (WL a l)|_,l=>l
def WL {T:Nat->Type}:List (TV T)->List Nat->List Nat
 | [],l=>l|v::vs,l=>WL vs (apa v l)
end
mutual
def Yy {T:Nat->Type}(m:List (Nat×Nat)):TV T->TV T
 |.ref o off=>match look m o with
  |some p=>.ref p off|none=>.gone
 |.RA o=>match look m o with
  |some p=>.RA p|none=>.gone
 |.vw o t=>match look m o with
  |some p=>.vw p t|none=>.gone
 |.sub o t a b=>match look m o with
  |some p=>.sub p t a b|none=>.gone
 |.Uo o t i off=>match look m o with
  |some p=>.Uo p t i off|none=>.gone
 |.sv o off k n lo hi=>match look m o with
  |some p=>.sv p off k n lo hi|none=>.gone
 |.sel o off k n i j=>match look m o with
  |some p=>.sel p off k n i j|none=>.gone
 |.tX c t l=>match c with
  |.own _=>.tX .any t l|c=>.tX c t l
 |.agg cs=>.agg (aak m cs)|.Rm cs=>.Rm (aak m cs)|.Q5 cs off=>.Q5 (aak m cs) off|.fn f a b=>.fn f (aak m a) (aak m b)|v=>v
def aak {T:Nat->Type}(m:List (Nat×Nat)):List (TV T)->List (TV T)
 | []=>[]|v::vs=>Yy m v::aak m vs
end
def Uk:List Nat->Nat->List (Nat×Nat)
 | [],_=>[]|o::l,n=>(o,n)::Uk l (n+1)
def ndB:List Nat->Bool
 | []=>true|o::l=>!(Rj o l)&& ndB l
def aci {T:Nat->Type}(st:MS T):List (Nat×Nat)->List (Nat×Ob T)
 | []=>[]| (o,p)::m=>match look st.ob o with
   |some x=>(p,x)::aci st m|none=>aci st m
def XI {T:Nat->Type}:List (Nat×Nat)->List (Nat×Ob T)->List (Nat×Ob T)
 | [],_=>[]| (o,p)::m,l=>match look l p with
   |some y=>(o,y)::XI m l|none=>XI m l
def acj:List (Nat×Nat)->List (Nat×Sy)->Bool
 | [],[]=>true| (_,p)::m,(q,_)::l=>Nat.beq p q&& acj m l|_,_=>false
def Wq:List Sk->Bool
 | []=>true|.d (.int _)::l=>Wq l|.d .bool::l=>Wq l|.d .str::l=>Wq l|.sub p _::l=>Nat.ble F0 p&& Wq l|_=>false
mutual
def dS1:Sk->Bool
 |.d _=>true|.Q5 l _=>dSk l|.fn _ a b=>dSk a&& dSk b|_=>false
def dSk:List Sk->Bool
 | []=>true|k::l=>dS1 k&& dSk l
end
def okO:Sy->Bool
 |.cells l=>dSk l|_=>true
def XJ:List (Nat×Sy)->Bool
 | []=>true| (_,k)::l=>okO k&& XJ l
def aeZ (m:List (Nat×Nat))(A:List (TV R.T))(B:List (Nat×Ob R.T)):List (FM R)->Option ((r:FM R)×Option (Lv R.T r.res×Uc R.T r.obs))
 | []=>none|r::l=>match TL R r.args A,U2 R B r.obs with
  |some p,some q=>bif acj m r.obs&& (Wq r.res&& XJ r.obs) then some ⟨r,r.F p q⟩ else none|_,_=>aeZ m A B l
def ae0:List (Nat×Nat)->List (Nat×Nat)
 | []=>[]| (o,p)::l=>(p,o)::ae0 l
def alc {T:Nat->Type}:List (TV T)->TV T
 | [v]=>v|vs=>.Rm vs
def XK {T:Nat->Type}(st:MS T)(o:Oper):Bool:=match o.op with
 |.call c=>match c.callee with
  |.value f=>match RG [] st f with
   |some (.fn g _ _)=>E.imp g|_=>false
  |_=>false
 |_=>false
def XZ (o:Oper):Bool:=match o.op with
 |.call c=>match c.callee with
  |.value (.func g)=>!(E.imp g)|.value _=>false|_=>true
 |_=>true
def abv (M:Nat->List (FM R))(o:Oper)(st:MS R.T)(k:MS R.T->Option β):Option β:=match o.op with
 |.call c=>match c.callee with
  |.value f=>match RG [] st f,V7 [] st c.args.toList with
   |some (.fn g a b),some vs=>bif ndB (WL (a++vs++b) []) then (match aeZ R (Uk (WL (a++vs++b) []) F0) (aak (Uk (WL (a++vs++b) []) F0) (a++vs++b)) (aci st (Uk (WL (a++vs++b) []) F0)) (M g) with
    |some ⟨r,x⟩=>x.bind fun y=>k (MS.SK ⟨st.fr,XI (Uk (WL (a++vs++b) []) F0) (Ud R r.obs y.2)++st.ob⟩ o.dst (alc (aak (ae0 (Uk (WL (a++vs++b) []) F0)) (Ti R .any r.res y.1))))
    |none=>none) else none
   |_,_=>none
  |_=>none
 |_=>none
variable (M:Nat->List (FM R))
def X0 (all:List Oper):List Oper->MS R.T->(MS R.T->Option β)->Option β
 | [],st,k=>k st|o::os,st,k=>match aeW all st o with
  |.run=>bif U4 E st o then Yx R F o st (fun st=>X0 all os st k) else (bif XK E st o then abv R M o st (fun st=>X0 all os st k) else runM E R om F o st (fun st=>X0 all os st k))
  |.skip=>X0 all os (st.SK o.dst .undef) k|.dyn j w c g=>bif U4 E st o||U4 E (st.UN g) o then none else (bif XK E (st.UN g) o then (bif c then abv R M o (st.UN g) (fun st=>X0 all os st k) else X0 all os ((st.aaj g).SK o.dst .undef) k) else agr E R om F o j w c g st (fun st=>X0 all os st k))
  |.no=>none
def ald {T:Nat->Type}:TV T->List Key
 |.ref o _=>[.obj (1,o)]|.RA o=>[.obj (1,o)]|.Uo o _ _ _=>[.obj (1,o)]|.sv o _ _ _ _ _=>[.obj (1,o)]|.sel o _ _ _ _ _=>[.obj (1,o)]|_=>[]
def rkM {T:Nat->Type}(st:MS T)(x:Operand):List Key:=match RG [] st x with
 |some v=>ald v|none=>[]
def ae1 (o:Oper):List Key:=match o.dst with
 |some t=>[.obj (1,t)]|none=>[]
def ae2 {T:Nat->Type}:List (TV T)->Bool
 | []=>false|.sv _ _ _ _ _ _::_=>true|.ref _ _::_=>true|_::l=>ae2 l
def ada (om:Bool){T:Nat->Type}(st:MS T)(o:Oper):RU:=
 match o.op with
 |.buildSlice .. =>bif bsM E o.dst then SG else UZ []
 |.move _|.assign _|.pick .. |.build .. |.nilCheck _|.binOp .. |.unOp .. |.makeInterface .. |.typeAssert .. |.makeFunc .. |.fieldAddr .. |.field .. |.indexAddr .. |.index .. |.extract ..
 |.sliceToArrayPointer .. =>UZ []|.convert _ _ x|.slice _ x _ _ _|.load _ x|.lookup _ x _ _=>UZ (rkM st x)|.alloc _|.box .. |.makeMap .. =>UE (ae1 o)|.makeSlice .. =>UE (.top::ae1 o)|.store _ a _=>UE (rkM st a)|.mapUpdate _ m _ _|.insert _ m _ _=>UE (rkM st m)|.call c=>match c.callee with
  |.builtin b=>match b with
   |.len|.cap|.min|.max=>UZ (c.args.toList.flatMap fun x=>rkM st x)
   |.append=>bif om then SG else ⟨false,false,c.args.toList.flatMap fun x=>rkM st x,[.top]⟩
   |_=>SG
  |.value f=>match RG [] st f with
   |some (.fn g a b)=>if E.imp g then SG else (match V7 [] st c.args.toList with
    |some vs=>if abo (a++vs++b) then UZ [] else ⟨true,false,[],[]⟩|none=>SG)
   |_=>SG
  |_=>SG
 |_=>SG
def Wd (om:Bool){T:Nat->Type}(all:List Oper)(st:MS T)(o:Oper)(wanted:Bool):RU:=
 if wanted then let f:=ada E om st o;⟨f.WA,f.U9,XA all o++f.t,U0 o++f.w⟩else ⟨false,false,XA all o,U0 o⟩
def adb {T:Nat->Type}:TV T->Bool
 |.gone=>false|.opt _ _ _=>false|.vw _ _=>false|.sub _ _ _ _=>false|_=>true
def Yz {T:Nat->Type}(st:MS T)(o:Oper):Bool:= !(U4 E st o)&&
 match o.op with
 |.call c=>match c.callee with
  |.value f=>match RG [] st f,V7 [] st c.args.toList with
   |some (.fn _ a b),some vs=>abo (a++vs++b)||ae2 (a++vs++b)|_,_=>false
  |.builtin _=>match V7 [] st c.args.toList with
   |some vs=>vs.all adb|none=>false
  |_=>true
 |.move _=>!(Yo E o.dst)|.slice _ x _ _ _=>match RG [] st x with
  |some v=>(asW st v).isNone|none=>false
 |_=>true
def Key.nm:Key->Key
 |.obj l=>.obj (1,l.2)|k=>k
def RU.nm (f:RU):RU:=⟨f.WA,f.U9,f.t.map Key.nm,f.w.map Key.nm⟩
def ae3 (all:List Oper)(o:Oper):RU:=⟨false,false,XA all o++[],U0 o++[.top]⟩
def Vz (ms:List Nat)(all:List Oper):List Oper->MS R.T->List RU->(MS R.T->Option β)->Option β
 | [],st,fs,k=>bif Z5 ms (fs.map RU.nm) then k st else none|o::os,st,fs,k=>match aeW all st o with
  |.run=>bif XK E st o then (bif U4 E st o then none else abv R M o st (fun st'=>Vz ms all os st' (fs++[Wd E om all st o true]) k)) else bif U4 E st o then Yx R F o st (fun st'=>Vz ms all os st' (fs++[ae3 all o]) k) else bif !(Yz E st o) then none else runM E R om F o st (fun st'=>Vz ms all os st' (fs++[Wd E om all st o true]) k)
  |.skip=>Vz ms all os (st.SK o.dst .undef) (fs++[Wd E om all st o false]) k|.dyn _ _ c g=>bif c then (bif XK E (st.UN g) o then (bif U4 E (st.UN g) o then none else abv R M o (st.UN g) (fun st'=>Vz ms all os st' (fs++[Wd E om all (st.UN g) o true]) k)) else bif U4 E (st.UN g) o then Yx R F o (st.UN g) (fun st'=>Vz ms all os st' (fs++[ae3 all o]) k) else bif !(Yz E (st.UN g) o) then none else runM E R om F o (st.UN g) (fun st'=>Vz ms all os st' (fs++[Wd E om all (st.UN g) o true]) k))else Vz ms all os ((st.aaj g).SK o.dst .undef) (fs++[Wd E om all st o false]) k
  |.no=>none
end
def abw {R:Tq}(key:Nat)(W:List Nat)(b:MS R.T)(sh:Shape)(outs:List (Ex×Shape))(body:{β:Type}->MS R.T->(Ex->MS R.T->Option β)->Option β):Nat->V3 R.T sh->Option (Out R.T outs)
 |0,_=>none|m+1,p=>body (b.over (unpack R sh p)) fun e st=>match e with
  |.normal=>match UM R W st sh with
   |some p=>abw key W b sh outs body m p|none=>none
  |e=>XH R W e st outs
def MS.obs {T:Nat->Type}(st:MS T):MS T:=⟨[],st.ob⟩
def ade {R:Tq}{β:Type}(body:MS R.T->(Ex->MS R.T->Option β)->Option β):Nat->MS R.T->(Ex->MS R.T->Option β)->Option β
 |0,_,_=>none|m+1,st,k=>body st fun e st'=>match e with
  |.normal=>ade body m st' k|e=>k e st'
def X3 {R:Tq}{X:Type}(key:Nat)(W:List Nat)(b:MS R.T)(sh:Shape)(outs:List (Ex×Shape))(body:{β:Type}->X->MS R.T->(Ex->MS R.T->Option β)->Option β):List X->V3 R.T sh->Option (Out R.T outs)
 | [],p=>XH R W .normal (unpack R sh p).obs outs|x::xs,p=>body x (b.over (unpack R sh p)) fun e st=>match e with
  |.normal=>match UM R W st.obs sh with
   |some p=>X3 key W b sh outs body xs p|none=>none
  |e=>XH R W e st.obs outs
def adf {R:Tq}(a b:List (TV R.T)):List (FI R)->Option ((el:List Sk)×Option (List (Lv R.T el)))
 | []=>none|i::l=>match TL R i.a a,TL R i.b b with
  |some pa,some pb=>bif Ur i.a&& Ur i.b&& Ur i.el&& Nat.ble (WE i.a) 18&& Nat.ble (WE i.b) 18 then some ⟨i.el,i.F pa pb⟩ else none|_,_=>adf a b l
def abx (O:List Nat):List (Nat×Sy)->Bool
 | []=>true| (o,_)::l=>!(Rj o O)&& abx O l
def aby {T:Nat->Type}(st:MS T):List Nat->List (TV T)->Option (MS T)
 | [],[]=>some st|i::l,v::vs=>aby (st.put i v) l vs|_,_=>none
def Us:List Oper->List Nat
 | []=>[]|o::l=>match o.dst with
  |some d=>d::E.cn d::Us l|none=>Us l
def Rn:Code->List Nat
 |.region _ ops _=>Us E ops.toList|.seq a b=>Rn a++Rn b|.cond _ a b=>Rn a++Rn b|.block _ c=>Rn c|.loop c=>Rn c|.scope c=>Rn c|.rangeFunc _ ps a b=>ps.toList++Rn a++Rn b|_=>[]
def Vq:Code->Nat
 |.region i _ _=>i|.seq a _=>Vq a|.loop a=>Vq a+500|.scope a=>Vq a|.block _ a=>Vq a|.rangeFunc _ _ _ b=>Vq b|_=>0
def TT:Code->Bool
 |.region _ ops _=>ops.toList.all (XZ E)|.seq a b=>TT a&& TT b|.cond _ a b=>TT a&& TT b|.block _ c=>TT c|.loop c=>TT c|.scope c=>TT c|.rangeFunc _ _ _ _=>false|_=>true
variable (n:Nat)(om:Bool)(F:Nat->List (FR R))(I:IR R)(A:Ru)
def S9:Code->{β:Type}->MS R.T->(Ex->MS R.T->Option β)->Option β
 |.skip,_,st,k=>k .normal st|.region _ ops dr,_,st,k=>bif dr then (bif Vv ops.toList then Vz E R om F I.im (Vl ops.toList) ops.toList ops.toList st [] (fun st=>k .normal st) else none) else X0 E R om F I.im ops.toList ops.toList st (fun st=>k .normal st)
 |.seq a b,_,st,k=>
  match look A.joins (Vq b) with
  |none=>S9 a st fun e st=>match e with
   |.normal=>S9 b st k|e=>k e st
  |some q=>(S9 (β:=Out R.T q.outs) a ((base (Rn E a) q.K q.O .ro st).over st) fun e st=>XH R (Rn E a) e st q.outs).bind (Yv R (base (Rn E a) q.K q.O (fun b=>b) st) (fun e st=>match e with
   |.normal=>S9 b st k|e=>k e st) q.outs)
 |.cond c a b,_,st,k=>match RG [] st c with
  |some (.Tn t)=>bif t then S9 a st k else S9 b st k|some (.bool t)=>bif t then S9 a (st.abW c true) k else S9 b (st.abW c false) k|_=>none
 |.block id c,_,st,k=>S9 c st fun e st=>match e with
  |.exit i=>bif Nat.beq i id then k .normal st else k (.exit i) st|e=>k e st
 |.loop c,_,st,k=>match look A.loops (Vq c) with
  |some q=>match UM R (Rn E c) st q.sh with
   |some p=>(abw (Vq c) (Rn E c) (base (Rn E c) q.K q.O .ro st) q.sh q.outs (fun st k=>S9 c st k) n p).bind (Yv R (base (Rn E c) q.K q.O (fun b=>b) st) k q.outs)
   |none=>none
  |none=>ade (fun st k=>S9 c st k) 130 st k
 |.rangeFunc f ps a c,_,st,k=>match look A.loops (Vq c) with
  |some q=>match RG [] st f with
   |some (.fn g u v)=>bif VF u&& VF v&& abx q.O q.sh.ob&& TT E a&& TT E c then (match adf u v (I.it g) with
    |some ⟨el,xs⟩=>match UM R (ps.toList++Rn E a++Rn E c) st.obs q.sh with
     |some p=>(xs.bind fun xs=>X3 (Vq c) (ps.toList++Rn E a++Rn E c) (base (ps.toList++Rn E a++Rn E c) q.K q.O .ro st) q.sh q.outs (fun x st k=>match aby st ps.toList (Ti R .sh el x) with
       |some st=>S9 a st fun e st=>match e with
        |.normal=>S9 c st k|_=>none
       |none=>none) xs p).bind (Yv R (base (ps.toList++Rn E a++Rn E c) q.K q.O (fun b=>b) st) k q.outs)
     |none=>none
    |none=>none) else none
   |_=>none
  |none=>none
 |.scope c,_,st,k=>S9 c st k|.label _,_,st,k=>k .normal st|.exit i,_,st,k=>k (.exit i) st|.ret,_,st,k=>k .ret st|_,_,_,_=>none
def aal (st:MS R.T):List ResultVar->Option (List (TV R.T))
 | []=>some []|.tmp t::l=>match RG [] st (.tmp t) with
  |some v=>match aal st l with
   |some vs=>some (v::vs)|none=>none
  |none=>none
 |.cell a t::l=>match RG [] st (.tmp a) with
  |some (.ref o off)=>match V6 st o with
   |some (.cells cs)=>match UG E t cs off with
    |some v=>match aal st l with
     |some vs=>some (v::vs)|none=>none
    |none=>none
   |_=>none
  |_=>none
def abz {T:Nat->Type}:Nat->List (TV T)->List (Nat×TV T)
 |_,[]=>[]|i,v::l=>(i,v)::abz (i+1) l
def RH (fn:Func)(args res:List Sk)(p:Lv R.T args):Option (Lv R.T res):=
 match fn.body with
 |some c=>S9 E R n om F I A c ⟨abz 0 (Ti R .sh args p),[]⟩ fun e st=>match e with
  |.exit _=>none|_=>match aal E R st fn.results.toList with
   |some vs=>bif Ur res&& Nat.ble (WE res) 16 then TL R res (aaf st vs) else none|none=>none
 |none=>none
def wv1 {T:Nat->Type}(st:MS T)(k:Sk)(v:TV T):TV T:=match k with
 |.sub _ _=>match asW st v with
  |some (o,t,a,b)=>.sub o t a b|none=>v
 |_=>v
def wvs {T:Nat->Type}(st:MS T):List Sk->List (TV T)->List (TV T)
 |k::l,v::vs=>wv1 st k v::wvs st l vs|_,vs=>vs
def UO (fn:Func)(args:List Sk)(obs:List (Nat×Sy))(res:List Sk)(p:Lv R.T args)(q:Uc R.T obs):Option (Lv R.T res×Uc R.T obs):=
 match fn.body with
 |some c=>S9 E R n om F I A c ⟨abz 0 (Ti R .any args p),Ud R obs q⟩ fun e st=>match e with
  |.exit _=>none|_=>match aal E R st fn.results.toList with
   |some vs=>match TL R res (wvs st res vs) with
    |some y=>match U2 R st.ob obs with
     |some q'=>some (y,q')|none=>none
    |none=>none
   |none=>none
 |none=>none
end
end Aq
end
section
namespace Aq
open Go
structure Cx where
 om:Bool
 dp:Nat
 lo:Nat
 fl:Nat->Option Loc
 lt:∀o L,fl o=some L->F0<=o/\L.1<dp
 inj:∀o p L,fl o=some L->fl p=some L->o=p
def Cx.lc (c:Cx)(o:Nat):Loc:=match c.fl o with
 |some L=>L|none=>(c.dp,o)
theorem Cx.wC (c:Cx){o:Nat}(h:o<F0):c.lc o=(c.dp,o):=by
 unfold Cx.lc;split
 .rename_i L hL;have:=(c.lt _ _ hL).1;omega
 .rfl
theorem Cx.wD (c:Cx){o p:Nat}(h:c.lc o=c.lc p):o=p:=by
 unfold Cx.lc at h;split at h<;>split at h
 .rename_i L h1 _ M h2;subst h;exact c.inj _ _ _ h1 h2
 .rename_i L h1 _ h2;have:=(c.lt _ _ h1).2;rw[h] at this;exact absurd this (Nat.lt_irrefl _)
 .rename_i h1 _ L h2;have:=(c.lt _ _ h2).2;rw[<-h] at this;exact absurd this (Nat.lt_irrefl _)
 .exact congrArg Prod.snd h
theorem Cx.Bl (c:Cx){o p:Nat}(h:o≠p):c.lc o≠c.lc p:=fun e=>h (c.wD e)
theorem Cx.ni (c:Cx)(o:Nat):(c.lc o).1<=c.dp:=by
 unfold Cx.lc;split
 .rename_i L hL;exact Nat.le_of_lt (c.lt _ _ hL).2
 .exact mF _
def Cx.out (c:Cx)(L:Loc):Prop:=∀o,L≠c.lc o
structure ak where
 ob:Nat->Option Nat
 tk:Nat->Option Nat
 ln:Nat->Nat
 om:Cx
section
variable (R:Tq)
def dK:Ty->Bool
 |.st _=>false|_=>true
structure VH:Prop where
 adg:∀n p,R.of n (R.to n p)=p
 enc:∀n x,R.enc n x= .agg (encs R (R.lf n) (R.of n x))
 leaf:∀n,(R.lf n).all dK=true
 pc:∀n x,Q9 (R.enc n x)=true
def nk (Z:ak)(top:Nat->Nat)(sz len:Nat):Cp->Cap->Prop
 |.any,_=>True|.sh,c=>c= .sh|.nil,c=>c= .nil|.full,c=>c= .full|.own t,c=>c= .nil\/c= .full\/∃s,c= .own sz s/\Z.tk t=some s/\top s=len
mutual
def Rl (Z:ak)(top:Nat->Nat):TV R.T->V->Prop
 |.int k n,v=>v= .int k n|.bool b,v=>v= .bool b|.Tn b,v=>v= .bool b|.str s,v=>v= .str s|.SX,v=>v= .SX|.SQ,v=>v= .SQ|.SF,v=>v= .SF|.Sw,v=>v= .Sw|.TK,v=>v= .tX .nil []|.agg cs,v=>∃l,v= .agg l/\ah Z top cs l|.Rm cs,v=>∃l,v= .Rm l/\ah Z top cs l|.tX c t l,v=>∃c',v= .tX c' (l.map (Q8 R t))/\nk Z top (RD R t) l.length c c'|.ref o off,v=>∃s,Z.ob o=some s/\v= .ref (Z.om.lc o) s off|.Q5 cs off,v=>∃l,v= .Q5 l off/\ah Z top cs l
 |.RA o,v=>∃s,Z.ob o=some s/\v= .RA (Z.om.lc o) s|.RX k e m,v=>v= .RX (m.map fun p=>Q8 R k p.1) (m.map fun p=>Q8 R e p.2)
 |.fn f a b,v=>∃a' b',v= .fn (.func f) a' b'/\ah Z top a a'/\ah Z top b b'|.opt _ _ _,_=>False|.vw o t,v=>(∃s,Z.ob o=some s/\v= .vw (Z.om.lc o) s 0 (Z.ln o) (Z.ln o) (RD R t) (Tk t))\/(Z.ln o=0/\(v= .tX .nil []\/v= .tX .full []))|.sub o t a b,v=>0<=a/\a<=b/\b<=Z.ln o/\((∃s cp,Z.ob o=some s/\(b-a).toNat<=cp/\v= .vw (Z.om.lc o) s (a.toNat*RD R t) (b-a).toNat cp (RD R t) (Tk t))\/(a=b/\∃c,v= .tX c []))
 |.Uo o t i off,v=>∃s,Z.ob o=some s/\0<=i/\v= .ref (Z.om.lc o) s (i.toNat*RD R t+off)|.sg ss,v=>v= .agg (Uu ss)|.sv o off k n lo hi,v=>∃s,Z.ob o=some s/\svB n lo hi=true/\v= .vw (Z.om.lc o) s (off+(loI lo).toNat) ((hiI n hi).toNat-(loI lo).toNat) (n-(loI lo).toNat) 1 false|.sel o off k n i m,v=>∃s,Z.ob o=some s/\0<=i/\i.toNat+m<=n/\v= .ref (Z.om.lc o) s (off+i.toNat)|.XY k n x i,v=>0<=i/\i<n/\v= .Q5 (x.l.map (V.int k)) i.toNat
 |.undef,v=>v=FN|.gone,_=>True
def ah (Z:ak)(top:Nat->Nat):List (TV R.T)->List V->Prop
 | [],l=>l=[]|t::ts,l=>∃v vs,l=v::vs/\Rl Z top t v/\ah Z top ts vs
end
variable {R}
variable {Z Z':ak}{top top':Nat->Nat}
theorem ah.bg {vs:List V}(h:ah R Z top [] vs):vs=[]:=by unfold ah at h;exact h
theorem ah.aP {t:TV R.T}{ts:List (TV R.T)}{vs:List V}(h:ah R Z top (t::ts) vs):∃v l,vs=v::l/\Rl R Z top t v/\ah R Z top ts l:=by unfold ah at h;exact h
theorem Rl.bW {k:IntKind}{n:Int}{v:V}(h:Rl R Z top (.int k n) v):v= .int k n:=by unfold Rl at h;exact h
theorem Rl.eO {b:Bool}{v:V}(h:Rl R Z top (.bool b) v):v= .bool b:=by unfold Rl at h;exact h
theorem Rl.gB {b:Bool}{v:V}(h:Rl R Z top (.Tn b) v):v= .bool b:=by unfold Rl at h;exact h
theorem Rl.dL {b:List UInt8}{v:V}(h:Rl R Z top (.str b) v):v= .str b:=by unfold Rl at h;exact h
theorem Rl.je {v:V}(h:Rl R Z top .TK v):v= .tX .nil []:=by unfold Rl at h;exact h
theorem Rl.cO {cs:List (TV R.T)}{v:V}(h:Rl R Z top (.agg cs) v):∃l,v= .agg l/\ah R Z top cs l:=by unfold Rl at h;exact h
theorem Rl.nu {cs:List (TV R.T)}{v:V}(h:Rl R Z top (.Rm cs) v):∃l,v= .Rm l/\ah R Z top cs l:=by unfold Rl at h;exact h
theorem Rl.dz {c:Cp}{t:Ty}{l:List (Den R.T t)}{v:V}(h:Rl R Z top (.tX c t l) v):∃c',v= .tX c' (l.map (Q8 R t))/\nk Z top (RD R t) l.length c c':=by unfold Rl at h;exact h
theorem Rl.iM {o off:Nat}{v:V}(h:Rl R Z top (.ref o off) v):∃s,Z.ob o=some s/\v= .ref (Z.om.lc o) s off:=by unfold Rl at h;exact h
theorem Rl.gD {cs:List (TV R.T)}{off:Nat}{v:V}(h:Rl R Z top (.Q5 cs off) v):∃l,v= .Q5 l off/\ah R Z top cs l:=by unfold Rl at h;exact h
theorem Rl.jG {o:Nat}{v:V}(h:Rl R Z top (.RA o) v):∃s,Z.ob o=some s/\v= .RA (Z.om.lc o) s:=by unfold Rl at h;exact h
theorem Rl.ku {k e:Ty}{m:List (Den R.T k×Den R.T e)}{v:V}(h:Rl R Z top (.RX k e m) v):v= .RX (m.map fun p=>Q8 R k p.1) (m.map fun p=>Q8 R e p.2):=by unfold Rl at h;exact h
theorem Rl.dS {f:Nat}{a b:List (TV R.T)}{v:V}(h:Rl R Z top (.fn f a b) v):∃a' b',v= .fn (.func f) a' b'/\ah R Z top a a'/\ah R Z top b b':=by unfold Rl at h;exact h
theorem Rl.jH {o:Nat}{t:Ty}{v:V}(h:Rl R Z top (.vw o t) v):(∃s,Z.ob o=some s/\v= .vw (Z.om.lc o) s 0 (Z.ln o) (Z.ln o) (RD R t) (Tk t))\/(Z.ln o=0/\(v= .tX .nil []\/v= .tX .full [])):=by unfold Rl at h;exact h
theorem Rl.kC {o:Nat}{t:Ty}{a b:Int}{v:V}(h:Rl R Z top (.sub o t a b) v):0<=a/\a<=b/\b<=Z.ln o/\((∃s cp,Z.ob o=some s/\(b-a).toNat<=cp/\v= .vw (Z.om.lc o) s (a.toNat*RD R t) (b-a).toNat cp (RD R t) (Tk t))\/(a=b/\∃c,v= .tX c [])):=by unfold Rl at h;exact h
theorem Rl.lQ {o off:Nat}{t:Ty}{i:Int}{v:V}(h:Rl R Z top (.Uo o t i off) v):∃s,Z.ob o=some s/\0<=i/\v= .ref (Z.om.lc o) s (i.toNat*RD R t+off):=by unfold Rl at h;exact h
theorem Rl.rH {ss:List Sg}{v:V}(h:Rl R Z top (.sg ss) v):v= .agg (Uu ss):=by unfold Rl at h;exact h
theorem Rl.rJ {o off n:Nat}{k:IntKind}{lo hi:Option Int}{v:V}(h:Rl R Z top (.sv o off k n lo hi) v):∃s,Z.ob o=some s/\svB n lo hi=true/\v= .vw (Z.om.lc o) s (off+(loI lo).toNat) ((hiI n hi).toNat-(loI lo).toNat) (n-(loI lo).toNat) 1 false:=by unfold Rl at h;exact h
theorem Rl.wE {o off n m:Nat}{k:IntKind}{i:Int}{v:V}(h:Rl R Z top (.sel o off k n i m) v):∃s,Z.ob o=some s/\0<=i/\i.toNat+m<=n/\v= .ref (Z.om.lc o) s (off+i.toNat):=by unfold Rl at h;exact h
theorem Rl.wF {n:Nat}{k:IntKind}{x:Vec n}{i:Int}{v:V}(h:Rl R Z top (.XY k n x i) v):0<=i/\i<n/\v= .Q5 (x.l.map (V.int k)) i.toNat:=by unfold Rl at h;exact h
theorem Rl.Bn {v:V}(h:Rl R Z top .undef v):v=FN:=by unfold Rl at h;exact h
theorem Rl.Bo {j:Nat}{w:Bool}{x:TV R.T}{v:V}(h:Rl R Z top (.opt j w x) v):False:=by unfold Rl at h;exact h
theorem ah.cons' {t:TV R.T}{ts:List (TV R.T)}{v:V}{vs:List V}(h:Rl R Z top t v)(h':ah R Z top ts vs):ah R Z top (t::ts) (v::vs):=⟨v,vs,rfl,h,h'⟩
theorem ah.length:∀{ts:List (TV R.T)}{vs:List V},ah R Z top ts vs->vs.length=ts.length
 | [],_,h=>by cases h;rfl|_::ts,_,⟨v,vs,e,_,h'⟩=>by subst e;simp[ah.length h']
theorem ah.append:∀{ts ts':List (TV R.T)}{vs vs':List V},ah R Z top ts vs->ah R Z top ts' vs'->ah R Z top (ts++ts') (vs++vs')
 | [],_,_,_,h,h2=>by cases h;exact h2|_::ts,_,_,_,⟨v,vs,e,h1,h'⟩,h2=>by subst e;exact .cons' h1 (ah.append h' h2)
theorem ah.drop:∀(n:Nat){ts:List (TV R.T)}{vs:List V},ah R Z top ts vs->ah R Z top (ts.drop n) (vs.drop n)
 |0,_,_,h=>by simpa using h|n+1,[],_,h=>by cases h;simp;rfl|n+1,_::ts,_,⟨v,vs,e,h1,h'⟩=>by subst e;simpa using ah.drop n h'
theorem ah.take:∀(n:Nat){ts:List (TV R.T)}{vs:List V},ah R Z top ts vs->ah R Z top (ts.take n) (vs.take n)
 |0,_,_,h=>by simp;rfl|n+1,[],_,h=>by cases h;simp;rfl|n+1,_::ts,_,⟨v,vs,e,h1,h'⟩=>by subst e;simpa using .cons' h1 (ah.take n h')
theorem ah.get:∀{ts:List (TV R.T)}{vs:List V}{i:Nat}{t:TV R.T},ah R Z top ts vs->ts[i]? =some t->∃v,vs[i]? =some v/\Rl R Z top t v
 | [],_,_,_,_,h=>by simp at h|_::ts,_,0,_,⟨v,vs,e,h1,h'⟩,h=>by subst e;simp at h;subst h;exact⟨v,by simp,h1⟩|_::ts,_,i+1,_,⟨v,vs,e,h1,h'⟩,h=>by subst e;simpa using ah.get h' (by simpa using h)
mutual
theorem Rl.wk (t:Nat)(ho:Z'.ob=Z.ob/\Z'.ln=Z.ln/\Z'.om=Z.om)(ht:∀u s,u≠t->Z.tk u=some s->Z'.tk u=some s/\top' s=top s):∀(x:TV R.T)(v:V),Rl R Z top x v->Rl R Z' top' (wk t x) v
 |.tX (.own u) ty l,v,h=>by
  obtain⟨c',hv,hc⟩:=h;unfold Aq.wk;by_cases e:Nat.beq u t=true
  .rw[e,cond_true];exact⟨c',hv,trivial⟩
  .have e':Nat.beq u t=false:=Bool.eq_false_iff.2 e;rw[e',cond_false];refine⟨c',hv,?_⟩;rcases hc with hc|hc| ⟨s,h1,h2,h3⟩
   .exact .inl hc
   .exact .inr (.inl hc)
   .have hne:u≠t:=fun h=>e (by rw[h];exact Qt t);have:=ht u s hne h2;exact .inr (.inr ⟨s,h1,this.1,by rw[this.2];exact h3⟩)
 |.tX .any ty l,v,h=>by obtain⟨c',hv,hc⟩:=h;exact⟨c',hv,trivial⟩
 |.tX .sh ty l,v,h=>by obtain⟨c',hv,hc⟩:=h;exact⟨c',hv,hc⟩
 |.tX .nil ty l,v,h=>by obtain⟨c',hv,hc⟩:=h;exact⟨c',hv,hc⟩
 |.tX .full ty l,v,h=>by obtain⟨c',hv,hc⟩:=h;exact⟨c',hv,hc⟩
 |.agg cs,v,h=>by obtain⟨l,hv,hl⟩:=h;exact⟨l,hv,ah.wk t ho ht cs l hl⟩
 |.Rm cs,v,h=>by obtain⟨l,hv,hl⟩:=h;exact⟨l,hv,ah.wk t ho ht cs l hl⟩
 |.Q5 cs off,v,h=>by obtain⟨l,hv,hl⟩:=h;exact⟨l,hv,ah.wk t ho ht cs l hl⟩
 |.fn f a b,v,h=>by obtain⟨a',b',hv,ha,hb⟩:=h;exact⟨a',b',hv,ah.wk t ho ht a a' ha,ah.wk t ho ht b b' hb⟩
 |.ref o off,v,h=>by obtain⟨s,h1,h2⟩:=h;exact⟨s,by rw[ho.1];exact h1,by rw[ho.2.2];exact h2⟩
 |.RA o,v,h=>by obtain⟨s,h1,h2⟩:=h;exact⟨s,by rw[ho.1];exact h1,by rw[ho.2.2];exact h2⟩
 |.vw o ty,v,h=>by
  rcases h with ⟨s,h1,h2⟩| ⟨h1,h2⟩
  .exact .inl ⟨s,by rw[ho.1];exact h1,by rw[ho.2.1,ho.2.2];exact h2⟩
  .exact .inr ⟨by rw[ho.2.1];exact h1,h2⟩
 |.sub o ty a b,v,h=>by
  obtain⟨k0,k1,k2,h⟩:=h;refine⟨k0,k1,by rw[ho.2.1];exact k2,?_⟩;rcases h with ⟨s,cp,h1,h2,h3⟩|h
  .exact .inl ⟨s,cp,by rw[ho.1];exact h1,h2,by rw[ho.2.2];exact h3⟩
  .exact .inr h
 |.Uo o ty i off,v,h=>by obtain⟨s,h1,h2⟩:=h;exact⟨s,by rw[ho.1];exact h1,by rw[ho.2.2];exact h2⟩
 |.sv o _ _ _ _ _,v,h=>by obtain⟨s,h1,h2⟩:=h;exact⟨s,by rw[ho.1];exact h1,by rw[ho.2.2];exact h2⟩
 |.sel o _ _ _ _ _,v,h=>by obtain⟨s,h1,h2⟩:=h;exact⟨s,by rw[ho.1];exact h1,by rw[ho.2.2];exact h2⟩
 |.sg _,_,h=>h|.XY _ _ _ _,_,h=>h|.opt _ _ _,_,h=>h.elim|.int _ _,_,h=>h|.bool _,_,h=>h|.Tn _,_,h=>h|.str _,_,h=>h|.SX,_,h=>h|.SQ,_,h=>h|.SF,_,h=>h|.Sw,_,h=>h|.TK,_,h=>h|.RX _ _ _,_,h=>h|.undef,_,h=>h|.gone,_,h=>h
theorem ah.wk (t:Nat)(ho:Z'.ob=Z.ob/\Z'.ln=Z.ln/\Z'.om=Z.om)(ht:∀u s,u≠t->Z.tk u=some s->Z'.tk u=some s/\top' s=top s):∀(x:List (TV R.T))(v:List V),ah R Z top x v->ah R Z' top' (Yt t x) v
 | [],_,h=>h|x::xs,_,⟨v,vs,e,h1,h2⟩=>⟨v,vs,e,Rl.wk t ho ht x v h1,ah.wk t ho ht xs vs h2⟩
end
mutual
theorem Rl.kill (o:Nat)(ho:∀p,p≠o->Z'.ob p=Z.ob p/\Z'.ln p=Z.ln p)(ht:Z'.tk=Z.tk)(hx:Z'.om=Z.om):∀(x:TV R.T)(v:V),Uq o x=false->Rl R Z top x v->Rl R Z' top x v
 |.tX c ty l,v,_,h=>by
  obtain⟨c',hv,hc⟩:=h;refine⟨c',hv,?_⟩;cases c<;>try exact hc
  rcases hc with hc|hc| ⟨s,h1,h2,h3⟩
  .exact .inl hc
  .exact .inr (.inl hc)
  .exact .inr (.inr ⟨s,h1,by rw[ht];exact h2,h3⟩)
 |.agg cs,v,hm,h=>by obtain⟨l,hv,hl⟩:=h;exact⟨l,hv,ah.kill o ho ht hx cs l hm hl⟩
 |.Rm cs,v,hm,h=>by obtain⟨l,hv,hl⟩:=h;exact⟨l,hv,ah.kill o ho ht hx cs l hm hl⟩
 |.Q5 cs off,v,hm,h=>by obtain⟨l,hv,hl⟩:=h;exact⟨l,hv,ah.kill o ho ht hx cs l hm hl⟩
 |.fn f a b,v,hm,h=>by obtain⟨a',b',hv,ha,hb⟩:=h;unfold Uq at hm;rw[Qs] at hm;exact⟨a',b',hv,ah.kill o ho ht hx a a' hm.1 ha,ah.kill o ho ht hx b b' hm.2 hb⟩
 |.ref p off,v,hm,h=>by obtain⟨s,h1,h2⟩:=h;unfold Uq at hm;exact⟨s,((ho p (fun e=>by rw[e,Qt] at hm;cases hm)).1.trans h1),by rw[hx];exact h2⟩
 |.RA p,v,hm,h=>by obtain⟨s,h1,h2⟩:=h;unfold Uq at hm;exact⟨s,((ho p (fun e=>by rw[e,Qt] at hm;cases hm)).1.trans h1),by rw[hx];exact h2⟩
 |.vw p ty,v,hm,h=>by
  unfold Uq at hm;obtain⟨k1,k2⟩:=ho p (fun e=>by rw[e,Qt] at hm;cases hm);rcases h with ⟨s,h1,h2⟩| ⟨h1,h2⟩
  .exact .inl ⟨s,k1.trans h1,by rw[k2,hx];exact h2⟩
  .exact .inr ⟨by rw[k2];exact h1,h2⟩
 |.sub p ty a b,v,hm,h=>by
  unfold Uq at hm;obtain⟨k1,k2⟩:=ho p (fun e=>by rw[e,Qt] at hm;cases hm);obtain⟨g0,g1,g2,h⟩:=h;refine⟨g0,g1,by rw[k2];exact g2,?_⟩;rcases h with ⟨s,cp,h1,h2,h3⟩|h
  .exact .inl ⟨s,cp,k1.trans h1,h2,by rw[hx];exact h3⟩
  .exact .inr h
 |.Uo p ty i off,v,hm,h=>by obtain⟨s,h1,h2⟩:=h;unfold Uq at hm;exact⟨s,((ho p (fun e=>by rw[e,Qt] at hm;cases hm)).1.trans h1),by rw[hx];exact h2⟩
 |.sv p _ _ _ _ _,v,hm,h=>by obtain⟨s,h1,h2⟩:=h;unfold Uq at hm;exact⟨s,((ho p (fun e=>by rw[e,Qt] at hm;cases hm)).1.trans h1),by rw[hx];exact h2⟩
 |.sel p _ _ _ _ _,v,hm,h=>by obtain⟨s,h1,h2⟩:=h;unfold Uq at hm;exact⟨s,((ho p (fun e=>by rw[e,Qt] at hm;cases hm)).1.trans h1),by rw[hx];exact h2⟩
 |.sg _,_,_,h=>h|.XY _ _ _ _,_,_,h=>h|.opt _ _ _,_,_,h=>h.elim|.int _ _,_,_,h=>h|.bool _,_,_,h=>h|.Tn _,_,_,h=>h|.str _,_,_,h=>h|.SX,_,_,h=>h|.SQ,_,_,h=>h|.SF,_,_,h=>h|.Sw,_,_,h=>h|.TK,_,_,h=>h|.RX _ _ _,_,_,h=>h|.undef,_,_,h=>h|.gone,_,_,h=>h
theorem ah.kill (o:Nat)(ho:∀p,p≠o->Z'.ob p=Z.ob p/\Z'.ln p=Z.ln p)(ht:Z'.tk=Z.tk)(hx:Z'.om=Z.om):∀(x:List (TV R.T))(v:List V),Vn o x=false->ah R Z top x v->ah R Z' top x v
 | [],_,_,h=>h|x::xs,_,hm,⟨v,vs,e,h1,h2⟩=>by unfold Vn at hm;rw[Qs] at hm;exact⟨v,vs,e,Rl.kill o ho ht hx x v hm.1 h1,ah.kill o ho ht hx xs vs hm.2 h2⟩
end
section
variable (hR:VH R)
include hR
def ny (v w:V):Prop:=aN v=w/\er v=w/\Q9 w=true/\(∀n Y,Rf (n+2) Y v=some w)/\oneCell v=true/\v.cells=[v]
omit hR in
theorem K5 {v:V}(h:∀cs,v≠ .agg cs):er v=aN v:=by cases v<;>first|rfl|exact absurd rfl (h _)
theorem Vd:∀(t:Ty)(x:Den R.T t),Q9 (Q8 R t x)=true
 |.int _,x=>by simp[Q8,Q9]|.bool,x=>by simp[Q8,Q9]|.str,x=>by simp[Q8,Q9]|.slice t,x=>rF (Vd t) x|.st n,x=>hR.pc n x
theorem Bp (c:Cp)(hc:nk Z top 1 0 c .sh/\(c= .any\/c= .sh)):∀(t:Ty)(x:Den R.T t),dK t=true->Rl R Z top (tv1 R c t x) (Q8 R t x)
 |.int _,x,_=>rfl|.bool,x,_=>rfl|.str,x,_=>rfl|.slice t,x,_=>⟨.sh,rfl,by rcases hc.2 with rfl|rfl<;>first|trivial|rfl⟩
 |.st n,x,h=>by simp[dK] at h
theorem Bq (c:Cp)(hc:nk Z top 1 0 c .sh/\(c= .any\/c= .sh)):∀(l:List Ty)(p:Vm R.T l),l.all dK=true->ah R Z top (TR R c l p) (encs R l p)
 | [],_,_=>rfl| [t],x,h=>.cons' (Bp hR c hc t x (by simpa using h)) rfl|t::u::l,p,h=>by rw[List.all_cons,Pz] at h;exact .cons' (Bp hR c hc t p.1 h.1) (Bq c hc (u::l) p.2 h.2)
theorem rM (c:Cp)(hc:c= .any\/c= .sh):∀(t:Ty)(x:Den R.T t),Rl R Z top (SV R c t x) (Q8 R t x)
 |.int _,x=>rfl|.bool,x=>rfl|.str,x=>rfl|.slice t,x=>⟨.sh,rfl,by rcases hc with rfl|rfl<;>first|trivial|rfl⟩
 |.st n,x=>⟨_,hR.enc n x,Bq hR c ⟨by rcases hc with rfl|rfl<;>first|trivial|rfl,hc⟩ _ _ (hR.leaf n)⟩
theorem Br (t:Ty)(x:Den R.T t):Rl R Z top (SV R .sh t x) (Q8 R t x):=rM hR .sh (.inr rfl) t x
omit hR in
theorem K6 (k:IntKind)(n:Int):ny (.int k n) (.int k n):=⟨rfl,rfl,by simp[Q9],fun n Y=>vZ (n+1) _ _,rfl,rfl⟩
omit hR in
theorem K7 (b:Bool):ny (.bool b) (.bool b):=⟨rfl,rfl,by simp[Q9],fun n Y=>aeu (n+1) _,rfl,rfl⟩
omit hR in
theorem K8 (b:List UInt8):ny (.str b) (.str b):=⟨rfl,rfl,by simp[Q9],fun n Y=>wh (n+1) _,rfl,rfl⟩
theorem K9 (c:Cap)(t:Ty)(l:List (Den R.T t)):ny (.tX c (l.map (Q8 R t))) (Q8 R (.slice t) l):=⟨rfl,rfl,Vd hR (.slice _) _,fun n Y=>Yr _ _ (Vd hR _),rfl,rfl⟩
omit hR in
theorem wG {k:IntKind}{x:Int}{tv:TV R.T}{v:V}(h:aeA R k tv=some x)(hr:Rl R Z top tv v):v= .int k x:=by
 unfold aeA at h;split at h
 .split at h
  .rename_i e;cases e;cases h;exact hr.bW
  .cases h
 .cases h
omit hR in
theorem wH {x:Bool}{tv:TV R.T}{v:V}(h:aeB R tv=some x)(hr:Rl R Z top tv v):v= .bool x:=by
 unfold aeB at h;split at h<;>cases h
 .exact hr.eO
 .exact hr.gB
omit hR in
theorem wI {x:List UInt8}{tv:TV R.T}{v:V}(h:aeC R tv=some x)(hr:Rl R Z top tv v):v= .str x:=by unfold aeC at h;split at h<;>cases h;exact hr.dL
omit hR in
theorem gF {t u:Ty}{l:List (Den R.T t)}{m:List (Den R.T u)}(h:V4 R l=some m):t=u/\HEq l m:=by
 unfold V4 at h;split at h
 .rename_i e;subst e;cases h;exact⟨rfl,HEq.rfl⟩
 .cases h
omit hR in
theorem Bt {t:Ty}{x:List (Den R.T t)}{tv:TV R.T}{v:V}(h:aeD R t tv=some x)(hr:Rl R Z top tv v):∃c,v= .tX c (x.map (Q8 R t)):=by
 unfold aeD at h;split at h
 .obtain⟨e,e2⟩:=gF h;subst e;cases e2;obtain⟨c',hv,hc⟩:=hr.dz;exact⟨c',hv⟩
 .cases h;exact⟨.nil,hr.je⟩
 .cases h
theorem nA {t:Ty}{x:Den R.T t}{tv:TV R.T}{v:V}(h:Wo R t tv=some x)(hr:Rl R Z top tv v):ny v (Q8 R t x):=by
 cases t with
 |int k=>rw[wG h hr];exact K6 _ _|bool=>rw[wH h hr];exact K7 _|str=>rw[wI h hr];exact K8 _|slice t=>obtain⟨c,hv⟩:=Bt h hr;rw[hv];exact K9 hR _ _ _
 |st n=>cases h
theorem La {t:Ty}{x:Den R.T t}{cs:List (TV R.T)}{vs:List V}(h:Wo R t (hd1 R cs)=some x)(hr:ah R Z top cs vs):∃v,vs=[v]/\ny v (Q8 R t x):=by
 cases cs with
 |nil=>cases t<;>cases h|cons c cs=>
  cases cs with
  |nil=>obtain⟨v,l,rfl,h1,h2⟩:=hr.aP;rw[h2.bg];exact⟨v,rfl,nA hR h h1⟩
  |cons c' cs=>cases t<;>cases h
theorem Bu:∀(l:List Ty)(p:Vm R.T l)(cs:List (TV R.T))(vs:List V),uns R l cs=some p->ah R Z top cs vs->
 vs.map aN=encs R l p/\(∀n Y,vs.mapM (Rf (n+2) Y)=some (encs R l p))/\Rz (encs R l p)=true/\vs.all (fun v=>oneCell v)=true
 | [],p,cs,vs,h,hr=>by
   cases cs with
   |nil=>rw[hr.bg];exact⟨rfl,fun _ _=>rfl,by simp[encs,Rz],rfl⟩
   |cons c cs=>cases h
 | [t],p,cs,vs,h,hr=>by obtain⟨v,rfl,a,b,c,d,e,_⟩:=La hR (show Wo R t (hd1 R cs)=some p from h) hr;exact⟨by simp[encs,a],fun n Y=>by simp[encs,d],by simp[encs,Rz,c],by simp[e]⟩
 |t::u::l,p,cs,vs,h,hr=>by
  cases cs with
  |nil=>cases h|cons c cs=>
   obtain⟨v,vs,rfl,h1,h2⟩:=hr.aP;unfold uns at h;cases hu:Wo R t c with
   |none=>simp only[hu] at h;cases h|some y=>
    cases hs:uns R (u::l) cs with
    |none=>simp only[hu,hs] at h;cases h|some q=>simp only[hu,hs] at h;obtain rfl:=P9 h;obtain⟨a,b,c,d,e,_⟩:=nA hR hu h1;obtain⟨a',d',c',o'⟩:=Bu (u::l) q cs vs hs h2;exact⟨by simp[encs,a,a'],fun n Y=>by simp[encs,d,d'],by simp[encs,Rz,c,c'],by simp[e,o']⟩
omit hR in
theorem wJ:∀(l:List Ty)(p:Vm R.T l),(encs R l p).length=l.length
 | [],_=>rfl| [_],_=>rfl|_::u::l,p=>by show (encs R (u::l) p.2).length+1=_;rw[wJ];rfl
omit hR in
theorem wK {n:Nat}{Y:qd}(cs:List V):Rf (n+3) Y (.agg cs)=(cs.mapM (Rf (n+2) Y)).map .agg:=by
 by_cases hp:Q9 (.agg cs)=true
 .rw[Uw hp];have:∀cs:List V,Rz cs=true->cs.mapM (Rf (n+2) Y)=some cs:=by
   intro cs;induction cs with
   |nil=>intro _;rfl|cons a l ih=>intro h;simp only[Rz,Pz] at h;rw[PW,Uw h.1,ih h.2];rfl
  rw[this cs (by simpa [Q9] using hp)];rfl
 .conv=>lhs;unfold Rf
  simp only[hp,if_false,PE]
theorem wL {t:Ty}{x:Den R.T t}{tv:TV R.T}{v:V}(h:V5 R t tv=some x)(hr:Rl R Z top tv v):
 er v=Q8 R t x/\Q9 (Q8 R t x)=true/\(∀n Y,Rf (n+3) Y v=some (Q8 R t x))/\v.cells.length=RD R t/\RN v.cells=true:=by
 cases t with
 |st n=>
  change abk R n tv=some x at h;unfold abk at h;split at h
  .rename_i cs;split at h
   .rename_i p hp;obtain rfl:=P9 h;obtain⟨l,hv,hl⟩:=hr.cO;subst hv;obtain⟨a,d,c,o⟩:=Bu hR _ _ _ _ hp hl;have he:Q8 R (.st n) (R.to n p)= .agg (encs R (R.lf n) p):=(by show R.enc n (R.to n p)=_;rw[hR.enc,hR.adg]);refine⟨?_,Vd hR (.st n) _,fun k Y=>?_,?_,o⟩
    .rw[he];show V.agg (l.map aN)=_;rw[a]
    .rw[he,wK,d k Y];rfl
    .show l.length=_;have:=congrArg List.length a;rw[PY] at this;rw[this];exact wJ _ _
   .cases h
  .cases h
 |int k=>obtain⟨a,b,c,d,e,f⟩:=nA hR (t:=.int k) h hr;exact⟨b,c,fun n Y=>d (n+1) Y,by rw[f];rfl,by rw[f];simp[RN,e]⟩
 |bool=>obtain⟨a,b,c,d,e,f⟩:=nA hR (t:=.bool) h hr;exact⟨b,c,fun n Y=>d (n+1) Y,by rw[f];rfl,by rw[f];simp[RN,e]⟩
 |str=>obtain⟨a,b,c,d,e,f⟩:=nA hR (t:=.str) h hr;exact⟨b,c,fun n Y=>d (n+1) Y,by rw[f];rfl,by rw[f];simp[RN,e]⟩
 |slice t=>obtain⟨a,b,c,d,e,f⟩:=nA hR (t:=.slice t) h hr;exact⟨b,c,fun n Y=>d (n+1) Y,by rw[f];rfl,by rw[f];simp[RN,e]⟩
end
end
end Aq
end
