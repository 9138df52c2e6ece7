import Derived.Test.YtgdialomgeijcaaGreatF3905
set_option linter.all false
section
namespace Aq
open Go
inductive R4 (R:Tv) where
 |t (v:TV R.T)
 |c (b:Bool) (v:TV R.T)
 |w (v:TV R.T) (st:MS R.T)
 |wc (b:Bool) (v:TV R.T) (st:MS R.T)
 |p (U:Type) (d:U) (o:Option U) (f:U->TV R.T)
section
variable (E:Env)(R:Tv)
def aeM {T:Nat->Type}(agg:Bool)(n:Nat)(cs:List (TV T))(off:Nat):Option (TV T):=bif agg then (bif Nat.ble (off+n) cs.length then some (.agg ((cs.drop off).take n)) else none) else cs[off]?
def UH {T:Nat->Type}(t:TypeId)(cs:List (TV T))(off:Nat):Option (TV T):=
 match U9 E.P t with
 |some a=>match RN E.P t with
  |some n=>aeM a n cs off|none=>none
 |none=>none
def ab8 {T:Nat->Type}(cs:List (TV T))(off:Nat)(vs:List (TV T)):List (TV T):=cs.take off++vs++cs.drop (off+vs.length)
def aeN {T:Nat->Type}(place:Nat->Option (Nat×Nat))(cells:List (TV T)):List (Nat×TV T)->Option (List (TV T))
 | []=>some cells| (i,v)::rest=>match place i with
   |none=>none|some (off,size)=>bif Nat.beq v.cells.length size&& Nat.ble (off+size) cells.length&& WG v then aeN place (ab8 cells off v.cells) rest else none
def aaR {T:Nat->Type}(t:TypeId):Option (TV T):=match E.P.info? t with
 |some i=>match i.zero with
  |some z=>ab2 z|none=>none
 |none=>none
def bM {T:Nat->Type}:TV T->Option Bool
 |.bool a=>some a|.Tt a=>some a|_=>none
def aeO {T:Nat->Type}(x y:TV T):Option Bool:=match bM x,bM y with
 |some a,some b=>some (a==b)|_,_=>none
def ab9 {T:Nat->Type}(eq:TypeId->TV T->TV T->Option Bool)(xs ys:List (TV T)):List Field->Option Bool
 | []=>some true|f::fs=>if f.name= "_" then ab9 eq xs ys fs else match UH E f.type xs f.offset with
  |none=>none|some a=>match UH E f.type ys f.offset with
   |none=>none|some b=>match eq f.type a b with
    |none=>none|some r=>match ab9 eq xs ys fs with
     |none=>none|some q=>some (r&& q)
def ac9 {T:Nat->Type}(eq:TypeId->TV T->TV T->Option Bool)(e:TypeId)(sz:Nat)(xs ys:List (TV T)):List Nat->Option Bool
 | []=>some true|i::is=>match UH E e xs (i*sz) with
  |none=>none|some a=>match UH E e ys (i*sz) with
   |none=>none|some b=>match eq e a b with
    |none=>none|some r=>match ac9 eq e sz xs ys is with
     |none=>none|some q=>some (r&& q)
def acd {T:Nat->Type}:Nat->TypeId->TV T->TV T->Option Bool
 |0,_,_,_=>none|d+1,t,x,y=>
  match E.P.underlying t,x,y with
  |some (.struct fs),.agg xs,.agg ys=>if E.P.stoodInHeld t then none else ab9 E (acd d) xs ys fs.toList|some (.array n e),.agg xs,.agg ys=>match RN E.P e with
   |some sz=>ac9 E (acd d) e sz xs ys (List.range n)|none=>none
  |some (.struct _),_,_=>none|some (.array _ _),_,_=>none|some .bool,x,y=>aeO x y|some (.int _),.int k a,.int k' b=>if k=k' then some (a==b) else none|some .string,.str a,.str b=>some (a==b)|_,_,_=>none
def eqM {T:Nat->Type}(t:TypeId)(x y:TV T):Option Bool:=
 match E.P.underlying t,x,y with
 |some (.struct _),.agg a,.agg b=>if E.P.eqGuardType E.P.depth t then none else acd E 8 t (.agg a) (.agg b)|some (.array _ _),.agg a,.agg b=>if E.P.eqGuardType E.P.depth t then none else acd E 8 t (.agg a) (.agg b)|some (.func ..),.SV,.SV=>some true|some (.func ..),.SV,.fn _ _ _=>some false|some (.func ..),.fn _ _ _,.SV=>some false|some .bool,x,y=>aeO x y|_,_,_=>none
def aeQ (op:BinOp)(k:IntKind)(x y:Int):Option (R4 R):=
 match op with
 |.add=>some (.t (.int k (k.wrap (x+y))))|.sub=>some (.t (.int k (k.wrap (x-y))))|.mul=>some (.t (.int k (k.wrap (x*y))))|.quo=>some (.c (!(y==0)) (.int k (k.wrap (x.tdiv y))))|.rem=>some (.c (!(y==0)) (.int k (x.tmod y)))|.and=>some (.t (.int k (k.wrap (BitVec.ofInt k.bits x&&& BitVec.ofInt k.bits y).toNat)))|.or=>some (.t (.int k (k.wrap (BitVec.ofInt k.bits x|||BitVec.ofInt k.bits y).toNat)))|.xor=>some (.t (.int k (k.wrap (BitVec.ofInt k.bits x^^^BitVec.ofInt k.bits y).toNat)))
 |.andNot=>some (.t (.int k (k.wrap (BitVec.ofInt k.bits x&&& ~~~BitVec.ofInt k.bits y).toNat)))|.eql=>some (.t (.bool (x==y)))|.neq=>some (.t (.bool (x !=y)))|.lss=>some (.t (.bool (decide (x<y))))|.leq=>some (.t (.bool (decide (x<=y))))|.gtr=>some (.t (.bool (decide (x>y))))|.geq=>some (.t (.bool (decide (x>=y))))|_=>none
def agb (op:BinOp)(k:IntKind)(x y:Int):Option (R4 R):=
 match op with
 |.shl=>some (.c (decide (0<=y)) (.int k (k.wrap (x*2^min y.toNat k.bits))))|.shr=>some (.c (decide (0<=y)) (.int k (x.fdiv (2^min y.toNat k.bits))))|_=>none
def agc (op:BinOp)(x y:List UInt8):Option (R4 R):=
 match op with
 |.add=>some (.c (decide (((x.length+y.length:Nat):Int)<=IntKind.i64.max)) (.str (x++y)))|.eql=>some (.t (.bool (x==y)))|.neq=>some (.t (.bool (!(x==y))))|.lss=>some (.t (.bool (Op.bytesLess x y)))|.leq=>some (.t (.bool (Op.bytesLess x y||x==y)))|.gtr=>some (.t (.bool (!(Op.bytesLess x y||x==y))))|.geq=>some (.t (.bool (!(Op.bytesLess x y))))|_=>none
def ace:BinOp->Bool
 |.shl=>true|.shr=>true|_=>false
def agd (op:BinOp)(t:TypeId)(x y:TV R.T):Option (R4 R):=
 match x,y with
 |.int k a,.int k' b=>bif ace op then agb R op k a b else (if k=k' then aeQ R op k a b else none)|.str a,.str b=>agc R op a b|x,y=>match op with
  |.eql=>match eqM E t x y with
   |some b=>some (.t (.bool b))|none=>none
  |.neq=>match eqM E t x y with
   |some b=>some (.t (.bool (!b)))|none=>none
  |_=>none
def unM (op:UnOp)(x:TV R.T):Option (R4 R):=
 match op,x with
 |.neg,.int k n=>some (.t (.int k (k.wrap (0-n))))|.xor,.int k n=>aeQ R .xor k (if k.signed then-1 else k.max) n|.not,.bool b=>some (.t (.bool (!b)))|.not,.Tt b=>some (.t (.Tt (!b)))|_,_=>none
def aeR (src dst:TypeId)(x:TV R.T):Option (R4 R):=
 match E.P.underlying src,E.P.underlying dst,x with
 |some _,some (.int k),.int _ n=>some (.t (.int k (k.wrap n)))|some _,some .string,.str s=>some (.t (.str s))|_,_,_=>none
def WJ (i:Int)(n:Nat):Bool:=decide (0<=i/\i<=n)
def acf:Option (TV R.T)->Option (Option Int)
 |none=>some none|some (.int _ n)=>some (some n)|_=>none
def acg {U:Type}(l:List U):Option Int->Option Int->List U
 |none,none=>l|some i,none=>l.drop i.toNat|none,some j=>l.take j.toNat|some i,some j=>(l.take j.toNat).drop i.toNat
def ali (n:Nat):Option Int->Option Int->Bool
 |none,none=>true|some i,none=>WJ i n|none,some j=>WJ j n|some i,some j=>WJ j n&& WJ i j.toNat
def aeS (t:TypeId)(x:TV R.T)(lo hi:Option (TV R.T)):Option (R4 R):=
 match acf R lo,acf R hi with
 |some lo,some hi=>match E.P.underlying t,x with
  |some (.slice e),.tX _ u l=>match RN E.P e with
   |some sz=>bif Nat.beq sz (RD R u) then some (.c (ali l.length lo hi) (.tX .any u (acg l lo hi))) else none|none=>none
  |_,_=>none
 |_,_=>none
def asW {T:Nat->Type}(st:MS T):TV T->Option (Nat×Ty×Int×Int)
 |.vw o t=>match V9 st o with
  |some (.arr _ l)=>some (o,t,0,(l.length:Int))|_=>none
 |.sub o t a b=>some (o,t,a,b)|_=>none
def VH (a b c:Int):Bool:=decide (0<=a/\a<=b/\b<=c)
def UJ (i n:Int):Bool:=decide (0<=i/\i<n)
def Wh (n:Int):Option Int->Int
 |some i=>i|none=>n
def Vd:Option Int->Int
 |some i=>i|none=>0
def aeT (t:TypeId)(x:TV R.T)(lo hi:Option (TV R.T))(st:MS R.T):Option (R4 R):=
 match asW st x,acf R lo,acf R hi,E.P.underlying t with
 |some (o,τ,a,b),some lo,some hi,some (.slice e)=>match RN E.P e with
  |some sz=>bif Nat.beq sz (RD R τ) then some (.c (VH (Vd lo) (Wh (b-a) hi) (b-a)) (.sub o τ (a+Vd lo) (a+Wh (b-a) hi))) else none|none=>none
 |_,_,_,_=>none
def aaS (t:TypeId)(x:TV R.T)(lo hi:Option (TV R.T))(st:MS R.T):Option (R4 R):=
 match aeT E R t x lo hi st with
 |some r=>some r|none=>aeS E R t x lo hi
def alj {T:Nat->Type}(t:TypeId)(f:Nat)(x:TV T):Option (TV T):=
 match W9 E.P t f with
 |some (o,_)=>match x with
  |.ref p off=>some (.ref p (off+o))|.Q5 cs off=>some (.Q5 cs (off+o))|.Uq p t i off=>some (.Uq p t i (off+o))|_=>none
 |none=>none
def SC (R:Tv):(t:Ty)->Den R.T t->Den R.T t->Bool
 |.int _=>fun (a b:Int)=>a==b
 |.bool=>fun (a b:Bool)=>a==b
 |.str=>fun (a b:List UInt8)=>a==b
 |.slice _=>fun _ _=>false
 |.st _=>fun _ _=>false
def aak (t:TypeId)(k:Ty):Bool:=match E.P.underlying t,k with
 |some (.int _),.int _=>true|some .string,.str=>true|some .bool,.bool=>true|_,_=>false
def UK {U β:Type}(eq:U->U->Bool)(x:U):List (U×β)->Option β
 | []=>none| (a,v)::m=>bif eq x a then some v else UK eq x m
def Wi {U β:Type}(eq:U->U->Bool)(x:U)(v:β):List (U×β)->List (U×β)
 | []=>[(x,v)]| (a,w)::m=>bif eq x a then (x,v)::m else (a,w)::Wi eq x v m
def WK {U:Type}(d:U):Option U->U
 |some x=>x|none=>d
def unE (t:Ty)(v:TV R.T):Option (Den R.T t):=bif TT v then V8 R t v else none
def ada (t:TypeId)(k e:Ty)(m:List (Den R.T k×Den R.T e))(x:TV R.T)(ok:Bool):Option (R4 R):=
 match XB E.P t with
 |some (kt,et)=>bif aak E kt k then (match aaR (T:=R.T) E et with
  |some z=>match V8 R e z,V8 R k x with
   |some z,some x=>some (.t (bif ok then .Rm [SY R .any e (WK z (UK (SC R k) x m)),.bool (UK (SC R k) x m).isSome] else SY R .any e (WK z (UK (SC R k) x m))))|_,_=>none
  |none=>none) else none
 |none=>none
def aeU (t:TypeId)(m x:TV R.T)(ok:Bool)(st:MS R.T):Option (R4 R):=
 match m with
 |.RA o=>match V9 st o with
  |some (.map k e m)=>ada E R t k e m x ok|_=>none
 |.R3 k e m=>ada E R t k e m x ok|.SG=>match XB E.P t with
  |some (kt,et)=>match R.ty kt,R.ty et with
   |some k,some e=>ada E R t k e [] x ok|_,_=>none
  |none=>none
 |_=>none
def aeV {T:Nat->Type}:TV T->TV T->Option Bool
 |.int k a,.int k' b=>if k=k' then some (a==b) else none|.str a,.str b=>some (a==b)|_,_=>none
def aeW {T:Nat->Type}(t:TypeId):TV T->Bool:=fun v=>match E.P.underlying t,v with
 |some (.int _),.int _ _=>true|some .string,.str _=>true|_,_=>false
def aeX {T:Nat->Type}(x v:TV T):List (TV T)->List (TV T)->Option (List (TV T)×List (TV T))
 | [],[]=>some ([x],[v])|a::ks,w::vs=>match aeV x a with
  |some b=>bif b then some (x::ks,v::vs) else (match aeX x v ks vs with
   |some (ks,vs)=>some (a::ks,w::vs)|none=>none)
  |none=>none
 |_,_=>none
def ach (t:TypeId)(m x v:TV R.T)(st:MS R.T):Option (R4 R):=
 match m with
 |.RA o=>match look st.ob o with
  |some (.map k e m)=>match XB E.P t with
   |some (kt,_)=>bif aak E kt k then (match V8 R k x,unE R e v with
    |some x,some v=>some (.w .undef (st.set o (.map k e (Wi (SC R k) x v m))))|_,_=>none) else none
   |none=>none
  |some (.smap ks vs)=>match XB E.P t with
   |some (kt,_)=>bif aeW E kt x then (match aeX x v ks vs with
    |some (ks,vs)=>some (.w .undef (st.set o (.smap ks vs)))|none=>none) else none
   |none=>none
  |_=>none
 |_=>none
def Tn:Ty->Bool
 |.st _=>true|_=>false
def elM (t:TypeId):Option (TypeId×Ty×Nat×Nat):=
 match UE E.P t with
 |some e=>match R.ty e,RN E.P e,Yq E.P e,U9 E.P e,Ua E.P e with
  |some u,some sz,some SA,some ag,some z=>bif Nat.beq sz (RD R u)&& Nat.blt 0 sz&& (ag||Nat.beq sz 1)&& Nat.beq z.cells.length sz&& (ag==Tn u) then some (e,u,sz,SA) else none|_,_,_,_,_=>none
 |none=>none
def aal (t:Ty)(n:Nat):List (Nat×TV R.T)->Option (List (Den R.T t))
 | []=>some []| (i,v)::l=>bif Nat.beq i n then (match V8 R t v with
   |some x=>match aal t (n+1) l with
    |some y=>some (x::y)|none=>none
   |none=>none) else none
def agh (t:TypeId)(len:Nat)(ps:List (Nat×TV R.T)):Option (R4 R):=
 match elM E R t with
 |some (_,u,sz,_)=>bif Nat.ble (len*sz) (2^24)&& Nat.beq ps.length len then (match aal R u 0 ps with
  |some l=>some (.t (.tX .full u l))|none=>none) else none
 |none=>none
def agi (d:Option Nat)(t:TypeId)(len:Nat)(ps:List (Nat×TV R.T))(st:MS R.T):Option (R4 R):=
 match d,elM E R t with
 |some d,some (_,u,sz,_)=>bif Nat.ble (len*sz) (2^24)&& Nat.beq ps.length len then (match aal R u 0 ps with
  |some l=>bif Nat.ble F0 (E.cn d) then none else some (.w (.vw (E.cn d) u) (st.new (E.cn d) (.arr u l)))|none=>none) else none
 |_,_=>none
def aeY (u:Ty):TV R.T->Option (List (Den R.T u))
 |.tX _ _ l=>V7 R l|.TK=>some []|.str s=>V7 (t:=.int .u8) (u:=u) R (s.map fun b=>(b.toNat:Int))
 |_=>none
def alm (u:Ty)(d:Nat):TV R.T->Option (Nat×List (Den R.T u))
 |.tX .nil _ l=>match V7 R l with
  |some l=>some (d,l)|none=>none
 |.tX .full _ l=>match V7 R l with
  |some l=>some (d,l)|none=>none
 |.tX (.own t) _ l=>match V7 R l with
  |some l=>some (t,l)|none=>none
 |.TK=>some (d,[])|_=>none
def aci (t:TypeId):Bool:=match E.P.underlying t with
 |some (.slice _)=>true|some .string=>true|_=>false
def adb (d:Option Nat)(t u:TypeId)(x y:TV R.T)(st:MS R.T):Option (R4 R):=
 match d with
 |some d=>match elM E R t with
  |some (_,τ,_,SA)=>bif aci E u then (match alm R τ d x,aeY R τ y with
   |some (tk,l),some l'=>some (.wc (Sl (l.length+l'.length) SA) (.tX (.own tk) τ (l++l')) (st.wk tk))|_,_=>none) else none
  |none=>none
 |none=>none
def ade (d:Option Nat)(t u:TypeId)(x y:TV R.T)(st:MS R.T):Option (R4 R):=
 match d with
 |some d=>bif Nat.ble F0 (E.cn d) then none else match elM E R t with
  |some (_,τ,_,SA)=>bif aci E u then (match aeY R τ y with
   |some l'=>match x with
    |.vw o τ0=>if τ0=τ then (match look st.ob o with
     |some (.arr τ' l)=>match V7 R (u:=τ) l with
      |some l=>bif Nat.beq o (E.cn d) then some (.wc (Sl (l.length+l'.length) SA) (.vw (E.cn d) τ) ((st.del o).new (E.cn d) (.arr τ (l++l')))) else (match l' with
       |a::l'=>some (.wc (Sl (l.length+(a::l').length) SA) (.vw (E.cn d) τ) ((st.del o).new (E.cn d) (.arr τ (l++a::l'))))| []=>none)
      |none=>none
     |_=>none) else none
    |x=>bif isE x then some (.wc (Sl l'.length SA) (.vw (E.cn d) τ) (st.new (E.cn d) (.arr τ l'))) else none
   |none=>none) else none
  |none=>none
 |none=>none
def agj (om:Bool)(d:Option Nat)(t:TypeId)(n m:TV R.T)(st:MS R.T):Option (R4 R):=(fun (_:Env) (_:Tv) (_:Bool) (_:Option Nat) (_:TypeId) (_ _:TV R.T) (_:MS R.T)=>none) E R om d t n m st
def mmM {T:Nat->Type}(_:Bool):TV T->List (TV T)->Option (TV T):=fun _ _=>none
def agk {T:Nat->Type}(t:TypeId)(x:TV T)(st:MS T):Option Nat:=
 match E.P.underlying t,x with
 |some (.slice _),.tX _ _ l=>some l.length|some (.slice _),.TK=>some 0|some (.slice _),.vw o _=>match V9 st o with
  |some (.arr _ l)=>some l.length|_=>none
 |some (.slice _),.sub _ _ a b=>some (b-a).toNat|some .string,.str s=>some s.length|some (.map _ _),.RA o=>match V9 st o with
  |some (.map _ _ m)=>some m.length|_=>none
 |some (.map _ _),.R3 _ _ m=>some m.length|some (.map _ _),.SG=>some 0|some (.array n _),_=>some n|_,_=>none
def U5 {U:Type}(l:List U)(a b:Int)(z:U):List U:=l.take a.toNat++(List.replicate (b-a).toNat z++l.drop b.toNat)
def agl (t:TypeId)(x:TV R.T)(st:MS R.T):Option (R4 R):=
 match asW st x,elM E R t with
 |some (o,τ,a,b),some (e,τ',_,_)=>if τ'=τ then (match look st.ob o,aaR (T:=R.T) E e with
  |some (.arr τ2 l),some z=>match V7 R (u:=τ) l,V8 R τ z with
   |some l,some z'=>bif aaj z.cells&& WG z then some (.w .undef (st.set o (.arr τ (U5 l a b z')))) else none|_,_=>none
  |_,_=>none) else none
 |_,_=>none
def blt (om:Bool)(d:Option Nat)(b:Builtin)(tys:Array TypeId)(args:List (TV R.T))(st:MS R.T):Option (R4 R):=
 match b,args with
 |.len,[x]=>match tys[0]? with
  |some t=>match agk E t x st with
   |some n=>some (.t (.int .i64 ((n:Nat):Int)))|none=>none
  |none=>none
 |.append,[x,y]=>match tys[0]?,tys[1]? with
  |some t,some u=>bif om then ade E R d t u x y st else adb E R d t u x y st|_,_=>none
 |.clear,[x]=>match tys[0]? with
  |some t=>agl E R t x st|none=>none
 |.min,x::l=>match mmM false x l with
  |some v=>some (.t v)|none=>none
 |.max,x::l=>match mmM true x l with
  |some v=>some (.t v)|none=>none
 |_,_=>none
def aln:List (TV R.T)->TV R.T
 | [v]=>v|vs=>.Rm vs
def findF (args Ru:List (TV R.T)):List (FR R)->Option (R4 R)
 | []=>none|r::l=>match TL R r.args Ru with
  |some p=>bif Us r.args&& Nat.ble (WH r.args) 18&& Us r.res&& (abr args||ab4 r.res) then some (.p (Lv R.T r.res) r.d (r.F p) fun x=>aln R (Tm R .sh r.res x)) else none
  |none=>findF args Ru l
def iaM (t:TypeId)(x i:TV R.T):Option (R4 R):=
 match E.P.underlying t,x,i with
 |some (.slice e),.tX _ u l,.int _ n=>match RN E.P e with
  |some sz=>bif Nat.beq sz (RD R u) then some (.p (Den R.T u) (dfl R u) (Fb l n) fun y=>.Q5 (SY R .sh u y).cells 0) else none
  |none=>none
 |some (.array n e),.ref o off,.int _ k=>match RN E.P e with
  |some sz=>some (.c (decide (0<=k/\k<n)) (.ref o (off+k.toNat*sz)))|none=>none
 |some (.array n e),.Q5 cs off,.int _ k=>match RN E.P e with
  |some sz=>some (.c (decide (0<=k/\k<n)) (.Q5 cs (off+k.toNat*sz)))|none=>none
 |_,_,_=>none
def ivM (t:TypeId)(o:Nat)(τ:Ty)(i:TV R.T)(st:MS R.T):Option (R4 R):=
 match E.P.underlying t,i with
 |some (.slice e),.int _ n=>match RN E.P e with
  |some sz=>bif Nat.beq sz (RD R τ) then (match V9 st o with
   |some (.arr _ l)=>some (.c (decide (0<=n/\n< (l.length:Int))) (.Uq o τ n 0))|_=>none) else none
  |none=>none
 |_,_=>none
def isM (t:TypeId)(o:Nat)(τ:Ty)(a b:Int)(i:TV R.T):Option (R4 R):=
 match E.P.underlying t,i with
 |some (.slice e),.int _ n=>match RN E.P e with
  |some sz=>bif Nat.beq sz (RD R τ) then some (.c (UJ n (b-a)) (.Uq o τ (a+n) 0)) else none|none=>none
 |_,_=>none
def apq {T:Nat->Type}:Option (TV T)->TV T
 |some v=>v|none=>.gone
def agq (t:TypeId)(τ:Ty)(i:Int)(off:Nat)(o:Ob R.T):Option (R4 R):=
 match o with
 |.arr τ' l=>match V7 R (u:=τ) l with
  |some l=>bif (UH E t (SY R .any τ (dfl R τ)).cells off).isSome then some (.p (Den R.T τ) (dfl R τ) (Fb l i) fun y=>apq (UH E t (SY R .any τ y).cells off)) else none
  |none=>none
 |_=>none
def unC (τ:Ty)(cs:List (TV R.T)):Option (Den R.T τ):=match τ with
 |.st n=>abn R n (.agg cs)|.int k=>Wq R (.int k) (hd1 R cs)|.bool=>Wq R .bool (hd1 R cs)|.str=>Wq R .str (hd1 R cs)|.slice t=>Wq R (.slice t) (hd1 R cs)
def ixM (t:TypeId)(x i:TV R.T):Option (R4 R):=
 match E.P.underlying t,x,i with
 |some .string,.str s,.int _ n=>some (.p UInt8 0 (Fb s n) fun b=>.int .u8 (b.toNat:Int))
 |_,_,_=>none
def acj {T:Nat->Type}(c:Bool):TV T->TV T->Option (TV T)
 |.int k a,.int k' b=>if k=k' then some (.int k (bif c then a else b)) else none|.bool a,.bool b=>some (.bool (bif c then a else b))|.bool a,.Tt b=>some (.bool (bif c then a else b))|.Tt a,.bool b=>some (.bool (bif c then a else b))|.Tt a,.Tt b=>some (.bool (bif c then a else b))|.str a,.str b=>some (.str (bif c then a else b))|_,_=>none
def svB (n:Nat):Option Int->Option Int->Bool
 |none,none=>true|some i,none=>decide (0<=i/\(i<n\/i=0))|none,some j=>decide (0<=j/\j<=n)|some i,some j=>decide (0<=i/\i<=j/\j<=n/\(i<j\/i=0))
def loI:Option Int->Int
 |some i=>i|none=>0
def hiI (n:Nat):Option Int->Int
 |some i=>i|none=>n
def WL (g:List (Nat×Bool))(d:Option Nat)(o:Op)(st:MS R.T):Option (R4 R):=(fun (_:Env) (_:Tv) (_:List (Nat×Bool)) (_:Option Nat) (_:Op) (_:MS R.T)=>none) E R g d o st
def WM (om:Bool)(F:Nat->List (FR R))(g:List (Nat×Bool))(d:Option Nat)(o:Op)(st:MS R.T):Option (R4 R):=
 match o with
 |.move x=>bif Yr E d then (match RH g st x with
  |some (.vw p t)=>match look st.ob p with
   |some (.arr t' l)=>match V7 R (u:=t) l with
    |some l=>some (.w (.tX .any t l) (st.del p))|none=>none
   |_=>none
  |some (.int k n)=>some (.t (.int k n))|_=>none) else (match RH g st x with
  |some v=>some (.t v)|none=>none)
 |.assign x=>match RH g st x with
  |some v=>some (.t v)|none=>none
 |.pick c a b=>match c with
  |.tmp j=>match RH g st c with
   |some (.bool t)=>match RH ((j,true)::g) st a,RH ((j,false)::g) st b with
    |some x,some y=>match acj t x y with
     |some v=>some (.t v)|none=>none
    |_,_=>none
   |some (.Tt t)=>match RH g st (bif t then a else b) with
    |some v=>some (.t v)|none=>none
   |_=>none
  |_=>none
 |.alloc t=>match d,aaR E t with
  |some d,some z=>bif aaj z.cells&& !(Vo d z.cells) then some (.w (.ref d 0) (st.new d (.cells z.cells))) else none|_,_=>none
 |.box t x=>bif XC E t d then (match RH g st x with
  |some v=>bif TT (erM v)&& WG v then some (.t (.Q5 (erM v).cells 0)) else none|none=>none) else match d,RH g st x with
  |some d,some v=>bif aaj v.cells&& WG v&& !(Vo d v.cells) then some (.w (.ref d 0) (st.new d (.cells v.cells))) else none|_,_=>none
 |.build t parts=>match aew E t,aaR (T:=R.T) E t,ab3 g st parts.toList with
  |some pl,some z,some ps=>match aeN pl z.cells ps with
   |some cs=>some (.t (.agg cs))|none=>none
  |_,_,_=>none
 |.buildSlice t len parts=>match ab3 g st parts.toList with
  |some ps=>bif bsM E d then agi E R d t len ps st else agh E R t len ps|none=>none
 |.load t a=>match RH g st a with
  |some (.ref o off)=>match V9 st o with
   |some (.cells cs)=>match UH E t cs off with
    |some v=>some (.t v)|none=>none
   |_=>none
  |some (.Q5 cs off)=>match UH E t cs off with
   |some v=>some (.t v)|none=>none
  |some (.Uq o τ i off)=>match V9 st o with
   |some b=>agq E R t τ i off b|none=>none
  |_=>none
 |.store t a x=>match RH g st a,RH g st x with
  |some (.ref o off),some v=>match look st.ob o,RN E.P t with
   |some (.cells cs),some sz=>bif Nat.beq v.cells.length sz&& Nat.ble (off+v.cells.length) cs.length&& aaj v.cells&& WG v then some (.w .undef (st.set o (.cells (ab8 cs off v.cells)))) else none
   |_,_=>none
  |_,_=>none
 |.nilCheck x=>match RH g st x with
  |some (.ref o off)=>some (.t (.ref o off))|some (.Q5 cs off)=>some (.t (.Q5 cs off))|some (.Uq o τ i off)=>some (.t (.Uq o τ i off))|some (.fn f a b)=>some (.t (.fn f a b))|_=>none
 |.binOp op t x y _=>match RH g st x,RH g st y with
  |some x,some y=>agd E R op t x y|_,_=>none
 |.unOp op _ x=>match RH g st x with
  |some x=>unM R op x|none=>none
 |.convert a b x=>match RH g st x with
  |some x=>aeR E R a b x|none=>none
 |.makeFunc (.func f) a b=>match Wd g st a.toList,Wd g st b.toList with
  |some a,some b=>some (.t (.fn f a b))|_,_=>none
 |.makeMap t none=>match d,XB E.P t with
  |some d,some (k,e)=>match R.ty k,R.ty e with
   |some k,some e=>some (.w (.RA d) (st.new d (.map k e [])))|_,_=>some (.w (.RA d) (st.new d (.smap [] [])))
  |_,_=>none
 |.makeSlice t l c=>match RH g st l,RH g st c with
  |some n,some m=>agj E R om d t n m st|_,_=>none
 |.slice t x lo hi none=>match RH g st x with
  |some x=>match lo,hi with
   |none,none=>aaS E R t x none none st|some lo,none=>match RH g st lo with
    |some lo=>aaS E R t x (some lo) none st|none=>none
   |none,some hi=>match RH g st hi with
    |some hi=>aaS E R t x none (some hi) st|none=>none
   |some lo,some hi=>match RH g st lo,RH g st hi with
    |some lo,some hi=>aaS E R t x (some lo) (some hi) st|_,_=>none
  |none=>none
 |.fieldAddr t x f=>match RH g st x with
  |some x=>match alj E t f x with
   |some v=>some (.t v)|none=>none
  |none=>none
 |.field t x f=>match W9 E.P t f,RH g st x with
  |some (o,u),some (.agg cs)=>match UH E u cs o with
   |some v=>some (.t v)|none=>none
  |_,_=>none
 |.indexAddr t x i=>match RH g st x,RH g st i with
  |some (.vw o τ),some i=>ivM E R t o τ i st|some (.sub o τ a b),some i=>isM E R t o τ a b i|some x,some i=>iaM E R t x i|_,_=>none
 |.index t x i=>match RH g st x,RH g st i with
  |some x,some i=>ixM E R t x i|_,_=>none
 |.lookup t x i ok=>match RH g st x,RH g st i with
  |some x,some i=>aeU E R t x i ok st|_,_=>none
 |.mapUpdate t m k v=>match RH g st m,RH g st k,RH g st v with
  |some m,some k,some v=>ach E R t m k v st|_,_,_=>none
 |.insert t m k v=>match RH g st m,RH g st k,RH g st v with
  |some m,some k,some v=>ach E R t m k v st|_,_,_=>none
 |.extract x i=>match RH g st x with
  |some (.Rm vs)=>match vs[i]? with
   |some v=>some (.t v)|none=>none
  |_=>none
 |.call c=>match c.callee with
  |.builtin b=>match Wd g st c.args.toList with
   |some vs=>blt E R om d b c.argTypes vs st|none=>none
  |.value f=>match RH g st f,Wd g st c.args.toList with
   |some (.fn f a b),some vs=>bif E.imp f then none else findF R (a++vs++b) (aai st (a++vs++b)) (F f)|_,_=>none
  |_=>none
 |_=>none
def Yz (om:Bool)(F:Nat->List (FR R))(g:List (Nat×Bool))(d:Option Nat)(o:Op)(st:MS R.T):Option (R4 R):=
 match WL E R g d o st with
 |some r=>some r|none=>WM E R om F g d o st
inductive Gd where
 |no
 |run
 |skip
 |dyn (j:Nat) (w:Bool) (c:Bool) (g:List (Nat×Bool))
def eqw (b w:Bool):Bool:=bif w then b else !b
def agt (a b:Bool):Bool:=bif a then b else false
def Vz {T:Nat->Type}(st:MS T):Nat->Nat->Bool->Option (Bool×List (Nat×Bool))
 |0,_,_=>none|n+1,j,w=>match look st.fr j with
  |some (.bool b)=>some (eqw b w,[(j,w)])|some (.opt i u (.bool b))=>match Vz st n i u with
   |some (c,g)=>some (agt c (eqw b w),(j,w)::g)|none=>none
  |some (.opt i u (.Tt b))=>match Vz st n i u with
   |some (c,g)=>some (agt c (eqw b w),(j,w)::g)|none=>none
  |_=>none
def ae0 {T:Nat->Type}(all:List Oper)(st:MS T)(o:Oper):Gd:=
 match o.guard with
 |none=>.run|some (j,w)=>match all[j]? with
  |some p=>match p.dst with
   |some t=>match look st.fr t with
    |some (.Tt b)=>bif b==w then .run else .skip|some .undef=>.skip|_=>match Vz st 12 t w with
     |some (c,g)=>.dyn t w c g|none=>.no
   |none=>.skip
  |none=>.skip
def MS.UQ {T:Nat->Type}(st:MS T):List (Nat×Bool)->MS T
 | []=>st| (j,w)::g=>(st.UQ g).learn j w
def MS.aam {T:Nat->Type}(st:MS T):List (Nat×Bool)->MS T
 | [(j,w)]=>st.learn j (!w)|_=>st
def TM {U:Type}(c:Bool)(o:Option U)(d:U):Option U:=bif c then o else some d
def agu (st:MS R.T)(t:TypeId)(m x:Operand):Option (List (TV R.T)×List (TV R.T)×TV R.T×TV R.T):=
 match RH [] st m with
 |some (.RA o)=>match V9 st o with
  |some (.smap ks vs)=>match RH [] st x,XB E.P t with
   |some x,some (kt,et)=>match aaR (T:=R.T) E et with
    |some z=>bif aeW E kt x then some (ks,vs,x,z) else none|none=>none
   |_,_=>none
  |_=>none
 |_=>none
def ae1 {T:Nat->Type}{β:Type}(x:TV T):List (TV T)->List (TV T)->TV T->(TV T->Bool->Option β)->Option β
 | [],[],z,k=>k z false|a::ks,v::vs,z,k=>match aeV x a with
  |some b=>bif b then k v true else ae1 x ks vs z k|none=>none
 |_,_,_,_=>none
section
variable (om:Bool){β:Type}(F:Nat->List (FR R))
def agv (t:TypeId)(a x:Operand)(st:MS R.T):Option ((τ:Ty)×Nat×Int×Nat×List (Den R.T τ)×TV R.T):=
 match RH [] st a,RH [] st x with
 |some (.Uq o τ i off),some v=>match look st.ob o,RN E.P t with
  |some (.arr τ' l),some sz=>match V7 R (u:=τ) l with
   |some l=>bif Nat.beq v.cells.length sz&& Nat.ble (off+v.cells.length) (RD R τ)&& aaj v.cells&& WG v then some ⟨τ,o,i,off,l,v⟩ else none|none=>none
  |_,_=>none
 |_,_=>none
def Rc {U:Type}(l:List U)(i:Int)(y:U):List U:=l.set i.toNat y
def runM (o:Oper)(st:MS R.T)(k:MS R.T->Option β):Option β:=
 match o.op with
 |.pick c a b=>match RH [] st c with
  |some (.Tt t)=>match RH [] st (bif t then a else b) with
   |some v=>k (st.SL o.dst v)|none=>none
  |some (.bool t)=>match c with
   |.tmp j=>match RH [(j,true)] st a,RH [(j,false)] st b with
    |some x,some y=>match acj t x y with
     |some v=>k (st.SL o.dst v)|none=>bif t then k ((st.learn j true).SL o.dst x) else k ((st.learn j false).SL o.dst y)
    |_,_=>none
   |_=>none
  |_=>none
 |.store t a x=>match agv E R t a x st with
  |some ⟨τ,p,i,off,l,v⟩=>(Fb l i).bind fun y=>match unC R τ (ab8 (SY R .any τ y).cells off v.cells) with
   |some y'=>k ((st.set p (.arr τ (Rc l i y'))).SL o.dst .undef)|none=>none
  |none=>match Yz E R om F [] o.dst (.store t a x) st with
   |some (.w v st')=>k (st'.SL o.dst v)|_=>none
 |.lookup t m x ok=>match agu E R st t m x with
  |some (ks,vs,x,z)=>ae1 x ks vs z fun v b=>k (st.SL o.dst (bif ok then .Rm [v,.Tt b] else v))
  |none=>match Yz E R om F [] o.dst (.lookup t m x ok) st with
   |some (.t v)=>k (st.SL o.dst v)|_=>none
 |op=>match Yz E R om F [] o.dst op st with
  |some (.t v)=>k (st.SL o.dst v)|some (.c b v)=>bif b then k (st.SL o.dst v) else none|some (.w v st')=>k (st'.SL o.dst v)|some (.wc b v st')=>bif b then k (st'.SL o.dst v) else none|some (.p _ _ x f)=>x.bind fun a=>k (st.SL o.dst (f a))
  |none=>none
def apr (b c:Bool):Bool:=bif b then c else true
def agw (o:Oper)(j:Nat)(w c:Bool)(g:List (Nat×Bool))(st:MS R.T)(k:MS R.T->Option β):Option β:=
 match o.dst with
 |some d=>match (bif Rk d (g.map (·.1)) then none else Yz E R om F g o.dst o.op st) with
  |some (.t v)=>k (st.put d (.opt j w v))|some (.c b v)=>bif apr c b then k (st.put d (.opt j w v)) else none|some (.p _ z x f)=>(TM c x z).bind fun a=>k (st.put d (.opt j w (f a)))
  |_=>bif c then runM E R om F o (st.UQ g) k else k ((st.aam g).SL o.dst .undef)
 |none=>bif c then runM E R om F o (st.UQ g) k else k ((st.aam g).SL o.dst .undef)
def U6 {T:Nat->Type}(st:MS T)(o:Oper):Bool:=match o.op with
 |.call c=>match c.callee with
  |.value f=>match RH [] st f with
   |some (.fn g _ _)=>match o.dst with
    |some d=>E.own g d|none=>false
   |_=>true
  |_=>false
 |_=>false
def YB (o:Oper)(st:MS R.T)(k:MS R.T->Option β):Option β:=(fun (_:Tv) (_:Nat->List (FR R)) (_:Oper) (_:MS R.T) (_:MS R.T->Option β)=>none) R F o st k
def abw (o:Nat)(l:List Nat):List Nat:=bif Rk o l then l else l++[o]
mutual
def aps {T:Nat->Type}:TV T->List Nat->List Nat
 |.ref o _,l=>abw o l|.RA o,l=>abw o l|.vw o _,l=>abw o l|.sub o _ _ _,l=>abw o l|.Uq o _ _ _,l=>abw o l|.sv o _ _ _ _ _,l=>abw o l|.sel o _ _ _ _ _,l=>abw o l|.agg cs,l=>WO cs l|.Rm cs,l=>WO cs l|.Q5 cs _,l=>WO cs l|.fn _ a b,l=>WO b (WO a l)|_,l=>l
def WO {T:Nat->Type}:List (TV T)->List Nat->List Nat
 | [],l=>l|v::vs,l=>WO vs (aps v l)
end
mutual
def YC {T:Nat->Type}(m:List (Nat×Nat)):TV T->TV T
 |.ref o off=>match look m o with
  |some p=>.ref p off|none=>.gone
 |.RA o=>match look m o with
  |some p=>.RA p|none=>.gone
 |.vw o t=>match look m o with
  |some p=>.vw p t|none=>.gone
 |.sub o t a b=>match look m o with
  |some p=>.sub p t a b|none=>.gone
 |.Uq o t i off=>match look m o with
  |some p=>.Uq p t i off|none=>.gone
 |.sv o off k n lo hi=>match look m o with
  |some p=>.sv p off k n lo hi|none=>.gone
 |.sel o off k n i j=>match look m o with
  |some p=>.sel p off k n i j|none=>.gone
 |.tX c t l=>match c with
  |.own _=>.tX .any t l|c=>.tX c t l
 |.agg cs=>.agg (aan m cs)|.Rm cs=>.Rm (aan m cs)|.Q5 cs off=>.Q5 (aan m cs) off|.fn f a b=>.fn f (aan m a) (aan m b)|v=>v
def aan {T:Nat->Type}(m:List (Nat×Nat)):List (TV T)->List (TV T)
 | []=>[]|v::vs=>YC m v::aan m vs
end
def Ul:List Nat->Nat->List (Nat×Nat)
 | [],_=>[]|o::l,n=>(o,n)::Ul l (n+1)
def ndB:List Nat->Bool
 | []=>true|o::l=>!(Rk o l)&& ndB l
def acp {T:Nat->Type}(st:MS T):List (Nat×Nat)->List (Nat×Ob T)
 | []=>[]| (o,p)::m=>match look st.ob o with
   |some x=>(p,x)::acp st m|none=>acp st m
def XL {T:Nat->Type}:List (Nat×Nat)->List (Nat×Ob T)->List (Nat×Ob T)
 | [],_=>[]| (o,p)::m,l=>match look l p with
   |some y=>(o,y)::XL m l|none=>XL m l
def acr:List (Nat×Nat)->List (Nat×Sz)->Bool
 | [],[]=>true| (_,p)::m,(q,_)::l=>Nat.beq p q&& acr m l|_,_=>false
def Wt:List Sk->Bool
 | []=>true|.d (.int _)::l=>Wt l|.d .bool::l=>Wt l|.d .str::l=>Wt l|.sub p _::l=>Nat.ble F0 p&& Wt l|_=>false
mutual
def dS1:Sk->Bool
 |.d _=>true|.Q5 l _=>dSk l|.fn _ a b=>dSk a&& dSk b|_=>false
def dSk:List Sk->Bool
 | []=>true|k::l=>dS1 k&& dSk l
end
def okO:Sz->Bool
 |.cells l=>dSk l|_=>true
def XM:List (Nat×Sz)->Bool
 | []=>true| (_,k)::l=>okO k&& XM l
def ae3 (m:List (Nat×Nat))(A:List (TV R.T))(B:List (Nat×Ob R.T)):List (FM R)->Option ((r:FM R)×Option (Lv R.T r.res×Ue R.T r.obs))
 | []=>none|r::l=>match TL R r.args A,U4 R B r.obs with
  |some p,some q=>bif acr m r.obs&& (Wt r.res&& XM r.obs) then some ⟨r,r.F p q⟩ else none|_,_=>ae3 m A B l
def ae4:List (Nat×Nat)->List (Nat×Nat)
 | []=>[]| (o,p)::l=>(p,o)::ae4 l
def alq {T:Nat->Type}:List (TV T)->TV T
 | [v]=>v|vs=>.Rm vs
def XO {T:Nat->Type}(st:MS T)(o:Oper):Bool:=match o.op with
 |.call c=>match c.callee with
  |.value f=>match RH [] st f with
   |some (.fn g _ _)=>E.imp g|_=>false
  |_=>false
 |_=>false
def X6 (o:Oper):Bool:=match o.op with
 |.call c=>match c.callee with
  |.value (.func g)=>!(E.imp g)|.value _=>false|_=>true
 |_=>true
def aby (M:Nat->List (FM R))(o:Oper)(st:MS R.T)(k:MS R.T->Option β):Option β:=match o.op with
 |.call c=>match c.callee with
  |.value f=>match RH [] st f,Wd [] st c.args.toList with
   |some (.fn g a b),some vs=>bif ndB (WO (a++vs++b) []) then (match ae3 R (Ul (WO (a++vs++b) []) F0) (aan (Ul (WO (a++vs++b) []) F0) (a++vs++b)) (acp st (Ul (WO (a++vs++b) []) F0)) (M g) with
    |some ⟨r,x⟩=>x.bind fun y=>k (MS.SL ⟨st.fr,XL (Ul (WO (a++vs++b) []) F0) (Uf R r.obs y.2)++st.ob⟩ o.dst (alq (aan (ae4 (Ul (WO (a++vs++b) []) F0)) (Tm R .any r.res y.1))))
    |none=>none) else none
   |_,_=>none
  |_=>none
 |_=>none
variable (M:Nat->List (FM R))
def X7 (all:List Oper):List Oper->MS R.T->(MS R.T->Option β)->Option β
 | [],st,k=>k st|o::os,st,k=>match ae0 all st o with
  |.run=>bif U6 E st o then YB R F o st (fun st=>X7 all os st k) else (bif XO E st o then aby R M o st (fun st=>X7 all os st k) else runM E R om F o st (fun st=>X7 all os st k))
  |.skip=>X7 all os (st.SL o.dst .undef) k|.dyn j w c g=>bif U6 E st o||U6 E (st.UQ g) o then none else (bif XO E (st.UQ g) o then (bif c then aby R M o (st.UQ g) (fun st=>X7 all os st k) else X7 all os ((st.aam g).SL o.dst .undef) k) else agw E R om F o j w c g st (fun st=>X7 all os st k))
  |.no=>none
def alr {T:Nat->Type}:TV T->List Key
 |.ref o _=>[.obj (1,o)]|.RA o=>[.obj (1,o)]|.Uq o _ _ _=>[.obj (1,o)]|.sv o _ _ _ _ _=>[.obj (1,o)]|.sel o _ _ _ _ _=>[.obj (1,o)]|_=>[]
def rkM {T:Nat->Type}(st:MS T)(x:Operand):List Key:=match RH [] st x with
 |some v=>alr v|none=>[]
def ae5 (o:Oper):List Key:=match o.dst with
 |some t=>[.obj (1,t)]|none=>[]
def ae6 {T:Nat->Type}:List (TV T)->Bool
 | []=>false|.sv _ _ _ _ _ _::_=>true|.ref _ _::_=>true|_::l=>ae6 l
def adf (om:Bool){T:Nat->Type}(st:MS T)(o:Oper):RV:=
 match o.op with
 |.buildSlice .. =>bif bsM E o.dst then SH else U1 []
 |.move _|.assign _|.pick .. |.build .. |.nilCheck _|.binOp .. |.unOp .. |.makeInterface .. |.typeAssert .. |.makeFunc .. |.fieldAddr .. |.field .. |.indexAddr .. |.index .. |.extract ..
 |.sliceToArrayPointer .. =>U1 []|.convert _ _ x|.slice _ x _ _ _|.load _ x|.lookup _ x _ _=>U1 (rkM st x)|.alloc _|.box .. |.makeMap .. =>UF (ae5 o)|.makeSlice .. =>UF (.top::ae5 o)|.store _ a _=>UF (rkM st a)|.mapUpdate _ m _ _|.insert _ m _ _=>UF (rkM st m)|.call c=>match c.callee with
  |.builtin b=>match b with
   |.len|.cap|.min|.max=>U1 (c.args.toList.flatMap fun x=>rkM st x)
   |.append=>bif om then SH else ⟨false,false,c.args.toList.flatMap fun x=>rkM st x,[.top]⟩
   |_=>SH
  |.value f=>match RH [] st f with
   |some (.fn g a b)=>if E.imp g then SH else (match Wd [] st c.args.toList with
    |some vs=>if abr (a++vs++b) then U1 [] else ⟨true,false,[],[]⟩|none=>SH)
   |_=>SH
  |_=>SH
 |_=>SH
def Wj (om:Bool){T:Nat->Type}(all:List Oper)(st:MS T)(o:Oper)(wanted:Bool):RV:=
 if wanted then let f:=adf E om st o;⟨f.WC,f.Va,XD all o++f.t,U2 o++f.w⟩else ⟨false,false,XD all o,U2 o⟩
def adg {T:Nat->Type}:TV T->Bool
 |.gone=>false|.opt _ _ _=>false|.vw _ _=>false|.sub _ _ _ _=>false|_=>true
def YD {T:Nat->Type}(st:MS T)(o:Oper):Bool:= !(U6 E st o)&&
 match o.op with
 |.call c=>match c.callee with
  |.value f=>match RH [] st f,Wd [] st c.args.toList with
   |some (.fn _ a b),some vs=>abr (a++vs++b)||ae6 (a++vs++b)|_,_=>false
  |.builtin _=>match Wd [] st c.args.toList with
   |some vs=>vs.all adg|none=>false
  |_=>true
 |.move _=>!(Yr E o.dst)|.slice _ x _ _ _=>match RH [] st x with
  |some v=>(asW st v).isNone|none=>false
 |_=>true
def Key.nm:Key->Key
 |.obj l=>.obj (1,l.2)|k=>k
def RV.nm (f:RV):RV:=⟨f.WC,f.Va,f.t.map Key.nm,f.w.map Key.nm⟩
def ae7 (all:List Oper)(o:Oper):RV:=⟨false,false,XD all o++[],U2 o++[.top]⟩
def VA (ms:List Nat)(all:List Oper):List Oper->MS R.T->List RV->(MS R.T->Option β)->Option β
 | [],st,fs,k=>bif Z8 ms (fs.map RV.nm) then k st else none|o::os,st,fs,k=>match ae0 all st o with
  |.run=>bif XO E st o then (bif U6 E st o then none else aby R M o st (fun st'=>VA ms all os st' (fs++[Wj E om all st o true]) k)) else bif U6 E st o then YB R F o st (fun st'=>VA ms all os st' (fs++[ae7 all o]) k) else bif !(YD E st o) then none else runM E R om F o st (fun st'=>VA ms all os st' (fs++[Wj E om all st o true]) k)
  |.skip=>VA ms all os (st.SL o.dst .undef) (fs++[Wj E om all st o false]) k|.dyn _ _ c g=>bif c then (bif XO E (st.UQ g) o then (bif U6 E (st.UQ g) o then none else aby R M o (st.UQ g) (fun st'=>VA ms all os st' (fs++[Wj E om all (st.UQ g) o true]) k)) else bif U6 E (st.UQ g) o then YB R F o (st.UQ g) (fun st'=>VA ms all os st' (fs++[ae7 all o]) k) else bif !(YD E (st.UQ g) o) then none else runM E R om F o (st.UQ g) (fun st'=>VA ms all os st' (fs++[Wj E om all (st.UQ g) o true]) k))else VA ms all os ((st.aam g).SL o.dst .undef) (fs++[Wj E om all st o false]) k
  |.no=>none
end
def abz {R:Tv}(key:Nat)(W:List Nat)(b:MS R.T)(sh:Shape)(outs:List (Ex×Shape))(body:{β:Type}->MS R.T->(Ex->MS R.T->Option β)->Option β):Nat->V6 R.T sh->Option (Out R.T outs)
 |0,_=>none|m+1,p=>body (b.over (unpack R sh p)) fun e st=>match e with
  |.normal=>match UO R W st sh with
   |some p=>abz key W b sh outs body m p|none=>none
  |e=>XK R W e st outs
def MS.obs {T:Nat->Type}(st:MS T):MS T:=⟨[],st.ob⟩
def adh {R:Tv}{β:Type}(body:MS R.T->(Ex->MS R.T->Option β)->Option β):Nat->MS R.T->(Ex->MS R.T->Option β)->Option β
 |0,_,_=>none|m+1,st,k=>body st fun e st'=>match e with
  |.normal=>adh body m st' k|e=>k e st'
def X8 {R:Tv}{X:Type}(key:Nat)(W:List Nat)(b:MS R.T)(sh:Shape)(outs:List (Ex×Shape))(body:{β:Type}->X->MS R.T->(Ex->MS R.T->Option β)->Option β):List X->V6 R.T sh->Option (Out R.T outs)
 | [],p=>XK R W .normal (unpack R sh p).obs outs|x::xs,p=>body x (b.over (unpack R sh p)) fun e st=>match e with
  |.normal=>match UO R W st.obs sh with
   |some p=>X8 key W b sh outs body xs p|none=>none
  |e=>XK R W e st.obs outs
def adi {R:Tv}(a b:List (TV R.T)):List (FI R)->Option ((el:List Sk)×Option (List (Lv R.T el)))
 | []=>none|i::l=>match TL R i.a a,TL R i.b b with
  |some pa,some pb=>bif Us i.a&& Us i.b&& Us i.el&& Nat.ble (WH i.a) 18&& Nat.ble (WH i.b) 18 then some ⟨i.el,i.F pa pb⟩ else none|_,_=>adi a b l
def abA (O:List Nat):List (Nat×Sz)->Bool
 | []=>true| (o,_)::l=>!(Rk o O)&& abA O l
def abB {T:Nat->Type}(st:MS T):List Nat->List (TV T)->Option (MS T)
 | [],[]=>some st|i::l,v::vs=>abB (st.put i v) l vs|_,_=>none
def Ut:List Oper->List Nat
 | []=>[]|o::l=>match o.dst with
  |some d=>d::E.cn d::Ut l|none=>Ut l
def Rn:Code->List Nat
 |.region _ ops _=>Ut E ops.toList|.seq a b=>Rn a++Rn b|.cond _ a b=>Rn a++Rn b|.block _ c=>Rn c|.loop c=>Rn c|.scope c=>Rn c|.rangeFunc _ ps a b=>ps.toList++Rn a++Rn b|_=>[]
def Vr:Code->Nat
 |.region i _ _=>i|.seq a _=>Vr a|.loop a=>Vr a+500|.scope a=>Vr a|.block _ a=>Vr a|.rangeFunc _ _ _ b=>Vr b|_=>0
def TU:Code->Bool
 |.region _ ops _=>ops.toList.all (X6 E)|.seq a b=>TU a&& TU b|.cond _ a b=>TU a&& TU b|.block _ c=>TU c|.loop c=>TU c|.scope c=>TU c|.rangeFunc _ _ _ _=>false|_=>true
variable (n:Nat)(om:Bool)(F:Nat->List (FR R))(I:IR R)(A:Rt)
def Tc:Code->{β:Type}->MS R.T->(Ex->MS R.T->Option β)->Option β
 |.skip,_,st,k=>k .normal st|.region _ ops dr,_,st,k=>bif dr then (bif Vw ops.toList then VA E R om F I.im (Vm ops.toList) ops.toList ops.toList st [] (fun st=>k .normal st) else none) else X7 E R om F I.im ops.toList ops.toList st (fun st=>k .normal st)
 |.seq a b,_,st,k=>
  match look A.joins (Vr b) with
  |none=>Tc a st fun e st=>match e with
   |.normal=>Tc b st k|e=>k e st
  |some q=>(Tc (β:=Out R.T q.outs) a ((base (Rn E a) q.K q.O .ro st).over st) fun e st=>XK R (Rn E a) e st q.outs).bind (Yy R (base (Rn E a) q.K q.O (fun b=>b) st) (fun e st=>match e with
   |.normal=>Tc b st k|e=>k e st) q.outs)
 |.cond c a b,_,st,k=>match RH [] st c with
  |some (.Tt t)=>bif t then Tc a st k else Tc b st k|some (.bool t)=>bif t then Tc a (st.ab0 c true) k else Tc b (st.ab0 c false) k|_=>none
 |.block id c,_,st,k=>Tc c st fun e st=>match e with
  |.exit i=>bif Nat.beq i id then k .normal st else k (.exit i) st|e=>k e st
 |.loop c,_,st,k=>match look A.loops (Vr c) with
  |some q=>match UO R (Rn E c) st q.sh with
   |some p=>(abz (Vr c) (Rn E c) (base (Rn E c) q.K q.O .ro st) q.sh q.outs (fun st k=>Tc c st k) n p).bind (Yy R (base (Rn E c) q.K q.O (fun b=>b) st) k q.outs)
   |none=>none
  |none=>adh (fun st k=>Tc c st k) 130 st k
 |.rangeFunc f ps a c,_,st,k=>match look A.loops (Vr c) with
  |some q=>match RH [] st f with
   |some (.fn g u v)=>bif VG u&& VG v&& abA q.O q.sh.ob&& TU E a&& TU E c then (match adi u v (I.it g) with
    |some ⟨el,xs⟩=>match UO R (ps.toList++Rn E a++Rn E c) st.obs q.sh with
     |some p=>(xs.bind fun xs=>X8 (Vr c) (ps.toList++Rn E a++Rn E c) (base (ps.toList++Rn E a++Rn E c) q.K q.O .ro st) q.sh q.outs (fun x st k=>match abB st ps.toList (Tm R .sh el x) with
       |some st=>Tc a st fun e st=>match e with
        |.normal=>Tc c st k|_=>none
       |none=>none) xs p).bind (Yy R (base (ps.toList++Rn E a++Rn E c) q.K q.O (fun b=>b) st) k q.outs)
     |none=>none
    |none=>none) else none
   |_=>none
  |none=>none
 |.scope c,_,st,k=>Tc c st k|.label _,_,st,k=>k .normal st|.exit i,_,st,k=>k (.exit i) st|.ret,_,st,k=>k .ret st|_,_,_,_=>none
def aao (st:MS R.T):List ResultVar->Option (List (TV R.T))
 | []=>some []|.tmp t::l=>match RH [] st (.tmp t) with
  |some v=>match aao st l with
   |some vs=>some (v::vs)|none=>none
  |none=>none
 |.cell a t::l=>match RH [] st (.tmp a) with
  |some (.ref o off)=>match V9 st o with
   |some (.cells cs)=>match UH E t cs off with
    |some v=>match aao st l with
     |some vs=>some (v::vs)|none=>none
    |none=>none
   |_=>none
  |_=>none
def abC {T:Nat->Type}:Nat->List (TV T)->List (Nat×TV T)
 |_,[]=>[]|i,v::l=>(i,v)::abC (i+1) l
def RI (fn:Func)(args res:List Sk)(p:Lv R.T args):Option (Lv R.T res):=
 match fn.body with
 |some c=>Tc E R n om F I A c ⟨abC 0 (Tm R .sh args p),[]⟩ fun e st=>match e with
  |.exit _=>none|_=>match aao E R st fn.results.toList with
   |some vs=>bif Us res&& Nat.ble (WH res) 16 then TL R res (aai st vs) else none|none=>none
 |none=>none
def wv1 {T:Nat->Type}(st:MS T)(k:Sk)(v:TV T):TV T:=match k with
 |.sub _ _=>match asW st v with
  |some (o,t,a,b)=>.sub o t a b|none=>v
 |_=>v
def wvs {T:Nat->Type}(st:MS T):List Sk->List (TV T)->List (TV T)
 |k::l,v::vs=>wv1 st k v::wvs st l vs|_,vs=>vs
def UR (fn:Func)(args:List Sk)(obs:List (Nat×Sz))(res:List Sk)(p:Lv R.T args)(q:Ue R.T obs):Option (Lv R.T res×Ue R.T obs):=
 match fn.body with
 |some c=>Tc E R n om F I A c ⟨abC 0 (Tm R .any args p),Uf R obs q⟩ fun e st=>match e with
  |.exit _=>none|_=>match aao E R st fn.results.toList with
   |some vs=>match TL R res (wvs st res vs) with
    |some y=>match U4 R st.ob obs with
     |some q'=>some (y,q')|none=>none
    |none=>none
   |none=>none
 |none=>none
end
end Aq
end
section
namespace Aq
open Go
structure Cx where
 om:Bool
 dp:Nat
 lo:Nat
 fl:Nat->Option Loc
 lt:∀o L,fl o=some L->F0<=o/\L.1<dp
 inj:∀o p L,fl o=some L->fl p=some L->o=p
def Cx.lc (c:Cx)(o:Nat):Loc:=match c.fl o with
 |some L=>L|none=>(c.dp,o)
theorem Cx.wC (c:Cx){o:Nat}(h:o<F0):c.lc o=(c.dp,o):=by
 unfold Cx.lc;split
 .rename_i L hL;have:=(c.lt _ _ hL).1;omega
 .rfl
theorem Cx.wD (c:Cx){o p:Nat}(h:c.lc o=c.lc p):o=p:=by
 unfold Cx.lc at h;split at h<;>split at h
 .rename_i L h1 _ M h2;subst h;exact c.inj _ _ _ h1 h2
 .rename_i L h1 _ h2;have:=(c.lt _ _ h1).2;rw[h] at this;exact absurd this (Nat.lt_irrefl _)
 .rename_i h1 _ L h2;have:=(c.lt _ _ h2).2;rw[<-h] at this;exact absurd this (Nat.lt_irrefl _)
 .exact congrArg Prod.snd h
theorem Cx.Bl (c:Cx){o p:Nat}(h:o≠p):c.lc o≠c.lc p:=fun e=>h (c.wD e)
theorem Cx.ni (c:Cx)(o:Nat):(c.lc o).1<=c.dp:=by
 unfold Cx.lc;split
 .rename_i L hL;exact Nat.le_of_lt (c.lt _ _ hL).2
 .exact mF _
def Cx.out (c:Cx)(L:Loc):Prop:=∀o,L≠c.lc o
structure ak where
 ob:Nat->Option Nat
 tk:Nat->Option Nat
 ln:Nat->Nat
 om:Cx
section
variable (R:Tv)
def dK:Ty->Bool
 |.st _=>false|_=>true
structure VI:Prop where
 adj:∀n p,R.of n (R.to n p)=p
 enc:∀n x,R.enc n x= .agg (encs R (R.lf n) (R.of n x))
 leaf:∀n,(R.lf n).all dK=true
 pc:∀n x,Q9 (R.enc n x)=true
def nk (Z:ak)(top:Nat->Nat)(sz len:Nat):Cp->Cap->Prop
 |.any,_=>True|.sh,c=>c= .sh|.nil,c=>c= .nil|.full,c=>c= .full|.own t,c=>c= .nil\/c= .full\/∃s,c= .own sz s/\Z.tk t=some s/\top s=len
mutual
def Rl (Z:ak)(top:Nat->Nat):TV R.T->V->Prop
 |.int k n,v=>v= .int k n|.bool b,v=>v= .bool b|.Tt b,v=>v= .bool b|.str s,v=>v= .str s|.S9,v=>v= .S9|.SV,v=>v= .SV|.SG,v=>v= .SG|.Sy,v=>v= .Sy|.TK,v=>v= .tX .nil []|.agg cs,v=>∃l,v= .agg l/\ah Z top cs l|.Rm cs,v=>∃l,v= .Rm l/\ah Z top cs l|.tX c t l,v=>∃c',v= .tX c' (l.map (Q8 R t))/\nk Z top (RD R t) l.length c c'|.ref o off,v=>∃s,Z.ob o=some s/\v= .ref (Z.om.lc o) s off|.Q5 cs off,v=>∃l,v= .Q5 l off/\ah Z top cs l
 |.RA o,v=>∃s,Z.ob o=some s/\v= .RA (Z.om.lc o) s|.R3 k e m,v=>v= .R3 (m.map fun p=>Q8 R k p.1) (m.map fun p=>Q8 R e p.2)
 |.fn f a b,v=>∃a' b',v= .fn (.func f) a' b'/\ah Z top a a'/\ah Z top b b'|.opt _ _ _,_=>False|.vw o t,v=>(∃s,Z.ob o=some s/\v= .vw (Z.om.lc o) s 0 (Z.ln o) (Z.ln o) (RD R t) (Tn t))\/(Z.ln o=0/\(v= .tX .nil []\/v= .tX .full []))|.sub o t a b,v=>0<=a/\a<=b/\b<=Z.ln o/\((∃s cp,Z.ob o=some s/\(b-a).toNat<=cp/\v= .vw (Z.om.lc o) s (a.toNat*RD R t) (b-a).toNat cp (RD R t) (Tn t))\/(a=b/\∃c,v= .tX c []))
 |.Uq o t i off,v=>∃s,Z.ob o=some s/\0<=i/\v= .ref (Z.om.lc o) s (i.toNat*RD R t+off)|.sg ss,v=>v= .agg (Uv ss)|.sv o off k n lo hi,v=>∃s,Z.ob o=some s/\svB n lo hi=true/\v= .vw (Z.om.lc o) s (off+(loI lo).toNat) ((hiI n hi).toNat-(loI lo).toNat) (n-(loI lo).toNat) 1 false|.sel o off k n i m,v=>∃s,Z.ob o=some s/\0<=i/\i.toNat+m<=n/\v= .ref (Z.om.lc o) s (off+i.toNat)|.X5 k n x i,v=>0<=i/\i<n/\v= .Q5 (x.l.map (V.int k)) i.toNat
 |.undef,v=>v=FN|.gone,_=>True
def ah (Z:ak)(top:Nat->Nat):List (TV R.T)->List V->Prop
 | [],l=>l=[]|t::ts,l=>∃v vs,l=v::vs/\Rl Z top t v/\ah Z top ts vs
end
variable {R}
variable {Z Z':ak}{top top':Nat->Nat}
theorem ah.bg {vs:List V}(h:ah R Z top [] vs):vs=[]:=by unfold ah at h;exact h
theorem ah.aP {t:TV R.T}{ts:List (TV R.T)}{vs:List V}(h:ah R Z top (t::ts) vs):∃v l,vs=v::l/\Rl R Z top t v/\ah R Z top ts l:=by unfold ah at h;exact h
theorem Rl.bW {k:IntKind}{n:Int}{v:V}(h:Rl R Z top (.int k n) v):v= .int k n:=by unfold Rl at h;exact h
theorem Rl.eO {b:Bool}{v:V}(h:Rl R Z top (.bool b) v):v= .bool b:=by unfold Rl at h;exact h
theorem Rl.gB {b:Bool}{v:V}(h:Rl R Z top (.Tt b) v):v= .bool b:=by unfold Rl at h;exact h
theorem Rl.dL {b:List UInt8}{v:V}(h:Rl R Z top (.str b) v):v= .str b:=by unfold Rl at h;exact h
theorem Rl.je {v:V}(h:Rl R Z top .TK v):v= .tX .nil []:=by unfold Rl at h;exact h
theorem Rl.cO {cs:List (TV R.T)}{v:V}(h:Rl R Z top (.agg cs) v):∃l,v= .agg l/\ah R Z top cs l:=by unfold Rl at h;exact h
theorem Rl.nu {cs:List (TV R.T)}{v:V}(h:Rl R Z top (.Rm cs) v):∃l,v= .Rm l/\ah R Z top cs l:=by unfold Rl at h;exact h
theorem Rl.dz {c:Cp}{t:Ty}{l:List (Den R.T t)}{v:V}(h:Rl R Z top (.tX c t l) v):∃c',v= .tX c' (l.map (Q8 R t))/\nk Z top (RD R t) l.length c c':=by unfold Rl at h;exact h
theorem Rl.iM {o off:Nat}{v:V}(h:Rl R Z top (.ref o off) v):∃s,Z.ob o=some s/\v= .ref (Z.om.lc o) s off:=by unfold Rl at h;exact h
theorem Rl.gD {cs:List (TV R.T)}{off:Nat}{v:V}(h:Rl R Z top (.Q5 cs off) v):∃l,v= .Q5 l off/\ah R Z top cs l:=by unfold Rl at h;exact h
theorem Rl.jG {o:Nat}{v:V}(h:Rl R Z top (.RA o) v):∃s,Z.ob o=some s/\v= .RA (Z.om.lc o) s:=by unfold Rl at h;exact h
theorem Rl.ku {k e:Ty}{m:List (Den R.T k×Den R.T e)}{v:V}(h:Rl R Z top (.R3 k e m) v):v= .R3 (m.map fun p=>Q8 R k p.1) (m.map fun p=>Q8 R e p.2):=by unfold Rl at h;exact h
theorem Rl.dS {f:Nat}{a b:List (TV R.T)}{v:V}(h:Rl R Z top (.fn f a b) v):∃a' b',v= .fn (.func f) a' b'/\ah R Z top a a'/\ah R Z top b b':=by unfold Rl at h;exact h
theorem Rl.jH {o:Nat}{t:Ty}{v:V}(h:Rl R Z top (.vw o t) v):(∃s,Z.ob o=some s/\v= .vw (Z.om.lc o) s 0 (Z.ln o) (Z.ln o) (RD R t) (Tn t))\/(Z.ln o=0/\(v= .tX .nil []\/v= .tX .full [])):=by unfold Rl at h;exact h
theorem Rl.kC {o:Nat}{t:Ty}{a b:Int}{v:V}(h:Rl R Z top (.sub o t a b) v):0<=a/\a<=b/\b<=Z.ln o/\((∃s cp,Z.ob o=some s/\(b-a).toNat<=cp/\v= .vw (Z.om.lc o) s (a.toNat*RD R t) (b-a).toNat cp (RD R t) (Tn t))\/(a=b/\∃c,v= .tX c [])):=by unfold Rl at h;exact h
theorem Rl.lQ {o off:Nat}{t:Ty}{i:Int}{v:V}(h:Rl R Z top (.Uq o t i off) v):∃s,Z.ob o=some s/\0<=i/\v= .ref (Z.om.lc o) s (i.toNat*RD R t+off):=by unfold Rl at h;exact h
theorem Rl.rH {ss:List Sg}{v:V}(h:Rl R Z top (.sg ss) v):v= .agg (Uv ss):=by unfold Rl at h;exact h
theorem Rl.rJ {o off n:Nat}{k:IntKind}{lo hi:Option Int}{v:V}(h:Rl R Z top (.sv o off k n lo hi) v):∃s,Z.ob o=some s/\svB n lo hi=true/\v= .vw (Z.om.lc o) s (off+(loI lo).toNat) ((hiI n hi).toNat-(loI lo).toNat) (n-(loI lo).toNat) 1 false:=by unfold Rl at h;exact h
theorem Rl.wE {o off n m:Nat}{k:IntKind}{i:Int}{v:V}(h:Rl R Z top (.sel o off k n i m) v):∃s,Z.ob o=some s/\0<=i/\i.toNat+m<=n/\v= .ref (Z.om.lc o) s (off+i.toNat):=by unfold Rl at h;exact h
theorem Rl.wF {n:Nat}{k:IntKind}{x:Vec n}{i:Int}{v:V}(h:Rl R Z top (.X5 k n x i) v):0<=i/\i<n/\v= .Q5 (x.l.map (V.int k)) i.toNat:=by unfold Rl at h;exact h
theorem Rl.Bn {v:V}(h:Rl R Z top .undef v):v=FN:=by unfold Rl at h;exact h
theorem Rl.Bo {j:Nat}{w:Bool}{x:TV R.T}{v:V}(h:Rl R Z top (.opt j w x) v):False:=by unfold Rl at h;exact h
theorem ah.cons' {t:TV R.T}{ts:List (TV R.T)}{v:V}{vs:List V}(h:Rl R Z top t v)(h':ah R Z top ts vs):ah R Z top (t::ts) (v::vs):=⟨v,vs,rfl,h,h'⟩
theorem ah.length:∀{ts:List (TV R.T)}{vs:List V},ah R Z top ts vs->vs.length=ts.length
 | [],_,h=>by cases h;rfl|_::ts,_,⟨v,vs,e,_,h'⟩=>by subst e;simp[ah.length h']
theorem ah.append:∀{ts ts':List (TV R.T)}{vs vs':List V},ah R Z top ts vs->ah R Z top ts' vs'->ah R Z top (ts++ts') (vs++vs')
 | [],_,_,_,h,h2=>by cases h;exact h2|_::ts,_,_,_,⟨v,vs,e,h1,h'⟩,h2=>by subst e;exact .cons' h1 (ah.append h' h2)
theorem ah.drop:∀(n:Nat){ts:List (TV R.T)}{vs:List V},ah R Z top ts vs->ah R Z top (ts.drop n) (vs.drop n)
 |0,_,_,h=>by simpa using h|n+1,[],_,h=>by cases h;simp;rfl|n+1,_::ts,_,⟨v,vs,e,h1,h'⟩=>by subst e;simpa using ah.drop n h'
theorem ah.take:∀(n:Nat){ts:List (TV R.T)}{vs:List V},ah R Z top ts vs->ah R Z top (ts.take n) (vs.take n)
 |0,_,_,h=>by simp;rfl|n+1,[],_,h=>by cases h;simp;rfl|n+1,_::ts,_,⟨v,vs,e,h1,h'⟩=>by subst e;simpa using .cons' h1 (ah.take n h')
theorem ah.get:∀{ts:List (TV R.T)}{vs:List V}{i:Nat}{t:TV R.T},ah R Z top ts vs->ts[i]? =some t->∃v,vs[i]? =some v/\Rl R Z top t v
 | [],_,_,_,_,h=>by simp at h|_::ts,_,0,_,⟨v,vs,e,h1,h'⟩,h=>by subst e;simp at h;subst h;exact⟨v,by simp,h1⟩|_::ts,_,i+1,_,⟨v,vs,e,h1,h'⟩,h=>by subst e;simpa using ah.get h' (by simpa using h)
mutual
theorem Rl.wk (t:Nat)(ho:Z'.ob=Z.ob/\Z'.ln=Z.ln/\Z'.om=Z.om)(ht:∀u s,u≠t->Z.tk u=some s->Z'.tk u=some s/\top' s=top s):∀(x:TV R.T)(v:V),Rl R Z top x v->Rl R Z' top' (wk t x) v
 |.tX (.own u) ty l,v,h=>by
  obtain⟨c',hv,hc⟩:=h;unfold Aq.wk;by_cases e:Nat.beq u t=true
  .rw[e,cond_true];exact⟨c',hv,trivial⟩
  .have e':Nat.beq u t=false:=Bool.eq_false_iff.2 e;rw[e',cond_false];refine⟨c',hv,?_⟩;rcases hc with hc|hc| ⟨s,h1,h2,h3⟩
   .exact .inl hc
   .exact .inr (.inl hc)
   .have hne:u≠t:=fun h=>e (by rw[h];exact Qt t);have:=ht u s hne h2;exact .inr (.inr ⟨s,h1,this.1,by rw[this.2];exact h3⟩)
 |.tX .any ty l,v,h=>by obtain⟨c',hv,hc⟩:=h;exact⟨c',hv,trivial⟩
 |.tX .sh ty l,v,h=>by obtain⟨c',hv,hc⟩:=h;exact⟨c',hv,hc⟩
 |.tX .nil ty l,v,h=>by obtain⟨c',hv,hc⟩:=h;exact⟨c',hv,hc⟩
 |.tX .full ty l,v,h=>by obtain⟨c',hv,hc⟩:=h;exact⟨c',hv,hc⟩
 |.agg cs,v,h=>by obtain⟨l,hv,hl⟩:=h;exact⟨l,hv,ah.wk t ho ht cs l hl⟩
 |.Rm cs,v,h=>by obtain⟨l,hv,hl⟩:=h;exact⟨l,hv,ah.wk t ho ht cs l hl⟩
 |.Q5 cs off,v,h=>by obtain⟨l,hv,hl⟩:=h;exact⟨l,hv,ah.wk t ho ht cs l hl⟩
 |.fn f a b,v,h=>by obtain⟨a',b',hv,ha,hb⟩:=h;exact⟨a',b',hv,ah.wk t ho ht a a' ha,ah.wk t ho ht b b' hb⟩
 |.ref o off,v,h=>by obtain⟨s,h1,h2⟩:=h;exact⟨s,by rw[ho.1];exact h1,by rw[ho.2.2];exact h2⟩
 |.RA o,v,h=>by obtain⟨s,h1,h2⟩:=h;exact⟨s,by rw[ho.1];exact h1,by rw[ho.2.2];exact h2⟩
 |.vw o ty,v,h=>by
  rcases h with ⟨s,h1,h2⟩| ⟨h1,h2⟩
  .exact .inl ⟨s,by rw[ho.1];exact h1,by rw[ho.2.1,ho.2.2];exact h2⟩
  .exact .inr ⟨by rw[ho.2.1];exact h1,h2⟩
 |.sub o ty a b,v,h=>by
  obtain⟨k0,k1,k2,h⟩:=h;refine⟨k0,k1,by rw[ho.2.1];exact k2,?_⟩;rcases h with ⟨s,cp,h1,h2,h3⟩|h
  .exact .inl ⟨s,cp,by rw[ho.1];exact h1,h2,by rw[ho.2.2];exact h3⟩
  .exact .inr h
 |.Uq o ty i off,v,h=>by obtain⟨s,h1,h2⟩:=h;exact⟨s,by rw[ho.1];exact h1,by rw[ho.2.2];exact h2⟩
 |.sv o _ _ _ _ _,v,h=>by obtain⟨s,h1,h2⟩:=h;exact⟨s,by rw[ho.1];exact h1,by rw[ho.2.2];exact h2⟩
 |.sel o _ _ _ _ _,v,h=>by obtain⟨s,h1,h2⟩:=h;exact⟨s,by rw[ho.1];exact h1,by rw[ho.2.2];exact h2⟩
 |.sg _,_,h=>h|.X5 _ _ _ _,_,h=>h|.opt _ _ _,_,h=>h.elim|.int _ _,_,h=>h|.bool _,_,h=>h|.Tt _,_,h=>h|.str _,_,h=>h|.S9,_,h=>h|.SV,_,h=>h|.SG,_,h=>h|.Sy,_,h=>h|.TK,_,h=>h|.R3 _ _ _,_,h=>h|.undef,_,h=>h|.gone,_,h=>h
theorem ah.wk (t:Nat)(ho:Z'.ob=Z.ob/\Z'.ln=Z.ln/\Z'.om=Z.om)(ht:∀u s,u≠t->Z.tk u=some s->Z'.tk u=some s/\top' s=top s):∀(x:List (TV R.T))(v:List V),ah R Z top x v->ah R Z' top' (Yw t x) v
 | [],_,h=>h|x::xs,_,⟨v,vs,e,h1,h2⟩=>⟨v,vs,e,Rl.wk t ho ht x v h1,ah.wk t ho ht xs vs h2⟩
end
mutual
theorem Rl.kill (o:Nat)(ho:∀p,p≠o->Z'.ob p=Z.ob p/\Z'.ln p=Z.ln p)(ht:Z'.tk=Z.tk)(hx:Z'.om=Z.om):∀(x:TV R.T)(v:V),Ur o x=false->Rl R Z top x v->Rl R Z' top x v
 |.tX c ty l,v,_,h=>by
  obtain⟨c',hv,hc⟩:=h;refine⟨c',hv,?_⟩;cases c<;>try exact hc
  rcases hc with hc|hc| ⟨s,h1,h2,h3⟩
  .exact .inl hc
  .exact .inr (.inl hc)
  .exact .inr (.inr ⟨s,h1,by rw[ht];exact h2,h3⟩)
 |.agg cs,v,hm,h=>by obtain⟨l,hv,hl⟩:=h;exact⟨l,hv,ah.kill o ho ht hx cs l hm hl⟩
 |.Rm cs,v,hm,h=>by obtain⟨l,hv,hl⟩:=h;exact⟨l,hv,ah.kill o ho ht hx cs l hm hl⟩
 |.Q5 cs off,v,hm,h=>by obtain⟨l,hv,hl⟩:=h;exact⟨l,hv,ah.kill o ho ht hx cs l hm hl⟩
 |.fn f a b,v,hm,h=>by obtain⟨a',b',hv,ha,hb⟩:=h;unfold Ur at hm;rw[Qs] at hm;exact⟨a',b',hv,ah.kill o ho ht hx a a' hm.1 ha,ah.kill o ho ht hx b b' hm.2 hb⟩
 |.ref p off,v,hm,h=>by obtain⟨s,h1,h2⟩:=h;unfold Ur at hm;exact⟨s,((ho p (fun e=>by rw[e,Qt] at hm;cases hm)).1.trans h1),by rw[hx];exact h2⟩
 |.RA p,v,hm,h=>by obtain⟨s,h1,h2⟩:=h;unfold Ur at hm;exact⟨s,((ho p (fun e=>by rw[e,Qt] at hm;cases hm)).1.trans h1),by rw[hx];exact h2⟩
 |.vw p ty,v,hm,h=>by
  unfold Ur at hm;obtain⟨k1,k2⟩:=ho p (fun e=>by rw[e,Qt] at hm;cases hm);rcases h with ⟨s,h1,h2⟩| ⟨h1,h2⟩
  .exact .inl ⟨s,k1.trans h1,by rw[k2,hx];exact h2⟩
  .exact .inr ⟨by rw[k2];exact h1,h2⟩
 |.sub p ty a b,v,hm,h=>by
  unfold Ur at hm;obtain⟨k1,k2⟩:=ho p (fun e=>by rw[e,Qt] at hm;cases hm);obtain⟨g0,g1,g2,h⟩:=h;refine⟨g0,g1,by rw[k2];exact g2,?_⟩;rcases h with ⟨s,cp,h1,h2,h3⟩|h
  .exact .inl ⟨s,cp,k1.trans h1,h2,by rw[hx];exact h3⟩
  .exact .inr h
 |.Uq p ty i off,v,hm,h=>by obtain⟨s,h1,h2⟩:=h;unfold Ur at hm;exact⟨s,((ho p (fun e=>by rw[e,Qt] at hm;cases hm)).1.trans h1),by rw[hx];exact h2⟩
 |.sv p _ _ _ _ _,v,hm,h=>by obtain⟨s,h1,h2⟩:=h;unfold Ur at hm;exact⟨s,((ho p (fun e=>by rw[e,Qt] at hm;cases hm)).1.trans h1),by rw[hx];exact h2⟩
 |.sel p _ _ _ _ _,v,hm,h=>by obtain⟨s,h1,h2⟩:=h;unfold Ur at hm;exact⟨s,((ho p (fun e=>by rw[e,Qt] at hm;cases hm)).1.trans h1),by rw[hx];exact h2⟩
 |.sg _,_,_,h=>h|.X5 _ _ _ _,_,_,h=>h|.opt _ _ _,_,_,h=>h.elim|.int _ _,_,_,h=>h|.bool _,_,_,h=>h|.Tt _,_,_,h=>h|.str _,_,_,h=>h|.S9,_,_,h=>h|.SV,_,_,h=>h|.SG,_,_,h=>h|.Sy,_,_,h=>h|.TK,_,_,h=>h|.R3 _ _ _,_,_,h=>h|.undef,_,_,h=>h|.gone,_,_,h=>h
theorem ah.kill (o:Nat)(ho:∀p,p≠o->Z'.ob p=Z.ob p/\Z'.ln p=Z.ln p)(ht:Z'.tk=Z.tk)(hx:Z'.om=Z.om):∀(x:List (TV R.T))(v:List V),Vo o x=false->ah R Z top x v->ah R Z' top x v
 | [],_,_,h=>h|x::xs,_,hm,⟨v,vs,e,h1,h2⟩=>by unfold Vo at hm;rw[Qs] at hm;exact⟨v,vs,e,Rl.kill o ho ht hx x v hm.1 h1,ah.kill o ho ht hx xs vs hm.2 h2⟩
end
section
variable (hR:VI R)
include hR
def ny (v w:V):Prop:=aN v=w/\er v=w/\Q9 w=true/\(∀n Y,Rf (n+2) Y v=some w)/\oneCell v=true/\v.cells=[v]
omit hR in
theorem K5 {v:V}(h:∀cs,v≠ .agg cs):er v=aN v:=by cases v<;>first|rfl|exact absurd rfl (h _)
theorem Ve:∀(t:Ty)(x:Den R.T t),Q9 (Q8 R t x)=true
 |.int _,x=>by simp[Q8,Q9]|.bool,x=>by simp[Q8,Q9]|.str,x=>by simp[Q8,Q9]|.slice t,x=>rF (Ve t) x|.st n,x=>hR.pc n x
theorem Bp (c:Cp)(hc:nk Z top 1 0 c .sh/\(c= .any\/c= .sh)):∀(t:Ty)(x:Den R.T t),dK t=true->Rl R Z top (tv1 R c t x) (Q8 R t x)
 |.int _,x,_=>rfl|.bool,x,_=>rfl|.str,x,_=>rfl|.slice t,x,_=>⟨.sh,rfl,by rcases hc.2 with rfl|rfl<;>first|trivial|rfl⟩
 |.st n,x,h=>by simp[dK] at h
theorem Bq (c:Cp)(hc:nk Z top 1 0 c .sh/\(c= .any\/c= .sh)):∀(l:List Ty)(p:Vn R.T l),l.all dK=true->ah R Z top (TS R c l p) (encs R l p)
 | [],_,_=>rfl| [t],x,h=>.cons' (Bp hR c hc t x (by simpa using h)) rfl|t::u::l,p,h=>by rw[List.all_cons,Pz] at h;exact .cons' (Bp hR c hc t p.1 h.1) (Bq c hc (u::l) p.2 h.2)
theorem rM (c:Cp)(hc:c= .any\/c= .sh):∀(t:Ty)(x:Den R.T t),Rl R Z top (SY R c t x) (Q8 R t x)
 |.int _,x=>rfl|.bool,x=>rfl|.str,x=>rfl|.slice t,x=>⟨.sh,rfl,by rcases hc with rfl|rfl<;>first|trivial|rfl⟩
 |.st n,x=>⟨_,hR.enc n x,Bq hR c ⟨by rcases hc with rfl|rfl<;>first|trivial|rfl,hc⟩ _ _ (hR.leaf n)⟩
theorem Br (t:Ty)(x:Den R.T t):Rl R Z top (SY R .sh t x) (Q8 R t x):=rM hR .sh (.inr rfl) t x
omit hR in
theorem K6 (k:IntKind)(n:Int):ny (.int k n) (.int k n):=⟨rfl,rfl,by simp[Q9],fun n Y=>vZ (n+1) _ _,rfl,rfl⟩
omit hR in
theorem K7 (b:Bool):ny (.bool b) (.bool b):=⟨rfl,rfl,by simp[Q9],fun n Y=>aey (n+1) _,rfl,rfl⟩
omit hR in
theorem K8 (b:List UInt8):ny (.str b) (.str b):=⟨rfl,rfl,by simp[Q9],fun n Y=>wh (n+1) _,rfl,rfl⟩
theorem K9 (c:Cap)(t:Ty)(l:List (Den R.T t)):ny (.tX c (l.map (Q8 R t))) (Q8 R (.slice t) l):=⟨rfl,rfl,Ve hR (.slice _) _,fun n Y=>Yv _ _ (Ve hR _),rfl,rfl⟩
omit hR in
theorem wG {k:IntKind}{x:Int}{tv:TV R.T}{v:V}(h:aeE R k tv=some x)(hr:Rl R Z top tv v):v= .int k x:=by
 unfold aeE at h;split at h
 .split at h
  .rename_i e;cases e;cases h;exact hr.bW
  .cases h
 .cases h
omit hR in
theorem wH {x:Bool}{tv:TV R.T}{v:V}(h:aeF R tv=some x)(hr:Rl R Z top tv v):v= .bool x:=by
 unfold aeF at h;split at h<;>cases h
 .exact hr.eO
 .exact hr.gB
omit hR in
theorem wI {x:List UInt8}{tv:TV R.T}{v:V}(h:aeG R tv=some x)(hr:Rl R Z top tv v):v= .str x:=by unfold aeG at h;split at h<;>cases h;exact hr.dL
omit hR in
theorem gF {t u:Ty}{l:List (Den R.T t)}{m:List (Den R.T u)}(h:V7 R l=some m):t=u/\HEq l m:=by
 unfold V7 at h;split at h
 .rename_i e;subst e;cases h;exact⟨rfl,HEq.rfl⟩
 .cases h
omit hR in
theorem Bt {t:Ty}{x:List (Den R.T t)}{tv:TV R.T}{v:V}(h:aeH R t tv=some x)(hr:Rl R Z top tv v):∃c,v= .tX c (x.map (Q8 R t)):=by
 unfold aeH at h;split at h
 .obtain⟨e,e2⟩:=gF h;subst e;cases e2;obtain⟨c',hv,hc⟩:=hr.dz;exact⟨c',hv⟩
 .cases h;exact⟨.nil,hr.je⟩
 .cases h
theorem nA {t:Ty}{x:Den R.T t}{tv:TV R.T}{v:V}(h:Wq R t tv=some x)(hr:Rl R Z top tv v):ny v (Q8 R t x):=by
 cases t with
 |int k=>rw[wG h hr];exact K6 _ _|bool=>rw[wH h hr];exact K7 _|str=>rw[wI h hr];exact K8 _|slice t=>obtain⟨c,hv⟩:=Bt h hr;rw[hv];exact K9 hR _ _ _
 |st n=>cases h
theorem La {t:Ty}{x:Den R.T t}{cs:List (TV R.T)}{vs:List V}(h:Wq R t (hd1 R cs)=some x)(hr:ah R Z top cs vs):∃v,vs=[v]/\ny v (Q8 R t x):=by
 cases cs with
 |nil=>cases t<;>cases h|cons c cs=>
  cases cs with
  |nil=>obtain⟨v,l,rfl,h1,h2⟩:=hr.aP;rw[h2.bg];exact⟨v,rfl,nA hR h h1⟩
  |cons c' cs=>cases t<;>cases h
theorem Bu:∀(l:List Ty)(p:Vn R.T l)(cs:List (TV R.T))(vs:List V),uns R l cs=some p->ah R Z top cs vs->
 vs.map aN=encs R l p/\(∀n Y,vs.mapM (Rf (n+2) Y)=some (encs R l p))/\Rz (encs R l p)=true/\vs.all (fun v=>oneCell v)=true
 | [],p,cs,vs,h,hr=>by
   cases cs with
   |nil=>rw[hr.bg];exact⟨rfl,fun _ _=>rfl,by simp[encs,Rz],rfl⟩
   |cons c cs=>cases h
 | [t],p,cs,vs,h,hr=>by obtain⟨v,rfl,a,b,c,d,e,_⟩:=La hR (show Wq R t (hd1 R cs)=some p from h) hr;exact⟨by simp[encs,a],fun n Y=>by simp[encs,d],by simp[encs,Rz,c],by simp[e]⟩
 |t::u::l,p,cs,vs,h,hr=>by
  cases cs with
  |nil=>cases h|cons c cs=>
   obtain⟨v,vs,rfl,h1,h2⟩:=hr.aP;unfold uns at h;cases hu:Wq R t c with
   |none=>simp only[hu] at h;cases h|some y=>
    cases hs:uns R (u::l) cs with
    |none=>simp only[hu,hs] at h;cases h|some q=>simp only[hu,hs] at h;obtain rfl:=P9 h;obtain⟨a,b,c,d,e,_⟩:=nA hR hu h1;obtain⟨a',d',c',o'⟩:=Bu (u::l) q cs vs hs h2;exact⟨by simp[encs,a,a'],fun n Y=>by simp[encs,d,d'],by simp[encs,Rz,c,c'],by simp[e,o']⟩
omit hR in
theorem wJ:∀(l:List Ty)(p:Vn R.T l),(encs R l p).length=l.length
 | [],_=>rfl| [_],_=>rfl|_::u::l,p=>by show (encs R (u::l) p.2).length+1=_;rw[wJ];rfl
omit hR in
theorem wK {n:Nat}{Y:qd}(cs:List V):Rf (n+3) Y (.agg cs)=(cs.mapM (Rf (n+2) Y)).map .agg:=by
 by_cases hp:Q9 (.agg cs)=true
 .rw[Ux hp];have:∀cs:List V,Rz cs=true->cs.mapM (Rf (n+2) Y)=some cs:=by
   intro cs;induction cs with
   |nil=>intro _;rfl|cons a l ih=>intro h;simp only[Rz,Pz] at h;rw[PW,Ux h.1,ih h.2];rfl
  rw[this cs (by simpa [Q9] using hp)];rfl
 .conv=>lhs;unfold Rf
  simp only[hp,if_false,PE]
theorem wL {t:Ty}{x:Den R.T t}{tv:TV R.T}{v:V}(h:V8 R t tv=some x)(hr:Rl R Z top tv v):
 er v=Q8 R t x/\Q9 (Q8 R t x)=true/\(∀n Y,Rf (n+3) Y v=some (Q8 R t x))/\v.cells.length=RD R t/\RP v.cells=true:=by
 cases t with
 |st n=>
  change abn R n tv=some x at h;unfold abn at h;split at h
  .rename_i cs;split at h
   .rename_i p hp;obtain rfl:=P9 h;obtain⟨l,hv,hl⟩:=hr.cO;subst hv;obtain⟨a,d,c,o⟩:=Bu hR _ _ _ _ hp hl;have he:Q8 R (.st n) (R.to n p)= .agg (encs R (R.lf n) p):=(by show R.enc n (R.to n p)=_;rw[hR.enc,hR.adj]);refine⟨?_,Ve hR (.st n) _,fun k Y=>?_,?_,o⟩
    .rw[he];show V.agg (l.map aN)=_;rw[a]
    .rw[he,wK,d k Y];rfl
    .show l.length=_;have:=congrArg List.length a;rw[PY] at this;rw[this];exact wJ _ _
   .cases h
  .cases h
 |int k=>obtain⟨a,b,c,d,e,f⟩:=nA hR (t:=.int k) h hr;exact⟨b,c,fun n Y=>d (n+1) Y,by rw[f];rfl,by rw[f];simp[RP,e]⟩
 |bool=>obtain⟨a,b,c,d,e,f⟩:=nA hR (t:=.bool) h hr;exact⟨b,c,fun n Y=>d (n+1) Y,by rw[f];rfl,by rw[f];simp[RP,e]⟩
 |str=>obtain⟨a,b,c,d,e,f⟩:=nA hR (t:=.str) h hr;exact⟨b,c,fun n Y=>d (n+1) Y,by rw[f];rfl,by rw[f];simp[RP,e]⟩
 |slice t=>obtain⟨a,b,c,d,e,f⟩:=nA hR (t:=.slice t) h hr;exact⟨b,c,fun n Y=>d (n+1) Y,by rw[f];rfl,by rw[f];simp[RP,e]⟩
end
end
end Aq
end
