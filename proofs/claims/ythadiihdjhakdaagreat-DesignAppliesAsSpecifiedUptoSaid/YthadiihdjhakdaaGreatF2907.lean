import Derived.Test.YthadiihdjhakdaaGreatF2906
set_option linter.all false
section
namespace aY
open Go
inductive MR (T:Nat->Type) where
 |b (c:Bool) (v:ak T)
 |o (α:Type) (x:Option α) (f:α->ak T)
def zk {T:Nat->Type}{β:Type}(k:ak T->Option β):List (MR T)->Option β
 | []=>none|.b c v::l=>bif c then k v else zk k l|.o _ x f::l=>match x with
  |some a=>k (f a)|none=>zk k l
def SX {T:Nat->Type}(n:Int):Nat->List (ak T)->List (MR T)
 |_,[]=>[]|i,c::cs=>.b (n==(i:Int)) (.aI c.cells 0)::SX n (i+1) cs
def SY {T:Nat->Type}(o off sz:Nat)(n:Int):Nat->List (MR T)
 |0=>[]|m+1=>.b (n==(m:Int)) (.ref o (off+m*sz))::SY o off sz n m
inductive eZ (R:gY) where
 |t (v:ak R.T)
 |c (b:Bool) (v:ak R.T)
 |w (v:ak R.T) (st:aD R.T)
 |wc (b:Bool) (v:ak R.T) (st:aD R.T)
 |p (α:Type) (d:α) (o:Option α) (f:α->ak R.T)
 |alt (l:List (MR R.T))
section
variable (E:Env)(R:gY)
def S9 {T:Nat->Type}(agg:Bool)(n:Nat)(cs:List (ak T))(off:Nat):Option (ak T):=bif agg then (bif Nat.ble (off+n) cs.length then some (.agg ((cs.drop off).take n)) else none) else cs[off]?
def nH {T:Nat->Type}(t:TypeId)(cs:List (ak T))(off:Nat):Option (ak T):=
 match nU E.P t with
 |some a=>match eX E.P t with
  |some n=>S9 a n cs off|none=>none
 |none=>none
def II {T:Nat->Type}(cs:List (ak T))(off:Nat)(vs:List (ak T)):List (ak T):=cs.take off++vs++cs.drop (off+vs.length)
def Ta {T:Nat->Type}(place:Nat->Option (Nat×Nat))(cells:List (ak T)):List (Nat×ak T)->Option (List (ak T))
 | []=>some cells| (i,v)::rest=>match place i with
   |none=>none|some (off,size)=>bif Nat.beq v.cells.length size&& Nat.ble (off+size) cells.length&& yc v then Ta place (II cells off v.cells) rest else none
def MS {T:Nat->Type}(t:TypeId):Option (ak T):=match E.P.info? t with
 |some i=>match i.zero with
  |some z=>Iw z|none=>none
 |none=>none
def MU {T:Nat->Type}:ak T->Option Bool
 |.bool a=>some a|.ji a=>some a|_=>none
def Tc {T:Nat->Type}(x y:ak T):Option Bool:=match MU x,MU y with
 |some a,some b=>some (a==b)|_,_=>none
def IJ {T:Nat->Type}(eq:TypeId->ak T->ak T->Option Bool)(xs ys:List (ak T)):List Field->Option Bool
 | []=>some true|f::fs=>if f.name= "_" then IJ eq xs ys fs else match nH E f.type xs f.offset with
  |none=>none|some a=>match nH E f.type ys f.offset with
   |none=>none|some b=>match eq f.type a b with
    |none=>none|some r=>match IJ eq xs ys fs with
     |none=>none|some q=>some (r&& q)
def MV {T:Nat->Type}(eq:TypeId->ak T->ak T->Option Bool)(e:TypeId)(sz:Nat)(xs ys:List (ak T)):List Nat->Option Bool
 | []=>some true|i::is=>match nH E e xs (i*sz) with
  |none=>none|some a=>match nH E e ys (i*sz) with
   |none=>none|some b=>match eq e a b with
    |none=>none|some r=>match MV eq e sz xs ys is with
     |none=>none|some q=>some (r&& q)
def IK {T:Nat->Type}:Nat->TypeId->ak T->ak T->Option Bool
 |0,_,_,_=>none|d+1,t,x,y=>
  match E.P.underlying t,x,y with
  |some (.struct fs),.agg xs,.agg ys=>if E.P.stoodInHeld t then none else IJ E (IK d) xs ys fs.toList|some (.array n e),.agg xs,.agg ys=>match eX E.P e with
   |some sz=>MV E (IK d) e sz xs ys (List.range n)|none=>none
  |some (.struct _),_,_=>none|some (.array _ _),_,_=>none|some .bool,x,y=>Tc x y|some (.int _),.int k a,.int k' b=>if k=k' then some (a==b) else none|some .string,.str a,.str b=>some (a==b)|_,_,_=>none
def Td {T:Nat->Type}(t:TypeId)(x y:ak T):Option Bool:=
 match E.P.underlying t,x,y with
 |some (.struct _),.agg a,.agg b=>if E.P.eqGuardType E.P.depth t then none else IK E 8 t (.agg a) (.agg b)|some (.array _ _),.agg a,.agg b=>if E.P.eqGuardType E.P.depth t then none else IK E 8 t (.agg a) (.agg b)|some (.func ..),.dF,.dF=>some true|some (.func ..),.dF,.fn _ _ _=>some false|some (.func ..),.fn _ _ _,.dF=>some false|some (.pointer _),.cB,.cB=>some true|some (.pointer _),.cB,.aI _ _=>some false
 |some (.pointer _),.aI _ _,.cB=>some false|some (.pointer _),.cB,.ref _ _=>some false|some (.pointer _),.ref _ _,.cB=>some false|some .bool,x,y=>Tc x y|_,_,_=>none
def Te (op:BinOp)(k:IntKind)(x y:Int):Option (eZ R):=
 match op with
 |.add=>some (.t (.int k (k.wrap (x+y))))|.sub=>some (.t (.int k (k.wrap (x-y))))|.mul=>some (.t (.int k (k.wrap (x*y))))|.quo=>some (.c (!(y==0)) (.int k (k.wrap (x.tdiv y))))|.rem=>some (.c (!(y==0)) (.int k (x.tmod y)))|.and=>some (.t (.int k (k.wrap (BitVec.ofInt k.bits x&&& BitVec.ofInt k.bits y).toNat)))|.or=>some (.t (.int k (k.wrap (BitVec.ofInt k.bits x|||BitVec.ofInt k.bits y).toNat)))|.xor=>some (.t (.int k (k.wrap (BitVec.ofInt k.bits x^^^BitVec.ofInt k.bits y).toNat)))
 |.andNot=>some (.t (.int k (k.wrap (BitVec.ofInt k.bits x&&& ~~~BitVec.ofInt k.bits y).toNat)))|.eql=>some (.t (.bool (x==y)))|.neq=>some (.t (.bool (x !=y)))|.lss=>some (.t (.bool (decide (x<y))))|.leq=>some (.t (.bool (decide (x<=y))))|.gtr=>some (.t (.bool (decide (x>y))))|.geq=>some (.t (.bool (decide (x>=y))))|_=>none
def Y8 (op:BinOp)(k:IntKind)(x y:Int):Option (eZ R):=
 match op with
 |.shl=>some (.c (decide (0<=y)) (.int k (k.wrap (x*2^min y.toNat k.bits))))|.shr=>some (.c (decide (0<=y)) (.int k (x.fdiv (2^min y.toNat k.bits))))|_=>none
def Y9 (op:BinOp)(x y:List UInt8):Option (eZ R):=
 match op with
 |.add=>some (.c (decide (((x.length+y.length:Nat):Int)<=IntKind.i64.max)) (.str (x++y)))|.eql=>some (.t (.bool (x==y)))|.neq=>some (.t (.bool (!(x==y))))|.lss=>some (.t (.bool (Op.bytesLess x y)))|.leq=>some (.t (.bool (Op.bytesLess x y||x==y)))|.gtr=>some (.t (.bool (!(Op.bytesLess x y||x==y))))|.geq=>some (.t (.bool (!(Op.bytesLess x y))))|_=>none
def IL:BinOp->Bool
 |.shl=>true|.shr=>true|_=>false
def Tf (t:TypeId)(x y:ak R.T):Option (Bool×Bool):=match E.P.underlying t,x,y with
 |some (.slice _),.gT,.gT=>some (true,true)|some (.slice _),.ay .nil _ l,.gT=>some (l.isEmpty,true)|some (.slice _),.ay _ _ l,.gT=>some (!l.isEmpty,false)|_,_,_=>none
def Za (op:BinOp)(t:TypeId)(x y:ak R.T):Option (eZ R):=
 match x,y with
 |.int k a,.int k' b=>bif IL op then Y8 R op k a b else (if k=k' then Te R op k a b else none)|.str a,.str b=>Y9 R op a b|x,y=>match op with
  |.eql=>match Tf E R t x y with
   |some (c,b)=>some (.c c (.ji b))|none=>match Td E t x y with
    |some b=>some (.t (.bool b))|none=>none
  |.neq=>match Tf E R t x y with
   |some (c,b)=>some (.c c (.ji (!b)))|none=>match Td E t x y with
    |some b=>some (.t (.bool (!b)))|none=>none
  |_=>none
def Zb (op:UnOp)(x:ak R.T):Option (eZ R):=
 match op,x with
 |.neg,.int k n=>some (.t (.int k (k.wrap (0-n))))|.xor,.int k n=>Te R .xor k (if k.signed then-1 else k.max) n|.not,.bool b=>some (.t (.bool (!b)))|.not,.ji b=>some (.t (.ji (!b)))|_,_=>none
def Tg (src dst:TypeId)(x:ak R.T):Option (eZ R):=
 match E.P.underlying src,E.P.underlying dst,x with
 |some _,some (.int k),.int _ n=>some (.t (.int k (k.wrap n)))|some _,some .string,.str s=>some (.t (.str s))|some (.slice e),some .string,.ay _ (.int .u8) l=>match E.P.underlying e with
  |some (.int .u8)=>some (.t (.str (List.map (fun n:Int=>UInt8.ofNat n.toNat) l)))
  |_=>none
 |some (.slice e),some .string,.gT=>match E.P.underlying e with
  |some (.int .u8)=>some (.t (.str []))|_=>none
 |_,_,_=>none
def AA (i:Int)(n:Nat):Bool:=decide (0<=i/\i<=n)
def IQ:Option (ak R.T)->Option (Option Int)
 |none=>some none|some (.int _ n)=>some (some n)|_=>none
def IU {α:Type}(l:List α):Option Int->Option Int->List α
 |none,none=>l|some i,none=>l.drop i.toNat|none,some j=>l.take j.toNat|some i,some j=>(l.take j.toNat).drop i.toNat
def afz (n:Nat):Option Int->Option Int->Bool
 |none,none=>true|some i,none=>AA i n|none,some j=>AA j n|some i,some j=>AA j n&& AA i j.toNat
def Ti (t:TypeId)(x:ak R.T)(lo hi:Option (ak R.T)):Option (eZ R):=
 match IQ R lo,IQ R hi with
 |some lo,some hi=>match E.P.underlying t,x with
  |some (.slice e),.ay _ u l=>match eX E.P e with
   |some sz=>bif Nat.beq sz (cK R u) then some (.c (afz l.length lo hi) (.ay .any u (IU l lo hi))) else none|none=>none
  |_,_=>none
 |_,_=>none
def IV {T:Nat->Type}(st:aD T):ak T->Option (Nat×Ty×Int×Int)
 |.aJ o t=>match nG st o with
  |some (.arr _ l)=>some (o,t,0,(l.length:Int))|_=>none
 |.sub o t a b=>some (o,t,a,b)|_=>none
def afA (a b c:Int):Bool:=decide (0<=a/\a<=b/\b<=c)
def apW (i n:Int):Bool:=decide (0<=i/\i<n)
def uf (n:Int):Option Int->Int
 |some i=>i|none=>n
def pO:Option Int->Int
 |some i=>i|none=>0
def Tj (t:TypeId)(x:ak R.T)(lo hi:Option (ak R.T))(st:aD R.T):Option (eZ R):=
 match IV st x,IQ R lo,IQ R hi,E.P.underlying t with
 |some (o,τ,a,b),some lo,some hi,some (.slice e)=>match eX E.P e with
  |some sz=>bif Nat.beq sz (cK R τ) then some (.c (afA (pO lo) (uf (b-a) hi) (b-a)) (.sub o τ (a+pO lo) (a+uf (b-a) hi))) else none|none=>none
 |_,_,_,_=>none
def Dv (t:TypeId)(x:ak R.T)(lo hi:Option (ak R.T))(st:aD R.T):Option (eZ R):=
 match Tj E R t x lo hi st with
 |some r=>some r|none=>Ti E R t x lo hi
def afB {T:Nat->Type}(t:TypeId)(f:Nat)(x:ak T):Option (ak T):=
 match xH E.P t f with
 |some (o,_)=>match x with
  |.ref p off=>some (.ref p (off+o))|.aI cs off=>some (.aI cs (off+o))|.l9 p t i off=>some (.l9 p t i (off+o))|_=>none
 |none=>none
def Tk (t:TypeId)(m x:ak R.T)(ok:Bool)(st:aD R.T):Option (eZ R):=
 (fun (_:Env) (_:gY) (_:TypeId) (_ _:ak R.T) (_:Bool) (_:aD R.T)=>none) E R t m x ok st
def apX {T:Nat->Type}:ak T->ak T->Option Bool
 |.int k a,.int k' b=>if k=k' then some (a==b) else none|.str a,.str b=>some (a==b)|_,_=>none
def IW (t:TypeId)(m x v:ak R.T)(st:aD R.T):Option (eZ R):=
 (fun (_:Env) (_:gY) (_:TypeId) (_ _ _:ak R.T) (_:aD R.T)=>none) E R t m x v st
def iA:Ty->Bool
 |.st _=>true|_=>false
def Fp (t:TypeId):Option (TypeId×Ty×Nat×Nat):=
 match mW E.P t with
 |some e=>match R.ty e,eX E.P e,Ah E.P e,nU E.P e,kR E.P e with
  |some u,some sz,some iF,some ag,some z=>bif Nat.beq sz (cK R u)&& Nat.blt 0 sz&& (ag||Nat.beq sz 1)&& Nat.beq z.cells.length sz&& (ag==iA u) then some (e,u,sz,iF) else none|_,_,_,_,_=>none
 |none=>none
def BQ (t:Ty)(n:Nat):List (Nat×ak R.T)->Option (List (Den R.T t))
 | []=>some []| (i,v)::l=>bif Nat.beq i n then (match BN R t v with
   |some x=>match BQ t (n+1) l with
    |some y=>some (x::y)|none=>none
   |none=>none) else none
def Zc (t:TypeId)(len:Nat)(ps:List (Nat×ak R.T)):Option (eZ R):=
 match Fp E R t with
 |some (_,u,sz,_)=>bif Nat.ble (len*sz) (2^24)&& Nat.beq ps.length len then (match BQ R u 0 ps with
  |some l=>some (.t (.ay .full u l))|none=>none) else none
 |none=>none
def afC {T:Nat->Type}:ak T->Bool
 |.int _ _=>true|.bool _=>true|.ji _=>true|.str _=>true|.dF=>true|.cB=>true|.fn _ _ _=>true|_=>false
def Tm {T:Nat->Type}:List (ak T)->Bool
 | []=>true|v::l=>afC v&& Tm l
def Tn {T:Nat->Type}(sz:Nat):Nat->List (Nat×ak T)->Option (List (ak T))
 |_,[]=>some []|n,(i,v)::l=>match v with
  |.agg cs=>bif Nat.beq i n&& (Nat.beq cs.length sz&& Tm cs) then (match Tn sz (n+1) l with
   |some y=>some (.agg cs::y)|none=>none) else none
  |_=>none
def Zd (t:TypeId)(len:Nat)(ps:List (Nat×ak R.T)):Option (eZ R):=
 match mW E.P t with
 |some e=>match eX E.P e,nU E.P e,kR E.P e with
  |some sz,some ag,some z=>bif ag&& (Nat.ble (len*sz) (2^24)&& (Nat.beq z.cells.length sz&& (Nat.blt 0 sz&& Nat.beq ps.length len))) then (match Tn sz 0 ps with
   |some l=>some (.t (.kl l))|none=>none) else none
  |_,_,_=>none
 |none=>none
def Ze (d:Option Nat)(t:TypeId)(len:Nat)(ps:List (Nat×ak R.T))(st:aD R.T):Option (eZ R):=
 match d,Fp E R t with
 |some d,some (_,u,sz,_)=>bif Nat.ble (len*sz) (2^24)&& Nat.beq ps.length len then (match BQ R u 0 ps with
  |some l=>bif Nat.ble F0 (E.cn d) then none else some (.w (.aJ (E.cn d) u) (st.new (E.cn d) (.arr u l)))|none=>none) else none
 |_,_=>none
def Tp (u:Ty):ak R.T->Option (List (Den R.T u))
 |.ay _ _ l=>pJ R l|.gT=>some []|.str s=>pJ (t:=.int .u8) (u:=u) R (s.map fun b=>(b.toNat:Int))
 |_=>none
def afD (u:Ty)(d:Nat):ak R.T->Option (Nat×List (Den R.T u))
 |.ay .nil _ l=>match pJ R l with
  |some l=>some (d,l)|none=>none
 |.ay .full _ l=>match pJ R l with
  |some l=>some (d,l)|none=>none
 |.ay (.own t) _ l=>match pJ R l with
  |some l=>some (t,l)|none=>none
 |.gT=>some (d,[])|_=>none
def IX (t:TypeId):Bool:=match E.P.underlying t with
 |some (.slice _)=>true|some .string=>true|_=>false
def ug (d:Option Nat)(t u:TypeId)(x y:ak R.T)(st:aD R.T):Option (eZ R):=
 match d with
 |some d=>match Fp E R t with
  |some (_,τ,_,iF)=>bif IX E u then (match afD R τ d x,Tp R τ y with
   |some (tk,l),some l'=>some (.wc (dG (l.length+l'.length) iF) (.ay (.own tk) τ (l++l')) (st.wk tk))|_,_=>none) else none
  |none=>none
 |none=>none
def Fq (d:Option Nat)(t u:TypeId)(x y:ak R.T)(st:aD R.T):Option (eZ R):=
 match d with
 |some d=>bif Nat.ble F0 (E.cn d) then none else match Fp E R t with
  |some (_,τ,_,iF)=>bif IX E u then (match Tp R τ y with
   |some l'=>match x with
    |.aJ o afE=>if afE=τ then (match look st.ob o with
     |some (.arr fO l)=>match pJ R (u:=τ) l with
      |some l=>bif Nat.beq o (E.cn d) then some (.wc (dG (l.length+l'.length) iF) (.aJ (E.cn d) τ) ((st.del o).new (E.cn d) (.arr τ (l++l')))) else (match l' with
       |a::l'=>some (.wc (dG (l.length+(a::l').length) iF) (.aJ (E.cn d) τ) ((st.del o).new (E.cn d) (.arr τ (l++a::l'))))| []=>none)
      |none=>none
     |_=>none) else none
    |x=>bif vk x then some (.wc (dG l'.length iF) (.aJ (E.cn d) τ) (st.new (E.cn d) (.arr τ l'))) else none
   |none=>none) else none
  |none=>none
 |none=>none
def MW (d:Option Nat)(t u:TypeId)(x y:ak R.T)(st:aD R.T):Option (eZ R):=
 match Fp E R t with
 |some (_,τ,_,_)=>match y with
  |.aJ o fO=>if fO=τ then (match nG st o with
   |some (.arr yj l)=>match pJ R (u:=τ) l with
    |some l=>Fq E R d t u x (.ay .any τ l) st|none=>none
   |_=>none) else none
  |_=>none
 |none=>none
def Zf (aj:Bool)(d:Option Nat)(t:TypeId)(n m:ak R.T)(st:aD R.T):Option (eZ R):=(fun (_:Env) (_:gY) (_:Bool) (_:Option Nat) (_:TypeId) (_ _:ak R.T) (_:aD R.T)=>none) E R aj d t n m st
def IY {T:Nat->Type}(mx:Bool):ak T->List (ak T)->Option (ak T)
 |x,[]=>some x|.int k a,.int k' b::l=>if k=k' then IY mx (.int k (bif mx then imax a b else kG a b)) l else none|_,_=>none
def Zg {T:Nat->Type}(t:TypeId)(x:ak T)(st:aD T):Option Nat:=
 match E.P.underlying t,x with
 |some (.slice _),.ay _ _ l=>some l.length|some (.slice _),.gT=>some 0|some (.slice _),.kl l=>some l.length|some (.slice _),.aJ o _=>match nG st o with
  |some (.arr _ l)=>some l.length|_=>none
 |some (.slice _),.sub _ _ a b=>some (b-a).toNat|some .string,.str s=>some s.length|some (.map _ _),.dJ o=>match nG st o with
  |some (.map _ _ m)=>some m.length|_=>none
 |some (.map _ _),.eU _ _ m=>some m.length|some (.map _ _),.gL=>some 0|some (.array n _),_=>some n|_,_=>none
def Zh (t:TypeId)(x:ak R.T)(st:aD R.T):Option (eZ R):=
 (fun (_:Env) (_:gY) (_:TypeId) (_:ak R.T) (_:aD R.T)=>none) E R t x st
def blt (aj:Bool)(d:Option Nat)(b:Builtin)(tys:Array TypeId)(args:List (ak R.T))(st:aD R.T):Option (eZ R):=
 match b,args with
 |.len,[x]=>match tys[0]? with
  |some t=>match Zg E t x st with
   |some n=>some (.t (.int .i64 ((n:Nat):Int)))|none=>none
  |none=>none
 |.append,[x,y]=>match tys[0]?,tys[1]? with
  |some t,some u=>bif aj then (match Fq E R d t u x y st with
   |some r=>some r|none=>MW E R d t u x y st) else ug E R d t u x y st
  |_,_=>none
 |.clear,[x]=>match tys[0]? with
  |some t=>Zh E R t x st|none=>none
 |.min,x::l=>match IY false x l with
  |some v=>some (.t v)|none=>none
 |.max,x::l=>match IY true x l with
  |some v=>some (.t v)|none=>none
 |_,_=>none
def Tq:List (ak R.T)->ak R.T
 | [v]=>v|vs=>.bq vs
def IZ (args bV:List (ak R.T)):List (fM R)->List (MR R.T)
 | []=>[]|r::l=>match dV R r.args bV with
  |some p=>bif r.alt&& (gu r.args&& Nat.ble (kY r.args) 18&& gu r.res&& (wC args||BP r.res)) then .o (aW R.T r.res) (r.F p) (fun x=>Tq R (eY R .sh r.res x))::IZ args bV l else IZ args bV l
  |none=>IZ args bV l
def findF (args bV:List (ak R.T)):List (fM R)->Option (eZ R)
 | []=>none|r::l=>match dV R r.args bV with
  |some p=>bif r.alt then some (.alt (IZ R args bV (r::l))) else bif gu r.args&& Nat.ble (kY r.args) 18&& gu r.res&& (wC args||BP r.res) then some (.p (aW R.T r.res) r.d (r.F p) fun x=>Tq R (eY R .sh r.res x)) else none
  |none=>findF args bV l
def Tt {T:Nat->Type}(sz:Nat):List (ak T)->Bool
 | []=>true|v::l=>(match v with
  |.agg cs=>Nat.beq cs.length sz|_=>false)&& Tt sz l
def afF (e:TypeId):Bool:=match E.P.underlying e with
 |some (.func ..)=>true|_=>false
def Zi (t:TypeId)(x i:ak R.T):Option (eZ R):=
 match E.P.underlying t,x,i with
 |some (.slice e),.ay _ u l,.int _ n=>match eX E.P e with
  |some sz=>bif Nat.beq sz (cK R u) then some (.p (Den R.T u) (Iq R u) (aR l n) fun y=>.aI (jk R .sh u y).cells 0) else none
  |none=>none
 |some (.slice e),.kl l,.int _ n=>match eX E.P e with
  |some sz=>bif Tt sz l then some (.alt (SX n 0 l)) else none|none=>none
 |some (.array n e),.ref o off,.int _ k=>match eX E.P e with
  |some sz=>bif afF E e then some (.alt (SY o off sz k n)) else some (.c (decide (0<=k/\k<n)) (.ref o (off+k.toNat*sz)))|none=>none
 |some (.array n e),.aI cs off,.int _ k=>match eX E.P e with
  |some sz=>some (.c (decide (0<=k/\k<n)) (.aI cs (off+k.toNat*sz)))|none=>none
 |_,_,_=>none
def Zj (t:TypeId)(o:Nat)(τ:Ty)(i:ak R.T)(st:aD R.T):Option (eZ R):=
 match E.P.underlying t,i with
 |some (.slice e),.int _ n=>match eX E.P e with
  |some sz=>bif Nat.beq sz (cK R τ) then (match nG st o with
   |some (.arr _ l)=>some (.c (decide (0<=n/\n< (l.length:Int))) (.l9 o τ n 0))|_=>none) else none
  |none=>none
 |_,_=>none
def Zk (t:TypeId)(o:Nat)(τ:Ty)(a b:Int)(i:ak R.T):Option (eZ R):=
 match E.P.underlying t,i with
 |some (.slice e),.int _ n=>match eX E.P e with
  |some sz=>bif Nat.beq sz (cK R τ) then some (.c (apW n (b-a)) (.l9 o τ (a+n) 0)) else none|none=>none
 |_,_=>none
def apY {T:Nat->Type}:Option (ak T)->ak T
 |some v=>v|none=>.gone
def Zl (t:TypeId)(τ:Ty)(i:Int)(off:Nat)(o:aG R.T):Option (eZ R):=
 match o with
 |.arr fO l=>match pJ R (u:=τ) l with
  |some l=>bif (nH E t (jk R .any τ (Iq R τ)).cells off).isSome then some (.p (Den R.T τ) (Iq R τ) (aR l i) fun y=>apY (nH E t (jk R .any τ y).cells off)) else none
  |none=>none
 |_=>none
def Zm (τ:Ty)(cs:List (ak R.T)):Option (Den R.T τ):=match τ with
 |.st n=>Fb R n (.agg cs)|.int k=>u7 R (.int k) (hd1 R cs)|.bool=>u7 R .bool (hd1 R cs)|.str=>u7 R .str (hd1 R cs)|.slice t=>u7 R (.slice t) (hd1 R cs)
def Zn (t:TypeId)(x i:ak R.T):Option (eZ R):=
 match E.P.underlying t,x,i with
 |some .string,.str s,.int _ n=>some (.p UInt8 0 (aR s n) fun b=>.int .u8 (b.toNat:Int))
 |_,_,_=>none
def I4 {T:Nat->Type}(c:Bool):ak T->ak T->Option (ak T)
 |.int k a,.int k' b=>if k=k' then some (.int k (bif c then a else b)) else none|.bool a,.bool b=>some (.bool (bif c then a else b))|.bool a,.ji b=>some (.bool (bif c then a else b))|.ji a,.bool b=>some (.bool (bif c then a else b))|.ji a,.ji b=>some (.bool (bif c then a else b))|.str a,.str b=>some (.str (bif c then a else b))|_,_=>none
def afG (n:Nat):Option Int->Option Int->Bool
 |none,none=>true|some i,none=>decide (0<=i/\(i<n\/i=0))|none,some j=>decide (0<=j/\j<=n)|some i,some j=>decide (0<=i/\i<=j/\j<=n/\(i<j\/i=0))
def I5:Option Int->Int
 |some i=>i|none=>0
def afH (n:Nat):Option Int->Int
 |some i=>i|none=>n
def wE (g:List (Nat×Bool))(d:Option Nat)(o:Op)(st:aD R.T):Option (eZ R):=(fun (_:Env) (_:gY) (_:List (Nat×Bool)) (_:Option Nat) (_:Op) (_:aD R.T)=>none) E R g d o st
def wF (aj:Bool)(F:Nat->List (fM R))(g:List (Nat×Bool))(d:Option Nat)(o:Op)(st:aD R.T):Option (eZ R):=
 match o with
 |.move x=>bif Ak E d then (match dK g st x with
  |some (.aJ p t)=>match look st.ob p with
   |some (.arr t' l)=>match pJ R (u:=t) l with
    |some l=>some (.w (.ay .any t l) (st.del p))|none=>none
   |_=>none
  |some (.int k n)=>some (.t (.int k n))|_=>none) else (match dK g st x with
  |some v=>some (.t v)|none=>none)
 |.assign x=>match dK g st x with
  |some v=>some (.t v)|none=>none
 |.pick c a b=>match c with
  |.tmp j=>match dK g st c with
   |some (.bool t)=>match dK ((j,true)::g) st a,dK ((j,false)::g) st b with
    |some x,some y=>match I4 t x y with
     |some v=>some (.t v)|none=>none
    |_,_=>none
   |some (.ji t)=>match dK g st (bif t then a else b) with
    |some v=>some (.t v)|none=>none
   |_=>none
  |_=>none
 |.alloc t=>match d,MS E t with
  |some d,some z=>bif Dr z.cells&& !(nE d z.cells) then some (.w (.ref d 0) (st.new d (.cells z.cells))) else none|_,_=>none
 |.box t x=>bif LD E t d then (match dK g st x with
  |some v=>bif oU (Dt v)&& yc v then some (.t (.aI (Dt v).cells 0)) else none|none=>none) else match d,dK g st x with
  |some d,some v=>bif Dr v.cells&& yc v&& !(nE d v.cells) then some (.w (.ref d 0) (st.new d (.cells v.cells))) else none|_,_=>none
 |.build t parts=>match RI E t,MS (T:=R.T) E t,Iy g st parts.toList with
  |some pl,some z,some ps=>match Ta pl z.cells ps with
   |some cs=>some (.t (.agg cs))|none=>none
  |_,_,_=>none
 |.buildSlice t len parts=>match Iy g st parts.toList with
  |some ps=>bif EL E d then Ze E R d t len ps st else (match Zc E R t len ps with
   |some r=>some r|none=>Zd E R t len ps)
  |none=>none
 |.load t a=>match dK g st a with
  |some (.ref o off)=>match nG st o with
   |some (.cells cs)=>match nH E t cs off with
    |some v=>some (.t v)|none=>none
   |_=>none
  |some (.aI cs off)=>match nH E t cs off with
   |some v=>some (.t v)|none=>none
  |some (.l9 o τ i off)=>match nG st o with
   |some b=>Zl E R t τ i off b|none=>none
  |_=>none
 |.store t a x=>match dK g st a,dK g st x with
  |some (.ref o off),some v=>match look st.ob o,eX E.P t with
   |some (.cells cs),some sz=>bif Nat.beq v.cells.length sz&& Nat.ble (off+v.cells.length) cs.length&& Dr v.cells&& yc v then some (.w .undef (st.set o (.cells (II cs off v.cells)))) else none
   |_,_=>none
  |_,_=>none
 |.nilCheck x=>match dK g st x with
  |some (.ref o off)=>some (.t (.ref o off))|some (.aI cs off)=>some (.t (.aI cs off))|some (.l9 o τ i off)=>some (.t (.l9 o τ i off))|some (.fn f a b)=>some (.t (.fn f a b))|_=>none
 |.binOp op t x y _=>match dK g st x,dK g st y with
  |some x,some y=>Za E R op t x y|_,_=>none
 |.unOp op _ x=>match dK g st x with
  |some x=>Zb R op x|none=>none
 |.convert a b x=>match dK g st x with
  |some x=>Tg E R a b x|none=>none
 |.makeFunc (.func f) a b=>match lN g st a.toList,lN g st b.toList with
  |some a,some b=>some (.t (.fn f a b))|_,_=>none
 |.makeMap t none=>match d,G8 E.P t with
  |some d,some (k,e)=>match R.ty k,R.ty e with
   |some k,some e=>some (.w (.dJ d) (st.new d (.map k e [])))|_,_=>some (.w (.dJ d) (st.new d (.smap [] [])))
  |_,_=>none
 |.makeSlice t l c=>match dK g st l,dK g st c with
  |some n,some m=>Zf E R aj d t n m st|_,_=>none
 |.slice t x lo hi none=>match dK g st x with
  |some x=>match lo,hi with
   |none,none=>Dv E R t x none none st|some lo,none=>match dK g st lo with
    |some lo=>Dv E R t x (some lo) none st|none=>none
   |none,some hi=>match dK g st hi with
    |some hi=>Dv E R t x none (some hi) st|none=>none
   |some lo,some hi=>match dK g st lo,dK g st hi with
    |some lo,some hi=>Dv E R t x (some lo) (some hi) st|_,_=>none
  |none=>none
 |.fieldAddr t x f=>match dK g st x with
  |some x=>match afB E t f x with
   |some v=>some (.t v)|none=>none
  |none=>none
 |.field t x f=>match xH E.P t f,dK g st x with
  |some (o,u),some (.agg cs)=>match nH E u cs o with
   |some v=>some (.t v)|none=>none
  |_,_=>none
 |.indexAddr t x i=>match dK g st x,dK g st i with
  |some (.aJ o τ),some i=>Zj E R t o τ i st|some (.sub o τ a b),some i=>Zk E R t o τ a b i|some x,some i=>Zi E R t x i|_,_=>none
 |.index t x i=>match dK g st x,dK g st i with
  |some x,some i=>Zn E R t x i|_,_=>none
 |.lookup t x i ok=>match dK g st x,dK g st i with
  |some x,some i=>Tk E R t x i ok st|_,_=>none
 |.mapUpdate t m k v=>match dK g st m,dK g st k,dK g st v with
  |some m,some k,some v=>IW E R t m k v st|_,_,_=>none
 |.insert t m k v=>match dK g st m,dK g st k,dK g st v with
  |some m,some k,some v=>IW E R t m k v st|_,_,_=>none
 |.extract x i=>match dK g st x with
  |some (.bq vs)=>match vs[i]? with
   |some v=>some (.t v)|none=>none
  |_=>none
 |.call c=>match c.callee with
  |.builtin b=>match lN g st c.args.toList with
   |some vs=>blt E R aj d b c.argTypes vs st|none=>none
  |.value f=>match dK g st f,lN g st c.args.toList with
   |some (.fn f a b),some vs=>bif E.imp f then none else findF R (a++vs++b) (pK st (a++vs++b)) (F f)|_,_=>none
  |_=>none
 |_=>none
def AB (aj:Bool)(F:Nat->List (fM R))(g:List (Nat×Bool))(d:Option Nat)(o:Op)(st:aD R.T):Option (eZ R):=
 match wE E R g d o st with
 |some r=>some r|none=>wF E R aj F g d o st
inductive AJ where
 |no
 |run
 |skip
 |dyn (j:Nat) (w:Bool) (c:Bool) (g:List (Nat×Bool))
def I6 (b w:Bool):Bool:=bif w then b else !b
def Zo (a b:Bool):Bool:=bif a then b else false
def rC {T:Nat->Type}(st:aD T):Nat->Nat->Bool->Option (Bool×List (Nat×Bool))
 |0,_,_=>none|n+1,j,w=>match look st.fr j with
  |some (.bool b)=>some (I6 b w,[(j,w)])|some (.opt i u (.bool b))=>match rC st n i u with
   |some (c,g)=>some (Zo c (I6 b w),(j,w)::g)|none=>none
  |some (.opt i u (.ji b))=>match rC st n i u with
   |some (c,g)=>some (Zo c (I6 b w),(j,w)::g)|none=>none
  |_=>none
def Tv {T:Nat->Type}(all:List Oper)(st:aD T)(o:Oper):AJ:=
 match o.guard with
 |none=>.run|some (j,w)=>match all[j]? with
  |some p=>match p.dst with
   |some t=>match look st.fr t with
    |some (.ji b)=>bif b==w then .run else .skip|some .undef=>.skip|_=>match rC st 12 t w with
     |some (c,g)=>.dyn t w c g|none=>.no
   |none=>.skip
  |none=>.skip
def aD.nI {T:Nat->Type}(st:aD T):List (Nat×Bool)->aD T
 | []=>st| (j,w)::g=>(st.nI g).learn j w
def aD.BR {T:Nat->Type}(st:aD T):List (Nat×Bool)->aD T
 | [(j,w)]=>st.learn j (!w)|_=>st
def lS {α:Type}(c:Bool)(o:Option α)(d:α):Option α:=bif c then o else some d
def Zp (st:aD R.T)(t:TypeId)(m x:Operand):Option (List (ak R.T)×List (ak R.T)×ak R.T×ak R.T):=
 (fun (_:Env) (_:gY) (_:aD R.T) (_:TypeId) (_ _:Operand)=>none) E R st t m x
def afI {T:Nat->Type}{β:Type}(x:ak T):List (ak T)->List (ak T)->ak T->(ak T->Bool->Option β)->Option β
 | [],[],z,k=>k z false|a::ks,v::vs,z,k=>match apX x a with
  |some b=>bif b then k v true else afI x ks vs z k|none=>none
 |_,_,_,_=>none
section
variable (aj:Bool){β:Type}(F:Nat->List (fM R))
def Zq (t:TypeId)(a x:Operand)(st:aD R.T):Option ((τ:Ty)×Nat×Int×Nat×List (Den R.T τ)×ak R.T):=
 match dK [] st a,dK [] st x with
 |some (.l9 o τ i off),some v=>match look st.ob o,eX E.P t with
  |some (.arr fO l),some sz=>match pJ R (u:=τ) l with
   |some l=>bif Nat.beq v.cells.length sz&& Nat.ble (off+v.cells.length) (cK R τ)&& Dr v.cells&& yc v then some ⟨τ,o,i,off,l,v⟩ else none|none=>none
  |_,_=>none
 |_,_=>none
def iO {α:Type}(l:List α)(i:Int)(y:α):List α:=l.set i.toNat y
def runM (o:Oper)(st:aD R.T)(k:aD R.T->Option β):Option β:=
 match o.op with
 |.pick c a b=>match dK [] st c with
  |some (.ji t)=>match dK [] st (bif t then a else b) with
   |some v=>k (st.gU o.dst v)|none=>none
  |some (.bool t)=>match c with
   |.tmp j=>match dK [(j,true)] st a,dK [(j,false)] st b with
    |some x,some y=>match I4 t x y with
     |some v=>k (st.gU o.dst v)|none=>bif t then k ((st.learn j true).gU o.dst x) else k ((st.learn j false).gU o.dst y)
    |_,_=>none
   |_=>none
  |_=>none
 |.store t a x=>match Zq E R t a x st with
  |some ⟨τ,p,i,off,l,v⟩=>(aR l i).bind fun y=>match Zm R τ (II (jk R .any τ y).cells off v.cells) with
   |some y'=>k ((st.set p (.arr τ (iO l i y'))).gU o.dst .undef)|none=>none
  |none=>match AB E R aj F [] o.dst (.store t a x) st with
   |some (.w v st')=>k (st'.gU o.dst v)|_=>none
 |.lookup t m x ok=>match Zp E R st t m x with
  |some (ks,vs,x,z)=>afI x ks vs z fun v b=>k (st.gU o.dst (bif ok then .bq [v,.ji b] else v))
  |none=>match AB E R aj F [] o.dst (.lookup t m x ok) st with
   |some (.t v)=>k (st.gU o.dst v)|_=>none
 |op=>match AB E R aj F [] o.dst op st with
  |some (.t v)=>k (st.gU o.dst v)|some (.c b v)=>bif b then k (st.gU o.dst v) else none|some (.w v st')=>k (st'.gU o.dst v)|some (.wc b v st')=>bif b then k (st'.gU o.dst v) else none|some (.p _ _ x f)=>x.bind fun a=>k (st.gU o.dst (f a))
  |some (.alt l)=>zk (fun v=>k (st.gU o.dst v)) l
  |none=>none
def MX (b c:Bool):Bool:=bif b then c else true
def Zr (o:Oper)(j:Nat)(w c:Bool)(g:List (Nat×Bool))(st:aD R.T)(k:aD R.T->Option β):Option β:=
 match o.dst with
 |some d=>match (bif bf d (g.map (·.1)) then none else AB E R aj F g o.dst o.op st) with
  |some (.t v)=>k (st.put d (.opt j w v))|some (.c b v)=>bif MX c b then k (st.put d (.opt j w v)) else none|some (.p _ z x f)=>(lS c x z).bind fun a=>k (st.put d (.opt j w (f a)))
  |_=>bif c then runM E R aj F o (st.nI g) k else k ((st.BR g).gU o.dst .undef)
 |none=>bif c then runM E R aj F o (st.nI g) k else k ((st.BR g).gU o.dst .undef)
def mZ {T:Nat->Type}(st:aD T)(o:Oper):Bool:=match o.op with
 |.call c=>match c.callee with
  |.value f=>match dK [] st f with
   |some (.fn g _ _)=>match o.dst with
    |some d=>E.own g d|none=>false
   |_=>true
  |_=>false
 |_=>false
def apZ:List aM->Bool
 |.gT::k::l=>gu (k::l)|_=>false
def I7 (args bV:List (ak R.T)):List (fM R)->Option ((τ:Ty)×Option (List (Den R.T τ)))
 | []=>none| ⟨bQ,[.d (.slice τ)],G,_,true,_⟩::l=>match dV R bQ bV with
   |some p=>bif (gu bQ||apZ bQ)&& Nat.ble (kY bQ) 18&& wC args then some ⟨τ,G p⟩ else none|none=>I7 args bV l
 |_::l=>I7 args bV l
def yt (o:Oper)(st:aD R.T)(k:aD R.T->Option β):Option β:=match o.op,o.dst with
 |.call c,some d=>match c.callee with
  |.value f=>match dK [] st f,lN [] st c.args.toList with
   |some (.fn g a b),some vs=>match I7 R (a++vs++b) (pK st (a++vs++b)) (F g) with
    |some ⟨τ,x⟩=>x.bind fun l=>k ((st.wk d).put d (.ay (.own d) τ l))
    |none=>none
   |_,_=>none
  |_=>none
 |_,_=>none
def Fu (o:Nat)(l:List Nat):List Nat:=bif bf o l then l else l++[o]
mutual
def ap0 {T:Nat->Type}:ak T->List Nat->List Nat
 |.ref o _,l=>Fu o l|.dJ o,l=>Fu o l|.aJ o _,l=>Fu o l|.sub o _ _ _,l=>Fu o l|.l9 o _ _ _,l=>Fu o l|.sv o _ _ _ _ _,l=>Fu o l|.sel o _ _ _ _ _,l=>Fu o l|.agg cs,l=>pQ cs l|.bq cs,l=>pQ cs l|.aI cs _,l=>pQ cs l|.kl cs,l=>pQ cs l|.fn _ a b,l=>pQ b (pQ a l)|_,l=>l
def pQ {T:Nat->Type}:List (ak T)->List Nat->List Nat
 | [],l=>l|v::vs,l=>pQ vs (ap0 v l)
end
mutual
def AL {T:Nat->Type}(m:List (Nat×Nat)):ak T->ak T
 |.ref o off=>match look m o with
  |some p=>.ref p off|none=>.gone
 |.dJ o=>match look m o with
  |some p=>.dJ p|none=>.gone
 |.aJ o t=>match look m o with
  |some p=>.aJ p t|none=>.gone
 |.sub o t a b=>match look m o with
  |some p=>.sub p t a b|none=>.gone
 |.l9 o t i off=>match look m o with
  |some p=>.l9 p t i off|none=>.gone
 |.sv o off k n lo hi=>match look m o with
  |some p=>.sv p off k n lo hi|none=>.gone
 |.sel o off k n i j=>match look m o with
  |some p=>.sel p off k n i j|none=>.gone
 |.ay c t l=>match c with
  |.own _=>.ay .any t l|c=>.ay c t l
 |.agg cs=>.agg (wG m cs)|.bq cs=>.bq (wG m cs)|.aI cs off=>.aI (wG m cs) off|.kl cs=>.kl (wG m cs)|.fn f a b=>.fn f (wG m a) (wG m b)|v=>v
def wG {T:Nat->Type}(m:List (Nat×Nat)):List (ak T)->List (ak T)
 | []=>[]|v::vs=>AL m v::wG m vs
end
def iQ:List Nat->Nat->List (Nat×Nat)
 | [],_=>[]|o::l,n=>(o,n)::iQ l (n+1)
def zl:List Nat->Bool
 | []=>true|o::l=>!(bf o l)&& zl l
def BS {T:Nat->Type}(st:aD T):List (Nat×Nat)->List (Nat×aG T)
 | []=>[]| (o,p)::m=>match look st.ob o with
   |some x=>(p,x)::BS st m|none=>BS st m
def rD {T:Nat->Type}:List (Nat×Nat)->List (Nat×aG T)->List (Nat×aG T)
 | [],_=>[]| (o,p)::m,l=>match look l p with
   |some y=>(o,y)::rD m l|none=>rD m l
def zm:List (Nat×Nat)->List (Nat×d9)->Bool
 | [],[]=>true| (_,p)::m,(q,_)::l=>Nat.beq p q&& zm m l|_,_=>false
def vv:List aM->Bool
 | []=>true|.d (.int _)::l=>vv l|.d .bool::l=>vv l|.d .str::l=>vv l|.sub p _::l=>Nat.ble F0 p&& vv l|_=>false
mutual
def Tw:aM->Bool
 |.d _=>true|.aI l _=>yu l|.fn _ a b=>yu a&& yu b|_=>false
def yu:List aM->Bool
 | []=>true|k::l=>Tw k&& yu l
end
def okO:d9->Bool
 |.cells l=>yu l|_=>true
def oJ:List (Nat×d9)->Bool
 | []=>true| (_,k)::l=>okO k&& oJ l
def Tx (m:List (Nat×Nat))(A:List (ak R.T))(B:List (Nat×aG R.T)):List (mg R)->Option ((r:mg R)×Option (aW R.T r.res×cZ R.T r.obs))
 | []=>none|r::l=>match dV R r.args A,lQ R B r.obs with
  |some p,some q=>bif zm m r.obs&& (vv r.res&& oJ r.obs) then some ⟨r,r.F p q⟩ else none|_,_=>Tx m A B l
def MZ:List (Nat×Nat)->List (Nat×Nat)
 | []=>[]| (o,p)::l=>(p,o)::MZ l
def afJ {T:Nat->Type}:List (ak T)->ak T
 | [v]=>v|vs=>.bq vs
def sw {T:Nat->Type}(st:aD T)(o:Oper):Bool:=match o.op with
 |.call c=>match c.callee with
  |.value f=>match dK [] st f with
   |some (.fn g _ _)=>E.imp g|_=>false
  |_=>false
 |_=>false
def zn (o:Oper):Bool:=match o.op with
 |.call c=>match c.callee with
  |.value (.func g)=>!(E.imp g)|.value _=>false|_=>true
 |_=>true
def ap1:aM->Bool
 |.ref _ _=>true|_=>false
def Zt:aM->Cp
 |.fn _ _ _=>.sh|_=>.any
def vw:(l:List aM)->aW R.T l->List (ak R.T)
 | [],_=>[]| [k],x=>[up R (Zt k) k x]|k::h::l,p=>up R (Zt k) k p.1::vw (h::l) p.2
def okV {T:Nat->Type}(k:aM)(v:ak T):Bool:=ap1 k||(uM k&& oU v&& Nat.ble (dep k) 18)
def Fv {T:Nat->Type}:List aM->List (ak T)->Bool
 | [],[]=>true|k::l,v::vs=>okV k v&& Fv l vs|_,_=>false
def Tz {T:Nat->Type}(k:aM)(v:ak T):Bool:=match k with
 |.fn _ a b=>match v with
  |.fn _ a' b'=>Fv a a'&& Fv b b'|_=>false
 |_=>true
def I8 {T:Nat->Type}:List aM->List (ak T)->Bool
 | [],_=>true|_::_,[]=>false|k::l,v::vs=>Tz k v&& I8 l vs
def M0 (m:List (Nat×Nat))(A:List (ak R.T))(B:List (Nat×aG R.T)):List (mg R)->Option ((r:mg R)×Option (sj R.T r.jy×cZ R.T r.gQ))
 | []=>none|r::l=>match dV R r.args A,lQ R B r.obs with
  |some p,some q=>bif r.jy.is&& (zm m r.obs&& oJ r.obs&& oJ r.gQ)&& I8 r.args A then some ⟨r,r.G p q⟩ else M0 m A B l|_,_=>M0 m A B l
def Fw {α:Type}:List Nat->List (Nat×α)->List (Nat×α)
 | [],l=>l|i::is,l=>Fw is (jE i l)
def afK (d d':Nat):(k:r9)->sj R.T k->aD R.T->(aD R.T->Option β)->Option β
 |.no,_,_,_=>none|.arr t,l,st,k=>k ((st.new d' (.arr t l)).put d (.aJ d' t))|.Ip g a b cs,(x,y,z),st,k=>bif nE d' (eY R .any cs z) then none else k ((st.new d' (.cells (eY R .any cs z))).put d (.fn g (eY R .sh a x) (.ref d' 0::eY R .sh b y)))
def Fx (M:Nat->List (mg R))(o:Oper)(st:aD R.T)(k:aD R.T->Option β):Option β:=match o.op with
 |.call c=>match c.callee with
  |.value f=>match dK [] st f,lN [] st c.args.toList with
   |some (.fn g a b),some vs=>bif zl (pQ (a++vs++b) []) then (match o.dst,M0 R (iQ (pQ (a++vs++b) []) F0) (wG (iQ (pQ (a++vs++b) []) F0) (a++vs++b)) (BS st (iQ (pQ (a++vs++b) []) F0)) (M g) with
    |some d,some ⟨r,x⟩=>bif Nat.ble F0 (E.cn d) then none else x.bind fun y=>afK R d (E.cn d) r.jy y.1 ⟨st.fr,rD (iQ (pQ (a++vs++b) []) F0) (gF R r.gQ y.2)++Fw (pQ (a++vs++b) []) st.ob⟩ k
    |_,_=>match Tx R (iQ (pQ (a++vs++b) []) F0) (wG (iQ (pQ (a++vs++b) []) F0) (a++vs++b)) (BS st (iQ (pQ (a++vs++b) []) F0)) (M g) with
    |some ⟨r,x⟩=>x.bind fun y=>k (aD.gU ⟨st.fr,rD (iQ (pQ (a++vs++b) []) F0) (gF R r.obs y.2)++st.ob⟩ o.dst (afJ (wG (MZ (iQ (pQ (a++vs++b) []) F0)) (eY R .any r.res y.1))))
    |none=>none) else none
   |_,_=>none
  |_=>none
 |_=>none
def TA:List aM->Bool
 | []=>true|.d _::l=>TA l|_=>false
def I9 (args bV:List (ak R.T)):List (mg R)->Option ((t:Ty)×Option (List (Den R.T t)))
 | []=>none| ⟨bQ,[],_,_,.arr t,[],G⟩::l=>match dV R bQ bV with
   |some p=>bif gu bQ&& Nat.ble (kY bQ) 18&& (wC args&& TA bQ) then some ⟨t,(G p ()).map fun y=>y.1⟩ else none
   |none=>I9 args bV l
 |_::l=>I9 args bV l
def M4 (M:Nat->List (mg R))(o:Oper)(st:aD R.T)(k:aD R.T->Option β):Option β:=match o.op,o.dst with
 |.call c,some d=>match c.callee with
  |.value f=>match dK [] st f,lN [] st c.args.toList with
   |some (.fn g a b),some vs=>bif Nat.ble F0 (E.cn d)||E.vU g then none else match I9 R (a++vs++b) (pK st (a++vs++b)) (M g) with
    |some ⟨t,x⟩=>x.bind fun l=>k ((st.new (E.cn d) (.arr t l)).put d (.aJ (E.cn d) t))
    |none=>none
   |_,_=>none
  |_=>none
 |_,_=>none
variable (M:Nat->List (mg R))
def zo (all:List Oper):List Oper->aD R.T->(aD R.T->Option β)->Option β
 | [],st,k=>k st|o::os,st,k=>match Tv all st o with
  |.run=>bif mZ E st o then (bif sw E st o then none else yt R F o st (fun st=>zo all os st k)) else (bif sw E st o then Fx E R M o st (fun st=>zo all os st k) else runM E R aj F o st (fun st=>zo all os st k))
  |.skip=>zo all os (st.gU o.dst .undef) k|.dyn j w c g=>bif mZ E (st.nI g) o then none else (bif sw E (st.nI g) o then (bif c then Fx E R M o (st.nI g) (fun st=>zo all os st k) else zo all os ((st.BR g).gU o.dst .undef) k) else Zr E R aj F o j w c g st (fun st=>zo all os st k))
  |.no=>none
def TB {T:Nat->Type}:ak T->List Key
 |.ref o _=>[.obj (1,o)]|.dJ o=>[.obj (1,o)]|.l9 o _ _ _=>[.obj (1,o)]|.sv o _ _ _ _ _=>[.obj (1,o)]|.sel o _ _ _ _ _=>[.obj (1,o)]|_=>[]
def TD {T:Nat->Type}:ak T->List Key
 |.aJ o _=>[.obj (1,o)]|.sub o _ _ _=>[.obj (1,o)]|v=>TB v
def M5 {T:Nat->Type}(st:aD T)(x:Operand):List Key:=match dK [] st x with
 |some v=>TD v|none=>[]
def Dw {T:Nat->Type}(st:aD T)(x:Operand):List Key:=match dK [] st x with
 |some v=>TB v|none=>[]
def TF (o:Oper):List Key:=match o.dst with
 |some t=>[.obj (1,t)]|none=>[]
def Fy (o:Oper):List Key:=match o.dst with
 |some t=>[.obj (1,E.cn t)]|none=>[]
def Ja {T:Nat->Type}:ak T->Bool
 |.gone=>false|.opt _ _ _=>false|_=>true
def TG {T:Nat->Type}:List (ak T)->Bool
 | []=>false|.sv _ _ _ _ _ _::_=>true|.ref _ _::_=>true|_::l=>TG l
def Dx (aj:Bool){T:Nat->Type}(st:aD T)(o:Oper):dS:=
 match o.op with
 |.buildSlice .. =>bif EL E o.dst then gP else nV []
 |.move _|.assign _|.pick .. |.build .. |.nilCheck _|.binOp .. |.unOp .. |.makeInterface .. |.typeAssert .. |.makeFunc .. |.fieldAddr .. |.field .. |.indexAddr .. |.index .. |.extract ..
 |.sliceToArrayPointer .. =>nV []|.convert _ _ x|.slice _ x _ _ _|.load _ x|.lookup _ x _ _=>nV (Dw st x)|.alloc _|.box .. |.makeMap .. =>mX (TF o)|.makeSlice .. =>mX (.top::TF o)|.store _ a _=>mX (Dw st a)|.mapUpdate _ m _ _|.insert _ m _ _=>mX (Dw st m)|.call c=>match c.callee with
  |.builtin b=>match b with
   |.len=>nV (c.args.toList.flatMap fun x=>M5 st x)
   |.cap|.min|.max=>nV (c.args.toList.flatMap fun x=>Dw st x)
   |.append=>bif aj then ⟨false,false,c.args.toList.flatMap fun x=>M5 st x,.top::(Fy E o++c.args.toList.flatMap fun x=>M5 st x)⟩ else ⟨false,false,c.args.toList.flatMap fun x=>Dw st x,[.top]⟩
   |_=>gP
  |.value f=>match dK [] st f with
   |some (.fn g a b)=>if E.imp g then gP else (match lN [] st c.args.toList with
    |some vs=>if wC (a++vs++b) then nV [] else ⟨true,false,[],[]⟩|none=>gP)
   |_=>gP
  |_=>gP
 |_=>gP
def uh (aj:Bool){T:Nat->Type}(all:List Oper)(st:aD T)(o:Oper)(wanted:Bool):dS:=
 if wanted then let f:=Dx E aj st o;⟨f.tT,f.oZ,xM all o++f.t,oG o++f.w⟩else ⟨false,false,xM all o,oG o⟩
def M6 {T:Nat->Type}:ak T->Bool
 |.gone=>false|.opt _ _ _=>false|.aJ _ _=>false|.sub _ _ _ _=>false|_=>true
def wH (aj:Bool){T:Nat->Type}(st:aD T)(o:Oper):Bool:= !(mZ E st o)&&
 match o.op with
 |.call c=>match c.callee with
  |.value f=>match dK [] st f,lN [] st c.args.toList with
   |some (.fn _ a b),some vs=>wC (a++vs++b)||TG (a++vs++b)|_,_=>false
  |.builtin b=>(match b with
   |.append=>aj&& (match lN [] st c.args.toList with
    |some vs=>vs.all Ja|none=>false)
   |.len=>(match lN [] st c.args.toList with
    |some vs=>vs.all Ja|none=>false)
   |_=>false)||match lN [] st c.args.toList with
   |some vs=>vs.all M6|none=>false
  |_=>true
 |.move _=>!(Ak E o.dst)|.slice _ x _ _ _=>match dK [] st x with
  |some v=>(IV st v).isNone|none=>false
 |_=>true
def Key.nm:Key->Key
 |.obj l=>.obj (1,l.2)|k=>k
def dS.nm (f:dS):dS:=⟨f.tT,f.oZ,f.t.map Key.nm,f.w.map Key.nm⟩
def AO (all:List Oper)(o:Oper):dS:=⟨false,false,xM all o++[],oG o++ .top::Fy E o⟩
def oK (ms:List Nat)(all:List Oper):List Oper->aD R.T->List dS->(aD R.T->Option β)->Option β
 | [],st,fs,k=>bif xO ms (fs.map dS.nm) then k st else none|o::os,st,fs,k=>match Tv all st o with
  |.run=>bif sw E st o then (bif mZ E st o then M4 E R M o st (fun st'=>oK ms all os st' (fs++[AO E all o]) k) else Fx E R M o st (fun st'=>oK ms all os st' (fs++[uh E aj all st o true]) k)) else bif mZ E st o then yt R F o st (fun st'=>oK ms all os st' (fs++[AO E all o]) k) else bif !(wH E aj st o) then none else runM E R aj F o st (fun st'=>oK ms all os st' (fs++[uh E aj all st o true]) k)
  |.skip=>oK ms all os (st.gU o.dst .undef) (fs++[uh E aj all st o false]) k|.dyn _ _ c g=>bif c then (bif sw E (st.nI g) o then (bif mZ E (st.nI g) o then M4 E R M o (st.nI g) (fun st'=>oK ms all os st' (fs++[AO E all o]) k) else Fx E R M o (st.nI g) (fun st'=>oK ms all os st' (fs++[uh E aj all (st.nI g) o true]) k)) else bif mZ E (st.nI g) o then yt R F o (st.nI g) (fun st'=>oK ms all os st' (fs++[AO E all o]) k) else bif !(wH E aj (st.nI g) o) then none else runM E R aj F o (st.nI g) (fun st'=>oK ms all os st' (fs++[uh E aj all (st.nI g) o true]) k))else oK ms all os ((st.BR g).gU o.dst .undef) (fs++[uh E aj all st o false]) k
  |.no=>none
end
def zq {R:gY}(key:Nat)(W:List Nat)(b:aD R.T)(sh:Shape)(outs:List (Ex×Shape))(body:{β:Type}->aD R.T->(Ex->aD R.T->Option β)->Option β):Nat->rz R.T sh->Option (Out R.T outs)
 |0,_=>none|m+1,p=>body (b.over (unpack R sh p)) fun e st=>match e with
  |.normal=>match og R W st sh with
   |some p=>zq key W b sh outs body m p|none=>none
  |e=>yh R W e st outs
def aD.obs {T:Nat->Type}(st:aD T):aD T:=⟨[],st.ob⟩
def M7 {R:gY}{β:Type}(body:aD R.T->(Ex->aD R.T->Option β)->Option β):Nat->aD R.T->(Ex->aD R.T->Option β)->Option β
 |0,_,_=>none|m+1,st,k=>body st fun e st'=>match e with
  |.normal=>M7 body m st' k|e=>k e st'
def qz {R:gY}{X:Type}(key:Nat)(W:List Nat)(b:aD R.T)(sh:Shape)(outs:List (Ex×Shape))(body:{β:Type}->X->aD R.T->(Ex->aD R.T->Option β)->Option β):List X->rz R.T sh->Option (Out R.T outs)
 | [],p=>yh R W .normal (unpack R sh p).obs outs|x::xs,p=>body x (b.over (unpack R sh p)) fun e st=>match e with
  |.normal=>match og R W st.obs sh with
   |some p=>qz key W b sh outs body xs p|none=>none
  |e=>yh R W e st.obs outs
def TH {R:gY}(a b:List (ak R.T)):List (MK R)->Option ((el:List aM)×Option (List (aW R.T el))×Bool)
 | []=>none|i::l=>match dV R i.a a,dV R i.b b with
  |some pa,some pb=>bif gu i.a&& gu i.b&& gu i.el&& Nat.ble (kY i.a) 18&& Nat.ble (kY i.b) 18 then some ⟨i.el,i.F pa pb,i.q⟩ else none|_,_=>TH a b l
def TI {R:gY}(a b c:List (ak R.T)):List (FO R)->Option ((el:List aM)×Option (List (aW R.T el))×Bool)
 | []=>none|i::l=>match dV R i.a a,dV R i.b b,dV R i.cs c with
  |some pa,some pb,some pc=>bif gu i.a&& gu i.b&& yu i.cs&& gu i.el&& Nat.ble (kY i.a) 18&& Nat.ble (kY i.b) 18 then some ⟨i.el,i.F pa pb pc,i.q⟩ else none|_,_,_=>TI a b c l
def AP (O:List Nat):List (Nat×d9)->Bool
 | []=>true| (o,_)::l=>!(bf o O)&& AP O l
def iterM {R:gY}(st:aD R.T)(I:IR R)(g:Nat)(u v:List (ak R.T)):Option ((el:List aM)×Option (List (aW R.T el))×Option Nat×Bool):=match v with
 |.ref o off::v'=>bif j4 u&& j4 v'&& Nat.beq off 0 then (match look st.ob o with
  |some (.cells c)=>match TI u v' c (I.io g) with
   |some ⟨el,xs,q⟩=>some ⟨el,xs,some o,q⟩|none=>none
  |_=>none) else none
 |v=>bif j4 u&& j4 v then (match TH u v (I.it g) with
  |some ⟨el,xs,q⟩=>some ⟨el,xs,none,q⟩|none=>none) else none
def Dy (jc:Option Nat)(W:List Nat):List Nat:=match jc with
 |some o=>o::W|none=>W
def afL (jc:Option Nat)(W:List Nat)(l:List (Nat×d9)):Bool:=match jc with
 |some o=>!(bf o W)&& AP [o] l|none=>true
def Fz {T:Nat->Type}(st:aD T):List Nat->List (ak T)->Option (aD T)
 | [],[]=>some st|i::l,v::vs=>Fz (st.put i v) l vs|_,_=>none
def kZ:List Oper->List Nat
 | []=>[]|o::l=>match o.dst with
  |some d=>d::E.cn d::kZ l|none=>kZ l
def bD:Code->List Nat
 |.region _ ops _=>kZ E ops.toList|.seq a b=>bD a++bD b|.cond _ a b=>bD a++bD b|.block _ c=>bD c|.loop c=>bD c|.scope c=>bD c|.rangeFunc _ ps a b=>ps.toList++bD a++bD b|_=>[]
def qA:Code->Nat
 |.region i _ _=>i|.seq a _=>qA a|.loop a=>qA a+500|.scope a=>qA a|.block _ a=>qA a|.rangeFunc _ _ _ b=>qA b|_=>0
def j5:Code->Bool
 |.region _ ops _=>ops.toList.all (zn E)|.seq a b=>j5 a&& j5 b|.cond _ a b=>j5 a&& j5 b|.block _ c=>j5 c|.loop c=>j5 c|.scope c=>j5 c|.rangeFunc _ _ _ _=>false|_=>true
variable (n:Nat)(aj:Bool)(F:Nat->List (fM R))(I:IR R)(A:fU)
def gy:Code->{β:Type}->aD R.T->(Ex->aD R.T->Option β)->Option β
 |.skip,_,st,k=>k .normal st|.region _ ops dr,_,st,k=>bif dr then (bif tV ops.toList then oK E R aj F I.im (uU ops.toList) ops.toList ops.toList st [] (fun st=>k .normal st) else none) else zo E R aj F I.im ops.toList ops.toList st (fun st=>k .normal st)
 |.seq a b,_,st,k=>
  match look A.joins (qA b) with
  |none=>gy a st fun e st=>match e with
   |.normal=>gy b st k|e=>k e st
  |some q=>(gy (β:=Out R.T q.outs) a ((base (bD E a) q.K q.O .ro st).over st) fun e st=>yh R (bD E a) e st q.outs).bind (Az R (base (bD E a) q.K q.O (fun b=>b) st) (fun e st=>match e with
   |.normal=>gy b st k|e=>k e st) q.outs)
 |.cond c a b,_,st,k=>match dK [] st c with
  |some (.ji t)=>bif t then gy a st k else gy b st k|some (.bool t)=>bif t then gy a (st.Ir c true) k else gy b (st.Ir c false) k|_=>none
 |.block id c,_,st,k=>gy c st fun e st=>match e with
  |.exit i=>bif Nat.beq i id then k .normal st else k (.exit i) st|e=>k e st
 |.loop c,_,st,k=>match look A.loops (qA c) with
  |some q=>match og R (bD E c) st q.sh with
   |some p=>(zq (qA c) (bD E c) (base (bD E c) q.K q.O .ro st) q.sh q.outs (fun st k=>gy c st k) n p).bind (Az R (base (bD E c) q.K q.O (fun b=>b) st) k q.outs)
   |none=>none
  |none=>M7 (fun st k=>gy c st k) 130 st k
 |.rangeFunc f ps a c,_,st,k=>match look A.loops (qA c) with
  |some q=>match dK [] st f with
   |some (.fn g u v)=>bif AP q.O q.sh.ob then (match iterM st I g u v with
    |some ⟨el,xs,jc,kq⟩=>bif afL jc (ps.toList++bD E a++bD E c) q.sh.ob&& (bif kq then j5 E a&& j5 E c else true) then (match og R (ps.toList++bD E a++bD E c) st.obs q.sh with
     |some p=>(xs.bind fun xs=>qz (qA c) (ps.toList++bD E a++bD E c) (base (Dy jc (ps.toList++bD E a++bD E c)) q.K q.O .ro st) q.sh q.outs (fun x st k=>match Fz st ps.toList (eY R .sh el x) with
       |some st=>gy a st fun e st=>match e with
        |.normal=>gy c st k|_=>none
       |none=>none) xs p).bind (Az R (base (Dy jc (ps.toList++bD E a++bD E c)) q.K q.O (fun b=>b) st) k q.outs)
     |none=>none) else none
    |none=>none) else none
   |_=>none
  |none=>none
 |.scope c,_,st,k=>gy c st k|.label _,_,st,k=>k .normal st|.exit i,_,st,k=>k (.exit i) st|.ret,_,st,k=>k .ret st|_,_,_,_=>none
def wI (st:aD R.T):List ResultVar->Option (List (ak R.T))
 | []=>some []|.tmp t::l=>match dK [] st (.tmp t) with
  |some v=>match wI st l with
   |some vs=>some (v::vs)|none=>none
  |none=>none
 |.cell a t::l=>match dK [] st (.tmp a) with
  |some (.ref o off)=>match nG st o with
   |some (.cells cs)=>match nH E t cs off with
    |some v=>match wI st l with
     |some vs=>some (v::vs)|none=>none
    |none=>none
   |_=>none
  |_=>none
def zu {T:Nat->Type}:Nat->List (ak T)->List (Nat×ak T)
 |_,[]=>[]|i,v::l=>(i,v)::zu (i+1) l
def Jb (fn:Func)(args res:List aM)(p:aW R.T args):Option (aW R.T res):=
 match fn.body with
 |some c=>gy E R n aj F I A c ⟨zu 0 (eY R .sh args p),[]⟩ fun e st=>match e with
  |.exit _=>none|_=>match wI E R st fn.results.toList with
   |some vs=>bif gu res&& Nat.ble (kY res) 16 then dV R res (pK st vs) else none|none=>none
 |none=>none
def Zu {T:Nat->Type}:ak T->Bool
 |.ay (.own _) _ _=>true|.ay .full _ _=>true|.gT=>true|_=>false
def wv1 {T:Nat->Type}(st:aD T)(k:aM)(v:ak T):ak T:=match k with
 |.sub _ _=>match IV st v with
  |some (o,t,a,b)=>.sub o t a b|none=>v
 |_=>v
def TJ {T:Nat->Type}(st:aD T):List aM->List (ak T)->List (ak T)
 |k::l,v::vs=>wv1 st k v::TJ st l vs|_,vs=>vs
def sD (fn:Func)(args:List aM)(obs:List (Nat×d9))(res:List aM)(p:aW R.T args)(q:cZ R.T obs):Option (aW R.T res×cZ R.T obs):=
 match fn.body with
 |some c=>gy E R n aj F I A c ⟨zu 0 (eY R .any args p),gF R obs q⟩ fun e st=>match e with
  |.exit _=>none|_=>match wI E R st fn.results.toList with
   |some vs=>match dV R res (TJ st res vs) with
    |some y=>match lQ R st.ob obs with
     |some q'=>some (y,q')|none=>none
    |none=>none
   |none=>none
 |none=>none
def Zv (st:aD R.T):(k:r9)->ak R.T->Option (sj R.T k)
 |.no,_=>none|.arr t,v=>match v with
  |.aJ p t'=>if t'=t then (bif Nat.blt p F0 then (match nG st p with
   |some (.arr _ l)=>pJ R l|_=>none) else none) else none
  |v=>bif vk v then some [] else none
 |.Ip g a b cs,v=>match v with
  |.fn g' a' (.ref p off::b')=>bif Nat.beq g' g&& (Nat.beq off 0&& (Nat.blt p F0&& (gu a&& (gu b&& yu cs))))&& (j4 a'&& j4 b'&& Nat.ble (kY a) 18&& Nat.ble (kY b) 18) then (match nG st p with
   |some (.cells c)=>match dV R a a',dV R b b',dV R cs c with
    |some x,some y,some z=>some (x,y,z)|_,_,_=>none
   |_=>none) else none
  |_=>none
def TK (fn:Func)(args:List aM)(obs:List (Nat×d9))(jy:r9)(gQ:List (Nat×d9))(p:aW R.T args)(q:cZ R.T obs):Option (sj R.T jy×cZ R.T gQ):=
 match fn.body with
 |some c=>gy E R n aj F I A c ⟨zu 0 (vw R args p),gF R obs q⟩ fun e st=>match e with
  |.exit _=>none|_=>match wI E R st fn.results.toList with
   |some [v]=>match Zv R st jy v with
    |some y=>match lQ R st.ob gQ with
     |some q'=>some (y,q')|none=>none
    |none=>none
   |_=>none
 |none=>none
def TL (fn:Func)(args:List aM)(τ:Ty)(p:aW R.T args):Option (List (Den R.T τ)):=
 match fn.body with
 |some c=>gy E R n aj F I A c ⟨zu 0 (eY R .sh args p),[]⟩ fun e st=>match e with
  |.exit _=>none|_=>match wI E R st fn.results.toList with
   |some [v]=>bif Zu v then Fa R τ v else none|_=>none
 |none=>none
end
end aY
end
section
namespace aY
open Go
structure cu where
 aj:Bool
 dp:Nat
 lo:Nat
 fl:Nat->Option Loc
 lt:∀o L,fl o=some L->F0<=o/\L.1<dp
 inj:∀o p L,fl o=some L->fl p=some L->o=p
def cu.lc (c:cu)(o:Nat):Loc:=match c.fl o with
 |some L=>L|none=>(c.dp,o)
theorem cu.Dz (c:cu){o:Nat}(h:o<F0):c.lc o=(c.dp,o):=by
 unfold cu.lc;split
 ·rename_i L hL
  have:=(c.lt _ _ hL).1;omega
 ·rfl
theorem cu.M8 (c:cu){o p:Nat}(h:c.lc o=c.lc p):o=p:=by
 unfold cu.lc at h;split at h<;>split at h
 ·rename_i L h1 _ M h2;subst h;exact c.inj _ _ _ h1 h2
 ·rename_i L h1 _ h2;have:=(c.lt _ _ h1).2;rw[h] at this;exact absurd this (Nat.lt_irrefl _)
 ·rename_i h1 _ L h2;have:=(c.lt _ _ h2).2;rw[<-h] at this;exact absurd this (Nat.lt_irrefl _)
 ·exact congrArg Prod.snd h
theorem cu.afM (c:cu){o p:Nat}(h:o≠p):c.lc o≠c.lc p:=fun e=>h (c.M8 e)
theorem cu.wJ (c:cu)(o:Nat):(c.lc o).1<=c.dp:=by
 unfold cu.lc;split
 ·rename_i L hL;exact Nat.le_of_lt (c.lt _ _ hL).2
 ·exact RS _
def cu.out (c:cu)(L:Loc):Prop:=∀o,L≠c.lc o
structure aT where
 ob:Nat->Option Nat
 tk:Nat->Option Nat
 ln:Nat->Nat
 aj:cu
section
variable (R:gY)
def pR:Ty->Bool
 |.st _=>false|_=>true
structure rE:Prop where
 M9:∀n p,R.of n (R.to n p)=p
 enc:∀n x,R.enc n x= .agg (encs R (R.lf n) (R.of n x))
 leaf:∀n,(R.lf n).all pR=true
 pc:∀n x,aU (R.enc n x)=true
def Jc (ρ:aT)(top:Nat->Nat)(sz len:Nat):Cp->Cap->Prop
 |.any,_=>True|.sh,c=>c= .sh|.nil,c=>c= .nil|.full,c=>c= .full|.own t,c=>c= .nil\/c= .full\/∃s,c= .own sz s/\ρ.tk t=some s/\top s=len
mutual
def av (ρ:aT)(top:Nat->Nat):ak R.T->V->Prop
 |.int k n,v=>v= .int k n|.bool b,v=>v= .bool b|.ji b,v=>v= .bool b|.str s,v=>v= .str s|.cB,v=>v= .cB|.dF,v=>v= .dF|.gL,v=>v= .gL|.iD,v=>v= .iD|.gT,v=>v= .ay .nil []|.agg cs,v=>∃l,v= .agg l/\aF ρ top cs l|.bq cs,v=>∃l,v= .bq l/\aF ρ top cs l|.ay c t l,v=>∃c',v= .ay c' (l.map (aX R t))/\Jc ρ top (cK R t) l.length c c'|.ref o off,v=>∃s,ρ.ob o=some s/\v= .ref (ρ.aj.lc o) s off|.aI cs off,v=>∃l,v= .aI l off/\aF ρ top cs l
 |.kl cs,v=>∃c l,v= .ay c l/\aF ρ top cs l|.dJ o,v=>∃s,ρ.ob o=some s/\v= .dJ (ρ.aj.lc o) s|.eU k e m,v=>v= .eU (m.map fun p=>aX R k p.1) (m.map fun p=>aX R e p.2)
 |.fn f a b,v=>∃a' b',v= .fn (.func f) a' b'/\aF ρ top a a'/\aF ρ top b b'|.opt _ _ _,_=>False|.aJ o t,v=>(∃s,ρ.ob o=some s/\v= .aJ (ρ.aj.lc o) s 0 (ρ.ln o) (ρ.ln o) (cK R t) (iA t))\/(ρ.ln o=0/\(v= .ay .nil []\/v= .ay .full []))|.sub o t a b,v=>0<=a/\a<=b/\b<=ρ.ln o/\((∃s cp,ρ.ob o=some s/\(b-a).toNat<=cp/\v= .aJ (ρ.aj.lc o) s (a.toNat*cK R t) (b-a).toNat cp (cK R t) (iA t))\/(a=b/\∃c,v= .ay c []))
 |.l9 o t i off,v=>∃s,ρ.ob o=some s/\0<=i/\v= .ref (ρ.aj.lc o) s (i.toNat*cK R t+off)|.sg ss,v=>v= .agg (mK ss)|.sv o off k n lo hi,v=>∃s,ρ.ob o=some s/\afG n lo hi=true/\v= .aJ (ρ.aj.lc o) s (off+(I5 lo).toNat) ((afH n hi).toNat-(I5 lo).toNat) (n-(I5 lo).toNat) 1 false|.sel o off k n i m,v=>∃s,ρ.ob o=some s/\0<=i/\i.toNat+m<=n/\v= .ref (ρ.aj.lc o) s (off+i.toNat)|.zh k n x i,v=>0<=i/\i<n/\v= .aI (x.l.map (V.int k)) i.toNat
 |.undef,v=>v=aK|.gone,_=>True
def aF (ρ:aT)(top:Nat->Nat):List (ak R.T)->List V->Prop
 | [],l=>l=[]|t::ts,l=>∃v vs,l=v::vs/\av ρ top t v/\aF ρ top ts vs
end
variable {R}
variable {ρ ρ':aT}{top top':Nat->Nat}
theorem aF.iJ {vs:List V}(h:aF R ρ top [] vs):vs=[]:=by unfold aF at h;exact h
theorem aF.dW {t:ak R.T}{ts:List (ak R.T)}{vs:List V}(h:aF R ρ top (t::ts) vs):∃v l,vs=v::l/\av R ρ top t v/\aF R ρ top ts l:=by unfold aF at h;exact h
theorem av.kS {k:IntKind}{n:Int}{v:V}(h:av R ρ top (.int k n) v):v= .int k n:=mV
theorem av.rF {b:Bool}{v:V}(h:av R ρ top (.bool b) v):v= .bool b:=mV
theorem av.vB {b:Bool}{v:V}(h:av R ρ top (.ji b) v):v= .bool b:=mV
theorem av.rG {b:List UInt8}{v:V}(h:av R ρ top (.str b) v):v= .str b:=mV
theorem av.qB {v:V}(h:av R ρ top .gT v):v= .ay .nil []:=mV
theorem av.lT {cs:List (ak R.T)}{v:V}(h:av R ρ top (.agg cs) v):∃l,v= .agg l/\aF R ρ top cs l:=mV
theorem av.Jd {cs:List (ak R.T)}{v:V}(h:av R ρ top (.bq cs) v):∃l,v= .bq l/\aF R ρ top cs l:=mV
theorem av.lU {c:Cp}{t:Ty}{l:List (Den R.T t)}{v:V}(h:av R ρ top (.ay c t l) v):∃c',v= .ay c' (l.map (aX R t))/\Jc ρ top (cK R t) l.length c c':=mV
theorem av.sF {o off:Nat}{v:V}(h:av R ρ top (.ref o off) v):∃s,ρ.ob o=some s/\v= .ref (ρ.aj.lc o) s off:=mV
theorem av.uj {cs:List (ak R.T)}{off:Nat}{v:V}(h:av R ρ top (.aI cs off) v):∃l,v= .aI l off/\aF R ρ top cs l:=mV
theorem av.DC {cs:List (ak R.T)}{v:V}(h:av R ρ top (.kl cs) v):∃c l,v= .ay c l/\aF R ρ top cs l:=mV
theorem av.Na {o:Nat}{v:V}(h:av R ρ top (.dJ o) v):∃s,ρ.ob o=some s/\v= .dJ (ρ.aj.lc o) s:=mV
theorem av.FB {k e:Ty}{m:List (Den R.T k×Den R.T e)}{v:V}(h:av R ρ top (.eU k e m) v):v= .eU (m.map fun p=>aX R k p.1) (m.map fun p=>aX R e p.2):=mV
theorem av.lg {f:Nat}{a b:List (ak R.T)}{v:V}(h:av R ρ top (.fn f a b) v):∃a' b',v= .fn (.func f) a' b'/\aF R ρ top a a'/\aF R ρ top b b':=mV
theorem av.zw {o:Nat}{t:Ty}{v:V}(h:av R ρ top (.aJ o t) v):(∃s,ρ.ob o=some s/\v= .aJ (ρ.aj.lc o) s 0 (ρ.ln o) (ρ.ln o) (cK R t) (iA t))\/(ρ.ln o=0/\(v= .ay .nil []\/v= .ay .full [])):=mV
theorem av.BU {o:Nat}{t:Ty}{a b:Int}{v:V}(h:av R ρ top (.sub o t a b) v):0<=a/\a<=b/\b<=ρ.ln o/\((∃s cp,ρ.ob o=some s/\(b-a).toNat<=cp/\v= .aJ (ρ.aj.lc o) s (a.toNat*cK R t) (b-a).toNat cp (cK R t) (iA t))\/(a=b/\∃c,v= .ay c [])):=mV
theorem av.FC {o off:Nat}{t:Ty}{i:Int}{v:V}(h:av R ρ top (.l9 o t i off) v):∃s,ρ.ob o=some s/\0<=i/\v= .ref (ρ.aj.lc o) s (i.toNat*cK R t+off):=mV
theorem av.TM {ss:List nY}{v:V}(h:av R ρ top (.sg ss) v):v= .agg (mK ss):=mV
theorem av.TN {o off n:Nat}{k:IntKind}{lo hi:Option Int}{v:V}(h:av R ρ top (.sv o off k n lo hi) v):∃s,ρ.ob o=some s/\afG n lo hi=true/\v= .aJ (ρ.aj.lc o) s (off+(I5 lo).toNat) ((afH n hi).toNat-(I5 lo).toNat) (n-(I5 lo).toNat) 1 false:=mV
theorem av.Zw {o off n m:Nat}{k:IntKind}{i:Int}{v:V}(h:av R ρ top (.sel o off k n i m) v):∃s,ρ.ob o=some s/\0<=i/\i.toNat+m<=n/\v= .ref (ρ.aj.lc o) s (off+i.toNat):=mV
theorem av.Zx {n:Nat}{k:IntKind}{x:Vec n}{i:Int}{v:V}(h:av R ρ top (.zh k n x i) v):0<=i/\i<n/\v= .aI (x.l.map (V.int k)) i.toNat:=mV
theorem av.afN {v:V}(h:av R ρ top .undef v):v=aK:=mV
theorem av.afO {j:Nat}{w:Bool}{x:ak R.T}{v:V}(h:av R ρ top (.opt j w x) v):False:=mV
theorem aF.cons' {t:ak R.T}{ts:List (ak R.T)}{v:V}{vs:List V}(h:av R ρ top t v)(h':aF R ρ top ts vs):aF R ρ top (t::ts) (v::vs):=⟨v,vs,rfl,h,h'⟩
theorem aF.length:∀{ts:List (ak R.T)}{vs:List V},aF R ρ top ts vs->vs.length=ts.length
 | [],_,h=>by cases h;rfl|_::ts,_,⟨v,vs,e,_,h'⟩=>by subst e;simp[aF.length h']
theorem aF.append:∀{ts ts':List (ak R.T)}{vs vs':List V},aF R ρ top ts vs->aF R ρ top ts' vs'->aF R ρ top (ts++ts') (vs++vs')
 | [],_,_,_,h,h2=>by cases h;exact h2|_::ts,_,_,_,⟨v,vs,e,h1,h'⟩,h2=>by subst e;exact .cons' h1 (aF.append h' h2)
theorem aF.drop:∀(n:Nat){ts:List (ak R.T)}{vs:List V},aF R ρ top ts vs->aF R ρ top (ts.drop n) (vs.drop n)
 |0,_,_,h=>Bt|n+1,[],_,h=>by cases h;simp;rfl|n+1,_::ts,_,⟨v,vs,e,h1,h'⟩=>by subst e;simpa using aF.drop n h'
theorem aF.take:∀(n:Nat){ts:List (ak R.T)}{vs:List V},aF R ρ top ts vs->aF R ρ top (ts.take n) (vs.take n)
 |0,_,_,h=>by simp;rfl|n+1,[],_,h=>by cases h;simp;rfl|n+1,_::ts,_,⟨v,vs,e,h1,h'⟩=>by subst e;simpa using .cons' h1 (aF.take n h')
theorem aF.get:∀{ts:List (ak R.T)}{vs:List V}{i:Nat}{t:ak R.T},aF R ρ top ts vs->ts[i]? =some t->∃v,vs[i]? =some v/\av R ρ top t v
 | [],_,_,_,_,h=>xD|_::ts,_,0,_,⟨v,vs,e,h1,h'⟩,h=>by subst e;simp at h;subst h;exact⟨v,aC,h1⟩|_::ts,_,i+1,_,⟨v,vs,e,h1,h'⟩,h=>by subst e;simpa using aF.get h' Bt
mutual
theorem av.wk (t:Nat)(ho:ρ'.ob=ρ.ob/\ρ'.ln=ρ.ln/\ρ'.aj=ρ.aj)(ht:∀u s,u≠t->ρ.tk u=some s->ρ'.tk u=some s/\top' s=top s):∀(x:ak R.T)(v:V),av R ρ top x v->av R ρ' top' (wk t x) v
 |.ay (.own u) ty l,v,h=>by
  obtain⟨c',hv,hc⟩:=h;unfold aY.wk;by_cases e:Nat.beq u t=true
  ·rw[e,cond_true];exact⟨c',hv,trivial⟩
  ·have e':Nat.beq u t=false:=Bool.eq_false_iff.2 e
   rw[e',cond_false];refine⟨c',hv,?_⟩;rcases hc with hc|hc| ⟨s,h1,h2,h3⟩
   ·exact .inl hc
   ·exact .inr (.inl hc)
   ·have hne:u≠t:=fun h=>e (by rw[h];exact xA t)
    have:=ht u s hne h2;exact .inr (.inr ⟨s,h1,this.1,by rw[this.2];exact h3⟩)
 |.ay .any ty l,v,h=>by obtain⟨c',hv,hc⟩:=h;exact⟨c',hv,trivial⟩
 |.ay .sh ty l,v,h=>by obtain⟨c',hv,hc⟩:=h;exact⟨c',hv,hc⟩
 |.ay .nil ty l,v,h=>by obtain⟨c',hv,hc⟩:=h;exact⟨c',hv,hc⟩
 |.ay .full ty l,v,h=>by obtain⟨c',hv,hc⟩:=h;exact⟨c',hv,hc⟩
 |.agg cs,v,h=>by obtain⟨l,hv,hl⟩:=h;exact⟨l,hv,aF.wk t ho ht cs l hl⟩
 |.bq cs,v,h=>by obtain⟨l,hv,hl⟩:=h;exact⟨l,hv,aF.wk t ho ht cs l hl⟩
 |.aI cs off,v,h=>by obtain⟨l,hv,hl⟩:=h;exact⟨l,hv,aF.wk t ho ht cs l hl⟩
 |.kl cs,v,h=>by obtain⟨c,l,hv,hl⟩:=h;exact⟨c,l,hv,aF.wk t ho ht cs l hl⟩
 |.fn f a b,v,h=>by obtain⟨a',b',hv,ha,hb⟩:=h;exact⟨a',b',hv,aF.wk t ho ht a a' ha,aF.wk t ho ht b b' hb⟩
 |.ref o off,v,h=>K6
 |.dJ o,v,h=>K6
 |.aJ o ty,v,h=>by
  rcases h with ⟨s,h1,h2⟩| ⟨h1,h2⟩
  ·exact .inl ⟨s,adF,by rw[ho.2.1,ho.2.2];exact h2⟩
  ·exact .inr ⟨by rw[ho.2.1];exact h1,h2⟩
 |.sub o ty a b,v,h=>by
  obtain⟨k0,k1,k2,h⟩:=h;refine⟨k0,k1,by rw[ho.2.1];exact k2,?_⟩;rcases h with ⟨s,cp,h1,h2,h3⟩|h
  ·exact .inl ⟨s,cp,adF,h2,by rw[ho.2.2];exact h3⟩
  ·exact .inr h
 |.l9 o ty i off,v,h=>K6
 |.sv o _ _ _ _ _,v,h=>K6
 |.sel o _ _ _ _ _,v,h=>K6
 |.sg _,_,h=>h|.zh _ _ _ _,_,h=>h|.opt _ _ _,_,h=>h.elim|.int _ _,_,h=>h|.bool _,_,h=>h|.ji _,_,h=>h|.str _,_,h=>h|.cB,_,h=>h|.dF,_,h=>h|.gL,_,h=>h|.iD,_,h=>h|.gT,_,h=>h|.eU _ _ _,_,h=>h|.undef,_,h=>h|.gone,_,h=>h
theorem aF.wk (t:Nat)(ho:ρ'.ob=ρ.ob/\ρ'.ln=ρ.ln/\ρ'.aj=ρ.aj)(ht:∀u s,u≠t->ρ.tk u=some s->ρ'.tk u=some s/\top' s=top s):∀(x:List (ak R.T))(v:List V),aF R ρ top x v->aF R ρ' top' (zi t x) v
 | [],_,h=>h|x::xs,_,⟨v,vs,e,h1,h2⟩=>⟨v,vs,e,av.wk t ho ht x v h1,aF.wk t ho ht xs vs h2⟩
end
mutual
theorem av.kill (o:Nat)(ho:∀p,p≠o->ρ'.ob p=ρ.ob p/\ρ'.ln p=ρ.ln p)(ht:ρ'.tk=ρ.tk)(hx:ρ'.aj=ρ.aj):∀(x:ak R.T)(v:V),nR o x=false->av R ρ top x v->av R ρ' top x v
 |.ay c ty l,v,_,h=>by
  obtain⟨c',hv,hc⟩:=h;refine⟨c',hv,?_⟩;cases c<;>try exact hc
  rcases hc with hc|hc| ⟨s,h1,h2,h3⟩
  ·exact .inl hc
  ·exact .inr (.inl hc)
  ·exact .inr (.inr ⟨s,h1,by rw[ht];exact h2,h3⟩)
 |.agg cs,v,hm,h=>by obtain⟨l,hv,hl⟩:=h;exact⟨l,hv,aF.kill o ho ht hx cs l hm hl⟩
 |.bq cs,v,hm,h=>by obtain⟨l,hv,hl⟩:=h;exact⟨l,hv,aF.kill o ho ht hx cs l hm hl⟩
 |.aI cs off,v,hm,h=>by obtain⟨l,hv,hl⟩:=h;exact⟨l,hv,aF.kill o ho ht hx cs l hm hl⟩
 |.kl cs,v,hm,h=>by obtain⟨c,l,hv,hl⟩:=h;exact⟨c,l,hv,aF.kill o ho ht hx cs l hm hl⟩
 |.fn f a b,v,hm,h=>by obtain⟨a',b',hv,ha,hb⟩:=h;unfold nR at hm;rw[kP] at hm;exact⟨a',b',hv,aF.kill o ho ht hx a a' hm.1 ha,aF.kill o ho ht hx b b' hm.2 hb⟩
 |.ref p off,v,hm,h=>K3
 |.dJ p,v,hm,h=>K3
 |.aJ p ty,v,hm,h=>by
  unfold nR at hm;obtain⟨k1,k2⟩:=ho p (fun e=>adE);rcases h with ⟨s,h1,h2⟩| ⟨h1,h2⟩
  ·exact .inl ⟨s,k1.trans h1,by rw[k2,hx];exact h2⟩
  ·exact .inr ⟨by rw[k2];exact h1,h2⟩
 |.sub p ty a b,v,hm,h=>by
  unfold nR at hm;obtain⟨k1,k2⟩:=ho p (fun e=>adE);obtain⟨g0,g1,g2,h⟩:=h;refine⟨g0,g1,by rw[k2];exact g2,?_⟩;rcases h with ⟨s,cp,h1,h2,h3⟩|h
  ·exact .inl ⟨s,cp,k1.trans h1,h2,by rw[hx];exact h3⟩
  ·exact .inr h
 |.l9 p ty i off,v,hm,h=>K3
 |.sv p _ _ _ _ _,v,hm,h=>K3
 |.sel p _ _ _ _ _,v,hm,h=>K3
 |.sg _,_,_,h=>h|.zh _ _ _ _,_,_,h=>h|.opt _ _ _,_,_,h=>h.elim|.int _ _,_,_,h=>h|.bool _,_,_,h=>h|.ji _,_,_,h=>h|.str _,_,_,h=>h|.cB,_,_,h=>h|.dF,_,_,h=>h|.gL,_,_,h=>h|.iD,_,_,h=>h|.gT,_,_,h=>h|.eU _ _ _,_,_,h=>h|.undef,_,_,h=>h|.gone,_,_,h=>h
theorem aF.kill (o:Nat)(ho:∀p,p≠o->ρ'.ob p=ρ.ob p/\ρ'.ln p=ρ.ln p)(ht:ρ'.tk=ρ.tk)(hx:ρ'.aj=ρ.aj):∀(x:List (ak R.T))(v:List V),nE o x=false->aF R ρ top x v->aF R ρ' top x v
 | [],_,_,h=>h|x::xs,_,hm,⟨v,vs,e,h1,h2⟩=>by unfold nE at hm;rw[kP] at hm;exact⟨v,vs,e,av.kill o ho ht hx x v hm.1 h1,aF.kill o ho ht hx xs vs hm.2 h2⟩
end
section
variable (hR:rE R)
include hR
def Je (v w:V):Prop:=eD v=w/\er v=w/\aU w=true/\(∀n σ,bn (n+2) σ v=some w)/\oneCell v=true/\v.cells=[v]
omit hR in
theorem afP {v:V}(h:∀cs,v≠ .agg cs):er v=eD v:=by cases v<;>first|rfl|exact absurd rfl (h _)
theorem qC:∀(t:Ty)(x:Den R.T t),aU (aX R t x)=true
 |.int _,x=>by simp[aX,aU]|.bool,x=>by simp[aX,aU]|.str,x=>by simp[aX,aU]|.slice t,x=>MH (qC t) x|.st n,x=>hR.pc n x
theorem afQ (c:Cp)(hc:Jc ρ top 1 0 c .sh/\(c= .any\/c= .sh)):∀(t:Ty)(x:Den R.T t),pR t=true->av R ρ top (BM R c t x) (aX R t x)
 |.int _,x,_=>rfl|.bool,x,_=>rfl|.str,x,_=>rfl|.slice t,x,_=>⟨.sh,rfl,by rcases hc.2 with rfl|rfl<;>first|trivial|rfl⟩
 |.st n,x,h=>by simp[pR] at h
theorem afR (c:Cp)(hc:Jc ρ top 1 0 c .sh/\(c= .any\/c= .sh)):∀(l:List Ty)(p:qx R.T l),l.all pR=true->aF R ρ top (gq R c l p) (encs R l p)
 | [],_,_=>rfl| [t],x,h=>.cons' (afQ hR c hc t x Bt) rfl|t::u::l,p,h=>by rw[List.all_cons,iP] at h;exact .cons' (afQ hR c hc t p.1 h.1) (afR c hc (u::l) p.2 h.2)
theorem TP (c:Cp)(hc:c= .any\/c= .sh):∀(t:Ty)(x:Den R.T t),av R ρ top (jk R c t x) (aX R t x)
 |.int _,x=>rfl|.bool,x=>rfl|.str,x=>rfl|.slice t,x=>⟨.sh,rfl,by rcases hc with rfl|rfl<;>first|trivial|rfl⟩
 |.st n,x=>⟨_,hR.enc n x,afR hR c ⟨by rcases hc with rfl|rfl<;>first|trivial|rfl,hc⟩ _ _ (hR.leaf n)⟩
theorem afS (t:Ty)(x:Den R.T t):av R ρ top (jk R .sh t x) (aX R t x):=TP hR .sh (.inr rfl) t x
omit hR in
theorem ap2 (k:IntKind)(n:Int):Je (.int k n) (.int k n):=⟨rfl,rfl,uN,fun n σ=>YT (n+1) _ _,rfl,rfl⟩
omit hR in
theorem ap3 (b:Bool):Je (.bool b) (.bool b):=⟨rfl,rfl,uN,fun n σ=>YU (n+1) _,rfl,rfl⟩
omit hR in
theorem ap4 (b:List UInt8):Je (.str b) (.str b):=⟨rfl,rfl,uN,fun n σ=>YV (n+1) _,rfl,rfl⟩
theorem ap5 (c:Cap)(t:Ty)(l:List (Den R.T t)):Je (.ay c (l.map (aX R t))) (aX R (.slice t) l):=⟨rfl,rfl,qC hR (.slice _) _,fun n σ=>BK _ _ (qC hR _),rfl,rfl⟩
omit hR in
theorem afT {k:IntKind}{x:Int}{tv:ak R.T}{v:V}(h:SH R k tv=some x)(hr:av R ρ top tv v):v= .int k x:=by
 unfold SH at h;split at h
 ·split at h
  ·rename_i e;cases e;cases h;exact hr.kS
  ·cases h
 ·cases h
omit hR in
theorem afU {x:Bool}{tv:ak R.T}{v:V}(h:SI R tv=some x)(hr:av R ρ top tv v):v= .bool x:=by
 unfold SI at h;split at h<;>cases h
 ·exact hr.rF
 ·exact hr.vB
omit hR in
theorem afV {x:List UInt8}{tv:ak R.T}{v:V}(h:SK R tv=some x)(hr:av R ρ top tv v):v= .str x:=by unfold SK at h;split at h<;>cases h;exact hr.rG
omit hR in
theorem vC {t u:Ty}{l:List (Den R.T t)}{m:List (Den R.T u)}(h:pJ R l=some m):t=u/\HEq l m:=by
 unfold pJ at h;split at h
 ·rename_i e;subst e;cases h;exact⟨rfl,HEq.rfl⟩
 ·cases h
omit hR in
theorem afW {t:Ty}{x:List (Den R.T t)}{tv:ak R.T}{v:V}(h:Fa R t tv=some x)(hr:av R ρ top tv v):∃c,v= .ay c (x.map (aX R t)):=by
 unfold Fa at h;split at h
 ·obtain⟨e,e2⟩:=vC h;subst e;cases e2
  obtain⟨c',hv,hc⟩:=hr.lU;exact⟨c',hv⟩
 ·cases h;exact⟨.nil,hr.qB⟩
 ·cases h
theorem Jf {t:Ty}{x:Den R.T t}{tv:ak R.T}{v:V}(h:u7 R t tv=some x)(hr:av R ρ top tv v):Je v (aX R t x):=by
 cases t with
 |int k=>rw[afT h hr];exact ap2 _ _|bool=>rw[afU h hr];exact ap3 _|str=>rw[afV h hr];exact ap4 _|slice t=>obtain⟨c,hv⟩:=afW h hr;rw[hv];exact ap5 hR _ _ _
 |st n=>cases h
theorem ap6 {t:Ty}{x:Den R.T t}{cs:List (ak R.T)}{vs:List V}(h:u7 R t (hd1 R cs)=some x)(hr:aF R ρ top cs vs):∃v,vs=[v]/\Je v (aX R t x):=by
 cases cs with
 |nil=>cases t<;>cases h|cons c cs=>
  cases cs with
  |nil=>obtain⟨v,l,rfl,h1,h2⟩:=hr.dW;rw[h2.iJ];exact⟨v,rfl,Jf hR h h1⟩
  |cons c' cs=>cases t<;>cases h
theorem afX:∀(l:List Ty)(p:qx R.T l)(cs:List (ak R.T))(vs:List V),Dp R l cs=some p->aF R ρ top cs vs->
 vs.map eD=encs R l p/\(∀n σ,vs.mapM (bn (n+2) σ)=some (encs R l p))/\bN (encs R l p)=true/\vs.all (fun v=>oneCell v)=true
 | [],p,cs,vs,h,hr=>by
   cases cs with
   |nil=>rw[hr.iJ];exact⟨rfl,fun _ _=>rfl,by simp[encs,bN],rfl⟩
   |cons c cs=>cases h
 | [t],p,cs,vs,h,hr=>by obtain⟨v,rfl,a,b,c,d,e,_⟩:=ap6 hR (show u7 R t (hd1 R cs)=some p from h) hr;exact⟨by simp[encs,a],fun n σ=>by simp[encs,d],by simp[encs,bN,c],z8⟩
 |t::u::l,p,cs,vs,h,hr=>by
  cases cs with
  |nil=>cases h|cons c cs=>
   obtain⟨v,vs,rfl,h1,h2⟩:=hr.dW;unfold Dp at h;cases hu:u7 R t c with
   |none=>simp only[hu] at h;cases h|some y=>
    cases hs:Dp R (u::l) cs with
    |none=>simp only[hu,hs] at h;cases h|some q=>simp only[hu,hs] at h;obtain rfl:=lX h;obtain⟨a,b,c,d,e,_⟩:=Jf hR hu h1;obtain⟨a',d',c',o'⟩:=afX (u::l) q cs vs hs h2;exact⟨by simp[encs,a,a'],fun n σ=>by simp[encs,d,d'],by simp[encs,bN,c,c'],by simp[e,o']⟩
omit hR in
theorem Zy:∀(l:List Ty)(p:qx R.T l),(encs R l p).length=l.length
 | [],_=>rfl| [_],_=>rfl|_::u::l,p=>by show (encs R (u::l) p.2).length+1=_;rw[Zy];rfl
omit hR in
theorem ap7 {n:Nat}{σ:au}(cs:List V):bn (n+3) σ (.agg cs)=(cs.mapM (bn (n+2) σ)).map .agg:=by
 by_cases hp:aU (.agg cs)=true
 ·rw[l8 hp]
  have:∀cs:List V,bN cs=true->cs.mapM (bn (n+2) σ)=some cs:=by
   intro cs;induction cs with
   |nil=>intro _;rfl|cons a l ih=>intro h;simp only[bN,iP] at h;rw[jL,l8 h.1,ih h.2];rfl
  rw[this cs Cy];rfl
 ·conv=>lhs;unfold bn
  simp only[hp,if_false,dO]
theorem afY {t:Ty}{x:Den R.T t}{tv:ak R.T}{v:V}(h:BN R t tv=some x)(hr:av R ρ top tv v):
 er v=aX R t x/\aU (aX R t x)=true/\(∀n σ,bn (n+3) σ v=some (aX R t x))/\v.cells.length=cK R t/\dD v.cells=true:=by
 cases t with
 |st n=>
  change Fb R n tv=some x at h;unfold Fb at h;split at h
  ·rename_i cs
   split at h
   ·rename_i p hp
    obtain rfl:=lX h;obtain⟨l,hv,hl⟩:=hr.lT;subst hv;obtain⟨a,d,c,o⟩:=afX hR _ _ _ _ hp hl;have he:aX R (.st n) (R.to n p)= .agg (encs R (R.lf n) p):=(by show R.enc n (R.to n p)=_;rw[hR.enc,hR.M9]);refine⟨?_,qC hR (.st n) _,fun k σ=>?_,?_,o⟩
    ·rw[he];show V.agg (l.map eD)=_;rw[a]
    ·rw[he,ap7,d k σ];rfl
    ·show l.length=_
     have:=congrArg List.length a;rw[jS] at this;rw[this];exact Zy _ _
   ·cases h
  ·cases h
 |int k=>obtain⟨a,b,c,d,e,f⟩:=Jf hR (t:=.int k) h hr;exact⟨b,c,fun n σ=>d (n+1) σ,by rw[f];rfl,RB⟩
 |bool=>obtain⟨a,b,c,d,e,f⟩:=Jf hR (t:=.bool) h hr;exact⟨b,c,fun n σ=>d (n+1) σ,by rw[f];rfl,RB⟩
 |str=>obtain⟨a,b,c,d,e,f⟩:=Jf hR (t:=.str) h hr;exact⟨b,c,fun n σ=>d (n+1) σ,by rw[f];rfl,RB⟩
 |slice t=>obtain⟨a,b,c,d,e,f⟩:=Jf hR (t:=.slice t) h hr;exact⟨b,c,fun n σ=>d (n+1) σ,by rw[f];rfl,RB⟩
end
end
end aY
end
