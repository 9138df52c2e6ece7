/- Part of the proof of a law. -/
import Derived.Below
import Derived.WalkKit
import GoSem.Dispatch
set_option linter.all false
set_option linter.unusedSimpArgs false
set_option linter.unusedSectionVars false
section
namespace Aq
open Go
abbrev Loc:=Nat×Nat
inductive Cap where
 |sh
 |full
 |nil
 |own (n s:Nat)
inductive V where
 |int (k:IntKind) (n:Int)
 |bool (b:Bool)
 |str (s:List UInt8)
 |dQ
 |dJ
 |dF
 |dK
 |agg (cs:List V)
 |aT (vs:List V)
 |aj (c:Cap) (l:List V)
 |vw (loc:Loc) (s off len cap aL:Nat) (ag:Bool)
 |aH (cs:List V) (off:Nat)
 |ref (loc:Loc) (s off:Nat)
 |fn (f:Fn) (first cap:List V)
 |bq (loc:Loc) (s:Nat)
 |bL (ks vs:List V)
 |iface (t:TypeId) (v:V)
 |raw (v:Value)
instance:Inhabited V:=⟨.aT []⟩
def aA:V:=.aT []
def V.cells:V→List V
 |.agg cs=>cs
 |v=>[v]
def gu:Value→Option V
 |.bool b=>some (.bool b)
 |.int k n=>some (.int k n)
 |.string s=>some (.str s.data.toList)
 |.pointer none=>some .dQ
 |.slice none 0 0=>some (.aj .nil [])
 |.map none=>some .dF
 |.nilFunc=>some .dJ
 |.nilIface=>some .dK
 |_=>none
def ofValue:Value→Option V
 |.agg cs=>(cs.toList.mapM gu).map .agg
 |.tuple cs=>(cs.toList.mapM gu).map .aT
 |v=>gu v
mutual
def aD:V→Bool
 |.int _ _|.bool _|.str _|.dQ|.dJ|.dF|.dK=>true
 |.agg cs=>aY cs
 |.aT vs=>aY vs
 |.aj .sh l=>aY l
 |.aj _ _=>false
 |.vw .. |.ref .. |.bq .. =>false
 |.aH cs _=>aY cs
 |.fn (.func _) a b=>aY a&& aY b
 |.fn _ _ _=>false
 |.bL ks vs=>aY ks&& aY vs
 |.iface _ v=>aD v
 |.raw _=>false
def aY:List V→Bool
 | []=>true
 |v::l=>aD v&& aY l
end
mutual
def flat:V→Bool
 |.int _ _|.bool _|.str _|.dQ|.dJ|.dF|.dK=>true
 |.agg cs=>gy cs
 |.aT vs=>gy vs
 |_=>false
def gy:List V→Bool
 | []=>true
 |v::l=>flat v&& gy l
end
def dw:V→V
 |.aj _ l=>.aj .sh l
 |v=>v
def er:V→V
 |.aj _ l=>.aj .sh l
 |.agg cs=>.agg (cs.map dw)
 |v=>v
inductive eO where
 |cells (cs:List V)
 |map (ks vs:List V)
inductive Ex where
 |normal
 |exit (id:Nat)
 |ret
structure Fr where
 d:Nat
 om:Bool
 tm:Nat→V
structure lu where
 st:Nat
 pend:Option Ex
 fr:Fr
 ps:List Nat
 bB:Code
 body:Code
structure ah where
 next:Nat
 top:Nat→Nat
 obj:Loc→Option (Nat×eO)
 loops:Nat→Option lu
def ah.init:ah:=⟨0,fun _=>0,fun _=>none,fun _=>none⟩
def upd {κ α:Type} [DecidableEq κ] (f:κ→α) (k:κ) (v:α):κ→α:=fun j=>if j=k then v else f j
def Fr.set (fr:Fr) (i:Nat) (v:V):Fr:={fr with tm:=upd fr.tm i v}
def Fr.put (fr:Fr) (d:Option Nat) (v:V):Fr:=match d with
 |some i=>fr.set i v
 |none=>fr
def ah.setObj (σ:ah) (loc:Loc) (s:Nat) (o:eO):ah:={σ with obj:=upd σ.obj loc (some (s,o))}
def ah.fE (σ:ah) (loc:Loc):ah:={σ with obj:=upd σ.obj loc none}
def ah.bE (σ:ah) (s n:Nat):ah:={σ with top:=upd σ.top s n}
def ah.dG (σ:ah) (l:Nat) (r:lu):ah:={σ with loops:=upd σ.loops l (some r)}
def ah.jL (σ:ah) (l:Nat):ah:={σ with loops:=upd σ.loops l none}
def eu:Code→Bool
 |.seq a b=>eu a&& eu b
 |.cond _ a b=>eu a&& eu b
 |.block _ c=>eu c
 |.loop c=>eu c
 |.scope c=>eu c
 |.rangeFunc .. =>false
 |_=>true
def ah.bD (σ:ah) (loc:Loc) (s:Nat):Option (List V):=
 match σ.obj loc with
 |some (s',.cells cs)=>if s'=s then some cs else none
 |_=>none
def ah.dU (σ:ah) (loc:Loc) (s:Nat):Option (List V×List V):=
 match σ.obj loc with
 |some (s',.map ks vs)=>if s'=s then some (ks,vs) else none
 |_=>none
def chunks (agg:Bool) (n:Nat):Nat→List V→List V
 |0,_=>[]
 |k+1,cs=>(if agg then V.agg (cs.take n) else cs.headD aA)::chunks agg n k (cs.drop n)
def oneCell:V→Bool
 |.agg _|.aT _|.raw _=>false
 |_=>true
def bn (l:List V):Bool:=l.all oneCell
def aJ:Nat→ah→V→Option V
 |0,_,_=>none
 |n+1,σ,v=>if aD v then some v else match v with
  |.aj _ l=>(l.mapM (aJ n σ)).map (.aj .sh)
  |.agg cs=>(cs.mapM (aJ n σ)).map .agg
  |.aT cs=>(cs.mapM (aJ n σ)).map .aT
  |.aH cs off=>(cs.mapM (aJ n σ)).map (.aH · off)
  |.fn (.func f) a b=>(a.mapM (aJ n σ)).bind fun a=>(b.mapM (aJ n σ)).map fun b=>.fn (.func f) a b
  |.ref loc s off=>(σ.bD loc s).bind fun cs=>(cs.mapM (aJ n σ)).map (.aH · off)
  |.vw loc s off len _ aL ag=>(σ.bD loc s).bind fun cs=>
     if off+len*aL≤cs.length then (((cs.drop off).take (len*aL)).mapM (aJ n σ)).bind fun cs=>if ag||aL==1&& bn cs then some (.aj .sh (chunks ag aL len cs)) else none else none
  |.bq loc s=>(σ.dU loc s).bind fun (ks,vs)=>
     (ks.mapM (aJ n σ)).bind fun ks=>(vs.mapM (aJ n σ)).map fun vs=>.bL ks vs
  |.bL ks vs=>(ks.mapM (aJ n σ)).bind fun ks=>(vs.mapM (aJ n σ)).map fun vs=>.bL ks vs
  |.iface t v=>(aJ n σ v).map (.iface t)
  |_=>none
section ops
variable (P:Program)
def bF (t:TypeId):Option Nat:=(P.info? t).map (·.size)
def pE (t:TypeId):Option Nat:=(P.info? t).map (·.bytes)
def gB (t:TypeId):Option Bool:=(P.underlying t).map fun
 |.struct _|.array .. =>true
 |_=>false
def fO (t:TypeId):Option V:=((P.info? t).bind (·.zero)).bind ofValue
def qK (t:TypeId) (f:Nat):Option (Nat×TypeId):=
 match P.underlying t with
 |some (.struct fs)=>(fs[f]?).bind fun f=>match bF P f.type with
  |some (_+1)=>some (f.offset,f.type)
  |_=>none
 |_=>none
def iA (t:TypeId):Option TypeId:=
 match P.underlying t with
 |some (.slice e)=>some e
 |_=>none
def mW (t:TypeId):Option (Nat×TypeId):=
 match P.underlying t with
 |some (.array n e)=>some (n,e)
 |_=>none
def ou (t:TypeId):Option (TypeId×TypeId):=
 match P.underlying t with
 |some (.map k e)=>some (k,e)
 |_=>none
def kK (agg:Bool) (n:Nat) (cs:List V) (off:Nat):Option V:=
 if agg then (if off+n≤cs.length then some (.agg ((cs.drop off).take n)) else none) else cs[off]?
def eB (t:TypeId) (cs:List V) (off:Nat):Option V:=
 (gB P t).bind fun a=>(bF P t).bind fun n=>kK a n cs off
def dR (cs:List V) (off:Nat) (vs:List V):List V:=cs.take off++vs++cs.drop (off+vs.length)
def dL:V→Bool
 |.raw _=>false
 |_=>true
def l5 (place:Nat→Option (Nat×Nat)) (cells:List V):List (Nat×V)→Option (List V)
 | []=>some cells
 | (i,v)::rest=>
   match place i with
   |none=>none
   |some (off,size)=>
    if v.cells.length=size∧off+size≤cells.length∧dL v then l5 place (dR cells off v.cells) rest else none
def jM:V→V→Option Bool
 |.int k a,.int k' b=>if k=k' then some (a==b) else none
 |.bool a,.bool b=>some (a==b)
 |.str a,.str b=>some (a==b)
 |_,_=>none
def wB (eq:TypeId→V→V→Option Bool) (xs ys:List V):List Field→Option Bool
 | []=>some true
 |f::fs=>
  if f.name= "_" then wB eq xs ys fs else
  (eB P f.type xs f.offset).bind fun a=>(eB P f.type ys f.offset).bind fun b=>(eq f.type a b).bind fun r=>(wB eq xs ys fs).map (r&& ·)
def yE (eq:TypeId→V→V→Option Bool) (e:TypeId) (sz:Nat) (xs ys:List V):List Nat→Option Bool
 | []=>some true
 |i::is=>(eB P e xs (i*sz)).bind fun a=>(eB P e ys (i*sz)).bind fun b=>(eq e a b).bind fun r=>(yE eq e sz xs ys is).map (r&& ·)
def uK:Nat→TypeId→V→V→Option Bool
 |0,_,_,_=>none
 |d+1,t,x,y=>
  match P.underlying t,x,y with
  |some .bool,.bool a,.bool b=>some (a==b)
  |some (.int _),.int k a,.int k' b=>if k=k' then some (a==b) else none
  |some .string,.str a,.str b=>some (a==b)
  |some (.struct fs),.agg xs,.agg ys=>if P.stoodInHeld t then none else wB P (uK d) xs ys fs.toList
  |some (.array n e),.agg xs,.agg ys=>(bF P e).bind fun sz=>yE P (uK d) e sz xs ys (List.range n)
  |_,_,_=>none
def ow (t:TypeId) (x y:V):Option Bool:=
 match P.underlying t,x,y with
 |some (.func ..),.dJ,.dJ=>some true
 |some (.func ..),.dJ,.fn _ _ _|some (.func ..),.fn _ _ _,.dJ=>some false
 |some (.pointer _),.dQ,.dQ=>some true
 |some (.pointer _),.dQ,.ref .. |some (.pointer _),.ref ..,.dQ|some (.pointer _),.dQ,.aH .. |some (.pointer _),.aH ..,.dQ=>some false
 |some (.slice _),.aj .nil _,.aj .nil _=>some true
 |some (.slice _),.aj .nil _,.aj _ (_::_)|some (.slice _),.aj _ (_::_),.aj .nil _=>some false
 |some (.map ..),.dF,.dF=>some true
 |some (.map ..),.dF,.bq .. |some (.map ..),.bq ..,.dF|some (.map ..),.dF,.bL .. |some (.map ..),.bL ..,.dF=>some false
 |some (.struct _),.agg a,.agg b|some (.array ..),.agg a,.agg b=>if P.eqGuardType P.depth t then none else uK P 8 t (.agg a) (.agg b)
 |some .bool,.bool a,.bool b=>some (a==b)
 |some (.interface ms),.dK,.dK=>if ms.isEmpty then some true else none
 |some (.interface _),.dK,.iface _ _|some (.interface _),.iface _ _,.dK=>some false
 |_,_,_=>none
def gZ (op:BinOp) (k:IntKind) (x y:Int):Option V:=
 match op with
 |.add=>some (.int k (k.wrap (x+y)))
 |.sub=>some (.int k (k.wrap (x-y)))
 |.mul=>some (.int k (k.wrap (x*y)))
 |.quo=>if y=0 then none else some (.int k (k.wrap (x.tdiv y)))
 |.rem=>if y=0 then none else some (.int k (x.tmod y))
 |.and=>some (.int k (k.wrap (BitVec.ofInt k.bits x&&& BitVec.ofInt k.bits y).toNat))
 |.or=>some (.int k (k.wrap (BitVec.ofInt k.bits x|||BitVec.ofInt k.bits y).toNat))
 |.xor=>some (.int k (k.wrap (BitVec.ofInt k.bits x^^^BitVec.ofInt k.bits y).toNat))
 |.andNot=>some (.int k (k.wrap (BitVec.ofInt k.bits x&&& ~~~BitVec.ofInt k.bits y).toNat))
 |.eql=>some (.bool (x==y))
 |.neq=>some (.bool (x !=y))
 |.lss=>some (.bool (x<y))
 |.leq=>some (.bool (x≤y))
 |.gtr=>some (.bool (x>y))
 |.geq=>some (.bool (x≥y))
 |_=>none
def Bv (op:BinOp) (k:IntKind) (x y:Int):Option V:=
 if y<0 then none else
 match op with
 |.shl=>some (.int k (k.wrap (x*2^min y.toNat k.bits)))
 |.shr=>some (.int k (x.fdiv (2^min y.toNat k.bits)))
 |_=>none
def uL (op:BinOp) (x y:List UInt8):Option V:=
 match op with
 |.add=>if ((x.length+y.length:Nat):Int)>IntKind.i64.max then none else some (.str (x++y))
 |.eql=>some (.bool (x==y))
 |.neq=>some (.bool !(x==y))
 |.lss=>some (.bool (Op.bytesLess x y))
 |.leq=>some (.bool (Op.bytesLess x y||x==y))
 |.gtr=>some (.bool !(Op.bytesLess x y||x==y))
 |.geq=>some (.bool !(Op.bytesLess x y))
 |_=>none
def l6 (op:BinOp) (t:TypeId) (x y:V):Option V:=
 match op,x,y with
 |.shl,.int k a,.int _ b|.shr,.int k a,.int _ b=>Bv op k a b
 |_,.int k a,.int k' b=>if k=k' then gZ op k a b else none
 |_,.str a,.str b=>uL op a b
 |.eql,x,y=>(ow P t x y).map .bool
 |.neq,x,y=>(ow P t x y).map fun b=>.bool !b
 |_,_,_=>none
def wC (op:UnOp) (x:V):Option V:=
 match op,x with
 |.neg,.int k n=>some (.int k (k.wrap (0-n)))
 |.xor,.int k n=>gZ .xor k (if k.signed then-1 else k.max) n
 |.not,.bool b=>some (.bool !b)
 |_,_=>none
def jN (b:UInt8):V:=.int .u8 b.toNat
def wD:V→Option UInt8
 |.int .u8 n=>some (UInt8.ofNat n.toNat)
 |_=>none
def sM (σ:ah) (src dst:TypeId) (x:V):Option V:=
 match P.underlying src,P.underlying dst,x with
 |some _,some (.int k),.int _ n=>some (.int k (k.wrap n))
 |some _,some .string,.str s=>some (.str s)
 |some _,some (.slice e),.str s=>
  match P.underlying e with
  |some (.int .u8)=>some (.aj .sh (s.map jN))
  |_=>none
 |some (.slice e),some .string,.aj _ l=>
  match P.underlying e with
  |some (.int .u8)=>(l.mapM wD).map .str
  |_=>none
 |some (.slice e),some .string,.vw loc s off len _ _ _=>
  match P.underlying e with
  |some (.int .u8)=>(σ.bD loc s).bind fun cs=>if off+len≤cs.length then (((cs.drop off).take len).mapM wD).map .str else none
  |_=>none
 |_,_,_=>none
def jO:V→Option Int
 |.int _ n=>some n
 |_=>none
def bnd (x:V) (y:Nat):Option Nat:=(jO x).bind fun i=>if 0≤i∧i≤y then some i.toNat else none
def iN (len cap:Nat) (lo hi mx:Option V):Option (Nat×Nat×Nat):=
 (match mx with|some v=>bnd v cap|none=>some cap).bind fun m=>
 (match hi,mx with
   |some v,some _=>bnd v m
   |some v,none=>bnd v m
   |none,none=>some len
   |none,some _=>none).bind fun h=>
 (match lo with|some v=>bnd v h|none=>some 0).bind fun l=>some (l,h,m)
def lC (sz:Nat):List V→Bool
 | []=>true
 |v::_=>v.cells.length==sz
def kL (σ:ah) (t:TypeId) (x:V) (lo hi mx:Option V):Option V:=
 match P.underlying t,x with
 |some .string,.str s=>
  match mx with
  |some _=>none
  |none=>(iN s.length s.length lo hi none).map fun (l,h,_)=>.str ((s.take h).drop l)
 |some (.slice e),.aj c s=>
  (bF P e).bind fun sz=>(iN s.length s.length lo hi mx).bind fun (l,h,m)=>if lC sz s then some<|
    if l=0∧h=s.length∧mx.isNone then .aj c s else
    .aj (match mx with|some _=>if m=h then .full else .sh|none=>match c with|.full=>if h=s.length then .full else .sh|_=>.sh) ((s.take h).drop l)
    else none
 |some (.slice e),.vw loc st off len cap aL ag=>
  (bF P e).bind fun sz=>(iN len cap lo hi mx).bind fun (l,h,m)=>if sz=aL then some<|
    if l=h∧0<l then .aj (match mx with|some _=>if m=h then .full else .sh|none=>.sh) [] else .vw loc st (off+l*aL) (h-l) (m-l) aL ag
    else none
 |some (.array n e),.ref loc st off=>
  (bF P e).bind fun sz=>(gB P e).bind fun ag=>(iN n n lo hi mx).bind fun (l,h,m)=>(σ.bD loc st).bind fun cs=>if off+n*sz≤cs.length then some<|
    if l=h∧0<l then .aj (match mx with|some _=>if m=h then .full else .sh|none=>.sh) [] else .vw loc st (off+l*sz) (h-l) (m-l) sz ag
    else none
 |some (.array n e),.aH cs off=>
  (bF P e).bind fun sz=>(gB P e).bind fun ag=>(iN n n lo hi mx).bind fun (l,h,_)=>
    if off+n*sz≤cs.length∧(ag=false→sz=1∧bn cs=true) then some (.aj .sh (chunks ag sz (h-l) (cs.drop (off+l*sz)))) else none
 |_,_=>none
def idx (i:V) (n:Nat):Option Nat:=(jO i).bind fun i=>if 0≤i∧i<n then some i.toNat else none
def kM (t:TypeId) (x i:V):Option V:=
 match P.underlying t,x with
 |some (.slice e),.aj _ l=>(bF P e).bind fun sz=>(idx i l.length).bind fun k=>(l[k]?).bind fun e=>if e.cells.length=sz then some (.aH e.cells 0) else none
 |some (.slice e),.vw loc st off len _ aL _=>(bF P e).bind fun sz=>(idx i len).bind fun k=>if sz=aL then some (.ref loc st (off+k*aL)) else none
 |some (.array n e),.ref loc st off=>(bF P e).bind fun sz=>(idx i n).map fun k=>.ref loc st (off+k*sz)
 |some (.array n e),.aH cs off=>(bF P e).bind fun sz=>(idx i n).map fun k=>.aH cs (off+k*sz)
 |_,_=>none
def sN (t:TypeId) (x i:V):Option V:=
 match P.underlying t,x with
 |some (.array n e),.agg cs=>(idx i n).bind fun k=>(bF P e).bind fun sz=>eB P e cs (k*sz)
 |some .string,.str s=>(idx i s.length).bind fun k=>(s[k]?).map jN
 |_,_=>none
def lD (k:V):List V→List V→Option (Option V)
 |a::as,v::vs=>(jM k a).bind fun b=>if b then some (some v) else lD k as vs
 | [],[]=>some none
 |_,_=>none
def qL (k v:V):List V→List V→Option (List V×List V)
 |a::as,w::ws=>(jM k a).bind fun b=>if b then some (k::as,v::ws) else (qL k v as ws).map fun (x,y)=>(a::x,w::y)
 | [],[]=>some ([k],[v])
 |_,_=>none
def iX (t:TypeId) (k:V):Bool:=
 match P.underlying t,k with
 |some (.int _),.int _ _|some .string,.str _|some .bool,.bool _=>true
 |_,_=>false
def qM (σ:ah) (t:TypeId) (m k:V) (ok:Bool):Option V:=
 (ou P t).bind fun (kt,et)=>
 if iX P kt k then
  (match m with
    |.dF=>some ([],[])
    |.bq loc s=>σ.dU loc s
    |.bL ks vs=>some (ks,vs)
    |_=>none).bind fun (ks,vs)=>
  (lD k ks vs).bind fun r=>
  (match r with|some v=>some (v,true)|none=>(fO P et).map fun z=>(z,false)).map fun (v,b)=>
  if ok then .aT [v,.bool b] else v
 else none
def mX (σ:ah) (t:TypeId) (m k v:V):Option ah:=
 (ou P t).bind fun (kt,_)=>
 if iX P kt k then
  match m with
  |.bq loc s=>(σ.dU loc s).bind fun (ks,vs)=>(qL k v ks vs).map fun (ks,vs)=>σ.setObj loc s (.map ks vs)
  |_=>none
 else none
def iY (n b:Nat):Bool:=n*b≤2^47&& n≤2^47
def iZ (σ:ah) (ag:Bool) (sz:Nat) (z:V):V→Option (List V)
 |.int _ n=>if 0≤n∧n≤2^47 then some (List.replicate n.toNat z) else none
 |.aj _ l=>if lC sz l then some l else none
 |.str s=>if sz=1 then some (s.map jN) else none
 |.vw loc s off len _ aL _=>if aL≠sz then none else (σ.bD loc s).bind fun cs=>
  if off+len*sz≤cs.length∧(bn cs=true∨ag=true) then some ((chunks ag sz len (cs.drop off)).map er) else none
 |_=>none
def sO:V→Bool
 |.int _ _=>true
 |_=>false
def gT (om zeros:Bool) (σ:ah) (st:Nat) (loc:Option Loc) (t:TypeId) (x y:V):Option (V×ah):=
 (iA P t).bind fun e=>(bF P e).bind fun sz=>(pE P e).bind fun dI=>(gB P e).bind fun ag=>(fO P e).bind fun z=>
 if zeros=sO y∧z.cells.length=sz∧0<sz∧(ag||sz==1)=true then
 (iZ σ ag sz z y).bind fun ys=>
 if ys.all (fun v=>bn v.cells)=true then
 match x with
 |.aj c l=>
  if iY (l.length+ys.length) dI=true∧lC sz l=true then
   match om,c with
   |true,.nil=>loc.map fun loc=>(.vw loc st 0 (l.length+ys.length) (l.length+ys.length) sz ag,σ.setObj loc st (.cells ((l++ys).flatMap V.cells)))
   |true,.full=>if ys.isEmpty then some (.aj .full l,σ) else loc.map fun loc=>(.vw loc st 0 (l.length+ys.length) (l.length+ys.length) sz ag,σ.setObj loc st (.cells ((l++ys).flatMap V.cells)))
   |false,.own n s=>if n=sz∧σ.top s=l.length then some (.aj (.own n s) (l++ys),σ.bE s (l.length+ys.length)) else none
   |false,.nil|false,.full=>some (.aj (.own sz st) (l++ys),σ.bE st (l.length+ys.length))
   |_,_=>none
  else none
 |.vw fP s off len cap aL _=>
  if iY (len+ys.length) dI=true∧om=true∧off=0∧aL=sz then
   loc.bind fun loc=>(σ.bD fP s).bind fun cs=>
    if len+ys.length≤cap then
     if (len+ys.length)*sz≤cs.length then
      some (.vw fP s 0 (len+ys.length) cap sz ag,σ.setObj fP s (.cells (dR cs (len*sz) (ys.flatMap V.cells))))
     else none
    else if len*sz≤cs.length then
     some (.vw loc st 0 (len+ys.length) (len+ys.length) sz ag,(σ.fE fP).setObj loc st (.cells (cs.take (len*sz)++ys.flatMap V.cells)))
    else none
  else none
 |_=>none
 else none else none
def copyV (σ:ah) (t:TypeId) (x y:V):Option (V×ah):=
 (iA P t).bind fun e=>(bF P e).bind fun sz=>(gB P e).bind fun ag=>
 if sO y=false∧(ag||sz==1)=true then
  (iZ σ ag sz aA y).bind fun ys=>
  if ys.all (fun v=>bn v.cells)=true then
  match x with
  |.vw loc s off len _ aL _=>
   (σ.bD loc s).bind fun cs=>
     if aL=sz∧off+min ys.length len*sz≤cs.length then
      some (.int .i64 (min ys.length len:Nat),σ.setObj loc s (.cells (dR cs off ((ys.take (min ys.length len)).flatMap V.cells))))
     else none
  |.aj _ []=>some (.int .i64 (0:Nat),σ)
  |_=>none
  else none
 else none
def IB (t:TypeId) (ok:Bool) (x:V):Option V:=
 match P.underlying t with
 |none|some (.interface _)=>none
 |some _=>match x with
  |.iface u v=>if u=t then some (if ok then .aT [v,.bool true] else v) else if ok then (fO P t).map fun z=>.aT [z,.bool false] else none
  |.dK=>if ok then (fO P t).map fun z=>.aT [z,.bool false] else none
  |_=>none
def Bw (σ:ah) (t:TypeId) (x:V):Option (V×ah):=
 (iA P t).bind fun e=>(bF P e).bind fun sz=>(pE P e).bind fun _=>(fO P e).bind fun z=>
 if z.cells.length=sz∧bn z.cells=true then
  match x with
  |.vw loc s off len _ aL _=>
   (σ.bD loc s).bind fun cs=>
     if aL=sz∧off+len*sz≤cs.length∧0<len then
      some (aA,σ.setObj loc s (.cells (dR cs off ((List.replicate len z).flatMap V.cells))))
     else none
  |.aj _ []=>some (aA,σ)
  |_=>none
 else none
def jc (mx:Bool):V→List V→Option V
 |x,[]=>some x
 |.int k a,.int k' b::l=>if k=k' then jc mx (.int k (if mx then (if b>a then b else a) else (if b<a then b else a))) l else none
 |_,_=>none
def pF (om:Bool) (σ:ah) (st:Nat) (loc:Option Loc) (t:TypeId) (l c:V):Option (V×ah):=
 (iA P t).bind fun e=>(bF P e).bind fun sz=>(pE P e).bind fun dI=>(fO P e).bind fun z=>
 (jO l).bind fun n=>(jO c).bind fun m=>
 if 0≤n∧n≤m∧iY m.toNat dI∧m≤2^47∧z.cells.length=sz then
  if n=0∧om=false then some (.aj (.own sz st) [],σ.bE st 0)
  else loc.bind fun loc=>(gB P e).map fun ag=>(.vw loc st 0 n.toNat m.toNat sz ag,σ.setObj loc st (.cells (List.replicate m.toNat z.cells).flatten))
 else none
end ops
end Aq
end
section
namespace Aq
open Go
structure Env where
 P:Program
 glob:Nat→Option (List V)
 imp:FuncId→Bool
 om:FuncId→Bool
 mY:FuncId→Option (List V→Option V)
 own:FuncId→Nat→Bool:=fun _ _=>false
 wE:FuncId→Bool:=fun _=>false
 qN:TypeId→Bool:=fun _=>false
 WT:Nat→Bool:=fun _=>false
section
variable (E:Env)
def Fr.ev (fr:Fr):Operand→V
 |.tmp t=>fr.tm t
 |.const v=>(ofValue v).getD (.raw v)
 |.global g=>match E.glob g with|some cs=>.aH cs 0|none=>.raw (.pointer (some ⟨g,0,none⟩))
 |.func f=>.fn (.func f) [] []
def fF (fr:Fr):Option Operand→Option V
 |none=>none
 |some x=>some (fr.ev E x)
def j6:V→Option Bool
 |.bool b=>some b
 |_=>none
def yF (t:TypeId):Option (Nat→Option (Nat×Nat)):=
 match E.P.underlying t with
 |some (.struct fs)=>if fs.toList.all (fun f=>(bF E.P f.type).isSome) then some fun i=>(fs[i]?).bind fun f=>(bF E.P f.type).map fun n=>(f.offset,n)
  else none
 |some (.array _ e)=>(bF E.P e).map fun n=>fun i=>some (i*n,n)
 |_=>none
def wF (t:TypeId) (len:Nat) (parts:List (Nat×V)):Option V:=
 (iA E.P t).bind fun e=>(bF E.P e).bind fun sz=>(gB E.P e).bind fun ag=>(fO E.P e).bind fun z=>
 if len*sz≤2^24∧z.cells.length=sz∧0<sz∧(ag||sz==1)=true then
  (l5 (fun i=>if i<len then some (i*sz,sz) else none) (List.replicate len z.cells).flatten parts).bind fun cs=>
    if bn cs then some (.aj .full ((chunks ag sz len cs).map er)) else none
 else none
def qO (d:Option Nat):Bool:=match d with
 |some d=>E.WT d
 |none=>false
def pG (σ:ah) (x:V):Option (V×ah):=match x with
 |.vw loc s off len _ aL ag=>(σ.bD loc s).bind fun cs=>
  if off+len*aL≤cs.length∧(ag||aL==1&& bn (((cs.drop off).take (len*aL)).map dw))=true then some (.aj .sh (chunks ag aL len (((cs.drop off).take (len*aL)).map dw)),σ.fE loc) else none
 |.aj _ l=>some (.aj .sh l,σ)
 |v=>some (v,σ)
def aS (fr:Fr) (σ:ah) (st:Nat) (o:Oper):Option (V×ah):=
 let loc:Option Loc:=o.dst.map fun t=>(fr.d,t)
 match o.op with
 |.move x=>if qO E o.dst=true then pG σ (fr.ev E x) else some (fr.ev E x,σ)
 |.assign x=>some (fr.ev E x,σ)
 |.pick c a b=>(j6 (fr.ev E c)).map fun t=>(if t then fr.ev E a else fr.ev E b,σ)
 |.alloc t=>loc.bind fun loc=>(fO E.P t).bind fun z=>if bn z.cells then some (.ref loc st 0,σ.setObj loc st (.cells z.cells)) else none
 |.box t x=>if E.qN t=true then (if aD (fr.ev E x)=true∧dL (fr.ev E x) then some (.aH (fr.ev E x).cells 0,σ) else none) else loc.bind fun loc=>if bn (fr.ev E x).cells∧dL (fr.ev E x) then some (.ref loc st 0,σ.setObj loc st (.cells (fr.ev E x).cells)) else none
 |.build t parts=>(yF E t).bind fun pl=>(fO E.P t).bind fun z=>(l5 pl z.cells (parts.toList.map fun (i,x)=>(i,fr.ev E x))).map fun cs=>(.agg cs,σ)
 |.buildSlice t len parts=>(wF E t len (parts.toList.map fun (i,x)=>(i,fr.ev E x))).map fun v=>(v,σ)
 |.load t a=>match fr.ev E a with
  |.ref loc s off=>(σ.bD loc s).bind fun cs=>(eB E.P t cs off).map fun v=>(v,σ)
  |.aH cs off=>(eB E.P t cs off).map fun v=>(v,σ)
  |_=>none
 |.store t a x=>match fr.ev E a with
  |.ref loc s off=>(σ.bD loc s).bind fun cs=>
   if some (fr.ev E x).cells.length=bF E.P t∧off+(fr.ev E x).cells.length≤cs.length∧bn (fr.ev E x).cells then
    some (aA,σ.setObj loc s (.cells (dR cs off (fr.ev E x).cells))) else none
  |_=>none
 |.nilCheck x=>match fr.ev E x with
  |.ref loc s off=>some (.ref loc s off,σ)
  |.aH cs off=>some (.aH cs off,σ)
  |.fn (.func f) a b=>some (.fn (.func f) a b,σ)
  |_=>none
 |.binOp op t x y _=>(l6 E.P op t (fr.ev E x) (fr.ev E y)).map fun v=>(v,σ)
 |.unOp op _ x=>(wC op (fr.ev E x)).map fun v=>(v,σ)
 |.convert a b x=>(sM E.P σ a b (fr.ev E x)).map fun v=>(v,σ)
 |.sliceToArrayPointer t x=>(mW E.P t).bind fun (n,_)=>match fr.ev E x with
  |.vw loc s off len _ _ _=>if 0<n∧n≤len then some (.ref loc s off,σ) else none
  |.aj _ l=>if 0<n∧n≤l.length∧bn l=true then some (.aH (l.take n) 0,σ) else none
  |_=>none
 |.makeInterface t x=>match E.P.underlying t with
  |some (.interface _)=>none
  |some _=>some (.iface t (fr.ev E x),σ)
  |none=>none
 |.makeFunc (.func f) a b=>some (.fn (.func f) (a.toList.map (fr.ev E)) (b.toList.map (fr.ev E)),σ)
 |.makeMap _ none=>loc.map fun loc=>(.bq loc st,σ.setObj loc st (.map [] []))
 |.makeSlice t l c=>pF E.P fr.om σ st loc t (fr.ev E l) (fr.ev E c)
 |.slice t x lo hi mx=>(kL E.P σ t (fr.ev E x) (fF E fr lo) (fF E fr hi) (fF E fr mx)).map fun v=>(v,σ)
 |.fieldAddr t x f=>(qK E.P t f).bind fun (o,_)=>match fr.ev E x with
  |.ref loc s off=>some (.ref loc s (off+o),σ)
  |.aH cs off=>some (.aH cs (off+o),σ)
  |_=>none
 |.field t x f=>(qK E.P t f).bind fun (o,u)=>match fr.ev E x with
  |.agg cs=>(eB E.P u cs o).map fun v=>(v,σ)
  |_=>none
 |.indexAddr t x i=>(kM E.P t (fr.ev E x) (fr.ev E i)).map fun v=>(v,σ)
 |.index t x i=>(sN E.P t (fr.ev E x) (fr.ev E i)).map fun v=>(v,σ)
 |.lookup t x i ok=>(qM E.P σ t (fr.ev E x) (fr.ev E i) ok).map fun v=>(v,σ)
 |.mapUpdate t m k v|.insert t m k v=>(mX E.P σ t (fr.ev E m) (fr.ev E k) (fr.ev E v)).map fun σ=>(aA,σ)
 |.extract x i=>match fr.ev E x with
  |.aT vs=>(vs[i]?).map fun v=>(v,σ)
  |_=>none
 |.typeAssert x _ t ok=>(IB E.P t ok (fr.ev E x)).map fun v=>(v,σ)
 |_=>none
def kg (σ:ah) (t:TypeId) (x:V):Option Nat:=
 match E.P.underlying t,x with
 |some (.array n _),_=>some n
 |some (.map _ _),.bq loc s=>(σ.dU loc s).map fun (ks,_)=>ks.length
 |some (.map _ _),.bL ks _=>some ks.length
 |some (.map _ _),.dF=>some 0
 |some (.pointer a),_=>(mW E.P a).map fun (n,_)=>n
 |some (.slice _),.aj _ l=>some l.length
 |some (.slice _),.vw _ _ _ len _ _ _=>some len
 |some .string,.str s=>some s.length
 |_,_=>none
def kN (om:Bool) (loc:Option Loc) (σ:ah) (st:Nat) (b:Builtin) (tys:Array TypeId) (args:List V):Option (V×ah):=
 match b,args with
 |.len,[x]=>(tys[0]?).bind fun t=>(kg E σ t x).map fun n=>(.int .i64 (n:Nat),σ)
 |.cap,[x]=>(tys[0]?).bind fun t=>(iA E.P t).bind fun _=>match x with
  |.aj .nil l|.aj .full l=>some (.int .i64 l.length,σ)
  |_=>none
 |.append,[x,y]=>(tys[0]?).bind fun t=>((tys[1]?).bind E.P.underlying).bind fun u=>match u with
  |.int _=>gT E.P om true σ st loc t x y
  |.slice _|.string=>gT E.P om false σ st loc t x y
  |_=>none
 |.copy,[x,y]=>(tys[0]?).bind fun t=>copyV E.P σ t x y
 |.clear,[x]=>(tys[0]?).bind fun t=>Bw E.P σ t x
 |.min,x::l=>(jc false x l).map fun v=>(v,σ)
 |.max,x::l=>(jc true x l).map fun v=>(v,σ)
 |_,_=>none
structure dW where
 code:Code→Fr→ah→Option (Ex×Fr×ah)
 call:FuncId→List V→Nat→ah→Option (V×ah)
variable (S:dW)
def lF (f:FuncId) (args:List V):Option V:=
 match E.mY f with
 |some g=>g args
 |none=>(S.call f args 1 ah.init).bind fun (v,σ)=>aJ 20 σ v
def pI (l:Nat) (args:List V) (σ:ah):Option (V×ah):=
 (σ.loops l).bind fun r=>
 if r.st=0∧r.ps.length=args.length then
  (S.code r.bB {r.fr with tm:=(r.ps.zip args).foldl (fun tm (p,a)=>upd tm p a) r.fr.tm} σ).bind fun (e,fr,σ1)=>
  match e with
  |.normal=>(σ1.loops l).bind fun r1=>
   if r1.st=0 then
    (S.code r.body fr (σ1.dG l {r1 with st:=1})).bind fun (e,_,σ2)=>(σ2.loops l).bind fun r2=>
    if r2.st=1 then
     match e with
     |.normal=>some (.bool true,σ2.dG l {r2 with st:=0,pend:=none})
     |e=>some (.bool false,σ2.dG l {r2 with st:=2,pend:=some e})
    else none
   else none
  |_=>none
 else none
def gK (d:Nat) (σ:ah) (fv:V) (args:List V):Option (V×ah):=
 match fv with
 |.fn (.func f) first cap=>
  if E.imp f then S.call f (first++args++cap) (d+1) σ
  else ((first++args++cap).mapM (aJ 20 σ)).bind fun as=>
   (lF E S f as).bind fun v=>
   if (first++args++cap).all (fun a=>aD (er a))||flat v then some (v,σ) else none
 |.fn (.yield l) [] []=>pI S l args σ
 |_=>none
def iO (fr:Fr) (o:Oper) (f:Operand):Bool:=match fr.ev E f,o.dst with
 |.fn (.func g) _ _,some d=>E.own g d
 |_,_=>false
def lG (σ:ah) (st:Nat) (σ1:ah):V→Option (V×ah)
 |.aj c l=>if aY l=true then (match c with
  |.nil=>some (.aj .nil l,σ)
  |.full=>some (.aj .full l,σ)
  |.own n s=>if σ1.top s=l.length then some (.aj (.own n st) l,σ.bE st l.length) else none
  |.sh=>none) else none
 |.vw loc s off len _ aL _=>if off=0∧len=0 then (σ1.bD loc s).bind fun _=>some (.aj (.own aL st) [],σ.bE st 0) else none
 |_=>none
def mZ (b:Bool) (σ:ah) (l:List V):Option (List V):=if b=true then (match l with
 |.aj .nil []::l=>(l.mapM (aJ 20 σ)).map (.aj .nil []:: ·)
 |_=>none) else l.mapM (aJ 20 σ)
def lH (σ:ah) (st:Nat) (fv:V) (args:List V):Option (V×ah):=
 match fv with
 |.fn (.func f) first cap=>if (first++args++cap).all (fun a=>aD (er a))=true then
    (mZ (E.wE f) σ (first++args++cap)).bind fun as=>(S.call f as 1 ah.init).bind fun (v0,σ1)=>lG σ st σ1 v0
  else none
 |_=>none
def opC (fr:Fr) (σ:ah) (st:Nat) (o:Oper):Option (V×Fr×ah):=
 match o.op with
 |.call c=>
  match c.callee with
  |.builtin b=>(kN E fr.om (o.dst.map fun t=>(fr.d,t)) σ st b c.argTypes (c.args.toList.map (fr.ev E))).map fun (v,σ)=>(v,fr,σ)
  |.value f=>if iO E fr o f=true then (lH E S σ st (fr.ev E f) (c.args.toList.map (fr.ev E))).map fun (v,σ)=>(v,fr,σ) else
   (gK E S fr.d σ (fr.ev E f) (c.args.toList.map (fr.ev E))).map fun (v,σ)=>(v,fr,σ)
  |.invoke .. =>none
 |.defer _=>none
 |_=>(aS E fr σ st o).map fun (v,σ)=>(v,fr,σ)
def bS (ops:List Oper) (fr:Fr) (o:Oper):Option Bool:=
 match o.guard with
 |none=>some true
 |some (j,want)=>match (ops[j]?).bind (·.dst) with
  |some t=>match fr.tm t with
   |.bool b=>some (b==want)
   |.raw _=>none
   |_=>some false
  |none=>some false
def opsE (all:List Oper):Nat→List Oper→Fr→ah→Option (Fr×ah)
 |_,[],fr,σ=>some (fr,σ)
 |st,o::os,fr,σ=>
  (bS all fr o).bind fun t=>if t then (opC E S fr σ st o).bind fun (v,fr,σ)=>opsE all (st+1) os (fr.put o.dst v) σ
  else opsE all (st+1) os (fr.put o.dst aA) σ
inductive Key where
 |slot (t:Nat)
 |obj (l:Loc)
 |top
 |rest
 |nx
def ng (a b:Loc):Bool:=a.2==b.2&& a.1==b.1
def Key.eq:Key→Key→Bool
 |.slot a,.slot b=>a==b
 |.obj a,.obj b=>ng a b
 |.top,.top=>true
 |.rest,.rest=>true
 |.nx,.nx=>true
 |_,_=>false
def Key.state:Key→Bool
 |.obj _|.top|.nx=>true
 |_=>false
structure bA where
 pJ:Bool
 lI:Bool
 t:List Key
 w:List Key
def eD:V→List Key
 |.ref loc _ _|.vw loc _ _ _ _ _ _|.bq loc _=>[.obj loc]
 |_=>[]
def ni (fr:Fr) (o:Oper):List Key:=match o.dst with
 |some t=>[.obj (fr.d,t)]
 |none=>[]
def jP (t:List Key):bA:=⟨false,false,t,[]⟩
def iB (w:List Key):bA:=⟨false,false,[],w⟩
def dV:bA:=⟨true,true,[],[]⟩
def eZ (fr:Fr) (o:Oper):bA:=
 match o.op with
 |.assign _|.pick .. |.build .. |.buildSlice .. |.nilCheck _|.binOp .. |.unOp .. |.makeInterface .. |.typeAssert .. |.makeFunc .. |.fieldAddr .. |.field .. |.indexAddr .. |.index .. |.extract ..
 |.sliceToArrayPointer .. =>jP []
 |.move x=>if qO E o.dst=true then iB (eD (fr.ev E x)) else jP []
 |.convert _ _ x|.slice _ x _ _ _|.load _ x|.lookup _ x _ _=>jP (eD (fr.ev E x))
 |.alloc _|.box .. |.makeMap .. =>iB (ni fr o)
 |.makeSlice .. =>iB (.top::ni fr o)
 |.store _ a _=>iB (eD (fr.ev E a))
 |.mapUpdate _ m _ _|.insert _ m _ _=>iB (eD (fr.ev E m))
 |.call c=>match c.callee with
  |.builtin b=>match b with
   |.len|.cap|.min|.max=>jP (c.args.toList.flatMap fun x=>eD (fr.ev E x))
   |.append=>if fr.om then dV else ⟨false,false,c.args.toList.flatMap fun x=>eD (fr.ev E x),[.top]⟩
   |_=>dV
  |.value f=>if iO E fr o f=true then iB [.top] else match fr.ev E f with
   |.fn (.func g) a b=>if E.imp g then dV else if (a++c.args.toList.map (fr.ev E)++b).all (fun v=>aD (er v)) then jP [] else ⟨true,false,[],[]⟩
   |_=>dV
  |_=>dV
 |_=>dV
def oz (ops:List Oper) (o:Oper):List Key:=
 (o.op.operands.toList.filterMap fun|.tmp t=>some (.slot t)|_=>none)++
 match o.guard with
 |some (j,_)=>match (ops[j]?).bind (·.dst) with
  |some t=>[.slot t]
  |none=>[]
 |none=>[]
def ji (o:Oper):List Key:=match o.dst with
 |some t=>[.slot t]
 |none=>[]
def dA (ops:List Oper) (fr:Fr) (o:Oper) (wanted:Bool):bA:=
 if wanted then let f:=eZ E fr o;⟨f.pJ,f.lI,oz ops o++f.t,ji o++f.w⟩
 else ⟨false,false,oz ops o,ji o⟩
def clash (f g:bA):Bool:=
 (f.lI&& (g.pJ||g.lI||g.t.any Key.state||g.w.any Key.state))||f.w.any fun k=>k.eq .rest||g.t.any (·.eq k)||g.w.any (·.eq k)||(g.pJ||g.lI)&& k.state
def IC (f g:bA):Bool:= !clash f g&& !clash g f
def kP (ops:List Oper):List Nat:=
 ops.foldl (fun acc o=>acc++[o.after.toList.foldl (fun s e=>if Region.binds .any e then s|||2^e.on|||acc.getD e.on 0 else s) 0]) []
def sP (ms:List Nat) (fs:List bA):Bool:=
 (List.range fs.length).all fun i=>(List.range i).all fun j=>(ms.getD i 0).testBit j||IC (fs.getD i dV) (fs.getD j dV)
def ko (ops:List Oper):Bool:=
 (List.range ops.length).all fun i=>match ops[i]? with
   |some o=>o.after.toList.all fun e=> !Region.binds .any e||decide (e.on<i)
   |none=>true
def jQ (all:List Oper):Nat→List Oper→Fr→ah→Option (List bA×Fr×ah)
 |_,[],fr,σ=>some ([],fr,σ)
 |st,o::os,fr,σ=>
  (bS all fr o).bind fun t=>if t then (opC E S fr σ st o).bind fun (v,aP,σ)=>(jQ all (st+1) os (aP.put o.dst v) σ).map fun (fs,r)=>(dA E all fr o true::fs,r)
  else (jQ all (st+1) os (fr.put o.dst aA) σ).map fun (fs,r)=>(dA E all fr o false::fs,r)
def Ag (k:Key) (x y:Fr×ah):Prop:=
 match k with
 |.slot t=>x.1.tm t=y.1.tm t
 |.obj l=>x.2.obj l=y.2.obj l
 |.top=>x.2.top=y.2.top
 |.rest=>x.1.d=y.1.d∧x.1.om=y.1.om
 |.nx=>x.2.next=y.2.next∧x.2.loops=y.2.loops
def gL (ops:List Oper) (base i:Nat) (fr:Fr) (σ:ah):Option (Fr×ah):=
 match ops[i]? with
 |none=>some (fr,σ)
 |some o=>
  (bS ops fr o).bind fun t=>if t then (opC E S fr σ (base+i) o).map fun (v,fr,σ)=>(fr.put o.dst v,σ)
  else some (fr.put o.dst aA,σ)
def Free (ms:List Nat) (ops:List Oper) (base:Nat) (x y:Fr×ah):Prop:=
 ∃(s:Nat→Fr×ah) (T W:Nat→Key→Prop),s 0=x∧s ops.length=y∧(∀i k,W i k→T i k)∧
  (∀i,i<ops.length→∀x,(∀k,T i k→Ag k (s i) x)→∃y,gL E S ops base i x.1 x.2=some y∧(∀k,W i k→Ag k (s (i+1)) y)∧∀k,¬W i k→Ag k x y)∧
  (∀i,i<ops.length→∀k,¬W i k→Ag k (s i) (s (i+1)))∧
  ∀i j,i<ops.length→j<i→(ms.getD i 0).testBit j=true∨((∀k,¬(W i k∧T j k))∧∀k,¬(W j k∧T i k))
noncomputable def IE {α:Type} (p:Prop) (x:Option α):Option α:= @ite _ p (Classical.propDecidable p) x none
def yG:V→Bool
 |.fn (.func _) _ _=>true
 |_=>false
noncomputable def bN:Code→Fr→ah→Option (Ex×Fr×ah)
 |.skip,fr,σ=>some (.normal,fr,σ)
 |.region _ ops dr,fr,σ=>
  if dr then (jQ E S ops.toList σ.next ops.toList fr {σ with next:=σ.next+ops.toList.length}).bind fun (fs,fr',σ')=>if ko ops.toList&& sP (kP ops.toList) fs then some (.normal,fr',σ') else IE (ko ops.toList=true∧Free E S (kP ops.toList) ops.toList σ.next (fr,{σ with next:=σ.next+ops.toList.length}) (fr',σ')) (some (.normal,fr',σ'))
  else
  (opsE E S ops.toList σ.next ops.toList fr {σ with next:=σ.next+ops.toList.length}).map fun (fr,σ)=>(.normal,fr,σ)
 |.seq a b,fr,σ=>(bN a fr σ).bind fun (e,fr,σ)=>match e with
  |.normal=>bN b fr σ
  |e=>some (e,fr,σ)
 |.cond c a b,fr,σ=>(j6 (fr.ev E c)).bind fun t=>if t then bN a fr σ else bN b fr σ
 |.block id c,fr,σ=>(bN c fr σ).map fun (e,fr,σ)=>match e with
  |.exit i=>if i=id then (.normal,fr,σ) else (.exit i,fr,σ)
  |e=>(e,fr,σ)
 |.loop c,fr,σ=>(bN c fr σ).bind fun (e,fr,σ)=>match e with
  |.normal=>S.code (.loop c) fr σ
  |e=>some (e,fr,σ)
 |.scope c,fr,σ=>bN c fr σ
 |.label _,fr,σ=>some (.normal,fr,σ)
 |.exit id,fr,σ=>some (.exit id,fr,σ)
 |.ret,fr,σ=>some (.ret,fr,σ)
 |.rangeFunc f ps bB body,fr,σ=>
  if yG (fr.ev E f) then (gK E S fr.d ({σ with next:=σ.next+1}.dG σ.next {st:=0,pend:=none,fr:=fr,ps:=ps.toList,bB:=bB,body:=body}) (fr.ev E f) [.fn (.yield σ.next) [] []]).bind fun (_,σ2)=>
  (σ2.loops σ.next).bind fun r=>
  if r.st=1 then none else some ((match r.pend with|none=>.normal|some e=>e),fr,σ2.jL σ.next)
  else none
 |_,_,_=>none
def gU (fr:Fr) (σ:ah):ResultVar→Option V
 |.tmp t=>some (fr.tm t)
 |.cell a t=>match fr.tm a with
  |.ref loc s off=>(σ.bD loc s).bind fun cs=>eB E.P t cs off
  |_=>none
def oC (n:Nat) (ops:List Oper):Bool:=ops.all fun o=>match o.dst with
 |some d=>d<n
 |none=>true
def bO (n:Nat):Code→Bool
 |.region _ ops _=>oC n ops.toList
 |.seq a b=>bO n a&& bO n b
 |.cond _ a b=>bO n a&& bO n b
 |.block _ c=>bO n c
 |.loop c=>bO n c
 |.scope c=>bO n c
 |.rangeFunc _ ps a b=>ps.toList.all (· <n)&& bO n a&& bO n b&& eu a&& eu b
 |_=>true
noncomputable def uM (f:FuncId) (args:List V) (d:Nat) (σ:ah):Option (V×ah):=
 (E.P.funcs[f]?).bind fun fn=>fn.body.bind fun c=>
 if args.length≤fn.ntmps∧bO fn.ntmps c then
 (S.code c {d:=d,om:=E.om f,tm:=fun i=>args.getD i aA} σ).bind fun (e,fr,σ)=>
 match e with
 |.normal|.ret=>
  (fn.results.toList.mapM (gU E fr σ)).map fun vs=>(match vs with| [v]=>v|vs=>.aT vs,σ)
 |.exit _=>none
 else none
noncomputable def aX:Nat→dW
 |0=>⟨fun _ _ _=>none,fun _ _ _ _=>none⟩
 |n+1=>⟨bN E (aX n),uM E (aX n)⟩
end
end Aq
end
section
namespace Aq
open Go Go.RowKit
inductive yH where
 |obj (loc:Loc)
 |own (s:Nat)
 |loop (l:Nat)
structure aF where
 A:Nat→Prop
 blk:Nat→Nat
 sz:Nat→Nat
 ob:Nat→Nat
 lo:Nat→Nat
 hi:Nat→Nat
 lp:Nat→Nat
 I:Nat→Nat→Prop
 IM:Nat→Prop
 D:Nat→Prop
 ρ:Nat→Option yH
abbrev at_ (b o:Nat):Addr:=⟨b,o,none⟩
def l7 (K:aF) (T:Nat→Nat) (c:Cap) (n b o len cap:Nat):Prop:=
 match c with
 |.sh=>True
 |.full=>cap=len
 |.nil=>False
 |.own n' s=>n'=n∧K.A s∧len≤T s∧(len=T s→K.ob s=b∧K.lo s=o+len*n∧K.hi s=o+cap*n)
def Bz (K:aF) (T:Nat→Nat) (c:Cap):Prop:=
 match c with
 |.own _ s=>K.A s∧(T s=0→K.hi s=K.lo s)
 |_=>True
inductive Rel (K:aF) (T:Nat→Nat) (w:World):V→Value→Prop
 |int (k:IntKind) (n:Int):Rel K T w (.int k n) (.int k n)
 |bool (b:Bool):Rel K T w (.bool b) (.bool b)
 |str (s:List UInt8) (b:ByteArray) (h:b.data.toList=s):Rel K T w (.str s) (.string b)
 |dQ:Rel K T w .dQ (.pointer none)
 |dJ:Rel K T w .dJ .nilFunc
 |dF:Rel K T w .dF (.map none)
 |dK:Rel K T w .dK .nilIface
 |agg (cs:List V) (vs:Array Value) (hl:cs.length=vs.size) (h:∀i,i<cs.length→Rel K T w (cs.getD i aA) (vs.getD i undef)):Rel K T w (.agg cs) (.agg vs)
 |aT (cs:List V) (vs:Array Value) (hl:cs.length=vs.size) (h:∀i,i<cs.length→Rel K T w (cs.getD i aA) (vs.getD i undef)):Rel K T w (.aT cs) (.tuple vs)
 |bY (c:Cap) (a:Option Addr) (ha:c= .nil→a=none) (hc:Bz K T c):Rel K T w (.aj c []) (.slice a 0 0)
 |aj (c:Cap) (l:List V) (b o n cap:Nat) (val:Nat→Nat→Value) (hle:l.length≤cap)
   (hn:∀i,i<l.length→(l.getD i aA).cells.length=n)
   (hcell:∀i j,i<l.length→j<n→w.cell? (at_ b (o+i*n+j))=some (val i j)∧K.I b (o+i*n+j))
   (hrel:∀i j,i<l.length→j<n→Rel K T w ((l.getD i aA).cells.getD j aA) (val i j))
   (hc:l7 K T c n b o l.length cap):Rel K T w (.aj c l) (.slice (some (at_ b o)) l.length cap)
 |vw (loc:Loc) (s off len cap aL:Nat) (ag:Bool) (bI:Nat) (hA:K.A s) (hc:cap≤bI) (hle:len≤cap) (hsz:off+bI*aL≤K.sz s):
   Rel K T w (.vw loc s off len cap aL ag) (.slice (some (at_ (K.blk s) off)) len bI)
 |iQ (loc:Loc) (s aL:Nat) (ag:Bool) (hA:K.A s):Rel K T w (.vw loc s 0 0 0 aL ag) (.slice none 0 0)
 |aH (cs:List V) (off b o:Nat) (val:Nat→Value)
   (hcell:∀j,j<cs.length→w.cell? (at_ b (o+j))=some (val j)∧K.I b (o+j))
   (hrel:∀j,j<cs.length→Rel K T w (cs.getD j aA) (val j)):Rel K T w (.aH cs off) (.pointer (some (at_ b (o+off))))
 |ref (loc:Loc) (s off:Nat) (hA:K.A s):Rel K T w (.ref loc s off) (.pointer (some (at_ (K.blk s) off)))
 |fn (f:FuncId) (a b:List V) (av bv:Array Value) (ha:a.length=av.size) (hb:b.length=bv.size)
   (ra:∀i,i<a.length→Rel K T w (a.getD i aA) (av.getD i undef)) (rb:∀i,i<b.length→Rel K T w (b.getD i aA) (bv.getD i undef)):
   Rel K T w (.fn (.func f) a b) (.func (.func f) av bv)
 |yield (l:Nat) (hA:K.A l):Rel K T w (.fn (.yield l) [] []) (.func (.yield (K.lp l)) #[] #[])
 |bq (loc:Loc) (s:Nat) (hA:K.A s):Rel K T w (.bq loc s) (.map (some (K.blk s)))
 |bL (ks vs:List V) (b:Nat) (es:Array MapEntry) (aZ:Nat) (hM:K.IM b) (hb:w.heap[b]? =some (.map es aZ))
   (hk:ks.length=es.size) (hv:vs.length=es.size)
   (rk:∀i,i<es.size→Rel K T w (ks.getD i aA) (es.getD i default).key) (rv:∀i,i<es.size→Rel K T w (vs.getD i aA) (es.getD i default).val):
   Rel K T w (.bL ks vs) (.map (some b))
 |iface (t:TypeId) (v:V) (c:Value) (h:Rel K T w v c):Rel K T w (.iface t v) (.iface t c)
 |raw (v:Value):Rel K T w (.raw v) v
structure Ext (K:aF) (T:Nat→Nat) (w:World) (K':aF) (T':Nat→Nat) (w':World):Prop where
 A:∀s,K.A s→K'.A s∧K'.blk s=K.blk s∧K'.lp s=K.lp s∧K'.sz s=K.sz s
 own:∀s,K.A s→(T' s=T s∧K'.ob s=K.ob s∧K'.lo s=K.lo s∧K'.hi s=K.hi s)∨T s<T' s
 I:∀b o,K.I b o→K'.I b o∧w'.cell? (at_ b o)=w.cell? (at_ b o)
 IM:∀b,K.IM b→K'.IM b∧w'.heap[b]? =w.heap[b]?
theorem Ext.refl (K:aF) (T:Nat→Nat) (w:World):Ext K T w K T w:=
 ⟨fun _ h=>⟨h,rfl,rfl,rfl⟩,fun _ _=>.inl ⟨rfl,rfl,rfl,rfl⟩,fun _ _ h=>⟨h,rfl⟩,fun _ h=>⟨h,rfl⟩⟩
theorem Ext.trans {K T w K1 T1 w1 K2 T2 w2} (h:Ext K T w K1 T1 w1) (g:Ext K1 T1 w1 K2 T2 w2):Ext K T w K2 T2 w2 where
 A s hs:=by
   obtain⟨a,b,c,d⟩:=h.A s hs
   obtain⟨a',b',c',d'⟩:=g.A s a
   exact⟨a',b'.trans b,c'.trans c,d'.trans d⟩
 own s hs:=by
  obtain⟨a,_,_,_⟩:=h.A s hs
  rcases h.own s hs with ⟨h1,h2,h3,h4⟩|h1
  ·rcases g.own s a with ⟨g1,g2,g3,g4⟩|g1
   ·exact .inl ⟨g1.trans h1,g2.trans h2,g3.trans h3,g4.trans h4⟩
   ·exact .inr (by omega)
  ·rcases g.own s a with ⟨g1,_⟩|g1
   ·exact .inr (by omega)
   ·exact .inr (by omega)
 I b o hb:=by
   obtain⟨a,e⟩:=h.I b o hb
   obtain⟨a',e'⟩:=g.I b o a
   exact⟨a',e'.trans e⟩
 IM b hb:=by
  obtain⟨a,e⟩:=h.IM b hb
  obtain⟨a',e'⟩:=g.IM b a
  exact⟨a',e'.trans e⟩
theorem l7.ext {K T w K' T' w'} (e:Ext K T w K' T' w') {c:Cap} {n b o len cap:Nat} (h:l7 K T c n b o len cap):l7 K' T' c n b o len cap:=by
 cases c with
 |sh=>trivial
 |full=>exact h
 |nil=>exact h
 |own n' s=>
  obtain⟨h1,h2,h3,h4⟩:=h
  refine⟨h1,(e.A s h2).1, ?_, ?_⟩
  ·rcases e.own s h2 with ⟨e1,_⟩|e1<;>omega
  ·intro hl
   rcases e.own s h2 with ⟨e1,e2,e3,e4⟩|e1
   ·rw[e2,e3,e4];exact h4 (by omega)
   ·omega
theorem Bz.ext {K T w K' T' w'} (e:Ext K T w K' T' w') {c:Cap} (h:Bz K T c):Bz K' T' c:=by
 cases c with
 |own n' s=>
  refine⟨(e.A s h.1).1,fun h0=> ?_⟩
  rcases e.own s h.1 with ⟨e1,_,e3,e4⟩|e1
  ·rw[e3,e4];exact h.2 (by omega)
  ·omega
 |_=>trivial
theorem Rel.ext {K T w K' T' w'} (e:Ext K T w K' T' w') {v:V} {c:Value} (h:Rel K T w v c):Rel K' T' w' v c:=by
 induction h with
 |int k n=>exact .int k n
 |bool b=>exact .bool b
 |str s b h=>exact .str s b h
 |dQ=>exact .dQ
 |dJ=>exact .dJ
 |dF=>exact .dF
 |dK=>exact .dK
 |agg cs vs hl _ ih=>exact .agg cs vs hl ih
 |aT cs vs hl _ ih=>exact .aT cs vs hl ih
 |bY c a ha hc=>exact .bY c a ha (hc.ext e)
 |aj c l b o n cap val hle hn hcell _ hc ih=>
  refine .aj c l b o n cap val hle hn (fun i j hi hj=> ?_) ih (hc.ext e)
  obtain⟨h1,h2⟩:=hcell i j hi hj
  obtain⟨g1,g2⟩:=e.I _ _ h2
  exact⟨g2.trans h1,g1⟩
 |vw loc s off len cap aL ag bI hA hc hle hsz=>
  have:=(e.A s hA);rw[←this.2.1];exact .vw loc s off len cap aL ag bI this.1 hc hle (by rw[this.2.2.2];exact hsz)
 |iQ loc s aL ag hA=>exact .iQ loc s aL ag (e.A s hA).1
 |aH cs off b o val hcell _ ih=>
  refine .aH cs off b o val (fun j hj=> ?_) ih
  obtain⟨h1,h2⟩:=hcell j hj
  obtain⟨g1,g2⟩:=e.I _ _ h2
  exact⟨g2.trans h1,g1⟩
 |ref loc s off hA=>have:=(e.A s hA);rw[←this.2.1];exact .ref loc s off this.1
 |fn f a b av bv ha hb _ _ iha ihb=>exact .fn f a b av bv ha hb iha ihb
 |yield l hA=>have:=(e.A l hA);rw[←this.2.2.1];exact .yield l this.1
 |bq loc s hA=>have:=(e.A s hA);rw[←this.2.1];exact .bq loc s this.1
 |bL ks vs b es aZ hM hb hk hv _ _ ihk BA=>
  obtain⟨g1,g2⟩:=e.IM b hM
  exact .bL ks vs b es aZ g1 (g2.trans hb) hk hv ihk BA
 |iface t v c _ ih=>exact .iface t v c ih
 |raw v=>exact .raw v
theorem Rel.undef (K T w):Rel K T w aA undef:=.aT [] #[] rfl (fun i hi=>absurd hi (Nat.not_lt_zero i))
end Aq
end
section
namespace Aq
open Go Go.RowKit
def eO.real:eO→Prop
 |.cells []=>False
 |_=>True
def yI (K:aF) (T:Nat→Nat) (w:World) (B0 s:Nat):eO→Prop
 |.cells cs=>(cs=[]→K.sz s=0)∧(cs≠[]→B0≤K.blk s∧∃vals t,w.heap[K.blk s]? =some (.cells vals t (0,0))∧vals.size=K.sz s∧cs.length≤vals.size∧
    ∀i,i<cs.length→Rel K T w (cs.getD i aA) (vals.getD i undef))
 |.map ks vs=>B0≤K.blk s∧∃es aZ,w.heap[K.blk s]? =some (.map es aZ)∧ks.length=es.size∧vs.length=es.size∧
    (∀i,i<es.size→Rel K T w (ks.getD i aA) (es.getD i default).key)∧(∀i,i<es.size→Rel K T w (vs.getD i aA) (es.getD i default).val)
def fG (K:aF) (T:Nat→Nat) (w:World) (fr:Fr) (tmps:Array Value):Prop:=∀t,Rel K T w (fr.tm t) (tmps.getD t undef)
def kQ:Ex→Option Code
 |.normal=>none
 |.exit i=>some (.exit i)
 |.ret=>some .ret
def kr (n:Nat):LoopState:=if n=0 then .ready else if n=1 then .busy else .done
def BD (K:aF) (T:Nat→Nat) (w:World) (B0 l:Nat) (r:lu):Prop:=
 B0≤K.lp l∧K.ρ (K.lp l)=some (.loop l)∧∃(fn:FuncId) (tmps:Array Value) (D:Nat),
  w.heap[K.lp l]? =some (.loop {state:=kr r.st,pending:=r.pend.bind kQ,fn:=fn,tmps:=tmps,params:=r.ps.toArray,assign:=r.bB,body:=r.body,defers:=D})∧
  fG K T w r.fr tmps∧bO tmps.size r.bB=true∧bO tmps.size r.body=true∧(∀p∈r.ps,p<tmps.size)∧eu r.bB=true∧eu r.body=true
def IG (K:aF) (w:World) (B0 s:Nat):Prop:=
 B0≤K.ob s∧K.ρ (K.ob s)=some (.own s)∧∀o,K.lo s≤o→o<K.hi s→¬K.I (K.ob s) o∧(∃v,w.cell? (at_ (K.ob s) o)=some v)∧w.frozen? (at_ (K.ob s) o)=false
structure aM (E:Env) (B0:Nat) (σ:ah) (K:aF) (w:World):Prop where
 obj:∀loc s ob,σ.obj loc=some (s,ob)→K.A s∧yI K σ.top w B0 s ob∧(ob.real→K.ρ (K.blk s)=some (.obj loc))
 own:∀s,K.A s→K.lo s<K.hi s→IG K w B0 s
 I:∀b o,K.I b o→(∃v,w.cell? (at_ b o)=some v)∧∀loc,K.ρ b≠some (.obj loc)
 IM:∀b,K.IM b→(∃es aZ,w.heap[b]? =some (.map es aZ))∧∀loc,K.ρ b≠some (.obj loc)
 loop:∀l r,σ.loops l=some r→K.A l∧BD K σ.top w B0 l r
 glob:∀g cs,E.glob g=some cs→Rel K σ.top w (.aH cs 0) (.pointer (some (at_ g 0)))
 rb:∀b r,K.ρ b=some r→b<w.heap.size∧B0≤b
 D:∀b,K.D b→w.heap[b]? =some (.deferred (some []))
structure Only (b:Nat) (w w':World):Prop where
 os:w'.os=w.os
 tape:w'.tape=w.tape
 output:w'.output=w.output
 size:w.heap.size≤w'.heap.size
 block:∀k,k≠b→k<w.heap.size→w'.heap[k]? =w.heap[k]?
theorem Only.below {b B0:Nat} {w w':World} (h:Only b w w') (hb:B0≤b) (hB:B0≤w.heap.size):Below B0 w w':=
 ⟨h.os,h.tape,h.output,h.size,fun k hk=>h.block k (by omega) (by omega)⟩
theorem cell_of_heap {w w':World} {b o:Nat} (h:w'.heap[b]? =w.heap[b]?):w'.cell? (at_ b o)=w.cell? (at_ b o):=by
 simp[World.cell?,h]
theorem frozen_of_heap {w w':World} {b o:Nat} (h:w'.heap[b]? =w.heap[b]?):w'.frozen? (at_ b o)=w.frozen? (at_ b o):=by
 simp[World.frozen?,h]
theorem lt_of_cell {w:World} {b o:Nat} {v:Value} (h:w.cell? (at_ b o)=some v):b<w.heap.size:=World.block_lt_of_cell? w (at_ b o) h
theorem lt_of_heap {w:World} {b:Nat} {o:Obj} (h:w.heap[b]? =some o):b<w.heap.size:=(Array.getElem?_eq_some_iff.1 h).1
theorem fG.ext {K T w K' T' w'} (e:Ext K T w K' T' w') {fr:Fr} {tmps:Array Value} (h:fG K T w fr tmps):fG K' T' w' fr tmps:=fun t=>(h t).ext e
theorem yI.ext {K T w K' T' w'} (e:Ext K T w K' T' w') {B0 s:Nat} (hA:K.A s) {ob:eO} (h:yI K T w B0 s ob) (hb:ob.real→w'.heap[K.blk s]? =w.heap[K.blk s]?):
 yI K' T' w' B0 s ob:=by
 obtain⟨_,e2,_,e4⟩:=e.A s hA
 cases ob with
 |cells cs=>
  refine⟨fun h0=>by rw[e4];exact h.1 h0,fun hne=> ?_⟩
  obtain⟨h1,vals,t,h2,h3,h4,h5⟩:=h.2 hne
  have hb':=hb (by cases cs with|nil=>exact absurd rfl hne|cons _ _=>trivial)
  refine⟨by rw[e2];exact h1,vals,t,by rw[e2,hb',h2],by rw[e4];exact h3,h4,fun i hi=>(h5 i hi).ext e⟩
 |map ks vs=>
  obtain⟨h1,es,aZ,h2,h3,h4,h5,h6⟩:=h
  exact⟨by rw[e2];exact h1,es,aZ,by rw[e2,hb trivial,h2],h3,h4,fun i hi=>(h5 i hi).ext e,fun i hi=>(h6 i hi).ext e⟩
theorem BD.ext {K T w K' T' w'} (e:Ext K T w K' T' w') {B0 l:Nat} (hA:K.A l) {r:lu} (h:BD K T w B0 l r) (hb:w'.heap[K.lp l]? =w.heap[K.lp l]?) (hρ:K'.ρ (K.lp l)=K.ρ (K.lp l)):
 BD K' T' w' B0 l r:=by
 obtain⟨_,_,e3,_⟩:=e.A l hA
 obtain⟨h1,hr,fn,tmps,D,h2,h3,h4⟩:=h
 exact⟨by rw[e3];exact h1,by rw[e3,hρ];exact hr,fn,tmps,D,by rw[e3,hb,h2],h3.ext e,h4⟩
theorem aM.upd {E:Env} {B0 b:Nat} {σ σ':ah} {K K':aF} {w w':World} (h:aM E B0 σ K w) (ho:Only b w w') (e:Ext K σ.top w K' σ'.top w')
 (hρ:∀k,k≠b→K'.ρ k=K.ρ k) (WU:∀r,K'.ρ b=some r→b<w'.heap.size∧B0≤b)
 (EH:∀loc s ob,σ'.obj loc=some (s,ob)→(σ.obj loc=some (s,ob)∧(ob.real→K.blk s≠b))∨
   (K'.A s∧yI K' σ'.top w' B0 s ob∧(ob.real→K'.ρ (K'.blk s)=some (.obj loc))))
 (hown:∀s,K'.A s→K'.lo s<K'.hi s→(K.A s∧K'.lo s=K.lo s∧K'.hi s=K.hi s∧K'.ob s=K.ob s∧K.ob s≠b)∨IG K' w' B0 s)
 (hI:∀b' o,K'.I b' o→(K.I b' o∧b'≠b)∨(b'=b∧(∃v,w'.cell? (at_ b o)=some v)∧∀loc,K'.ρ b≠some (.obj loc)))
 (II:∀b',K'.IM b'→(K.IM b'∧b'≠b)∨(b'=b∧(∃es aZ,w'.heap[b]? =some (.map es aZ))∧∀loc,K'.ρ b≠some (.obj loc)))
 (hloop:∀l r,σ'.loops l=some r→(σ.loops l=some r∧K.lp l≠b)∨(K'.A l∧BD K' σ'.top w' B0 l r))
 (hD:∀b',K'.D b'→(K.D b'∧b'≠b)∨(b'=b∧w'.heap[b]? =some (.deferred (some [])))):aM E B0 σ' K' w' where
 obj loc s ob hs:=by
  rcases EH loc s ob hs with ⟨h1,h2⟩|h1
  ·obtain⟨a1,a2,a3⟩:=h.obj loc s ob h1
   obtain⟨e1,e2,_,_⟩:=e.A s a1
   refine⟨e1,a2.ext e a1 (fun hr=>ho.block _ (h2 hr) (h.rb _ _ (a3 hr)).1),fun hr=> ?_⟩
   rw[e2,hρ _ (h2 hr)];exact a3 hr
  ·exact h1
 own s hs hlt:=by
  rcases hown s hs hlt with ⟨h1,h2,h3,h4,h5⟩|h1
  ·obtain⟨a1,a2,a3⟩:=h.own s h1 (by omega)
   refine⟨by rw[h4];exact a1,by rw[h4,hρ _ h5];exact a2,fun o hl hh=> ?_⟩
   obtain⟨c1,⟨v,c2⟩,c3⟩:=a3 o (by omega) (by omega)
   have hb:=ho.block _ h5 (lt_of_cell c2)
   rw[h4]
   refine⟨fun hi=> ?_,⟨v,by rw[cell_of_heap hb];exact c2⟩,by rw[frozen_of_heap hb];exact c3⟩
   rcases hI _ _ hi with ⟨g,_⟩| ⟨g,_⟩
   ·exact c1 g
   ·exact h5 g
  ·exact h1
 I b' o hi:=by
   rcases hI b' o hi with ⟨h1,h2⟩| ⟨h1,h2,h3⟩
   ·obtain⟨⟨v,c⟩,r⟩:=h.I b' o h1
    exact⟨⟨v,by rw[cell_of_heap (ho.block _ h2 (lt_of_cell c))];exact c⟩,by rw[hρ _ h2];exact r⟩
   ·subst h1;exact⟨h2,h3⟩
 IM b' hi:=by
  rcases II b' hi with ⟨h1,h2⟩| ⟨h1,h2,h3⟩
  ·obtain⟨⟨es,aZ,c⟩,r⟩:=h.IM b' h1
   exact⟨⟨es,aZ,by rw[ho.block _ h2 (lt_of_heap c)];exact c⟩,by rw[hρ _ h2];exact r⟩
  ·subst h1;exact⟨h2,h3⟩
 loop l r hl:=by
  rcases hloop l r hl with ⟨h1,h2⟩|h1
  ·obtain⟨a1,a2⟩:=h.loop l r h1
   refine⟨(e.A l a1).1,a2.ext e a1 (ho.block _ h2 (h.rb _ _ a2.2.1).1) (hρ _ h2)⟩
  ·exact h1
 glob g cs hg:=(h.glob g cs hg).ext e
 rb b' r hr:=by
  by_cases hb:b'=b
  ·subst hb;exact WU r hr
  ·rw[hρ _ hb] at hr
   have:=h.rb b' r hr
   exact⟨Nat.lt_of_lt_of_le this.1 ho.size,this.2⟩
 D b' hd:=by
   rcases hD b' hd with ⟨h1,h2⟩| ⟨h1,h2⟩
   ·have:=h.D b' h1
    rw[ho.block _ h2 (lt_of_heap this)];exact this
   ·rw[h1];exact h2
theorem aM.same {E:Env} {B0:Nat} {σ:ah} {K:aF} {w w':World} (h:aM E B0 σ K w) (hh:w'.heap=w.heap):aM E B0 σ K w':=by
 have e:Ext K σ.top w K σ.top w':=⟨fun _ h=>⟨h,rfl,rfl,rfl⟩,fun _ _=>.inl ⟨rfl,rfl,rfl,rfl⟩,fun b o h=>⟨h,cell_of_heap (by rw[hh])⟩,fun b h=>⟨h,by rw[hh]⟩⟩
 refine⟨fun loc s ob hs=> ?_,fun s hs hl=> ?_,fun b o hi=> ?_,fun b hi=> ?_,fun l r hl=> ?_,fun g cs hg=>(h.glob g cs hg).ext e,fun b r hr=>by rw[hh];exact h.rb b r hr,fun b hb=>by rw[hh];exact h.D b hb⟩
 ·obtain⟨a1,a2,a3⟩:=h.obj loc s ob hs
  exact⟨a1,a2.ext e a1 (fun _=>by rw[hh]),a3⟩
 ·obtain⟨a1,a2,a3⟩:=h.own s hs hl
  exact⟨a1,a2,fun o p q=>⟨(a3 o p q).1,by rw[cell_of_heap (w:=w) (by rw[hh])];exact(a3 o p q).2.1,by rw[frozen_of_heap (w:=w) (by rw[hh])];exact(a3 o p q).2.2⟩⟩
 ·obtain⟨a1,a2⟩:=h.I b o hi
  exact⟨by rw[cell_of_heap (w:=w) (by rw[hh])];exact a1,a2⟩
 ·obtain⟨a1,a2⟩:=h.IM b hi
  exact⟨by rw[hh];exact a1,a2⟩
 ·obtain⟨a1,a2⟩:=h.loop l r hl
  exact⟨a1,a2.ext e a1 (by rw[hh]) rfl⟩
structure Step (E:Env) (B0:Nat) (new:Nat→Prop) (σ:ah) (K:aF) (w:World) (σ':ah) (K':aF) (w':World):Prop where
 ok:aM E B0 σ' K' w'
 ext:Ext K σ.top w K' σ'.top w'
 below:Below B0 w w'
 D:∀b,K.D b→K'.D b
 A:∀s,K'.A s→K.A s∨new s
 nI:∀b o,K'.I b o→K.I b o∨B0≤b
 nk:∀b,K'.IM b→K.IM b∨B0≤b
theorem Step.refl {E B0 new σ K w} (h:aM E B0 σ K w):Step E B0 new σ K w σ K w:=
 ⟨h,.refl _ _ _,.refl _ _,fun _ h=>h,fun _ h=>.inl h,fun _ _ h=>.inl h,fun _ h=>.inl h⟩
theorem Step.trans {E B0 new σ K w σ1 K1 w1 σ2 K2 w2} (h:Step E B0 new σ K w σ1 K1 w1) (g:Step E B0 new σ1 K1 w1 σ2 K2 w2):Step E B0 new σ K w σ2 K2 w2:=
 ⟨g.ok,h.ext.trans g.ext,h.below.trans g.below,fun b hb=>g.D b (h.D b hb),
   fun s hs=>(g.A s hs).elim (h.A s) .inr,fun b o hi=>(g.nI b o hi).elim (h.nI b o) .inr,fun b hi=>(g.nk b hi).elim (h.nk b) .inr⟩
theorem Step.mono {E B0 new new' σ K w σ1 K1 w1} (h:Step E B0 new σ K w σ1 K1 w1) (hn:∀s,new s→new' s):Step E B0 new' σ K w σ1 K1 w1:=
 ⟨h.ok,h.ext,h.below,h.D,fun s hs=>(h.A s hs).imp id (hn s),h.nI,h.nk⟩
theorem Step.same {E B0 new σ K w w'} (h:aM E B0 σ K w) (hh:w'.heap=w.heap) (h1:w'.os=w.os) (h2:w'.tape=w.tape) (h3:w'.output=w.output):Step E B0 new σ K w σ K w':=
 ⟨h.same hh,⟨fun _ h=>⟨h,rfl,rfl,rfl⟩,fun _ _=>.inl ⟨rfl,rfl,rfl,rfl⟩,fun b o h=>⟨h,cell_of_heap (by rw[hh])⟩,fun b h=>⟨h,by rw[hh]⟩⟩,
   ⟨h1,h2,h3,by rw[hh];exact Nat.le_refl _,fun k _=>by rw[hh]⟩,fun b h=>h,fun _ h=>.inl h,fun _ _ h=>.inl h,fun _ h=>.inl h⟩
theorem wG (w:World) (o:Obj):Only w.heap.size w (w.alloc o):=
 ⟨rfl,rfl,rfl,by simp,fun k hk hl=>by show (w.heap.push o)[k]? =_;rw[Array.getElem?_push,if_neg hk]⟩
theorem heap_alloc_new (w:World) (o:Obj):(w.alloc o).heap[w.heap.size]? =some o:=by show (w.heap.push o)[w.heap.size]? =_;simp
theorem heap_alloc_old {w:World} {o:Obj} {k:Nat} (h:k<w.heap.size):(w.alloc o).heap[k]? =w.heap[k]? :=by
 show (w.heap.push o)[k]? =_;rw[Array.getElem?_push,if_neg (by omega)]
theorem EI {w:World} {o:Obj} {b i:Nat} {v:Value} (h:w.cell? (at_ b i)=some v):(w.alloc o).cell? (at_ b i)=some v:=by
 rw[cell_of_heap (heap_alloc_old (lt_of_cell h))];exact h
def aF.iC (K:aF) (st b n:Nat) (loc:Loc):aF:=
 {K with A:=fun s=>K.A s∨s=st,blk:=upd K.blk st b,sz:=upd K.sz st n,lo:=upd K.lo st 0,hi:=upd K.hi st 0,ρ:=upd K.ρ b (some (.obj loc))}
theorem upd_same {κ α:Type} [DecidableEq κ] (f:κ→α) (k:κ) (v:α):upd f k v k=v:=by simp[upd]
theorem upd_ne {κ α:Type} [DecidableEq κ] (f:κ→α) {k j:κ} (v:α) (h:j≠k):upd f k v j=f j:=by simp[upd,h]
theorem Step.EJ {E B0 σ K w} (h:aM E B0 σ K w) (hB:B0≤w.heap.size) {st:Nat} (hst:¬K.A st) (loc:Loc) (ob:eO) (o:Obj) (n:Nat)
 (fV:∀K',Ext K σ.top w K' σ.top (w.alloc o)→K'.A st→K'.blk st=w.heap.size→K'.sz st=n→yI K' σ.top (w.alloc o) B0 st ob):
 Step E B0 (· =st) σ K w (σ.setObj loc st ob) (K.iC st w.heap.size n loc) (w.alloc o):=by
 have hne:∀s,K.A s→s≠st:=fun s hs e=>hst (e▸hs)
 have e:Ext K σ.top w (K.iC st w.heap.size n loc) σ.top (w.alloc o):=by
  refine⟨fun s hs=>⟨.inl hs,upd_ne _ _ (hne s hs),rfl,upd_ne _ _ (hne s hs)⟩,fun s hs=>.inl ⟨rfl,rfl,upd_ne _ _ (hne s hs),upd_ne _ _ (hne s hs)⟩,fun b i hi=>⟨hi, ?_⟩,fun b hb=>⟨hb, ?_⟩⟩
  ·obtain⟨⟨v,hv⟩,_⟩:=h.I b i hi
   rw[hv];exact EI hv
  ·obtain⟨⟨es,aZ,hv⟩,_⟩:=h.IM b hb
   exact heap_alloc_old (lt_of_heap hv)
 refine⟨?_,e,(wG w o).below hB hB,fun b hb=>hb,fun s hs=>hs,fun _ _ hi=>.inl hi,fun _ hi=>.inl hi⟩
 refine h.upd (σ':=σ.setObj loc st ob) (wG w o) e (fun k hk=>upd_ne _ _ hk) (fun r _=>⟨by simp,hB⟩) ?_ ?_ ?_ ?_ ?_ ?_
 ·intro loc' s' yJ hs
  by_cases hl:loc'=loc
  ·subst hl
   right
   simp only[ah.setObj,upd_same,Option.some.injEq,Prod.mk.injEq] at hs
   obtain⟨rfl,rfl⟩:=hs
   exact⟨.inr rfl,fV _ e (.inr rfl) (upd_same _ _ _) (upd_same _ _ _),fun _=>by
    show upd K.ρ w.heap.size _ (upd K.blk st w.heap.size st)=_
    rw[upd_same,upd_same]⟩
  ·left
   simp only[ah.setObj,upd_ne _ _ hl] at hs
   refine⟨hs,fun hr=> ?_⟩
   have:=(h.rb _ _ ((h.obj _ _ _ hs).2.2 hr)).1
   omega
 ·intro s hs hlt
  left
  have hs':s≠st:=by
   rintro rfl
   simp only[aF.iC,upd_same] at hlt
   omega
  have hA:K.A s:=hs.resolve_right hs'
  simp only[aF.iC,upd_ne _ _ hs'] at hlt
  refine⟨hA,upd_ne _ _ hs',upd_ne _ _ hs',rfl, ?_⟩
  have:=(h.rb _ _ (h.own s hA hlt).2.1).1
  omega
 ·intro b' i hi
  obtain⟨⟨v,hv⟩,_⟩:=h.I b' i hi
  exact .inl ⟨hi,Nat.ne_of_lt (lt_of_cell hv)⟩
 ·intro b' hi
  obtain⟨⟨es,aZ,hv⟩,_⟩:=h.IM b' hi
  exact .inl ⟨hi,Nat.ne_of_lt (lt_of_heap hv)⟩
 ·intro l r hl
  refine .inl ⟨hl, ?_⟩
  have:=(h.rb _ _ (h.loop l r hl).2.2.1).1
  omega
 ·intro b' hd
  exact .inl ⟨hd,Nat.ne_of_lt (lt_of_heap (h.D b' hd))⟩
theorem kR {w:World} {a b:Nat} {x y:Obj} (h:w.heap[a]? =some x) (g:w.heap[b]? =some y) (hxy:x≠y):a≠b:=by
 rintro rfl
 exact hxy (Option.some.inj (h.symm.trans g))
theorem aM.bD {E B0 σ K w} (h:aM E B0 σ K w) {loc s cs} (hc:σ.bD loc s=some cs):σ.obj loc=some (s,.cells cs)∧K.A s∧cs.length≤K.sz s∨cs=[]∧σ.obj loc=some (s,.cells cs)∧K.A s:=by
 unfold ah.bD at hc
 split at hc
 ·rename_i s' cs' ho
  split at hc
  ·rename_i hs
   subst hs
   simp only[Option.some.injEq] at hc;subst hc
   obtain⟨a1,a2,a3⟩:=h.obj _ _ _ ho
   by_cases hne:cs'=[]
   ·exact .inr ⟨hne,ho,a1⟩
   ·obtain⟨_,vals,t,g1,g2,g3,g4⟩:=a2.2 hne
    exact .inl ⟨ho,a1,by omega⟩
  ·simp at hc
 ·simp at hc
theorem aM.oD {E B0 σ K w} (h:aM E B0 σ K w) {loc s cs} (hc:σ.bD loc s=some cs):σ.obj loc=some (s,.cells cs)∧K.A s∧cs.length≤K.sz s:=by
 rcases h.bD hc with h| ⟨rfl,h1,h2⟩
 ·exact h
 ·exact⟨h1,h2,by simp⟩
theorem aM.Oj {E B0 σ K w} (h:aM E B0 σ K w) {l r} (hl:σ.loops l=some r) {b:Nat} {vals t f} (hb:w.heap[b]? =some (.cells vals t f)):K.lp l≠b:=by
 obtain⟨_,_,_,fn,tmps,D,hh,_⟩:=h.loop l r hl
 exact kR hh hb (by simp)
theorem aM.IJ {E B0 σ K w} (h:aM E B0 σ K w) {loc s ob loc' s' yJ} (h1:σ.obj loc=some (s,ob)) (h2:σ.obj loc'=some (s',yJ)) (hne:loc≠loc') (hr:ob.real) (hr':yJ.real):
 K.blk s≠K.blk s':=by
 intro e
 have a:=(h.obj _ _ _ h1).2.2 hr
 have b:=(h.obj _ _ _ h2).2.2 hr'
 rw[e,b] at a
 exact hne (by injection a with a;injection a with a;exact a.symm)
theorem aM.IK {E B0 σ K w w'} (h:aM E B0 σ K w) {loc s ob} (hs:σ.obj loc=some (s,ob)) (hr:ob.real) (ho:Only (K.blk s) w w') (T':Nat→Nat) (hT:T'=σ.top):Ext K σ.top w K T' w':=by
 subst hT
 have hρ:=(h.obj _ _ _ hs).2.2 hr
 refine⟨fun _ h=>⟨h,rfl,rfl,rfl⟩,fun _ _=>.inl ⟨rfl,rfl,rfl,rfl⟩,fun b i hi=>⟨hi, ?_⟩,fun b hb=>⟨hb, ?_⟩⟩
 ·obtain⟨⟨v,hv⟩,hn⟩:=h.I b i hi
  exact cell_of_heap (ho.block b (fun e=>hn loc (e▸hρ)) (lt_of_cell hv))
 ·obtain⟨⟨es,aZ,hv⟩,hn⟩:=h.IM b hb
  exact ho.block b (fun e=>hn loc (e▸hρ)) (lt_of_heap hv)
theorem Step.setCells {E B0 new σ K w w'} (h:aM E B0 σ K w) (hB:B0≤w.heap.size) {loc:Loc} {s:Nat} {cs cs':List V} {vals vals':Array Value} {t t':TypeId}
 (hs:σ.obj loc=some (s,.cells cs)) (hne:cs≠[]) (hv:w.heap[K.blk s]? =some (.cells vals t (0,0))) (ho:Only (K.blk s) w w')
 (hv':w'.heap[K.blk s]? =some (.cells vals' t' (0,0))) (hsz:vals'.size=vals.size) (hne':cs'≠[]) (hl:cs'.length≤vals'.size)
 (hr:Ext K σ.top w K σ.top w'→∀i,i<cs'.length→Rel K σ.top w' (cs'.getD i aA) (vals'.getD i undef)):
 Step E B0 new σ K w (σ.setObj loc s (.cells cs')) K w':=by
 have iD:(eO.cells cs).real:=by cases cs with|nil=>exact absurd rfl hne|cons _ _=>trivial
 obtain⟨hA,fV,hρ⟩:=h.obj _ _ _ hs
 obtain⟨hb0,Ol,t0,g1,g2,g3,g4⟩:=fV.2 hne
 have hvv:vals=Ol:=by rw[hv] at g1;simpa using And.left (by simpa using g1)
 have e:=h.IK hs iD ho σ.top rfl
 refine⟨?_,e,ho.below hb0 hB,fun _ h=>h,fun _ h=>.inl h,fun _ _ h=>.inl h,fun _ h=>.inl h⟩
 refine h.upd (σ':=σ.setObj loc s (.cells cs')) ho e (fun _ _=>rfl) (fun r hr'=>⟨Nat.lt_of_lt_of_le (h.rb _ r hr').1 ho.size,hb0⟩) ?_ ?_ ?_ ?_ ?_ ?_
 ·intro loc' s' yJ hs'
  by_cases hl':loc'=loc
  ·subst hl'
   right
   simp only[ah.setObj,upd_same,Option.some.injEq,Prod.mk.injEq] at hs'
   obtain⟨rfl,rfl⟩:=hs'
   exact⟨hA,⟨fun h0=>absurd h0 hne',fun _=>⟨hb0,vals',t',hv',by rw[hsz,hvv,g2],hl,hr e⟩⟩,fun _=>hρ iD⟩
  ·left
   simp only[ah.setObj,upd_ne _ _ hl'] at hs'
   exact⟨hs',fun hr'=>h.IJ hs' hs hl' hr' iD⟩
 ·intro s' hs' hlt
  have ⟨a1,a2,a3⟩:=h.own s' hs' hlt
  refine .inl ⟨hs',rfl,rfl,rfl,fun e'=> ?_⟩
  rw[e',hρ iD] at a2
  cases a2
 ·intro b' i hi
  exact .inl ⟨hi,fun e'=>(h.I b' i hi).2 loc (e'▸hρ iD)⟩
 ·intro b' hi
  exact .inl ⟨hi,fun e'=>(h.IM b' hi).2 loc (e'▸hρ iD)⟩
 ·intro l r hl'
  exact .inl ⟨hl',h.Oj hl' hv⟩
 ·intro b' hd
  exact .inl ⟨hd,kR (h.D b' hd) hv (by simp)⟩
end Aq
end
section
namespace Aq
open Go Go.RowKit
def aF.wH (K:aF) (b n:Nat):aF:={K with I:=fun b' o=>K.I b' o∨(b'=b∧o<n)}
theorem aM.Om {E B0 σ K w} (h:aM E B0 σ K w):K.ρ w.heap.size=none:=by
 cases hr:K.ρ w.heap.size with
 |none=>rfl
 |some r=>have:=(h.rb _ _ hr).1;omega
theorem BF {w:World} {vals:Array Value} {t:TypeId} {fz:Nat×Nat} {i:Nat} (hi:i<vals.size):
 (w.alloc (.cells vals t fz)).cell? (at_ w.heap.size i)=some (vals.getD i undef):=by
 have hh:(w.alloc (.cells vals t fz)).heap[w.heap.size]? =some (.cells vals t fz):=heap_alloc_new w _
 unfold World.cell?
 simp only[hh]
 simp[hi]
theorem Step.Oo {E B0 new σ K w w'} (h:aM E B0 σ K w) (hB:B0≤w.heap.size) (ho:Only w.heap.size w w') {vals:Array Value} {t:TypeId} {fz:Nat×Nat}
 (hh:w'.heap[w.heap.size]? =some (.cells vals t fz)):Step E B0 new σ K w σ (K.wH w.heap.size vals.size) w':=by
 have hcn:∀i,i<vals.size→w'.cell? (at_ w.heap.size i)=some (vals.getD i undef):=fun i hi=>by simp[World.cell?,hh,hi]
 have e:Ext K σ.top w (K.wH w.heap.size vals.size) σ.top w':=by
  refine⟨fun _ h=>⟨h,rfl,rfl,rfl⟩,fun _ _=>.inl ⟨rfl,rfl,rfl,rfl⟩,fun b i hi=>⟨.inl hi, ?_⟩,fun b hb=>⟨hb, ?_⟩⟩
  ·obtain⟨⟨v,hv⟩,_⟩:=h.I b i hi
   exact cell_of_heap (ho.block b (Nat.ne_of_lt (lt_of_cell hv)) (lt_of_cell hv))
  ·obtain⟨⟨es,aZ,hv⟩,_⟩:=h.IM b hb
   exact ho.block b (Nat.ne_of_lt (lt_of_heap hv)) (lt_of_heap hv)
 refine⟨?_,e,ho.below hB hB,fun b hb=>hb,fun _ h=>.inl h,fun b o hi=> ?_,fun _ h=>.inl h⟩
 ·refine h.upd ho e (fun _ _=>rfl) (fun r hr=> ?_) ?_ ?_ ?_ ?_ ?_ ?_
  ·have:=h.Om
   exact absurd (hr.symm.trans this) (by simp)
  ·intro loc s ob hs
   exact .inl ⟨hs,fun hr=>by have:=(h.rb _ _ ((h.obj _ _ _ hs).2.2 hr)).1;omega⟩
  ·intro s hs hlt
   exact .inl ⟨hs,rfl,rfl,rfl,by have:=(h.rb _ _ (h.own s hs hlt).2.1).1;omega⟩
  ·intro b' i hi
   rcases hi with hi| ⟨rfl,hi⟩
   ·obtain⟨⟨v,hv⟩,_⟩:=h.I b' i hi
    exact .inl ⟨hi,Nat.ne_of_lt (lt_of_cell hv)⟩
   ·exact .inr ⟨rfl,⟨_,hcn _ hi⟩,fun loc hr=>absurd (hr.symm.trans h.Om) (by simp)⟩
  ·intro b' hi
   obtain⟨⟨es,aZ,hv⟩,_⟩:=h.IM b' hi
   exact .inl ⟨hi,Nat.ne_of_lt (lt_of_heap hv)⟩
  ·intro l r hl
   exact .inl ⟨hl,by have:=(h.rb _ _ (h.loop l r hl).2.2.1).1;omega⟩
  ·intro b' hd
   exact .inl ⟨hd,Nat.ne_of_lt (lt_of_heap (h.D b' hd))⟩
 ·rcases hi with hi| ⟨rfl,_⟩
  ·exact .inl hi
  ·exact .inr hB
theorem Step.Oq {E B0 new σ K w} (h:aM E B0 σ K w) (hB:B0≤w.heap.size) (vals:Array Value) (t:TypeId) (fz:Nat×Nat):
 Step E B0 new σ K w σ (K.wH w.heap.size vals.size) (w.alloc (.cells vals t fz)):=
 Step.Oo h hB (wG w _) (heap_alloc_new w _)
def aF.uN (K:aF) (s b lo hi:Nat):aF:=
 {K with A:=fun x=>K.A x∨x=s,ob:=upd K.ob s b,lo:=upd K.lo s lo,hi:=upd K.hi s hi,I:=fun b' o=>K.I b' o∨(b'=b∧o<lo),ρ:=upd K.ρ b (some (.own s))}
theorem Step.Ot {E B0 σ K w} (h:aM E B0 σ K w) (hB:B0≤w.heap.size) (s T':Nat) (hs:¬K.A s∨σ.top s<T') (vals:Array Value) (t:TypeId) (lo:Nat) (hlo:lo≤vals.size):
 Step E B0 (· =s) σ K w (σ.bE s T') (K.uN s w.heap.size lo vals.size) (w.alloc (.cells vals t)):=by
 have e:Ext K σ.top w (K.uN s w.heap.size lo vals.size) (σ.bE s T').top (w.alloc (.cells vals t)):=by
  refine⟨fun _ h=>⟨.inl h,rfl,rfl,rfl⟩,fun x hx=> ?_,fun b i hi=>⟨.inl hi, ?_⟩,fun b hb=>⟨hb, ?_⟩⟩
  ·by_cases hxs:x=s
   ·subst hxs
    right
    show _<upd σ.top x T' x
    rw[upd_same]
    exact hs.resolve_left (fun hn=>hn hx)
   ·exact .inl ⟨upd_ne _ _ hxs,upd_ne _ _ hxs,upd_ne _ _ hxs,upd_ne _ _ hxs⟩
  ·obtain⟨⟨v,hv⟩,_⟩:=h.I b i hi
   rw[hv];exact EI hv
  ·obtain⟨⟨es,aZ,hv⟩,_⟩:=h.IM b hb
   exact heap_alloc_old (lt_of_heap hv)
 refine⟨?_,e,(wG w _).below hB hB,fun b hb=>hb,fun _ h=>h,fun b o hi=> ?_,fun _ h=>.inl h⟩
 ·refine h.upd (σ':=σ.bE s T') (wG w _) e (fun k hk=>upd_ne _ _ hk) (fun r _=>⟨by simp,hB⟩) ?_ ?_ ?_ ?_ ?_ ?_
  ·intro loc s ob hs
   exact .inl ⟨hs,fun hr=>by have:=(h.rb _ _ ((h.obj _ _ _ hs).2.2 hr)).1;omega⟩
  ·intro x hx hlt
   by_cases hxs:x=s
   ·subst hxs
    right
    have q1:(K.uN x w.heap.size lo vals.size).ob x=w.heap.size:=upd_same _ _ _
    have q2:(K.uN x w.heap.size lo vals.size).lo x=lo:=upd_same _ _ _
    have q3:(K.uN x w.heap.size lo vals.size).hi x=vals.size:=upd_same _ _ _
    refine⟨by rw[q1];exact hB,by rw[q1];exact upd_same _ _ _,fun o hl hh=> ?_⟩
    rw[q2] at hl
    rw[q3] at hh
    rw[q1]
    refine⟨?_,⟨_,BF hh⟩, ?_⟩
    ·rintro (hi| ⟨_,hi⟩)
     ·obtain⟨⟨v,hv⟩,_⟩:=h.I _ o hi
      have:=lt_of_cell hv
      omega
     ·omega
    ·have hh':(w.alloc (.cells vals t)).heap[w.heap.size]? =some (.cells vals t):=heap_alloc_new w _
     unfold World.frozen?
     simp only[hh']
     simp
   ·left
    have hA:K.A x:=hx.resolve_right hxs
    simp only[aF.uN,upd_ne _ _ hxs] at hlt
    refine⟨hA,upd_ne _ _ hxs,upd_ne _ _ hxs,upd_ne _ _ hxs, ?_⟩
    have:=(h.rb _ _ (h.own x hA hlt).2.1).1
    omega
  ·intro b' i hi
   rcases hi with hi| ⟨rfl,hi⟩
   ·obtain⟨⟨v,hv⟩,_⟩:=h.I b' i hi
    exact .inl ⟨hi,Nat.ne_of_lt (lt_of_cell hv)⟩
   ·refine .inr ⟨rfl,⟨_,BF (by omega)⟩,fun loc hr=> ?_⟩
    simp only[aF.uN,upd_same] at hr
    cases hr
  ·intro b' hi
   obtain⟨⟨es,aZ,hv⟩,_⟩:=h.IM b' hi
   exact .inl ⟨hi,Nat.ne_of_lt (lt_of_heap hv)⟩
  ·intro l r hl
   exact .inl ⟨hl,by have:=(h.rb _ _ (h.loop l r hl).2.2.1).1;omega⟩
  ·intro b' hd
   exact .inl ⟨hd,Nat.ne_of_lt (lt_of_heap (h.D b' hd))⟩
 ·rcases hi with hi| ⟨rfl,_⟩
  ·exact .inl hi
  ·exact .inr hB
def aF.wI (K:aF) (s n:Nat):aF:=
 {K with lo:=upd K.lo s (K.lo s+n),I:=fun b' o=>K.I b' o∨(b'=K.ob s∧K.lo s≤o∧o<K.lo s+n)}
theorem Step.wI {E B0 new σ K w w'} (h:aM E B0 σ K w) (hB:B0≤w.heap.size) {s n T':Nat} (hs:K.A s) (hT:σ.top s<T') (hn:0<n) (hroom:K.lo s+n≤K.hi s)
 (ho:Only (K.ob s) w w') (hnew:∀o,K.lo s≤o→o<K.lo s+n→∃v,w'.cell? (at_ (K.ob s) o)=some v)
 (hold:∀o,o<K.lo s∨K.lo s+n≤o→w'.cell? (at_ (K.ob s) o)=w.cell? (at_ (K.ob s) o)) (hfz:∀o,w'.frozen? (at_ (K.ob s) o)=w.frozen? (at_ (K.ob s) o)):
 Step E B0 new σ K w (σ.bE s T') (K.wI s n) w':=by
 obtain⟨o1,o2,o3⟩:=h.own s hs (by omega)
 have IL:=(o3 (K.lo s) (Nat.le_refl _) (by omega)).2.1
 have Ou:∀o,K.I (K.ob s) o→o<K.lo s∨K.lo s+n≤o:=fun o hi=>by
  rcases Nat.lt_or_ge o (K.lo s) with h1|h1
  ·exact .inl h1
  ·rcases Nat.lt_or_ge o (K.hi s) with h2|h2
   ·exact absurd hi (o3 o h1 h2).1
   ·exact .inr (by omega)
 have e:Ext K σ.top w (K.wI s n) (σ.bE s T').top w':=by
  refine⟨fun _ h=>⟨h,rfl,rfl,rfl⟩,fun x hx=> ?_,fun b i hi=>⟨.inl hi, ?_⟩,fun b hb=>⟨hb, ?_⟩⟩
  ·by_cases hxs:x=s
   ·subst hxs
    right
    show _<upd σ.top x T' x
    rw[upd_same]
    exact hT
   ·exact .inl ⟨upd_ne _ _ hxs,rfl,upd_ne _ _ hxs,rfl⟩
  ·by_cases hb:b=K.ob s
   ·subst hb;exact hold i (Ou i hi)
   ·obtain⟨⟨v,hv⟩,_⟩:=h.I b i hi
    exact cell_of_heap (ho.block b hb (lt_of_cell hv))
  ·obtain⟨⟨es,aZ,hv⟩,_⟩:=h.IM b hb
   refine ho.block b ?_ (lt_of_heap hv)
   rintro rfl
   obtain⟨v,hc⟩:=IL
   simp[World.cell?,hv] at hc
 refine⟨?_,e,ho.below o1 hB,fun b hb=>hb,fun _ h=>.inl h,fun b o hi=> ?_,fun _ h=>.inl h⟩
 ·refine h.upd (σ':=σ.bE s T') ho e (fun k _=>rfl) (fun r hr=>⟨Nat.lt_of_lt_of_le (h.rb _ r hr).1 ho.size,o1⟩) ?_ ?_ ?_ ?_ ?_ ?_
  ·intro loc x ob hx
   refine .inl ⟨hx,fun hr e'=> ?_⟩
   have a:=(h.obj _ _ _ hx).2.2 hr
   rw[e',o2] at a
   cases a
  ·intro x hx hlt
   by_cases hxs:x=s
   ·subst hxs
    right
    simp only[IG,aF.wI,upd_same] at hlt⊢
    refine⟨o1,o2,fun o hl hh=>⟨?_, ?_, ?_⟩⟩
    ·rintro (hi| ⟨_,_,hi⟩)
     ·exact(o3 o (by omega) hh).1 hi
     ·omega
    ·rw[hold o (.inr hl)];exact(o3 o (by omega) hh).2.1
    ·rw[hfz o];exact(o3 o (by omega) hh).2.2
   ·left
    simp only[aF.wI,upd_ne _ _ hxs] at hlt
    refine⟨hx,upd_ne _ _ hxs,rfl,rfl,fun e'=> ?_⟩
    have a:=(h.own x hx hlt).2.1
    rw[e',o2] at a
    injection a with a
    injection a with a
    exact hxs a.symm
  ·intro b' i hi
   rcases hi with hi| ⟨rfl,hi1,hi2⟩
   ·by_cases hb:b'=K.ob s
    ·subst hb
     obtain⟨⟨v,hv⟩,hr⟩:=h.I _ i hi
     exact .inr ⟨rfl,⟨v,by rw[hold i (Ou i hi)];exact hv⟩,hr⟩
    ·exact .inl ⟨hi,hb⟩
   ·exact .inr ⟨rfl,hnew i hi1 hi2,fun loc hr=>by
     have:K.ρ (K.ob s)=some (.obj loc):=hr
     rw[o2] at this;cases this⟩
  ·intro b' hi
   obtain⟨⟨es,aZ,hv⟩,_⟩:=h.IM b' hi
   refine .inl ⟨hi, ?_⟩
   rintro rfl
   obtain⟨v,hc⟩:=IL
   simp[World.cell?,hv] at hc
  ·intro l r hl
   refine .inl ⟨hl,fun e'=> ?_⟩
   have a:=(h.loop l r hl).2.2.1
   rw[e',o2] at a
   cases a
  ·intro b' hd
   refine .inl ⟨hd, ?_⟩
   rintro rfl
   obtain⟨v,hc⟩:=IL
   simp[World.cell?,h.D _ hd] at hc
 ·rcases hi with hi| ⟨rfl,_⟩
  ·exact .inl hi
  ·exact .inr o1
theorem Step.WV {E B0 σ K w w'} (h:aM E B0 σ K w) (hB:B0≤w.heap.size) {fP loc:Loc} {s0 st:Nat} {cs0 cs:List V} {vals vals':Array Value} {t:TypeId} (hst:¬K.A st)
 (hs:σ.obj fP=some (s0,.cells cs0)) (hne:cs0≠[]) (hv:w.heap[K.blk s0]? =some (.cells vals t (0,0))) (ho:Only (K.blk s0) w w')
 (hv':w'.heap[K.blk s0]? =some (.cells vals' t (0,0))) (hne':cs≠[]) (hl:cs.length≤vals'.size)
 (hr:∀K',Ext K σ.top w K' σ.top w'→∀i,i<cs.length→Rel K' σ.top w' (cs.getD i aA) (vals'.getD i undef)):
 Step E B0 (· =st) σ K w ((σ.fE fP).setObj loc st (.cells cs)) (K.iC st (K.blk s0) vals'.size loc) w':=by
 have iD:(eO.cells cs0).real:=by cases cs0 with|nil=>exact absurd rfl hne|cons _ _=>trivial
 obtain⟨hA,fV,hρ⟩:=h.obj _ _ _ hs
 obtain⟨hb0,Ol,t0,g1,g2,g3,g4⟩:=fV.2 hne
 have EK:∀s,K.A s→s≠st:=fun s hs e=>hst (e▸hs)
 have e0:=h.IK hs iD ho σ.top rfl
 have e:Ext K σ.top w (K.iC st (K.blk s0) vals'.size loc) σ.top w':=
  ⟨fun s hs=>⟨.inl hs,upd_ne _ _ (EK s hs),rfl,upd_ne _ _ (EK s hs)⟩,fun s hs=>.inl ⟨rfl,rfl,upd_ne _ _ (EK s hs),upd_ne _ _ (EK s hs)⟩,e0.I,e0.IM⟩
 refine⟨?_,e,ho.below hb0 hB,fun _ h=>h,fun _ h=>h,fun _ _ h=>.inl h,fun _ h=>.inl h⟩
 refine h.upd (σ':=(σ.fE fP).setObj loc st (.cells cs)) ho e (fun k hk=>upd_ne _ _ hk) (fun r _=>⟨Nat.lt_of_lt_of_le (lt_of_heap hv) ho.size,hb0⟩) ?_ ?_ ?_ ?_ ?_ ?_
 ·intro loc' s' yJ hs'
  by_cases hl':loc'=loc
  ·subst hl'
   right
   simp only[ah.setObj,upd_same,Option.some.injEq,Prod.mk.injEq] at hs'
   obtain⟨rfl,rfl⟩:=hs'
   refine⟨.inr rfl,⟨fun h0=>absurd h0 hne',fun _=>⟨?_,vals',t, ?_, ?_,hl,hr _ e⟩⟩,fun _=> ?_⟩
   ·show B0≤upd K.blk st (K.blk s0) st
    rw[upd_same];exact hb0
   ·show w'.heap[upd K.blk st (K.blk s0) st]? =_
    rw[upd_same];exact hv'
   ·show _=upd K.sz st _ st
    rw[upd_same]
   ·show upd K.ρ (K.blk s0) _ (upd K.blk st (K.blk s0) st)=_
    rw[upd_same,upd_same]
  ·left
   simp only[ah.setObj,ah.fE,upd_ne _ _ hl'] at hs'
   by_cases hl0:loc'=fP
   ·subst hl0;rw[upd_same] at hs';cases hs'
   ·rw[upd_ne _ _ hl0] at hs'
    exact⟨hs',fun hr'=>h.IJ hs' hs hl0 hr' iD⟩
 ·intro s' hs' hlt
  have EL:s'≠st:=by
   rintro rfl
   simp only[aF.iC,upd_same] at hlt
   omega
  have hA':K.A s':=hs'.resolve_right EL
  simp only[aF.iC,upd_ne _ _ EL] at hlt
  have ⟨a1,a2,a3⟩:=h.own s' hA' hlt
  refine .inl ⟨hA',upd_ne _ _ EL,upd_ne _ _ EL,rfl,fun e'=> ?_⟩
  rw[e',hρ iD] at a2
  cases a2
 ·intro b' i hi
  exact .inl ⟨hi,fun e'=>(h.I b' i hi).2 fP (e'▸hρ iD)⟩
 ·intro b' hi
  exact .inl ⟨hi,fun e'=>(h.IM b' hi).2 fP (e'▸hρ iD)⟩
 ·intro l r hl'
  exact .inl ⟨hl',h.Oj hl' hv⟩
 ·intro b' hd
  exact .inl ⟨hd,kR (h.D b' hd) hv (by simp)⟩
theorem Step.Ov {E B0 new σ K w w'} (h:aM E B0 σ K w) (hB:B0≤w.heap.size) {loc:Loc} {s:Nat} {ks vs ks' vs':List V} {es es':Array MapEntry} {aZ EM:Nat}
 (hs:σ.obj loc=some (s,.map ks vs)) (hv:w.heap[K.blk s]? =some (.map es aZ)) (ho:Only (K.blk s) w w') (hv':w'.heap[K.blk s]? =some (.map es' EM))
 (hk:ks'.length=es'.size) (hvl:vs'.length=es'.size)
 (hr:Ext K σ.top w K σ.top w'→(∀i,i<es'.size→Rel K σ.top w' (ks'.getD i aA) (es'.getD i default).key)∧(∀i,i<es'.size→Rel K σ.top w' (vs'.getD i aA) (es'.getD i default).val)):
 Step E B0 new σ K w (σ.setObj loc s (.map ks' vs')) K w':=by
 have iD:(eO.map ks vs).real:=trivial
 obtain⟨hA,fV,hρ⟩:=h.obj _ _ _ hs
 obtain⟨hb0,_⟩:=fV
 have e:=h.IK hs iD ho σ.top rfl
 refine⟨?_,e,ho.below hb0 hB,fun _ h=>h,fun _ h=>.inl h,fun _ _ h=>.inl h,fun _ h=>.inl h⟩
 refine h.upd (σ':=σ.setObj loc s (.map ks' vs')) ho e (fun _ _=>rfl) (fun r hr'=>⟨Nat.lt_of_lt_of_le (h.rb _ r hr').1 ho.size,hb0⟩) ?_ ?_ ?_ ?_ ?_ ?_
 ·intro loc' s' yJ hs'
  by_cases hl':loc'=loc
  ·subst hl'
   right
   simp only[ah.setObj,upd_same,Option.some.injEq,Prod.mk.injEq] at hs'
   obtain⟨rfl,rfl⟩:=hs'
   exact⟨hA,⟨hb0,es',EM,hv',hk,hvl,hr e⟩,fun _=>hρ iD⟩
  ·left
   simp only[ah.setObj,upd_ne _ _ hl'] at hs'
   exact⟨hs',fun hr'=>h.IJ hs' hs hl' hr' iD⟩
 ·intro s' hs' hlt
  have ⟨a1,a2,a3⟩:=h.own s' hs' hlt
  refine .inl ⟨hs',rfl,rfl,rfl,fun e'=> ?_⟩
  rw[e',hρ iD] at a2
  cases a2
 ·intro b' i hi
  exact .inl ⟨hi,fun e'=>(h.I b' i hi).2 loc (e'▸hρ iD)⟩
 ·intro b' hi
  exact .inl ⟨hi,fun e'=>(h.IM b' hi).2 loc (e'▸hρ iD)⟩
 ·intro l r hl'
  obtain⟨_,_,_,fn,tmps,D,hh,_⟩:=h.loop l r hl'
  exact .inl ⟨hl',kR hh hv (by simp)⟩
 ·intro b' hd
  exact .inl ⟨hd,kR (h.D b' hd) hv (by simp)⟩
end Aq
end
section
namespace Aq
open Go Go.RowKit
theorem Ow {K T w} {v:Value} {z:V} (h:gu v=some z):Rel K T w z v:=by
 cases v with
 |bool b=>simp only[gu,Option.some.injEq] at h;subst h;exact .bool b
 |int k n=>simp only[gu,Option.some.injEq] at h;subst h;exact .int k n
 |string s=>simp only[gu,Option.some.injEq] at h;subst h;exact .str _ s rfl
 |pointer a=>
  cases a with
  |none=>simp only[gu,Option.some.injEq] at h;subst h;exact .dQ
  |some a=>simp[gu] at h
 |slice a n c=>
  cases a with
  |none=>
   cases n with
   |zero=>
    cases c with
    |zero=>simp only[gu,Option.some.injEq] at h;subst h;exact .bY .nil none (fun _=>rfl) trivial
    |succ c=>simp[gu] at h
   |succ n=>simp[gu] at h
  |some a=>simp[gu] at h
 |map r=>
  cases r with
  |none=>simp only[gu,Option.some.injEq] at h;subst h;exact .dF
  |some a=>simp[gu] at h
 |nilFunc=>simp only[gu,Option.some.injEq] at h;subst h;exact .dJ
 |nilIface=>simp only[gu,Option.some.injEq] at h;subst h;exact .dK
 |_=>simp[gu] at h
theorem WW {v:Value} {z:V} (h:gu v=some z):dL z=true:=by
 cases z with
 |raw x=>cases v with
  |slice a n c=>cases a<;>cases n<;>cases c<;>simp[gu] at h
  |pointer a=>cases a<;>simp[gu] at h
  |map a=>cases a<;>simp[gu] at h
  |_=>simp[gu] at h
 |_=>rfl
theorem WX {v:Value} {z:V} (h:ofValue v=some z):dL z=true:=by
 cases v with
 |agg cs=>simp only[ofValue,Option.map_eq_some_iff] at h;obtain⟨r,_,rfl⟩:=h;rfl
 |tuple cs=>simp only[ofValue,Option.map_eq_some_iff] at h;obtain⟨r,_,rfl⟩:=h;rfl
 |_=>exact WW (v:=_) (by unfold ofValue at h;exact h)
theorem mapM_some {α β:Type} {f:α→Option β}:∀{l:List α} {r:List β},l.mapM f=some r→l.length=r.length∧∀i (h:i<l.length),∃(h':i<r.length),f l[i]=some r[i]
 | [],r,h=>by simp at h;subst h;exact⟨rfl,fun i hi=>absurd hi (Nat.not_lt_zero i)⟩
 |a::l,r,h=>by
  simp only[List.mapM_cons,Option.pure_def,Option.bind_eq_bind] at h
  cases ha:f a with
  |none=>simp[ha] at h
  |some x=>
   cases hl:l.mapM f with
   |none=>simp[ha,hl] at h
   |some r'=>
    simp only[ha,hl,Option.bind_some,Option.some.injEq] at h
    subst h
    obtain⟨h1,h2⟩:=mapM_some hl
    refine⟨by simp[h1],fun i hi=> ?_⟩
    cases i with
    |zero=>exact⟨by simp,ha⟩
    |succ i=>
     obtain⟨h3,h4⟩:=h2 i (by simpa using hi)
     exact⟨by simpa using h3,by simpa using h4⟩
theorem fQ {α:Type} {l:List α} {i:Nat} (h:i<l.length) (d:α):l.getD i d=l[i]:=by simp[List.getD,h]
theorem yK {α:Type} {l:Array α} {i:Nat} (h:i<l.size) (d:α):l.getD i d=l[i]:=by simp[Array.getD,h]
theorem EN {K T w} {v:Value} {z:V} (h:ofValue v=some z):Rel K T w z v:=by
 have hsc:∀(cs:Array Value) (r:List V),cs.toList.mapM gu=some r→r.length=cs.size∧∀i,i<r.length→Rel K T w (r.getD i aA) (cs.getD i undef):=by
  intro cs r hr
  obtain⟨h1,h2⟩:=mapM_some hr
  have h1':r.length=cs.size:=by rw[←h1];simp
  refine⟨h1',fun i hi=> ?_⟩
  obtain⟨h3,h4⟩:=h2 i (by omega)
  rw[fQ h3,yK (by omega)]
  exact Ow (by simpa using h4)
 cases v with
 |agg cs=>
  simp only[ofValue,Option.map_eq_some_iff] at h
  obtain⟨r,hr,rfl⟩:=h
  obtain⟨h1,h2⟩:=hsc cs r hr
  exact .agg r cs h1 h2
 |tuple cs=>
  simp only[ofValue,Option.map_eq_some_iff] at h
  obtain⟨r,hr,rfl⟩:=h
  obtain⟨h1,h2⟩:=hsc cs r hr
  exact .aT r cs h1 h2
 |_=>exact Ow h
theorem nu {E B0 σ K w} (h:aM E B0 σ K w) {fr:Fr} {a:Act} (hf:fG K σ.top w fr a.tmps) (x:Operand):Rel K σ.top w (fr.ev E x) (a.eval x):=by
 cases x with
 |tmp t=>exact hf t
 |const v=>
  simp only[Fr.ev,Act.eval]
  cases hv:ofValue v with
  |none=>exact .raw v
  |some z=>exact EN hv
 |global g=>
  simp only[Fr.ev,Act.eval]
  cases hg:E.glob g with
  |none=>exact .raw _
  |some cs=>exact h.glob g cs hg
 |func f=>exact .fn f [] [] #[] #[] rfl rfl (fun i hi=>absurd hi (Nat.not_lt_zero i)) (fun i hi=>absurd hi (Nat.not_lt_zero i))
theorem sQ {K T w} {v:V} {c:Value} (h:Rel K T w v c) (hr:dL v=true):
 v.cells.length=c.cells.size∧∀i,i<v.cells.length→Rel K T w (v.cells.getD i aA) (c.cells.getD i undef):=by
 have one:∀{v:V} {c:Value},Rel K T w v c→v.cells=[v]→c.cells= #[c]→v.cells.length=c.cells.size∧∀i,i<v.cells.length→Rel K T w (v.cells.getD i aA) (c.cells.getD i undef):=by
  intro v c h h1 h2
  rw[h1,h2]
  refine⟨rfl,fun i hi=> ?_⟩
  obtain rfl:i=0:=by simp at hi;omega
  exact h
 cases h with
 |agg cs vs hl h=>exact⟨hl,h⟩
 |raw v=>simp[dL] at hr
 |aT cs vs hl h=>exact one (.aT cs vs hl h) rfl rfl
 |int k n=>exact one (.int k n) rfl rfl
 |bool b=>exact one (.bool b) rfl rfl
 |str s b h=>exact one (.str s b h) rfl rfl
 |dQ=>exact one .dQ rfl rfl
 |dJ=>exact one .dJ rfl rfl
 |dF=>exact one .dF rfl rfl
 |dK=>exact one .dK rfl rfl
 |bY c a ha hc=>exact one (.bY c a ha hc) rfl rfl
 |aj c l b o n cap val h1 h2 h3 h4 h5=>exact one (.aj c l b o n cap val h1 h2 h3 h4 h5) rfl rfl
 |vw loc s off len cap aL ag bI h1 h2 h3 h4=>exact one (.vw loc s off len cap aL ag bI h1 h2 h3 h4) rfl rfl
 |iQ loc s aL ag h1=>exact one (.iQ loc s aL ag h1) rfl rfl
 |aH cs off b o val h1 h2=>exact one (.aH cs off b o val h1 h2) rfl rfl
 |ref loc s off h1=>exact one (.ref loc s off h1) rfl rfl
 |fn f a b av bv h1 h2 h3 h4=>exact one (.fn f a b av bv h1 h2 h3 h4) rfl rfl
 |yield l h1=>exact one (.yield l h1) rfl rfl
 |bq loc s h1=>exact one (.bq loc s h1) rfl rfl
 |bL ks vs b es aZ h1 h2 h3 h4 h5 h6=>exact one (.bL ks vs b es aZ h1 h2 h3 h4 h5 h6) rfl rfl
 |iface t v c h=>exact one (.iface t v c h) rfl rfl
theorem Ox {K T w} {v:V} {c:Value} (h:Rel K T w v c) (ho:oneCell v=true):c.oneCell'=true∧c.cells= #[c]∧v.cells=[v]:=by
 cases h<;>first| (simp[oneCell] at ho;done)|exact⟨rfl,rfl,rfl⟩
section types
variable {P:Program} {t:TypeId} (w:World)
theorem Oy {i:TypeInfo} (h:P.info? t=some i):(typeInfo t).run P w= .ok i w:=by simp[typeInfo,h]
theorem ig {n:Nat} (h:bF P t=some n):(Go.sizeOf t).run P w= .ok n w:=by
 simp only[bF,Option.map_eq_some_iff] at h
 obtain⟨i,hi,rfl⟩:=h
 simp[Go.sizeOf,Oy w hi]
theorem Oz {b:Bool} (h:gB P t=some b):(isAgg t).run P w= .ok b w:=by
 simp only[gB,Option.map_eq_some_iff] at h
 obtain⟨d,hd,rfl⟩:=h
 simp only[isAgg,Sem.run_bind,run_underlying hd,Result.andThen_ok]
 cases d<;>rfl
theorem uO {z:V} (h:fO P t=some z):∃c,(zeroValue t).run P w= .ok c w∧∀K T,Rel K T w z c:=by
 simp only[fO,Option.bind_eq_some_iff] at h
 obtain⟨v,⟨i,hi,hz⟩,hv⟩:=h
 exact⟨v,by simp[zeroValue,Oy w hi,hz],fun K T=>EN hv⟩
theorem yL {z:V} (h:fO P t=some z):dL z=true:=by
 simp only[fO,Option.bind_eq_some_iff] at h
 obtain⟨v,_,hv⟩:=h
 exact WX hv
theorem yM {e:TypeId} (h:iA P t=some e):P.underlying t=some (.slice e):=by
 unfold iA at h
 split at h<;>simp_all
theorem OA {n:Nat} {e:TypeId} (h:mW P t=some (n,e)):P.underlying t=some (.array n e):=by
 unfold mW at h
 split at h<;>simp_all
theorem OB {k e:TypeId} (h:ou P t=some (k,e)):P.underlying t=some (.map k e):=by
 unfold ou at h
 split at h<;>simp_all
theorem OC {f o:Nat} {u:TypeId} (h:qK P t f=some (o,u)):∃fs g n,P.underlying t=some (.struct fs)∧fs[f]? =some g∧g.offset=o∧g.type=u∧bF P u=some (n+1):=by
 unfold qK at h
 split at h
 ·rename_i fs hu
  simp only[Option.bind_eq_some_iff] at h
  obtain⟨g,hg,h⟩:=h
  split at h
  ·rename_i n hn
   simp only[Option.some.injEq,Prod.mk.injEq] at h
   exact⟨fs,g,n,hu,hg,h.1,h.2,by rw[←h.2];exact hn⟩
  ·simp at h
 ·simp at h
end types
theorem addr_add (b o n:Nat):(at_ b o).add n=at_ b (o+n):=by
 unfold Addr.add
 split
 ·subst_vars;rfl
 ·rfl
theorem IQ {P:Program} {K T} {w:World} {t:TypeId} {cs:List V} {off:Nat} {v:V} {b o:Nat} (val:Nat→Value)
 (hc:∀i,i<cs.length→w.cell? (at_ b (o+i))=some (val i)) (hr:∀i,i<cs.length→Rel K T w (cs.getD i aA) (val i)) (h:eB P t cs off=some v):
 ∃c,(loadVar t (at_ b (o+off))).run P w= .ok c w∧Rel K T w v c:=by
 simp only[eB,Option.bind_eq_some_iff] at h
 obtain⟨ag,hag,n,hn,h⟩:=h
 simp only[loadVar,Sem.run_bind,Oz w hag,Result.andThen_ok]
 cases ag with
 |true=>
  simp only[kK,if_true] at h
  split at h
  ·rename_i hle
   simp only[Option.some.injEq] at h
   subst h
   have hl:=run_loadCells (P:=P) w (at_ b (o+off)) n (fun j=>val (off+j)) (fun j hj=>by
    rw[addr_add,Nat.add_assoc];exact hc _ (by omega))
   refine⟨.agg ((List.range n).map fun j=>val (off+j)).toArray,by simp[ig w hn,hl], ?_⟩
   refine .agg _ _ (by simp;omega) (fun i hi=> ?_)
   simp only[List.length_take,List.length_drop] at hi
   have hi':i<n:=by omega
   have e1:((cs.drop off).take n).getD i aA=cs.getD (off+i) aA:=by
    simp[List.getD,hi',List.getElem?_drop]
   have e2:(((List.range n).map fun j=>val (off+j)).toArray).getD i undef=val (off+i):=by
    simp[Array.getD,hi']
   rw[e1,e2]
   exact hr _ (by omega)
  ·simp at h
 |false=>
  simp only[kK,Bool.false_eq_true,if_false] at h
  have hlt:off<cs.length:=(List.getElem?_eq_some_iff.1 h).1
  have hv:cs[off]=v:=(List.getElem?_eq_some_iff.1 h).2
  refine⟨val off,by simp[hc off hlt], ?_⟩
  have:=hr off hlt
  rwa[fQ hlt,hv] at this
theorem yN {P:Program} {K T} {w:World} {t:TypeId} {cs:List V} {vs:Array Value} {off:Nat} {v:V} (hl:cs.length=vs.size)
 (hr:∀i,i<cs.length→Rel K T w (cs.getD i aA) (vs.getD i undef)) (h:eB P t cs off=some v):
 ∃c,(part t vs off).run P w= .ok c w∧Rel K T w v c:=by
 simp only[eB,Option.bind_eq_some_iff] at h
 obtain⟨ag,hag,n,hn,h⟩:=h
 simp only[part,Sem.run_bind,Oz w hag,Result.andThen_ok]
 cases ag with
 |true=>
  simp only[kK,if_true] at h
  split at h
  ·rename_i hle
   simp only[Option.some.injEq] at h
   subst h
   refine⟨.agg (vs.extract off (off+n)),by simp[ig w hn], ?_⟩
   refine .agg _ _ (by simp;omega) (fun i hi=> ?_)
   simp only[List.length_take,List.length_drop] at hi
   have hi':i<n:=by omega
   have e1:((cs.drop off).take n).getD i aA=cs.getD (off+i) aA:=by
    simp[List.getD,hi',List.getElem?_drop]
   have e2:(vs.extract off (off+n)).getD i undef=vs.getD (off+i) undef:=by
    have:off+i<vs.size:=by omega
    simp[Array.getD,this,show i<min (off+n) vs.size-off by omega]
   rw[e1,e2]
   exact hr _ (by omega)
  ·simp at h
 |false=>
  simp only[kK,Bool.false_eq_true,if_false] at h
  have hlt:off<cs.length:=(List.getElem?_eq_some_iff.1 h).1
  have hv:cs[off]=v:=(List.getElem?_eq_some_iff.1 h).2
  have hlt':off<vs.size:=by omega
  refine⟨vs.getD off undef,by simp[hlt',Array.getD], ?_⟩
  have:=hr off hlt
  rwa[fQ hlt,hv] at this
end Aq
end
