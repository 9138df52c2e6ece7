import Derived.Below
import Derived.WalkKit
import GoSem.Dispatch
set_option linter.all false
section
namespace Aq
def iE:=@Option.some.injEq
def iP:=@Option.bind_eq_some_iff
def iR:=@Prod.mk.injEq
def mF:=@Nat.le_refl
def RD:=@Bool.and_eq_true
def RF:=@Option.map_eq_some_iff
def RG:=@Nat.le_trans
def RH:=@Bool.false_eq_true
def RI:=@Nat.not_lt_zero
def RJ:=@List.mem_cons_self
def RL:=@List.mem_cons
def RN:=@List.length_map
def RP:=@Nat.le_add_right
def RQ:=@List.mem_cons_of_mem
def RS:=@Nat.lt_of_lt_of_le
def RU:=@List.map_cons
def RV:=@Nat.le_succ
def RX:=@List.mapM_cons
def RY:=@List.length_append
def RZ:=@List.all_eq_true
def R3:=@List.length_take
def R4:=@List.mem_singleton
def R5:=@Int.le_refl
def R6:=@Option.some.inj
def R7:=@List.take_of_length_le
def R8:=@Nat.mul_le_mul_right
def R9:=@Nat.le_of_ble_eq_true
def Sb:=@Nat.zero_le
def Sc:=@List.getElem?_eq_getElem
def Si:=@List.append_assoc
def Sj:=@List.flatMap_cons
def Sl:=@List.nodup_cons
def Sm:=@List.mem_map
def Sn:=@Nat.ne_of_lt
def Sq:=@Nat.add_mul
def Sr:=@Nat.zero_add
def Sv:=@Nat.succ_mul
def Sw:=@List.mem_of_getElem?
def Sy:=@Nat.add_assoc
def Sz:=@List.length_drop
def SA:=@List.eq_nil_of_length_eq_zero
def SB:=@List.append_nil
def SC:=@Bool.or_eq_false_iff
def SE:=@Nat.beq_refl
def SF:=@List.map_append
def SG:=@List.cons.injEq
def SH:=@List.getElem?_eq_some_iff
def SI:=@List.getElem_mem
def SK:=@Bool.not_eq_true'
def SL:=@Nat.mul_comm
def SN:=@Array.getD_eq_getD_getElem?
def SQ:=@List.getD_eq_getElem?_getD
def SV:=@Nat.le_of_eq
def SX:=@Bool.or_eq_true
def SY:=@Nat.le_max_right
def S9:=@List.length_pos_iff
def Ta:=@Nat.lt_succ_self
def Tc:=@Nat.le_max_left
def Td:=@List.take_append_of_le_length
def Te:=@List.getElem_map
def Tf:=@List.getElem_range
def Tg:=@List.mem_append_left
def Ti:=@Nat.eq_of_beq_eq_true
def Tj:=@Nat.add_sub_cancel_left
def Tk:=@List.length_range
def Tm:=@Nat.min_eq_left
def Tn:=@List.map_congr_left
def Tq:=@List.mem_append_right
def Tt:=@List.drop_append
def Tv:=@List.drop_zero
def Tw:=@List.take_append_drop
def Tx:=@List.map_map
def Tz:=@List.drop_eq_getElem_cons
def TA:=@List.drop_eq_nil_of_le
def TB:=@List.mem_iff_getElem
def TD:=@List.drop_append_of_le_length
def TF:=@List.drop_of_length_le
def TG:=@List.getElem?_append_left
open Go
abbrev Loc:=Nat×Nat
inductive Cap where
 |sh
 |full
 |nil
 |own (n s:Nat)
inductive V where
 |int (k:IntKind) (n:Int)
 |bool (b:Bool)
 |str (s:List UInt8)
 |nilp
 |nilf
 |nilm
 |nili
 |agg (cs:List V)
 |tup (vs:List V)
 |lst (c:Cap) (l:List V)
 |vw (loc:Loc) (s off len cap au:Nat) (ag:Bool)
 |cref (cs:List V) (off:Nat)
 |ref (loc:Loc) (s off:Nat)
 |fn (f:Fn) (first cap:List V)
 |mapr (loc:Loc) (s:Nat)
 |mapc (ks vs:List V)
 |iface (t:TypeId) (v:V)
 |raw (v:Value)
instance:Inhabited V:=⟨.tup []⟩
def undefV:V:=.tup []
def V.cells:V->List V
 |.agg cs=>cs
 |v=>[v]
def cB:Value->Option V
 |.bool b=>some (.bool b)
 |.int k n=>some (.int k n)
 |.string s=>some (.str s.data.toList)
 |.pointer none=>some .nilp
 |.slice none 0 0=>some (.lst .nil [])
 |.map none=>some .nilm
 |.nilFunc=>some .nilf
 |.nilIface=>some .nili
 |_=>none
def ofValue:Value->Option V
 |.agg cs=>(cs.toList.mapM cB).map .agg
 |.tuple cs=>(cs.toList.mapM cB).map .tup
 |v=>cB v
mutual
def pclean:V->Bool
 |.int _ _|.bool _|.str _|.nilp|.nilf|.nilm|.nili=>true
 |.agg cs=>pcleanL cs
 |.tup vs=>pcleanL vs
 |.lst .sh l=>pcleanL l
 |.lst _ _=>false
 |.vw .. |.ref .. |.mapr .. =>false
 |.cref cs _=>pcleanL cs
 |.fn (.func _) a b=>pcleanL a&& pcleanL b
 |.fn _ _ _=>false
 |.mapc ks vs=>pcleanL ks&& pcleanL vs
 |.iface _ v=>pclean v
 |.raw _=>false
def pcleanL:List V->Bool
 | []=>true
 |v::l=>pclean v&& pcleanL l
end
mutual
def flat:V->Bool
 |.int _ _|.bool _|.str _|.nilp|.nilf|.nilm|.nili=>true
 |.agg cs=>cK cs
 |.tup vs=>cK vs
 |_=>false
def cK:List V->Bool
 | []=>true
 |v::l=>flat v&& cK l
end
def bn:V->V
 |.lst _ l=>.lst .sh l
 |v=>v
def er:V->V
 |.lst _ l=>.lst .sh l
 |.agg cs=>.agg (cs.map bn)
 |v=>v
inductive AObj where
 |cells (cs:List V)
 |map (ks vs:List V)
inductive Ex where
 |normal
 |exit (id:Nat)
 |ret
structure Fr where
 d:Nat
 om:Bool
 tm:Nat->V
structure fT where
 st:Nat
 pend:Option Ex
 fr:Fr
 ps:List Nat
 aK:Code
 body:Code
structure Sig where
 next:Nat
 top:Nat->Nat
 obj:Loc->Option (Nat×AObj)
 loops:Nat->Option fT
def Sig.init:Sig:=⟨0,fun _=>0,fun _=>none,fun _=>none⟩
def upd {κ α:Type} [DecidableEq κ] (f:κ->α) (k:κ) (v:α):κ->α:=fun j=>if j=k then v else f j
def Fr.set (fr:Fr) (i:Nat) (v:V):Fr:={fr with tm:=upd fr.tm i v}
def Fr.put (fr:Fr) (d:Option Nat) (v:V):Fr:=match d with
 |some i=>fr.set i v
 |none=>fr
def Sig.setObj (σ:Sig) (loc:Loc) (s:Nat) (o:AObj):Sig:={σ with obj:=upd σ.obj loc (some (s,o))}
def Sig.bR (σ:Sig) (loc:Loc):Sig:={σ with obj:=upd σ.obj loc none}
def Sig.aL (σ:Sig) (s n:Nat):Sig:={σ with top:=upd σ.top s n}
def Sig.bA (σ:Sig) (l:Nat) (r:fT):Sig:={σ with loops:=upd σ.loops l (some r)}
def Sig.eP (σ:Sig) (l:Nat):Sig:={σ with loops:=upd σ.loops l none}
def bH:Code->Bool
 |.seq a b=>bH a&& bH b
 |.cond _ a b=>bH a&& bH b
 |.block _ c=>bH c
 |.loop c=>bH c
 |.scope c=>bH c
 |.rangeFunc .. =>false
 |_=>true
def Sig.cellsAt (σ:Sig) (loc:Loc) (s:Nat):Option (List V):=
 match σ.obj loc with
 |some (s',.cells cs)=>if s'=s then some cs else none
 |_=>none
def Sig.bD (σ:Sig) (loc:Loc) (s:Nat):Option (List V×List V):=
 match σ.obj loc with
 |some (s',.map ks vs)=>if s'=s then some (ks,vs) else none
 |_=>none
def chunks (agg:Bool) (n:Nat):Nat->List V->List V
 |0,_=>[]
 |k+1,cs=>(if agg then V.agg (cs.take n) else cs.headD undefV)::chunks agg n k (cs.drop n)
def oneCell:V->Bool
 |.agg _|.tup _|.raw _=>false
 |_=>true
def oneCells (l:List V):Bool:=l.all oneCell
def closeV:Nat->Sig->V->Option V
 |0,_,_=>none
 |n+1,σ,v=>if pclean v then some v else match v with
  |.lst _ l=>(l.mapM (closeV n σ)).map (.lst .sh)
  |.agg cs=>(cs.mapM (closeV n σ)).map .agg
  |.tup cs=>(cs.mapM (closeV n σ)).map .tup
  |.cref cs off=>(cs.mapM (closeV n σ)).map (.cref · off)
  |.fn (.func f) a b=>(a.mapM (closeV n σ)).bind fun a=>(b.mapM (closeV n σ)).map fun b=>.fn (.func f) a b
  |.ref loc s off=>(σ.cellsAt loc s).bind fun cs=>(cs.mapM (closeV n σ)).map (.cref · off)
  |.vw loc s off len _ au ag=>(σ.cellsAt loc s).bind fun cs=>
     if off+len*au<=cs.length then (((cs.drop off).take (len*au)).mapM (closeV n σ)).bind fun cs=>if ag||au==1&& oneCells cs then some (.lst .sh (chunks ag au len cs)) else none else none
  |.mapr loc s=>(σ.bD loc s).bind fun (ks,vs)=>
     (ks.mapM (closeV n σ)).bind fun ks=>(vs.mapM (closeV n σ)).map fun vs=>.mapc ks vs
  |.mapc ks vs=>(ks.mapM (closeV n σ)).bind fun ks=>(vs.mapM (closeV n σ)).map fun vs=>.mapc ks vs
  |.iface t v=>(closeV n σ v).map (.iface t)
  |_=>none
section ops
variable (P:Program)
def szT (t:TypeId):Option Nat:=(P.info? t).map (·.size)
def bytesT (t:TypeId):Option Nat:=(P.info? t).map (·.bytes)
def isAggT (t:TypeId):Option Bool:=(P.underlying t).map fun
 |.struct _|.array .. =>true
 |_=>false
def zeroT (t:TypeId):Option V:=((P.info? t).bind (·.zero)).bind ofValue
def fieldT (t:TypeId) (f:Nat):Option (Nat×TypeId):=
 match P.underlying t with
 |some (.struct fs)=>(fs[f]?).bind fun f=>match szT P f.type with
  |some (_+1)=>some (f.offset,f.type)
  |_=>none
 |_=>none
def elemT (t:TypeId):Option TypeId:=
 match P.underlying t with
 |some (.slice e)=>some e
 |_=>none
def arrT (t:TypeId):Option (Nat×TypeId):=
 match P.underlying t with
 |some (.array n e)=>some (n,e)
 |_=>none
def mapT (t:TypeId):Option (TypeId×TypeId):=
 match P.underlying t with
 |some (.map k e)=>some (k,e)
 |_=>none
def fH (agg:Bool) (n:Nat) (cs:List V) (off:Nat):Option V:=
 if agg then (if off+n<=cs.length then some (.agg ((cs.drop off).take n)) else none) else cs[off]?
def ldT (t:TypeId) (cs:List V) (off:Nat):Option V:=
 (isAggT P t).bind fun a=>(szT P t).bind fun n=>fH a n cs off
def spliceL (cs:List V) (off:Nat) (vs:List V):List V:=cs.take off++vs++cs.drop (off+vs.length)
def notRaw:V->Bool
 |.raw _=>false
 |_=>true
def gH (place:Nat->Option (Nat×Nat)) (cells:List V):List (Nat×V)->Option (List V)
 | []=>some cells
 | (i,v)::rest=>
   match place i with
   |none=>none
   |some (off,size)=>
    if v.cells.length=size/\off+size<=cells.length/\notRaw v then gH place (spliceL cells off v.cells) rest else none
def eT:V->V->Option Bool
 |.int k a,.int k' b=>if k=k' then some (a==b) else none
 |.bool a,.bool b=>some (a==b)
 |.str a,.str b=>some (a==b)
 |_,_=>none
def lZ (eq:TypeId->V->V->Option Bool) (xs ys:List V):List Field->Option Bool
 | []=>some true
 |f::fs=>
  if f.name= "_" then lZ eq xs ys fs else
  (ldT P f.type xs f.offset).bind fun a=>(ldT P f.type ys f.offset).bind fun b=>(eq f.type a b).bind fun r=>(lZ eq xs ys fs).map (r&& ·)
def nE (eq:TypeId->V->V->Option Bool) (e:TypeId) (sz:Nat) (xs ys:List V):List Nat->Option Bool
 | []=>some true
 |i::is=>(ldT P e xs (i*sz)).bind fun a=>(ldT P e ys (i*sz)).bind fun b=>(eq e a b).bind fun r=>(nE eq e sz xs ys is).map (r&& ·)
def kP:Nat->TypeId->V->V->Option Bool
 |0,_,_,_=>none
 |d+1,t,x,y=>
  match P.underlying t,x,y with
  |some .bool,.bool a,.bool b=>some (a==b)
  |some (.int _),.int k a,.int k' b=>if k=k' then some (a==b) else none
  |some .string,.str a,.str b=>some (a==b)
  |some (.struct fs),.agg xs,.agg ys=>if P.stoodInHeld t then none else lZ P (kP d) xs ys fs.toList
  |some (.array n e),.agg xs,.agg ys=>(szT P e).bind fun sz=>nE P (kP d) e sz xs ys (List.range n)
  |_,_,_=>none
def iN (t:TypeId) (x y:V):Option Bool:=
 match P.underlying t,x,y with
 |some (.func ..),.nilf,.nilf=>some true
 |some (.func ..),.nilf,.fn _ _ _|some (.func ..),.fn _ _ _,.nilf=>some false
 |some (.pointer _),.nilp,.nilp=>some true
 |some (.pointer _),.nilp,.ref .. |some (.pointer _),.ref ..,.nilp|some (.pointer _),.nilp,.cref .. |some (.pointer _),.cref ..,.nilp=>some false
 |some (.slice _),.lst .nil _,.lst .nil _=>some true
 |some (.slice _),.lst .nil _,.lst _ (_::_)|some (.slice _),.lst _ (_::_),.lst .nil _=>some false
 |some (.map ..),.nilm,.nilm=>some true
 |some (.map ..),.nilm,.mapr .. |some (.map ..),.mapr ..,.nilm|some (.map ..),.nilm,.mapc .. |some (.map ..),.mapc ..,.nilm=>some false
 |some (.struct _),.agg a,.agg b|some (.array ..),.agg a,.agg b=>if P.eqGuardType P.depth t then none else kP P 8 t (.agg a) (.agg b)
 |some .bool,.bool a,.bool b=>some (a==b)
 |some (.interface ms),.nili,.nili=>if ms.isEmpty then some true else none
 |some (.interface _),.nili,.iface _ _|some (.interface _),.iface _ _,.nili=>some false
 |_,_,_=>none
def dA (op:BinOp) (k:IntKind) (x y:Int):Option V:=
 match op with
 |.add=>some (.int k (k.wrap (x+y)))
 |.sub=>some (.int k (k.wrap (x-y)))
 |.mul=>some (.int k (k.wrap (x*y)))
 |.quo=>if y=0 then none else some (.int k (k.wrap (x.tdiv y)))
 |.rem=>if y=0 then none else some (.int k (x.tmod y))
 |.and=>some (.int k (k.wrap (BitVec.ofInt k.bits x&&& BitVec.ofInt k.bits y).toNat))
 |.or=>some (.int k (k.wrap (BitVec.ofInt k.bits x|||BitVec.ofInt k.bits y).toNat))
 |.xor=>some (.int k (k.wrap (BitVec.ofInt k.bits x^^^BitVec.ofInt k.bits y).toNat))
 |.andNot=>some (.int k (k.wrap (BitVec.ofInt k.bits x&&& ~~~BitVec.ofInt k.bits y).toNat))
 |.eql=>some (.bool (x==y))
 |.neq=>some (.bool (x !=y))
 |.lss=>some (.bool (x<y))
 |.leq=>some (.bool (x<=y))
 |.gtr=>some (.bool (x>y))
 |.geq=>some (.bool (x>=y))
 |_=>none
def pK (op:BinOp) (k:IntKind) (x y:Int):Option V:=
 if y<0 then none else
 match op with
 |.shl=>some (.int k (k.wrap (x*2^min y.toNat k.bits)))
 |.shr=>some (.int k (x.fdiv (2^min y.toNat k.bits)))
 |_=>none
def kQ (op:BinOp) (x y:List UInt8):Option V:=
 match op with
 |.add=>if ((x.length+y.length:Nat):Int)>IntKind.i64.max then none else some (.str (x++y))
 |.eql=>some (.bool (x==y))
 |.neq=>some (.bool !(x==y))
 |.lss=>some (.bool (Op.bytesLess x y))
 |.leq=>some (.bool (Op.bytesLess x y||x==y))
 |.gtr=>some (.bool !(Op.bytesLess x y||x==y))
 |.geq=>some (.bool !(Op.bytesLess x y))
 |_=>none
def gJ (op:BinOp) (t:TypeId) (x y:V):Option V:=
 match op,x,y with
 |.shl,.int k a,.int _ b|.shr,.int k a,.int _ b=>pK op k a b
 |_,.int k a,.int k' b=>if k=k' then dA op k a b else none
 |_,.str a,.str b=>kQ op a b
 |.eql,x,y=>(iN P t x y).map .bool
 |.neq,x,y=>(iN P t x y).map fun b=>.bool !b
 |_,_,_=>none
def l5 (op:UnOp) (x:V):Option V:=
 match op,x with
 |.neg,.int k n=>some (.int k (k.wrap (0-n)))
 |.xor,.int k n=>dA .xor k (if k.signed then-1 else k.max) n
 |.not,.bool b=>some (.bool !b)
 |_,_=>none
def eU (b:UInt8):V:=.int .u8 b.toNat
def l6:V->Option UInt8
 |.int .u8 n=>some (UInt8.ofNat n.toNat)
 |_=>none
def jT (σ:Sig) (src dst:TypeId) (x:V):Option V:=
 match P.underlying src,P.underlying dst,x with
 |some _,some (.int k),.int _ n=>some (.int k (k.wrap n))
 |some _,some .string,.str s=>some (.str s)
 |some _,some (.slice e),.str s=>
  match P.underlying e with
  |some (.int .u8)=>some (.lst .sh (s.map eU))
  |_=>none
 |some (.slice e),some .string,.lst _ l=>
  match P.underlying e with
  |some (.int .u8)=>(l.mapM l6).map .str
  |_=>none
 |some (.slice e),some .string,.vw loc s off len _ _ _=>
  match P.underlying e with
  |some (.int .u8)=>(σ.cellsAt loc s).bind fun cs=>if off+len<=cs.length then (((cs.drop off).take len).mapM l6).map .str else none
  |_=>none
 |_,_,_=>none
def dK:V->Option Int
 |.int _ n=>some n
 |_=>none
def bnd (x:V) (y:Nat):Option Nat:=(dK x).bind fun i=>if 0<=i/\i<=y then some i.toNat else none
def cu (len cap:Nat) (lo hi mx:Option V):Option (Nat×Nat×Nat):=
 (match mx with|some v=>bnd v cap|none=>some cap).bind fun m=>
 (match hi,mx with
   |some v,some _=>bnd v m
   |some v,none=>bnd v m
   |none,none=>some len
   |none,some _=>none).bind fun h=>
 (match lo with|some v=>bnd v h|none=>some 0).bind fun l=>some (l,h,m)
def fI (sz:Nat):List V->Bool
 | []=>true
 |v::_=>v.cells.length==sz
def dV (σ:Sig) (t:TypeId) (x:V) (lo hi mx:Option V):Option V:=
 match P.underlying t,x with
 |some .string,.str s=>
  match mx with
  |some _=>none
  |none=>(cu s.length s.length lo hi none).map fun (l,h,_)=>.str ((s.take h).drop l)
 |some (.slice e),.lst c s=>
  (szT P e).bind fun sz=>(cu s.length s.length lo hi mx).bind fun (l,h,m)=>if fI sz s then some<|
    if l=0/\h=s.length/\mx.isNone then .lst c s else
    .lst (match mx with|some _=>if m=h then .full else .sh|none=>match c with|.full=>if h=s.length then .full else .sh|_=>.sh) ((s.take h).drop l)
    else none
 |some (.slice e),.vw loc st off len cap au ag=>
  (szT P e).bind fun sz=>(cu len cap lo hi mx).bind fun (l,h,m)=>if sz=au then some<|
    if l=h/\0<l then .lst (match mx with|some _=>if m=h then .full else .sh|none=>.sh) [] else .vw loc st (off+l*au) (h-l) (m-l) au ag
    else none
 |some (.array n e),.ref loc st off=>
  (szT P e).bind fun sz=>(isAggT P e).bind fun ag=>(cu n n lo hi mx).bind fun (l,h,m)=>(σ.cellsAt loc st).bind fun cs=>if off+n*sz<=cs.length then some<|
    if l=h/\0<l then .lst (match mx with|some _=>if m=h then .full else .sh|none=>.sh) [] else .vw loc st (off+l*sz) (h-l) (m-l) sz ag
    else none
 |some (.array n e),.cref cs off=>
  (szT P e).bind fun sz=>(isAggT P e).bind fun ag=>(cu n n lo hi mx).bind fun (l,h,_)=>
    if off+n*sz<=cs.length/\(ag=false->sz=1/\oneCells cs=true) then some (.lst .sh (chunks ag sz (h-l) (cs.drop (off+l*sz)))) else none
 |_,_=>none
def idx (i:V) (n:Nat):Option Nat:=(dK i).bind fun i=>if 0<=i/\i<n then some i.toNat else none
def indexAddrV (t:TypeId) (x i:V):Option V:=
 match P.underlying t,x with
 |some (.slice e),.lst _ l=>(szT P e).bind fun sz=>(idx i l.length).bind fun k=>(l[k]?).bind fun e=>if e.cells.length=sz then some (.cref e.cells 0) else none
 |some (.slice e),.vw loc st off len _ au _=>(szT P e).bind fun sz=>(idx i len).bind fun k=>if sz=au then some (.ref loc st (off+k*au)) else none
 |some (.array n e),.ref loc st off=>(szT P e).bind fun sz=>(idx i n).map fun k=>.ref loc st (off+k*sz)
 |some (.array n e),.cref cs off=>(szT P e).bind fun sz=>(idx i n).map fun k=>.cref cs (off+k*sz)
 |_,_=>none
def jU (t:TypeId) (x i:V):Option V:=
 match P.underlying t,x with
 |some (.array n e),.agg cs=>(idx i n).bind fun k=>(szT P e).bind fun sz=>ldT P e cs (k*sz)
 |some .string,.str s=>(idx i s.length).bind fun k=>(s[k]?).map eU
 |_,_=>none
def fU (k:V):List V->List V->Option (Option V)
 |a::as,v::vs=>(eT k a).bind fun b=>if b then some (some v) else fU k as vs
 | [],[]=>some none
 |_,_=>none
def jD (k v:V):List V->List V->Option (List V×List V)
 |a::as,w::ws=>(eT k a).bind fun b=>if b then some (k::as,v::ws) else (jD k v as ws).map fun (x,y)=>(a::x,w::y)
 | [],[]=>some ([k],[v])
 |_,_=>none
def dP (t:TypeId) (k:V):Bool:=
 match P.underlying t,k with
 |some (.int _),.int _ _|some .string,.str _|some .bool,.bool _=>true
 |_,_=>false
def jE (σ:Sig) (t:TypeId) (m k:V) (ok:Bool):Option V:=
 (mapT P t).bind fun (kt,et)=>
 if dP P kt k then
  (match m with
    |.nilm=>some ([],[])
    |.mapr loc s=>σ.bD loc s
    |.mapc ks vs=>some (ks,vs)
    |_=>none).bind fun (ks,vs)=>
  (fU k ks vs).bind fun r=>
  (match r with|some v=>some (v,true)|none=>(zeroT P et).map fun z=>(z,false)).map fun (v,b)=>
  if ok then .tup [v,.bool b] else v
 else none
def gV (σ:Sig) (t:TypeId) (m k v:V):Option Sig:=
 (mapT P t).bind fun (kt,_)=>
 if dP P kt k then
  match m with
  |.mapr loc s=>(σ.bD loc s).bind fun (ks,vs)=>(jD k v ks vs).map fun (ks,vs)=>σ.setObj loc s (.map ks vs)
  |_=>none
 else none
def roomOK (n b:Nat):Bool:=n*b<=2^47&& n<=2^47
def dQ (σ:Sig) (ag:Bool) (sz:Nat) (z:V):V->Option (List V)
 |.int _ n=>if 0<=n/\n<=2^47 then some (List.replicate n.toNat z) else none
 |.lst _ l=>if fI sz l then some l else none
 |.str s=>if sz=1 then some (s.map eU) else none
 |.vw loc s off len _ au _=>if au≠sz then none else (σ.cellsAt loc s).bind fun cs=>
  if off+len*sz<=cs.length/\(oneCells cs=true\/ag=true) then some ((chunks ag sz len (cs.drop off)).map er) else none
 |_=>none
def jV:V->Bool
 |.int _ _=>true
 |_=>false
def dw (om zeros:Bool) (σ:Sig) (st:Nat) (loc:Option Loc) (t:TypeId) (x y:V):Option (V×Sig):=
 (elemT P t).bind fun e=>(szT P e).bind fun sz=>(bytesT P e).bind fun by_=>(isAggT P e).bind fun ag=>(zeroT P e).bind fun z=>
 if zeros=jV y/\z.cells.length=sz/\0<sz/\(ag||sz==1)=true then
 (dQ σ ag sz z y).bind fun ys=>
 if ys.all (fun v=>oneCells v.cells)=true then
 match x with
 |.lst c l=>
  if roomOK (l.length+ys.length) by_=true/\fI sz l=true then
   match om,c with
   |true,.nil=>loc.map fun loc=>(.vw loc st 0 (l.length+ys.length) (l.length+ys.length) sz ag,σ.setObj loc st (.cells ((l++ys).flatMap V.cells)))
   |true,.full=>if ys.isEmpty then some (.lst .full l,σ) else loc.map fun loc=>(.vw loc st 0 (l.length+ys.length) (l.length+ys.length) sz ag,σ.setObj loc st (.cells ((l++ys).flatMap V.cells)))
   |false,.own n s=>if n=sz/\σ.top s=l.length then some (.lst (.own n s) (l++ys),σ.aL s (l.length+ys.length)) else none
   |false,.nil|false,.full=>some (.lst (.own sz st) (l++ys),σ.aL st (l.length+ys.length))
   |_,_=>none
  else none
 |.vw bW s off len cap au _=>
  if roomOK (len+ys.length) by_=true/\om=true/\off=0/\au=sz then
   loc.bind fun loc=>(σ.cellsAt bW s).bind fun cs=>
    if len+ys.length<=cap then
     if (len+ys.length)*sz<=cs.length then
      some (.vw bW s 0 (len+ys.length) cap sz ag,σ.setObj bW s (.cells (spliceL cs (len*sz) (ys.flatMap V.cells))))
     else none
    else if len*sz<=cs.length then
     some (.vw loc st 0 (len+ys.length) (len+ys.length) sz ag,(σ.bR bW).setObj loc st (.cells (cs.take (len*sz)++ys.flatMap V.cells)))
    else none
  else none
 |_=>none
 else none else none
def copyV (σ:Sig) (t:TypeId) (x y:V):Option (V×Sig):=
 (elemT P t).bind fun e=>(szT P e).bind fun sz=>(isAggT P e).bind fun ag=>
 if jV y=false/\(ag||sz==1)=true then
  (dQ σ ag sz undefV y).bind fun ys=>
  if ys.all (fun v=>oneCells v.cells)=true then
  match x with
  |.vw loc s off len _ au _=>
   (σ.cellsAt loc s).bind fun cs=>
     if au=sz/\off+min ys.length len*sz<=cs.length then
      some (.int .i64 (min ys.length len:Nat),σ.setObj loc s (.cells (spliceL cs off ((ys.take (min ys.length len)).flatMap V.cells))))
     else none
  |.lst _ []=>some (.int .i64 (0:Nat),σ)
  |_=>none
  else none
 else none
def vD (t:TypeId) (ok:Bool) (x:V):Option V:=
 match P.underlying t with
 |none|some (.interface _)=>none
 |some _=>match x with
  |.iface u v=>if u=t then some (if ok then .tup [v,.bool true] else v) else if ok then (zeroT P t).map fun z=>.tup [z,.bool false] else none
  |.nili=>if ok then (zeroT P t).map fun z=>.tup [z,.bool false] else none
  |_=>none
def je (σ:Sig) (t:TypeId) (x:V):Option (V×Sig):=
 (elemT P t).bind fun e=>(szT P e).bind fun sz=>(bytesT P e).bind fun _=>(zeroT P e).bind fun z=>
 if z.cells.length=sz/\oneCells z.cells=true then
  match x with
  |.vw loc s off len _ au _=>
   (σ.cellsAt loc s).bind fun cs=>
     if au=sz/\off+len*sz<=cs.length then
      if len=0 then some (undefV,σ) else some (undefV,σ.setObj loc s (.cells (spliceL cs off ((List.replicate len z).flatMap V.cells))))
     else none
  |.lst _ []=>some (undefV,σ)
  |_=>none
 else none
def dR (mx:Bool):V->List V->Option V
 |x,[]=>some x
 |.int k a,.int k' b::l=>if k=k' then dR mx (.int k (if mx then (if b>a then b else a) else (if b<a then b else a))) l else none
 |_,_=>none
def jf (om:Bool) (σ:Sig) (st:Nat) (loc:Option Loc) (t:TypeId) (l c:V):Option (V×Sig):=
 (elemT P t).bind fun e=>(szT P e).bind fun sz=>(bytesT P e).bind fun by_=>(zeroT P e).bind fun z=>
 (dK l).bind fun n=>(dK c).bind fun m=>
 if 0<=n/\n<=m/\roomOK m.toNat by_/\m<=2^47/\z.cells.length=sz then
  if n=0/\om=false then some (.lst (.own sz st) [],σ.aL st 0)
  else loc.bind fun loc=>(isAggT P e).map fun ag=>(.vw loc st 0 n.toNat m.toNat sz ag,σ.setObj loc st (.cells (List.replicate m.toNat z.cells).flatten))
 else none
end ops
end Aq
end
section
namespace Aq
open Go
structure Env where
 P:Program
 glob:Nat->Option (List V)
 imp:FuncId->Bool
 om:FuncId->Bool
 summ:FuncId->Option (List V->Option V)
 own:FuncId->Nat->Bool:=fun _ _=>false
 ownN:FuncId->Bool:=fun _=>false
 frz:TypeId->Bool:=fun _=>false
 fzm:Nat->Bool:=fun _=>false
 cn:Nat->Nat:=fun d=>d
section
variable (E:Env)
def Fr.ev (fr:Fr):Operand->V
 |.tmp t=>fr.tm t
 |.const v=>(ofValue v).getD (.raw v)
 |.global g=>match E.glob g with|some cs=>.cref cs 0|none=>.raw (.pointer (some ⟨g,0,none⟩))
 |.func f=>.fn (.func f) [] []
def bS (fr:Fr):Option Operand->Option V
 |none=>none
 |some x=>some (fr.ev E x)
def fA:V->Option Bool
 |.bool b=>some b
 |_=>none
def partsT (t:TypeId):Option (Nat->Option (Nat×Nat)):=
 match E.P.underlying t with
 |some (.struct fs)=>if fs.toList.all (fun f=>(szT E.P f.type).isSome) then some fun i=>(fs[i]?).bind fun f=>(szT E.P f.type).map fun n=>(f.offset,n)
  else none
 |some (.array _ e)=>(szT E.P e).map fun n=>fun i=>some (i*n,n)
 |_=>none
def l7 (t:TypeId) (len:Nat) (parts:List (Nat×V)):Option V:=
 (elemT E.P t).bind fun e=>(szT E.P e).bind fun sz=>(isAggT E.P e).bind fun ag=>(zeroT E.P e).bind fun z=>
 if len*sz<=2^24/\z.cells.length=sz/\0<sz/\(ag||sz==1)=true then
  (gH (fun i=>if i<len then some (i*sz,sz) else none) (List.replicate len z.cells).flatten parts).bind fun cs=>
    if oneCells cs then some (.lst .full ((chunks ag sz len cs).map er)) else none
 else none
def fzM (d:Option Nat):Bool:=match d with
 |some d=>E.fzm d
 |none=>false
def jg (σ:Sig) (x:V):Option (V×Sig):=match x with
 |.vw loc s off len _ au ag=>(σ.cellsAt loc s).bind fun cs=>
  if off+len*au<=cs.length/\(ag||au==1&& oneCells (((cs.drop off).take (len*au)).map bn))=true then some (.lst .sh (chunks ag au len (((cs.drop off).take (len*au)).map bn)),σ.bR loc) else none
 |.lst _ l=>some (.lst .sh l,σ)
 |v=>some (v,σ)
def aF (fr:Fr) (σ:Sig) (st:Nat) (o:Oper):Option (V×Sig):=
 let loc:Option Loc:=o.dst.map fun t=>(fr.d,t)
 match o.op with
 |.move x=>if fzM E o.dst=true then jg σ (fr.ev E x) else some (fr.ev E x,σ)
 |.assign x=>some (fr.ev E x,σ)
 |.pick c a b=>(fA (fr.ev E c)).map fun t=>(if t then fr.ev E a else fr.ev E b,σ)
 |.alloc t=>loc.bind fun loc=>(zeroT E.P t).bind fun z=>if oneCells z.cells then some (.ref loc st 0,σ.setObj loc st (.cells z.cells)) else none
 |.box t x=>if E.frz t=true then (if pclean (fr.ev E x)=true/\notRaw (fr.ev E x) then some (.cref (fr.ev E x).cells 0,σ) else none) else loc.bind fun loc=>if oneCells (fr.ev E x).cells/\notRaw (fr.ev E x) then some (.ref loc st 0,σ.setObj loc st (.cells (fr.ev E x).cells)) else none
 |.build t parts=>(partsT E t).bind fun pl=>(zeroT E.P t).bind fun z=>(gH pl z.cells (parts.toList.map fun (i,x)=>(i,fr.ev E x))).map fun cs=>(.agg cs,σ)
 |.buildSlice t len parts=>(l7 E t len (parts.toList.map fun (i,x)=>(i,fr.ev E x))).map fun v=>(v,σ)
 |.load t a=>match fr.ev E a with
  |.ref loc s off=>(σ.cellsAt loc s).bind fun cs=>(ldT E.P t cs off).map fun v=>(v,σ)
  |.cref cs off=>(ldT E.P t cs off).map fun v=>(v,σ)
  |_=>none
 |.store t a x=>match fr.ev E a with
  |.ref loc s off=>(σ.cellsAt loc s).bind fun cs=>
   if some (fr.ev E x).cells.length=szT E.P t/\off+(fr.ev E x).cells.length<=cs.length/\oneCells (fr.ev E x).cells then
    some (undefV,σ.setObj loc s (.cells (spliceL cs off (fr.ev E x).cells))) else none
  |_=>none
 |.nilCheck x=>match fr.ev E x with
  |.ref loc s off=>some (.ref loc s off,σ)
  |.cref cs off=>some (.cref cs off,σ)
  |.fn (.func f) a b=>some (.fn (.func f) a b,σ)
  |_=>none
 |.binOp op t x y _=>(gJ E.P op t (fr.ev E x) (fr.ev E y)).map fun v=>(v,σ)
 |.unOp op _ x=>(l5 op (fr.ev E x)).map fun v=>(v,σ)
 |.convert a b x=>(jT E.P σ a b (fr.ev E x)).map fun v=>(v,σ)
 |.sliceToArrayPointer t x=>(arrT E.P t).bind fun (n,_)=>match fr.ev E x with
  |.vw loc s off len _ _ _=>if 0<n/\n<=len then some (.ref loc s off,σ) else none
  |.lst _ l=>if 0<n/\n<=l.length/\oneCells l=true then some (.cref (l.take n) 0,σ) else none
  |_=>none
 |.makeInterface t x=>match E.P.underlying t with
  |some (.interface _)=>none
  |some _=>some (.iface t (fr.ev E x),σ)
  |none=>none
 |.makeFunc (.func f) a b=>some (.fn (.func f) (a.toList.map (fr.ev E)) (b.toList.map (fr.ev E)),σ)
 |.makeMap _ none=>loc.map fun loc=>(.mapr loc st,σ.setObj loc st (.map [] []))
 |.makeSlice t l c=>jf E.P fr.om σ st loc t (fr.ev E l) (fr.ev E c)
 |.slice t x lo hi mx=>(dV E.P σ t (fr.ev E x) (bS E fr lo) (bS E fr hi) (bS E fr mx)).map fun v=>(v,σ)
 |.fieldAddr t x f=>(fieldT E.P t f).bind fun (o,_)=>match fr.ev E x with
  |.ref loc s off=>some (.ref loc s (off+o),σ)
  |.cref cs off=>some (.cref cs (off+o),σ)
  |_=>none
 |.field t x f=>(fieldT E.P t f).bind fun (o,u)=>match fr.ev E x with
  |.agg cs=>(ldT E.P u cs o).map fun v=>(v,σ)
  |_=>none
 |.indexAddr t x i=>(indexAddrV E.P t (fr.ev E x) (fr.ev E i)).map fun v=>(v,σ)
 |.index t x i=>(jU E.P t (fr.ev E x) (fr.ev E i)).map fun v=>(v,σ)
 |.lookup t x i ok=>(jE E.P σ t (fr.ev E x) (fr.ev E i) ok).map fun v=>(v,σ)
 |.mapUpdate t m k v|.insert t m k v=>(gV E.P σ t (fr.ev E m) (fr.ev E k) (fr.ev E v)).map fun σ=>(undefV,σ)
 |.extract x i=>match fr.ev E x with
  |.tup vs=>(vs[i]?).map fun v=>(v,σ)
  |_=>none
 |.typeAssert x _ t ok=>(vD E.P t ok (fr.ev E x)).map fun v=>(v,σ)
 |_=>none
def fB (σ:Sig) (t:TypeId) (x:V):Option Nat:=
 match E.P.underlying t,x with
 |some (.array n _),_=>some n
 |some (.map _ _),.mapr loc s=>(σ.bD loc s).map fun (ks,_)=>ks.length
 |some (.map _ _),.mapc ks _=>some ks.length
 |some (.map _ _),.nilm=>some 0
 |some (.pointer a),_=>(arrT E.P a).map fun (n,_)=>n
 |some (.slice _),.lst _ l=>some l.length
 |some (.slice _),.vw _ _ _ len _ _ _=>some len
 |some .string,.str s=>some s.length
 |_,_=>none
def fC (om:Bool) (loc:Option Loc) (σ:Sig) (st:Nat) (b:Builtin) (tys:Array TypeId) (args:List V):Option (V×Sig):=
 match b,args with
 |.len,[x]=>(tys[0]?).bind fun t=>(fB E σ t x).map fun n=>(.int .i64 (n:Nat),σ)
 |.cap,[x]=>(tys[0]?).bind fun t=>(elemT E.P t).bind fun _=>match x with
  |.lst .nil l|.lst .full l=>some (.int .i64 l.length,σ)
  |_=>none
 |.append,[x,y]=>(tys[0]?).bind fun t=>((tys[1]?).bind E.P.underlying).bind fun u=>match u with
  |.int _=>dw E.P om true σ st loc t x y
  |.slice _|.string=>dw E.P om false σ st loc t x y
  |_=>none
 |.copy,[x,y]=>(tys[0]?).bind fun t=>copyV E.P σ t x y
 |.clear,[x]=>(tys[0]?).bind fun t=>je E.P σ t x
 |.min,x::l=>(dR false x l).map fun v=>(v,σ)
 |.max,x::l=>(dR true x l).map fun v=>(v,σ)
 |_,_=>none
structure bG where
 code:Code->Fr->Sig->Option (Ex×Fr×Sig)
 call:FuncId->List V->Nat->Sig->Option (V×Sig)
variable (S:bG)
def callPure (f:FuncId) (args:List V):Option V:=
 match E.summ f with
 |some g=>g args
 |none=>(S.call f args 1 Sig.init).bind fun (v,σ)=>closeV 20 σ v
def jh (l:Nat) (args:List V) (σ:Sig):Option (V×Sig):=
 (σ.loops l).bind fun r=>
 if r.st=0/\r.ps.length=args.length then
  (S.code r.aK {r.fr with tm:=(r.ps.zip args).foldl (fun tm (p,a)=>upd tm p a) r.fr.tm} σ).bind fun (e,fr,σ1)=>
  match e with
  |.normal=>(σ1.loops l).bind fun r1=>
   if r1.st=0 then
    (S.code r.body fr (σ1.bA l {r1 with st:=1})).bind fun (e,_,σ2)=>(σ2.loops l).bind fun r2=>
    if r2.st=1 then
     match e with
     |.normal=>some (.bool true,σ2.bA l {r2 with st:=0,pend:=none})
     |e=>some (.bool false,σ2.bA l {r2 with st:=2,pend:=some e})
    else none
   else none
  |_=>none
 else none
def dh (d:Nat) (σ:Sig) (fv:V) (args:List V):Option (V×Sig):=
 match fv with
 |.fn (.func f) first cap=>
  if E.imp f then S.call f (first++args++cap) (d+1) σ
  else ((first++args++cap).mapM (closeV 20 σ)).bind fun as=>
   (callPure E S f as).bind fun v=>
   if (first++args++cap).all (fun a=>pclean (er a))||flat v then some (v,σ) else none
 |.fn (.yield l) [] []=>jh S l args σ
 |_=>none
def dL (fr:Fr) (o:Oper) (f:Operand):Bool:=match fr.ev E f,o.dst with
 |.fn (.func g) _ _,some d=>E.own g d
 |_,_=>false
def fV (σ:Sig) (st:Nat) (σ1:Sig):V->Option (V×Sig)
 |.lst c l=>if pcleanL l=true then (match c with
  |.nil=>some (.lst .nil l,σ)
  |.full=>some (.lst .full l,σ)
  |.own n s=>if σ1.top s=l.length then some (.lst (.own n st) l,σ.aL st l.length) else none
  |.sh=>none) else none
 |.vw loc s off len _ au _=>if off=0/\len=0 then (σ1.cellsAt loc s).bind fun _=>some (.lst (.own au st) [],σ.aL st 0) else none
 |_=>none
def gW (b:Bool) (σ:Sig) (l:List V):Option (List V):=if b=true then (match l with
 |.lst .nil []::l=>(l.mapM (closeV 20 σ)).map (.lst .nil []:: ·)
 |_=>none) else l.mapM (closeV 20 σ)
def fZ (σ:Sig) (st:Nat) (fv:V) (args:List V):Option (V×Sig):=
 match fv with
 |.fn (.func f) first cap=>if (first++args++cap).all (fun a=>pclean (er a))=true then
    (gW (E.ownN f) σ (first++args++cap)).bind fun as=>(S.call f as 1 Sig.init).bind fun (v0,σ1)=>fV σ st σ1 v0
  else none
 |_=>none
def opC (fr:Fr) (σ:Sig) (st:Nat) (o:Oper):Option (V×Fr×Sig):=
 match o.op with
 |.call c=>
  match c.callee with
  |.builtin b=>(fC E fr.om (o.dst.map fun t=>(fr.d,E.cn t)) σ st b c.argTypes (c.args.toList.map (fr.ev E))).map fun (v,σ)=>(v,fr,σ)
  |.value f=>if dL E fr o f=true then (fZ E S σ st (fr.ev E f) (c.args.toList.map (fr.ev E))).map fun (v,σ)=>(v,fr,σ) else
   (dh E S fr.d σ (fr.ev E f) (c.args.toList.map (fr.ev E))).map fun (v,σ)=>(v,fr,σ)
  |.invoke .. =>none
 |.defer _=>none
 |_=>(aF E fr σ st o).map fun (v,σ)=>(v,fr,σ)
def aT (ops:List Oper) (fr:Fr) (o:Oper):Option Bool:=
 match o.guard with
 |none=>some true
 |some (j,want)=>match (ops[j]?).bind (·.dst) with
  |some t=>match fr.tm t with
   |.bool b=>some (b==want)
   |.raw _=>none
   |_=>some false
  |none=>some false
def opsE (all:List Oper):Nat->List Oper->Fr->Sig->Option (Fr×Sig)
 |_,[],fr,σ=>some (fr,σ)
 |st,o::os,fr,σ=>
  (aT all fr o).bind fun t=>if t then (opC E S fr σ st o).bind fun (v,fr,σ)=>opsE all (st+1) os (fr.put o.dst v) σ
  else opsE all (st+1) os (fr.put o.dst undefV) σ
inductive Key where
 |slot (t:Nat)
 |obj (l:Loc)
 |top
 |rest
 |nx
def gX (a b:Loc):Bool:=a.2==b.2&& a.1==b.1
def Key.eq:Key->Key->Bool
 |.slot a,.slot b=>a==b
 |.obj a,.obj b=>gX a b
 |.top,.top=>true
 |.rest,.rest=>true
 |.nx,.nx=>true
 |_,_=>false
def Key.state:Key->Bool
 |.obj _|.top|.nx=>true
 |_=>false
structure Foot where
 tAll:Bool
 wAll:Bool
 t:List Key
 w:List Key
def bI:V->List Key
 |.ref loc _ _|.vw loc _ _ _ _ _ _|.mapr loc _=>[.obj loc]
 |_=>[]
def gY (fr:Fr) (o:Oper):List Key:=match o.dst with
 |some t=>[.obj (fr.d,t)]
 |none=>[]
def rdF (t:List Key):Foot:=⟨false,false,t,[]⟩
def wrF (w:List Key):Foot:=⟨false,false,[],w⟩
def allF:Foot:=⟨true,true,[],[]⟩
def bP (fr:Fr) (o:Oper):Foot:=
 match o.op with
 |.assign _|.pick .. |.build .. |.buildSlice .. |.nilCheck _|.binOp .. |.unOp .. |.makeInterface .. |.typeAssert .. |.makeFunc .. |.fieldAddr .. |.field .. |.indexAddr .. |.index .. |.extract ..
 |.sliceToArrayPointer .. =>rdF []
 |.move x=>if fzM E o.dst=true then wrF (bI (fr.ev E x)) else rdF []
 |.convert _ _ x|.slice _ x _ _ _|.load _ x|.lookup _ x _ _=>rdF (bI (fr.ev E x))
 |.alloc _|.box .. |.makeMap .. =>wrF (gY fr o)
 |.makeSlice .. =>wrF (.top::gY fr o)
 |.store _ a _=>wrF (bI (fr.ev E a))
 |.mapUpdate _ m _ _|.insert _ m _ _=>wrF (bI (fr.ev E m))
 |.call c=>match c.callee with
  |.builtin b=>match b with
   |.len|.cap|.min|.max=>rdF (c.args.toList.flatMap fun x=>bI (fr.ev E x))
   |.append=>if fr.om then allF else ⟨false,false,c.args.toList.flatMap fun x=>bI (fr.ev E x),[.top]⟩
   |_=>allF
  |.value f=>if dL E fr o f=true then wrF [.top] else match fr.ev E f with
   |.fn (.func g) a b=>if E.imp g then allF else if (a++c.args.toList.map (fr.ev E)++b).all (fun v=>pclean (er v)) then rdF [] else ⟨true,false,[],[]⟩
   |_=>allF
  |_=>allF
 |_=>allF
def slotsT (ops:List Oper) (o:Oper):List Key:=
 (o.op.operands.toList.filterMap fun|.tmp t=>some (.slot t)|_=>none)++
 match o.guard with
 |some (j,_)=>match (ops[j]?).bind (·.dst) with
  |some t=>[.slot t]
  |none=>[]
 |none=>[]
def slotsW (o:Oper):List Key:=match o.dst with
 |some t=>[.slot t]
 |none=>[]
def bq (ops:List Oper) (fr:Fr) (o:Oper) (wanted:Bool):Foot:=
 if wanted then let f:=bP E fr o;⟨f.tAll,f.wAll,slotsT ops o++f.t,slotsW o++f.w⟩
 else ⟨false,false,slotsT ops o,slotsW o⟩
def clash (f g:Foot):Bool:=
 (f.wAll&& (g.tAll||g.wAll||g.t.any Key.state||g.w.any Key.state))||f.w.any fun k=>k.eq .rest||g.t.any (·.eq k)||g.w.any (·.eq k)||(g.tAll||g.wAll)&& k.state
def vE (f g:Foot):Bool:= !clash f g&& !clash g f
def preM (ops:List Oper):List Nat:=
 ops.foldl (fun acc o=>acc++[o.after.toList.foldl (fun s e=>if Region.binds .any e then s|||2^e.on|||acc.getD e.on 0 else s) 0]) []
def pairsOK (ms:List Nat) (fs:List Foot):Bool:=
 (List.range fs.length).all fun i=>(List.range i).all fun j=>(ms.getD i 0).testBit j||vE (fs.getD i allF) (fs.getD j allF)
def edgesOK (ops:List Oper):Bool:=
 (List.range ops.length).all fun i=>match ops[i]? with
   |some o=>o.after.toList.all fun e=>!Region.binds .any e||decide (e.on<i)
   |none=>true
def eX (all:List Oper):Nat->List Oper->Fr->Sig->Option (List Foot×Fr×Sig)
 |_,[],fr,σ=>some ([],fr,σ)
 |st,o::os,fr,σ=>
  (aT all fr o).bind fun t=>if t then (opC E S fr σ st o).bind fun (v,aB,σ)=>(eX all (st+1) os (aB.put o.dst v) σ).map fun (fs,r)=>(bq E all fr o true::fs,r)
  else (eX all (st+1) os (fr.put o.dst undefV) σ).map fun (fs,r)=>(bq E all fr o false::fs,r)
def Ag (k:Key) (x y:Fr×Sig):Prop:=
 match k with
 |.slot t=>x.1.tm t=y.1.tm t
 |.obj l=>x.2.obj l=y.2.obj l
 |.top=>x.2.top=y.2.top
 |.rest=>x.1.d=y.1.d/\x.1.om=y.1.om
 |.nx=>x.2.next=y.2.next/\x.2.loops=y.2.loops
def dn (ops:List Oper) (base i:Nat) (fr:Fr) (σ:Sig):Option (Fr×Sig):=
 match ops[i]? with
 |none=>some (fr,σ)
 |some o=>
  (aT ops fr o).bind fun t=>if t then (opC E S fr σ (base+i) o).map fun (v,fr,σ)=>(fr.put o.dst v,σ)
  else some (fr.put o.dst undefV,σ)
def Free (ms:List Nat) (ops:List Oper) (base:Nat) (x y:Fr×Sig):Prop:=
 ∃(s:Nat->Fr×Sig) (T W:Nat->Key->Prop),s 0=x/\s ops.length=y/\(∀i k,W i k->T i k)/\
  (∀i,i<ops.length->∀x,(∀k,T i k->Ag k (s i) x)->∃y,dn E S ops base i x.1 x.2=some y/\(∀k,W i k->Ag k (s (i+1)) y)/\∀k,¬W i k->Ag k x y)/\
  (∀i,i<ops.length->∀k,¬W i k->Ag k (s i) (s (i+1)))/\
  ∀i j,i<ops.length->j<i->(ms.getD i 0).testBit j=true\/((∀k,¬(W i k/\T j k))/\∀k,¬(W j k/\T i k))
noncomputable def vF {α:Type} (p:Prop) (x:Option α):Option α:= @ite _ p (Classical.propDecidable p) x none
def nG:V->Bool
 |.fn (.func _) _ _=>true
 |_=>false
noncomputable def aO:Code->Fr->Sig->Option (Ex×Fr×Sig)
 |.skip,fr,σ=>some (.normal,fr,σ)
 |.region _ ops dr,fr,σ=>
  if dr then (eX E S ops.toList σ.next ops.toList fr {σ with next:=σ.next+ops.toList.length}).bind fun (fs,fr',σ')=>if edgesOK ops.toList&& pairsOK (preM ops.toList) fs then some (.normal,fr',σ') else vF (edgesOK ops.toList=true/\Free E S (preM ops.toList) ops.toList σ.next (fr,{σ with next:=σ.next+ops.toList.length}) (fr',σ')) (some (.normal,fr',σ'))
  else
  (opsE E S ops.toList σ.next ops.toList fr {σ with next:=σ.next+ops.toList.length}).map fun (fr,σ)=>(.normal,fr,σ)
 |.seq a b,fr,σ=>(aO a fr σ).bind fun (e,fr,σ)=>match e with
  |.normal=>aO b fr σ
  |e=>some (e,fr,σ)
 |.cond c a b,fr,σ=>(fA (fr.ev E c)).bind fun t=>if t then aO a fr σ else aO b fr σ
 |.block id c,fr,σ=>(aO c fr σ).map fun (e,fr,σ)=>match e with
  |.exit i=>if i=id then (.normal,fr,σ) else (.exit i,fr,σ)
  |e=>(e,fr,σ)
 |.loop c,fr,σ=>(aO c fr σ).bind fun (e,fr,σ)=>match e with
  |.normal=>S.code (.loop c) fr σ
  |e=>some (e,fr,σ)
 |.scope c,fr,σ=>aO c fr σ
 |.label _,fr,σ=>some (.normal,fr,σ)
 |.exit id,fr,σ=>some (.exit id,fr,σ)
 |.ret,fr,σ=>some (.ret,fr,σ)
 |.rangeFunc f ps aK body,fr,σ=>
  if nG (fr.ev E f) then (dh E S fr.d ({σ with next:=σ.next+1}.bA σ.next {st:=0,pend:=none,fr:=fr,ps:=ps.toList,aK:=aK,body:=body}) (fr.ev E f) [.fn (.yield σ.next) [] []]).bind fun (_,σ2)=>
  (σ2.loops σ.next).bind fun r=>
  if r.st=1 then none else some ((match r.pend with|none=>.normal|some e=>e),fr,σ2.eP σ.next)
  else none
 |_,_,_=>none
def resV (fr:Fr) (σ:Sig):ResultVar->Option V
 |.tmp t=>some (fr.tm t)
 |.cell a t=>match fr.tm a with
  |.ref loc s off=>(σ.cellsAt loc s).bind fun cs=>ldT E.P t cs off
  |_=>none
def iO (n:Nat) (ops:List Oper):Bool:=ops.all fun o=>match o.dst with
 |some d=>d<n
 |none=>true
def aP (n:Nat):Code->Bool
 |.region _ ops _=>iO n ops.toList
 |.seq a b=>aP n a&& aP n b
 |.cond _ a b=>aP n a&& aP n b
 |.block _ c=>aP n c
 |.loop c=>aP n c
 |.scope c=>aP n c
 |.rangeFunc _ ps a b=>ps.toList.all (· <n)&& aP n a&& aP n b&& bH a&& bH b
 |_=>true
noncomputable def kR (f:FuncId) (args:List V) (d:Nat) (σ:Sig):Option (V×Sig):=
 (E.P.funcs[f]?).bind fun fn=>fn.body.bind fun c=>
 if args.length<=fn.ntmps/\aP fn.ntmps c then
 (S.code c {d:=d,om:=E.om f,tm:=fun i=>args.getD i undefV} σ).bind fun (e,fr,σ)=>
 match e with
 |.normal|.ret=>
  (fn.results.toList.mapM (resV E fr σ)).map fun vs=>(match vs with| [v]=>v|vs=>.tup vs,σ)
 |.exit _=>none
 else none
noncomputable def evl:Nat->bG
 |0=>⟨fun _ _ _=>none,fun _ _ _ _=>none⟩
 |n+1=>⟨aO E (evl n),kR E (evl n)⟩
end
end Aq
end
section
namespace Aq
open Go Go.RowKit
inductive nH where
 |obj (loc:Loc)
 |own (s:Nat)
 |loop (l:Nat)
structure Con where
 A:Nat->Prop
 blk:Nat->Nat
 sz:Nat->Nat
 ob:Nat->Nat
 lo:Nat->Nat
 hi:Nat->Nat
 lp:Nat->Nat
 I:Nat->Nat->Prop
 IM:Nat->Prop
 D:Nat->Prop
 ρ:Nat->Option nH
abbrev at_ (b o:Nat):Addr:=⟨b,o,none⟩
def gK (K:Con) (T:Nat->Nat) (c:Cap) (n b o len cap:Nat):Prop:=
 match c with
 |.sh=>True
 |.full=>cap=len
 |.nil=>False
 |.own n' s=>n'=n/\K.A s/\len<=T s/\(len=T s->K.ob s=b/\K.lo s=o+len*n/\K.hi s=o+cap*n)
def pO (K:Con) (T:Nat->Nat) (c:Cap):Prop:=
 match c with
 |.own _ s=>K.A s/\(T s=0->K.hi s=K.lo s)
 |_=>True
inductive Rel (K:Con) (T:Nat->Nat) (w:World):V->Value->Prop
 |int (k:IntKind) (n:Int):Rel K T w (.int k n) (.int k n)
 |bool (b:Bool):Rel K T w (.bool b) (.bool b)
 |str (s:List UInt8) (b:ByteArray) (h:b.data.toList=s):Rel K T w (.str s) (.string b)
 |nilp:Rel K T w .nilp (.pointer none)
 |nilf:Rel K T w .nilf .nilFunc
 |nilm:Rel K T w .nilm (.map none)
 |nili:Rel K T w .nili .nilIface
 |agg (cs:List V) (vs:Array Value) (hl:cs.length=vs.size) (h:∀i,i<cs.length->Rel K T w (cs.getD i undefV) (vs.getD i undef)):Rel K T w (.agg cs) (.agg vs)
 |tup (cs:List V) (vs:Array Value) (hl:cs.length=vs.size) (h:∀i,i<cs.length->Rel K T w (cs.getD i undefV) (vs.getD i undef)):Rel K T w (.tup cs) (.tuple vs)
 |aV (c:Cap) (a:Option Addr) (ha:c= .nil->a=none) (hc:pO K T c):Rel K T w (.lst c []) (.slice a 0 0)
 |lst (c:Cap) (l:List V) (b o n cap:Nat) (val:Nat->Nat->Value) (hle:l.length<=cap)
   (hn:∀i,i<l.length->(l.getD i undefV).cells.length=n)
   (hcell:∀i j,i<l.length->j<n->w.cell? (at_ b (o+i*n+j))=some (val i j)/\K.I b (o+i*n+j))
   (hrel:∀i j,i<l.length->j<n->Rel K T w ((l.getD i undefV).cells.getD j undefV) (val i j))
   (hc:gK K T c n b o l.length cap):Rel K T w (.lst c l) (.slice (some (at_ b o)) l.length cap)
 |vw (loc:Loc) (s off len cap au:Nat) (ag:Bool) (aM:Nat) (hA:K.A s) (hc:cap<=aM) (hle:len<=cap) (hsz:off+aM*au<=K.sz s):
   Rel K T w (.vw loc s off len cap au ag) (.slice (some (at_ (K.blk s) off)) len aM)
 |dM (loc:Loc) (s au:Nat) (ag:Bool) (hA:K.A s):Rel K T w (.vw loc s 0 0 0 au ag) (.slice none 0 0)
 |cref (cs:List V) (off b o:Nat) (val:Nat->Value)
   (hcell:∀j,j<cs.length->w.cell? (at_ b (o+j))=some (val j)/\K.I b (o+j))
   (hrel:∀j,j<cs.length->Rel K T w (cs.getD j undefV) (val j)):Rel K T w (.cref cs off) (.pointer (some (at_ b (o+off))))
 |ref (loc:Loc) (s off:Nat) (hA:K.A s):Rel K T w (.ref loc s off) (.pointer (some (at_ (K.blk s) off)))
 |fn (f:FuncId) (a b:List V) (av bv:Array Value) (ha:a.length=av.size) (hb:b.length=bv.size)
   (ra:∀i,i<a.length->Rel K T w (a.getD i undefV) (av.getD i undef)) (rb:∀i,i<b.length->Rel K T w (b.getD i undefV) (bv.getD i undef)):
   Rel K T w (.fn (.func f) a b) (.func (.func f) av bv)
 |yield (l:Nat) (hA:K.A l):Rel K T w (.fn (.yield l) [] []) (.func (.yield (K.lp l)) #[] #[])
 |mapr (loc:Loc) (s:Nat) (hA:K.A s):Rel K T w (.mapr loc s) (.map (some (K.blk s)))
 |mapc (ks vs:List V) (b:Nat) (es:Array MapEntry) (aI:Nat) (hM:K.IM b) (hb:w.heap[b]? =some (.map es aI))
   (hk:ks.length=es.size) (hv:vs.length=es.size)
   (rk:∀i,i<es.size->Rel K T w (ks.getD i undefV) (es.getD i default).key) (rv:∀i,i<es.size->Rel K T w (vs.getD i undefV) (es.getD i default).val):
   Rel K T w (.mapc ks vs) (.map (some b))
 |iface (t:TypeId) (v:V) (c:Value) (h:Rel K T w v c):Rel K T w (.iface t v) (.iface t c)
 |raw (v:Value):Rel K T w (.raw v) v
structure Ext (K:Con) (T:Nat->Nat) (w:World) (K':Con) (T':Nat->Nat) (w':World):Prop where
 A:∀s,K.A s->K'.A s/\K'.blk s=K.blk s/\K'.lp s=K.lp s/\K'.sz s=K.sz s
 own:∀s,K.A s->(T' s=T s/\K'.ob s=K.ob s/\K'.lo s=K.lo s/\K'.hi s=K.hi s)\/T s<T' s
 I:∀b o,K.I b o->K'.I b o/\w'.cell? (at_ b o)=w.cell? (at_ b o)
 IM:∀b,K.IM b->K'.IM b/\w'.heap[b]? =w.heap[b]?
theorem Ext.refl (K:Con) (T:Nat->Nat) (w:World):Ext K T w K T w:=
 ⟨fun _ h=>⟨h,rfl,rfl,rfl⟩,fun _ _=>.inl ⟨rfl,rfl,rfl,rfl⟩,fun _ _ h=>⟨h,rfl⟩,fun _ h=>⟨h,rfl⟩⟩
theorem Ext.trans {K T w K1 T1 w1 K2 T2 w2} (h:Ext K T w K1 T1 w1) (g:Ext K1 T1 w1 K2 T2 w2):Ext K T w K2 T2 w2 where
 A s hs:=by
   obtain⟨a,b,c,d⟩:=h.A s hs
   obtain⟨a',b',c',d'⟩:=g.A s a
   exact⟨a',b'.trans b,c'.trans c,d'.trans d⟩
 own s hs:=by
  obtain⟨a,_,_,_⟩:=h.A s hs
  rcases h.own s hs with ⟨h1,h2,h3,h4⟩|h1
  ·rcases g.own s a with ⟨g1,g2,g3,g4⟩|g1
   ·exact .inl ⟨g1.trans h1,g2.trans h2,g3.trans h3,g4.trans h4⟩
   ·exact .inr (by omega)
  ·rcases g.own s a with ⟨g1,_⟩|g1
   ·exact .inr (by omega)
   ·exact .inr (by omega)
 I b o hb:=by
   obtain⟨a,e⟩:=h.I b o hb
   obtain⟨a',e'⟩:=g.I b o a
   exact⟨a',e'.trans e⟩
 IM b hb:=by
  obtain⟨a,e⟩:=h.IM b hb
  obtain⟨a',e'⟩:=g.IM b a
  exact⟨a',e'.trans e⟩
theorem gK.ext {K T w K' T' w'} (e:Ext K T w K' T' w') {c:Cap} {n b o len cap:Nat} (h:gK K T c n b o len cap):gK K' T' c n b o len cap:=by
 cases c with
 |sh=>trivial
 |full=>exact h
 |nil=>exact h
 |own n' s=>
  obtain⟨h1,h2,h3,h4⟩:=h
  refine⟨h1,(e.A s h2).1,?_,?_⟩
  ·rcases e.own s h2 with ⟨e1,_⟩|e1<;>omega
  ·intro hl
   rcases e.own s h2 with ⟨e1,e2,e3,e4⟩|e1
   ·rw[e2,e3,e4];exact h4 (by omega)
   ·omega
theorem pO.ext {K T w K' T' w'} (e:Ext K T w K' T' w') {c:Cap} (h:pO K T c):pO K' T' c:=by
 cases c with
 |own n' s=>
  refine⟨(e.A s h.1).1,fun h0=>?_⟩
  rcases e.own s h.1 with ⟨e1,_,e3,e4⟩|e1
  ·rw[e3,e4];exact h.2 (by omega)
  ·omega
 |_=>trivial
theorem Rel.ext {K T w K' T' w'} (e:Ext K T w K' T' w') {v:V} {c:Value} (h:Rel K T w v c):Rel K' T' w' v c:=by
 induction h with
 |int k n=>exact .int k n
 |bool b=>exact .bool b
 |str s b h=>exact .str s b h
 |nilp=>exact .nilp
 |nilf=>exact .nilf
 |nilm=>exact .nilm
 |nili=>exact .nili
 |agg cs vs hl _ ih=>exact .agg cs vs hl ih
 |tup cs vs hl _ ih=>exact .tup cs vs hl ih
 |aV c a ha hc=>exact .aV c a ha (hc.ext e)
 |lst c l b o n cap val hle hn hcell _ hc ih=>
  refine .lst c l b o n cap val hle hn (fun i j hi hj=>?_) ih (hc.ext e)
  obtain⟨h1,h2⟩:=hcell i j hi hj
  obtain⟨g1,g2⟩:=e.I _ _ h2
  exact⟨g2.trans h1,g1⟩
 |vw loc s off len cap au ag aM hA hc hle hsz=>
  have:=(e.A s hA);rw[<-this.2.1];exact .vw loc s off len cap au ag aM this.1 hc hle (by rw[this.2.2.2];exact hsz)
 |dM loc s au ag hA=>exact .dM loc s au ag (e.A s hA).1
 |cref cs off b o val hcell _ ih=>
  refine .cref cs off b o val (fun j hj=>?_) ih
  obtain⟨h1,h2⟩:=hcell j hj
  obtain⟨g1,g2⟩:=e.I _ _ h2
  exact⟨g2.trans h1,g1⟩
 |ref loc s off hA=>have:=(e.A s hA);rw[<-this.2.1];exact .ref loc s off this.1
 |fn f a b av bv ha hb _ _ iha ihb=>exact .fn f a b av bv ha hb iha ihb
 |yield l hA=>have:=(e.A l hA);rw[<-this.2.2.1];exact .yield l this.1
 |mapr loc s hA=>have:=(e.A s hA);rw[<-this.2.1];exact .mapr loc s this.1
 |mapc ks vs b es aI hM hb hk hv _ _ ihk pQ=>
  obtain⟨g1,g2⟩:=e.IM b hM
  exact .mapc ks vs b es aI g1 (g2.trans hb) hk hv ihk pQ
 |iface t v c _ ih=>exact .iface t v c ih
 |raw v=>exact .raw v
theorem Rel.undef (K T w):Rel K T w undefV undef:=.tup [] #[] rfl (fun i hi=>absurd hi (RI i))
def AObj.real:AObj->Prop
 |.cells []=>False
 |_=>True
def nJ (K:Con) (T:Nat->Nat) (w:World) (B0 s:Nat):AObj->Prop
 |.cells cs=>(cs=[]->K.sz s=0)/\(cs≠[]->B0<=K.blk s/\∃vals t,w.heap[K.blk s]? =some (.cells vals t (0,0))/\vals.size=K.sz s/\cs.length<=vals.size/\
    ∀i,i<cs.length->Rel K T w (cs.getD i undefV) (vals.getD i undef))
 |.map ks vs=>B0<=K.blk s/\∃es aI,w.heap[K.blk s]? =some (.map es aI)/\ks.length=es.size/\vs.length=es.size/\
    (∀i,i<es.size->Rel K T w (ks.getD i undefV) (es.getD i default).key)/\(∀i,i<es.size->Rel K T w (vs.getD i undefV) (es.getD i default).val)
def bT (K:Con) (T:Nat->Nat) (w:World) (fr:Fr) (tmps:Array Value):Prop:=∀t,Rel K T w (fr.tm t) (tmps.getD t undef)
def fJ:Ex->Option Code
 |.normal=>none
 |.exit i=>some (.exit i)
 |.ret=>some .ret
def fD (n:Nat):LoopState:=if n=0 then .ready else if n=1 then .busy else .done
def pR (K:Con) (T:Nat->Nat) (w:World) (B0 l:Nat) (r:fT):Prop:=
 B0<=K.lp l/\K.ρ (K.lp l)=some (.loop l)/\∃(fn:FuncId) (tmps:Array Value) (D:Nat),
  w.heap[K.lp l]? =some (.loop {state:=fD r.st,pending:=r.pend.bind fJ,fn:=fn,tmps:=tmps,params:=r.ps.toArray,assign:=r.aK,body:=r.body,defers:=D})/\
  bT K T w r.fr tmps/\aP tmps.size r.aK=true/\aP tmps.size r.body=true/\(∀p∈r.ps,p<tmps.size)/\bH r.aK=true/\bH r.body=true
def vG (K:Con) (w:World) (B0 s:Nat):Prop:=
 B0<=K.ob s/\K.ρ (K.ob s)=some (.own s)/\∀o,K.lo s<=o->o<K.hi s->¬K.I (K.ob s) o/\(∃v,w.cell? (at_ (K.ob s) o)=some v)/\w.frozen? (at_ (K.ob s) o)=false
structure ay (E:Env) (B0:Nat) (σ:Sig) (K:Con) (w:World):Prop where
 obj:∀loc s ob,σ.obj loc=some (s,ob)->K.A s/\nJ K σ.top w B0 s ob/\(ob.real->K.ρ (K.blk s)=some (.obj loc))
 own:∀s,K.A s->K.lo s<K.hi s->vG K w B0 s
 I:∀b o,K.I b o->(∃v,w.cell? (at_ b o)=some v)/\∀loc,K.ρ b≠some (.obj loc)
 IM:∀b,K.IM b->(∃es aI,w.heap[b]? =some (.map es aI))/\∀loc,K.ρ b≠some (.obj loc)
 loop:∀l r,σ.loops l=some r->K.A l/\pR K σ.top w B0 l r
 glob:∀g cs,E.glob g=some cs->Rel K σ.top w (.cref cs 0) (.pointer (some (at_ g 0)))
 rb:∀b r,K.ρ b=some r->b<w.heap.size/\B0<=b
 D:∀b,K.D b->w.heap[b]? =some (.deferred (some []))
structure Only (b:Nat) (w w':World):Prop where
 os:w'.os=w.os
 tape:w'.tape=w.tape
 output:w'.output=w.output
 size:w.heap.size<=w'.heap.size
 block:∀k,k≠b->k<w.heap.size->w'.heap[k]? =w.heap[k]?
theorem Only.below {b B0:Nat} {w w':World} (h:Only b w w') (hb:B0<=b) (hB:B0<=w.heap.size):Below B0 w w':=
 ⟨h.os,h.tape,h.output,h.size,fun k hk=>h.block k (by omega) (by omega)⟩
theorem cell_of_heap {w w':World} {b o:Nat} (h:w'.heap[b]? =w.heap[b]?):w'.cell? (at_ b o)=w.cell? (at_ b o):=by
 simp[World.cell?,h]
theorem frozen_of_heap {w w':World} {b o:Nat} (h:w'.heap[b]? =w.heap[b]?):w'.frozen? (at_ b o)=w.frozen? (at_ b o):=by
 simp[World.frozen?,h]
theorem lt_of_cell {w:World} {b o:Nat} {v:Value} (h:w.cell? (at_ b o)=some v):b<w.heap.size:=World.block_lt_of_cell? w (at_ b o) h
theorem lt_of_heap {w:World} {b:Nat} {o:Obj} (h:w.heap[b]? =some o):b<w.heap.size:=(Array.getElem?_eq_some_iff.1 h).1
theorem bT.ext {K T w K' T' w'} (e:Ext K T w K' T' w') {fr:Fr} {tmps:Array Value} (h:bT K T w fr tmps):bT K' T' w' fr tmps:=fun t=>(h t).ext e
theorem nJ.ext {K T w K' T' w'} (e:Ext K T w K' T' w') {B0 s:Nat} (hA:K.A s) {ob:AObj} (h:nJ K T w B0 s ob) (hb:ob.real->w'.heap[K.blk s]? =w.heap[K.blk s]?):
 nJ K' T' w' B0 s ob:=by
 obtain⟨_,e2,_,e4⟩:=e.A s hA
 cases ob with
 |cells cs=>
  refine⟨fun h0=>by rw[e4];exact h.1 h0,fun hne=>?_⟩
  obtain⟨h1,vals,t,h2,h3,h4,h5⟩:=h.2 hne
  have hb':=hb (by cases cs with|nil=>exact absurd rfl hne|cons _ _=>trivial)
  refine⟨by rw[e2];exact h1,vals,t,by rw[e2,hb',h2],by rw[e4];exact h3,h4,fun i hi=>(h5 i hi).ext e⟩
 |map ks vs=>
  obtain⟨h1,es,aI,h2,h3,h4,h5,h6⟩:=h
  exact⟨by rw[e2];exact h1,es,aI,by rw[e2,hb trivial,h2],h3,h4,fun i hi=>(h5 i hi).ext e,fun i hi=>(h6 i hi).ext e⟩
theorem pR.ext {K T w K' T' w'} (e:Ext K T w K' T' w') {B0 l:Nat} (hA:K.A l) {r:fT} (h:pR K T w B0 l r) (hb:w'.heap[K.lp l]? =w.heap[K.lp l]?) (hρ:K'.ρ (K.lp l)=K.ρ (K.lp l)):
 pR K' T' w' B0 l r:=by
 obtain⟨_,_,e3,_⟩:=e.A l hA
 obtain⟨h1,hr,fn,tmps,D,h2,h3,h4⟩:=h
 exact⟨by rw[e3];exact h1,by rw[e3,hρ];exact hr,fn,tmps,D,by rw[e3,hb,h2],h3.ext e,h4⟩
theorem ay.upd {E:Env} {B0 b:Nat} {σ σ':Sig} {K K':Con} {w w':World} (h:ay E B0 σ K w) (ho:Only b w w') (e:Ext K σ.top w K' σ'.top w')
 (hρ:∀k,k≠b->K'.ρ k=K.ρ k) (Hz:∀r,K'.ρ b=some r->b<w'.heap.size/\B0<=b)
 (rZ:∀loc s ob,σ'.obj loc=some (s,ob)->(σ.obj loc=some (s,ob)/\(ob.real->K.blk s≠b))\/
   (K'.A s/\nJ K' σ'.top w' B0 s ob/\(ob.real->K'.ρ (K'.blk s)=some (.obj loc))))
 (hown:∀s,K'.A s->K'.lo s<K'.hi s->(K.A s/\K'.lo s=K.lo s/\K'.hi s=K.hi s/\K'.ob s=K.ob s/\K.ob s≠b)\/vG K' w' B0 s)
 (hI:∀b' o,K'.I b' o->(K.I b' o/\b'≠b)\/(b'=b/\(∃v,w'.cell? (at_ b o)=some v)/\∀loc,K'.ρ b≠some (.obj loc)))
 (vH:∀b',K'.IM b'->(K.IM b'/\b'≠b)\/(b'=b/\(∃es aI,w'.heap[b]? =some (.map es aI))/\∀loc,K'.ρ b≠some (.obj loc)))
 (hloop:∀l r,σ'.loops l=some r->(σ.loops l=some r/\K.lp l≠b)\/(K'.A l/\pR K' σ'.top w' B0 l r))
 (hD:∀b',K'.D b'->(K.D b'/\b'≠b)\/(b'=b/\w'.heap[b]? =some (.deferred (some [])))):ay E B0 σ' K' w' where
 obj loc s ob hs:=by
  rcases rZ loc s ob hs with ⟨h1,h2⟩|h1
  ·obtain⟨a1,a2,a3⟩:=h.obj loc s ob h1
   obtain⟨e1,e2,_,_⟩:=e.A s a1
   refine⟨e1,a2.ext e a1 (fun hr=>ho.block _ (h2 hr) (h.rb _ _ (a3 hr)).1),fun hr=>?_⟩
   rw[e2,hρ _ (h2 hr)];exact a3 hr
  ·exact h1
 own s hs hlt:=by
  rcases hown s hs hlt with ⟨h1,h2,h3,h4,h5⟩|h1
  ·obtain⟨a1,a2,a3⟩:=h.own s h1 (by omega)
   refine⟨by rw[h4];exact a1,by rw[h4,hρ _ h5];exact a2,fun o hl hh=>?_⟩
   obtain⟨c1,⟨v,c2⟩,c3⟩:=a3 o (by omega) (by omega)
   have hb:=ho.block _ h5 (lt_of_cell c2)
   rw[h4]
   refine⟨fun hi=>?_,⟨v,by rw[cell_of_heap hb];exact c2⟩,by rw[frozen_of_heap hb];exact c3⟩
   rcases hI _ _ hi with ⟨g,_⟩| ⟨g,_⟩
   ·exact c1 g
   ·exact h5 g
  ·exact h1
 I b' o hi:=by
   rcases hI b' o hi with ⟨h1,h2⟩| ⟨h1,h2,h3⟩
   ·obtain⟨⟨v,c⟩,r⟩:=h.I b' o h1
    exact⟨⟨v,by rw[cell_of_heap (ho.block _ h2 (lt_of_cell c))];exact c⟩,by rw[hρ _ h2];exact r⟩
   ·subst h1;exact⟨h2,h3⟩
 IM b' hi:=by
  rcases vH b' hi with ⟨h1,h2⟩| ⟨h1,h2,h3⟩
  ·obtain⟨⟨es,aI,c⟩,r⟩:=h.IM b' h1
   exact⟨⟨es,aI,by rw[ho.block _ h2 (lt_of_heap c)];exact c⟩,by rw[hρ _ h2];exact r⟩
  ·subst h1;exact⟨h2,h3⟩
 loop l r hl:=by
  rcases hloop l r hl with ⟨h1,h2⟩|h1
  ·obtain⟨a1,a2⟩:=h.loop l r h1
   refine⟨(e.A l a1).1,a2.ext e a1 (ho.block _ h2 (h.rb _ _ a2.2.1).1) (hρ _ h2)⟩
  ·exact h1
 glob g cs hg:=(h.glob g cs hg).ext e
 rb b' r hr:=by
  by_cases hb:b'=b
  ·subst hb;exact Hz r hr
  ·rw[hρ _ hb] at hr
   have:=h.rb b' r hr
   exact⟨RS this.1 ho.size,this.2⟩
 D b' hd:=by
   rcases hD b' hd with ⟨h1,h2⟩| ⟨h1,h2⟩
   ·have:=h.D b' h1
    rw[ho.block _ h2 (lt_of_heap this)];exact this
   ·rw[h1];exact h2
theorem ay.same {E:Env} {B0:Nat} {σ:Sig} {K:Con} {w w':World} (h:ay E B0 σ K w) (hh:w'.heap=w.heap):ay E B0 σ K w':=by
 have e:Ext K σ.top w K σ.top w':=⟨fun _ h=>⟨h,rfl,rfl,rfl⟩,fun _ _=>.inl ⟨rfl,rfl,rfl,rfl⟩,fun b o h=>⟨h,cell_of_heap (by rw[hh])⟩,fun b h=>⟨h,by rw[hh]⟩⟩
 refine⟨fun loc s ob hs=>?_,fun s hs hl=>?_,fun b o hi=>?_,fun b hi=>?_,fun l r hl=>?_,fun g cs hg=>(h.glob g cs hg).ext e,fun b r hr=>by rw[hh];exact h.rb b r hr,fun b hb=>by rw[hh];exact h.D b hb⟩
 ·obtain⟨a1,a2,a3⟩:=h.obj loc s ob hs
  exact⟨a1,a2.ext e a1 (fun _=>by rw[hh]),a3⟩
 ·obtain⟨a1,a2,a3⟩:=h.own s hs hl
  exact⟨a1,a2,fun o p q=>⟨(a3 o p q).1,by rw[cell_of_heap (w:=w) (by rw[hh])];exact(a3 o p q).2.1,by rw[frozen_of_heap (w:=w) (by rw[hh])];exact(a3 o p q).2.2⟩⟩
 ·obtain⟨a1,a2⟩:=h.I b o hi
  exact⟨by rw[cell_of_heap (w:=w) (by rw[hh])];exact a1,a2⟩
 ·obtain⟨a1,a2⟩:=h.IM b hi
  exact⟨by rw[hh];exact a1,a2⟩
 ·obtain⟨a1,a2⟩:=h.loop l r hl
  exact⟨a1,a2.ext e a1 (by rw[hh]) rfl⟩
structure Step (E:Env) (B0:Nat) (new:Nat->Prop) (σ:Sig) (K:Con) (w:World) (σ':Sig) (K':Con) (w':World):Prop where
 ok:ay E B0 σ' K' w'
 ext:Ext K σ.top w K' σ'.top w'
 below:Below B0 w w'
 D:∀b,K.D b->K'.D b
 A:∀s,K'.A s->K.A s\/new s
 nI:∀b o,K'.I b o->K.I b o\/B0<=b
 gZ:∀b,K'.IM b->K.IM b\/B0<=b
theorem Step.refl {E B0 new σ K w} (h:ay E B0 σ K w):Step E B0 new σ K w σ K w:=
 ⟨h,.refl _ _ _,.refl _ _,fun _ h=>h,fun _ h=>.inl h,fun _ _ h=>.inl h,fun _ h=>.inl h⟩
theorem Step.trans {E B0 new σ K w σ1 K1 w1 σ2 K2 w2} (h:Step E B0 new σ K w σ1 K1 w1) (g:Step E B0 new σ1 K1 w1 σ2 K2 w2):Step E B0 new σ K w σ2 K2 w2:=
 ⟨g.ok,h.ext.trans g.ext,h.below.trans g.below,fun b hb=>g.D b (h.D b hb),
   fun s hs=>(g.A s hs).elim (h.A s) .inr,fun b o hi=>(g.nI b o hi).elim (h.nI b o) .inr,fun b hi=>(g.gZ b hi).elim (h.gZ b) .inr⟩
theorem Step.mono {E B0 new new' σ K w σ1 K1 w1} (h:Step E B0 new σ K w σ1 K1 w1) (hn:∀s,new s->new' s):Step E B0 new' σ K w σ1 K1 w1:=
 ⟨h.ok,h.ext,h.below,h.D,fun s hs=>(h.A s hs).imp id (hn s),h.nI,h.gZ⟩
theorem Step.same {E B0 new σ K w w'} (h:ay E B0 σ K w) (hh:w'.heap=w.heap) (h1:w'.os=w.os) (h2:w'.tape=w.tape) (h3:w'.output=w.output):Step E B0 new σ K w σ K w':=
 ⟨h.same hh,⟨fun _ h=>⟨h,rfl,rfl,rfl⟩,fun _ _=>.inl ⟨rfl,rfl,rfl,rfl⟩,fun b o h=>⟨h,cell_of_heap (by rw[hh])⟩,fun b h=>⟨h,by rw[hh]⟩⟩,
   ⟨h1,h2,h3,by rw[hh];exact mF _,fun k _=>by rw[hh]⟩,fun b h=>h,fun _ h=>.inl h,fun _ _ h=>.inl h,fun _ h=>.inl h⟩
theorem l8 (w:World) (o:Obj):Only w.heap.size w (w.alloc o):=
 ⟨rfl,rfl,rfl,by simp,fun k hk hl=>by show (w.heap.push o)[k]? =_;rw[Array.getElem?_push,if_neg hk]⟩
theorem heap_alloc_new (w:World) (o:Obj):(w.alloc o).heap[w.heap.size]? =some o:=by show (w.heap.push o)[w.heap.size]? =_;simp
theorem heap_alloc_old {w:World} {o:Obj} {k:Nat} (h:k<w.heap.size):(w.alloc o).heap[k]? =w.heap[k]? :=by
 show (w.heap.push o)[k]? =_;rw[Array.getElem?_push,if_neg (by omega)]
theorem sj {w:World} {o:Obj} {b i:Nat} {v:Value} (h:w.cell? (at_ b i)=some v):(w.alloc o).cell? (at_ b i)=some v:=by
 rw[cell_of_heap (heap_alloc_old (lt_of_cell h))];exact h
def Con.dF (K:Con) (st b n:Nat) (loc:Loc):Con:=
 {K with A:=fun s=>K.A s\/s=st,blk:=upd K.blk st b,sz:=upd K.sz st n,lo:=upd K.lo st 0,hi:=upd K.hi st 0,ρ:=upd K.ρ b (some (.obj loc))}
theorem upd_same {κ α:Type} [DecidableEq κ] (f:κ->α) (k:κ) (v:α):upd f k v k=v:=by simp[upd]
theorem upd_ne {κ α:Type} [DecidableEq κ] (f:κ->α) {k j:κ} (v:α) (h:j≠k):upd f k v j=f j:=by simp[upd,h]
theorem Step.su {E B0 σ K w} (h:ay E B0 σ K w) (hB:B0<=w.heap.size) {st:Nat} (hst:¬K.A st) (loc:Loc) (ob:AObj) (o:Obj) (n:Nat)
 (bY:∀K',Ext K σ.top w K' σ.top (w.alloc o)->K'.A st->K'.blk st=w.heap.size->K'.sz st=n->nJ K' σ.top (w.alloc o) B0 st ob):
 Step E B0 (· =st) σ K w (σ.setObj loc st ob) (K.dF st w.heap.size n loc) (w.alloc o):=by
 have hne:∀s,K.A s->s≠st:=fun s hs e=>hst (e▸hs)
 have e:Ext K σ.top w (K.dF st w.heap.size n loc) σ.top (w.alloc o):=by
  refine⟨fun s hs=>⟨.inl hs,upd_ne _ _ (hne s hs),rfl,upd_ne _ _ (hne s hs)⟩,fun s hs=>.inl ⟨rfl,rfl,upd_ne _ _ (hne s hs),upd_ne _ _ (hne s hs)⟩,fun b i hi=>⟨hi,?_⟩,fun b hb=>⟨hb,?_⟩⟩
  ·obtain⟨⟨v,hv⟩,_⟩:=h.I b i hi
   rw[hv];exact sj hv
  ·obtain⟨⟨es,aI,hv⟩,_⟩:=h.IM b hb
   exact heap_alloc_old (lt_of_heap hv)
 refine⟨?_,e,(l8 w o).below hB hB,fun b hb=>hb,fun s hs=>hs,fun _ _ hi=>.inl hi,fun _ hi=>.inl hi⟩
 refine h.upd (σ':=σ.setObj loc st ob) (l8 w o) e (fun k hk=>upd_ne _ _ hk) (fun r _=>⟨by simp,hB⟩) ?_ ?_ ?_ ?_ ?_ ?_
 ·intro loc' s' nK hs
  by_cases hl:loc'=loc
  ·subst hl
   right
   simp only[Sig.setObj,upd_same,iE,iR] at hs
   obtain⟨rfl,rfl⟩:=hs
   exact⟨.inr rfl,bY _ e (.inr rfl) (upd_same _ _ _) (upd_same _ _ _),fun _=>by
    show upd K.ρ w.heap.size _ (upd K.blk st w.heap.size st)=_
    rw[upd_same,upd_same]⟩
  ·left
   simp only[Sig.setObj,upd_ne _ _ hl] at hs
   refine⟨hs,fun hr=>?_⟩
   have:=(h.rb _ _ ((h.obj _ _ _ hs).2.2 hr)).1
   omega
 ·intro s hs hlt
  left
  have hs':s≠st:=by
   rintro rfl
   simp only[Con.dF,upd_same] at hlt
   omega
  have hA:K.A s:=hs.resolve_right hs'
  simp only[Con.dF,upd_ne _ _ hs'] at hlt
  refine⟨hA,upd_ne _ _ hs',upd_ne _ _ hs',rfl,?_⟩
  have:=(h.rb _ _ (h.own s hA hlt).2.1).1
  omega
 ·intro b' i hi
  obtain⟨⟨v,hv⟩,_⟩:=h.I b' i hi
  exact .inl ⟨hi,Sn (lt_of_cell hv)⟩
 ·intro b' hi
  obtain⟨⟨es,aI,hv⟩,_⟩:=h.IM b' hi
  exact .inl ⟨hi,Sn (lt_of_heap hv)⟩
 ·intro l r hl
  refine .inl ⟨hl,?_⟩
  have:=(h.rb _ _ (h.loop l r hl).2.2.1).1
  omega
 ·intro b' hd
  exact .inl ⟨hd,Sn (lt_of_heap (h.D b' hd))⟩
theorem fK {w:World} {a b:Nat} {x y:Obj} (h:w.heap[a]? =some x) (g:w.heap[b]? =some y) (hxy:x≠y):a≠b:=by
 rintro rfl
 exact hxy (R6 (h.symm.trans g))
theorem ay.cellsAt {E B0 σ K w} (h:ay E B0 σ K w) {loc s cs} (hc:σ.cellsAt loc s=some cs):σ.obj loc=some (s,.cells cs)/\K.A s/\cs.length<=K.sz s\/cs=[]/\σ.obj loc=some (s,.cells cs)/\K.A s:=by
 unfold Sig.cellsAt at hc
 split at hc
 ·rename_i s' cs' ho
  split at hc
  ·rename_i hs
   subst hs
   simp only[iE] at hc;subst hc
   obtain⟨a1,a2,a3⟩:=h.obj _ _ _ ho
   by_cases hne:cs'=[]
   ·exact .inr ⟨hne,ho,a1⟩
   ·obtain⟨_,vals,t,g1,g2,g3,g4⟩:=a2.2 hne
    exact .inl ⟨ho,a1,by omega⟩
  ·simp at hc
 ·simp at hc
theorem ay.iQ {E B0 σ K w} (h:ay E B0 σ K w) {loc s cs} (hc:σ.cellsAt loc s=some cs):σ.obj loc=some (s,.cells cs)/\K.A s/\cs.length<=K.sz s:=by
 rcases h.cellsAt hc with h| ⟨rfl,h1,h2⟩
 ·exact h
 ·exact⟨h1,h2,by simp⟩
theorem ay.Ao {E B0 σ K w} (h:ay E B0 σ K w) {l r} (hl:σ.loops l=some r) {b:Nat} {vals t f} (hb:w.heap[b]? =some (.cells vals t f)):K.lp l≠b:=by
 obtain⟨_,_,_,fn,tmps,D,hh,_⟩:=h.loop l r hl
 exact fK hh hb (by simp)
theorem ay.vI {E B0 σ K w} (h:ay E B0 σ K w) {loc s ob loc' s' nK} (h1:σ.obj loc=some (s,ob)) (h2:σ.obj loc'=some (s',nK)) (hne:loc≠loc') (hr:ob.real) (hr':nK.real):
 K.blk s≠K.blk s':=by
 intro e
 have a:=(h.obj _ _ _ h1).2.2 hr
 have b:=(h.obj _ _ _ h2).2.2 hr'
 rw[e,b] at a
 exact hne (by injection a with a;injection a with a;exact a.symm)
theorem ay.vJ {E B0 σ K w w'} (h:ay E B0 σ K w) {loc s ob} (hs:σ.obj loc=some (s,ob)) (hr:ob.real) (ho:Only (K.blk s) w w') (T':Nat->Nat) (hT:T'=σ.top):Ext K σ.top w K T' w':=by
 subst hT
 have hρ:=(h.obj _ _ _ hs).2.2 hr
 refine⟨fun _ h=>⟨h,rfl,rfl,rfl⟩,fun _ _=>.inl ⟨rfl,rfl,rfl,rfl⟩,fun b i hi=>⟨hi,?_⟩,fun b hb=>⟨hb,?_⟩⟩
 ·obtain⟨⟨v,hv⟩,hn⟩:=h.I b i hi
  exact cell_of_heap (ho.block b (fun e=>hn loc (e▸hρ)) (lt_of_cell hv))
 ·obtain⟨⟨es,aI,hv⟩,hn⟩:=h.IM b hb
  exact ho.block b (fun e=>hn loc (e▸hρ)) (lt_of_heap hv)
theorem Step.setCells {E B0 new σ K w w'} (h:ay E B0 σ K w) (hB:B0<=w.heap.size) {loc:Loc} {s:Nat} {cs cs':List V} {vals vals':Array Value} {t t':TypeId}
 (hs:σ.obj loc=some (s,.cells cs)) (hne:cs≠[]) (hv:w.heap[K.blk s]? =some (.cells vals t (0,0))) (ho:Only (K.blk s) w w')
 (hv':w'.heap[K.blk s]? =some (.cells vals' t' (0,0))) (hsz:vals'.size=vals.size) (hne':cs'≠[]) (hl:cs'.length<=vals'.size)
 (hr:Ext K σ.top w K σ.top w'->∀i,i<cs'.length->Rel K σ.top w' (cs'.getD i undefV) (vals'.getD i undef)):
 Step E B0 new σ K w (σ.setObj loc s (.cells cs')) K w':=by
 have dG:(AObj.cells cs).real:=by cases cs with|nil=>exact absurd rfl hne|cons _ _=>trivial
 obtain⟨hA,bY,hρ⟩:=h.obj _ _ _ hs
 obtain⟨hb0,Ap,t0,g1,g2,g3,g4⟩:=bY.2 hne
 have hvv:vals=Ap:=by rw[hv] at g1;simpa using And.left (by simpa using g1)
 have e:=h.vJ hs dG ho σ.top rfl
 refine⟨?_,e,ho.below hb0 hB,fun _ h=>h,fun _ h=>.inl h,fun _ _ h=>.inl h,fun _ h=>.inl h⟩
 refine h.upd (σ':=σ.setObj loc s (.cells cs')) ho e (fun _ _=>rfl) (fun r hr'=>⟨RS (h.rb _ r hr').1 ho.size,hb0⟩) ?_ ?_ ?_ ?_ ?_ ?_
 ·intro loc' s' nK hs'
  by_cases hl':loc'=loc
  ·subst hl'
   right
   simp only[Sig.setObj,upd_same,iE,iR] at hs'
   obtain⟨rfl,rfl⟩:=hs'
   exact⟨hA,⟨fun h0=>absurd h0 hne',fun _=>⟨hb0,vals',t',hv',by rw[hsz,hvv,g2],hl,hr e⟩⟩,fun _=>hρ dG⟩
  ·left
   simp only[Sig.setObj,upd_ne _ _ hl'] at hs'
   exact⟨hs',fun hr'=>h.vI hs' hs hl' hr' dG⟩
 ·intro s' hs' hlt
  have ⟨a1,a2,a3⟩:=h.own s' hs' hlt
  refine .inl ⟨hs',rfl,rfl,rfl,fun e'=>?_⟩
  rw[e',hρ dG] at a2
  cases a2
 ·intro b' i hi
  exact .inl ⟨hi,fun e'=>(h.I b' i hi).2 loc (e'▸hρ dG)⟩
 ·intro b' hi
  exact .inl ⟨hi,fun e'=>(h.IM b' hi).2 loc (e'▸hρ dG)⟩
 ·intro l r hl'
  exact .inl ⟨hl',h.Ao hl' hv⟩
 ·intro b' hd
  exact .inl ⟨hd,fK (h.D b' hd) hv (by simp)⟩
def Con.addI (K:Con) (b n:Nat):Con:={K with I:=fun b' o=>K.I b' o\/(b'=b/\o<n)}
theorem ay.Ar {E B0 σ K w} (h:ay E B0 σ K w):K.ρ w.heap.size=none:=by
 cases hr:K.ρ w.heap.size with
 |none=>rfl
 |some r=>have:=(h.rb _ _ hr).1;omega
theorem pU {w:World} {vals:Array Value} {t:TypeId} {fz:Nat×Nat} {i:Nat} (hi:i<vals.size):
 (w.alloc (.cells vals t fz)).cell? (at_ w.heap.size i)=some (vals.getD i undef):=by
 have hh:(w.alloc (.cells vals t fz)).heap[w.heap.size]? =some (.cells vals t fz):=heap_alloc_new w _
 unfold World.cell?
 simp only[hh]
 simp[hi]
theorem Step.Au {E B0 new σ K w w'} (h:ay E B0 σ K w) (hB:B0<=w.heap.size) (ho:Only w.heap.size w w') {vals:Array Value} {t:TypeId} {fz:Nat×Nat}
 (hh:w'.heap[w.heap.size]? =some (.cells vals t fz)):Step E B0 new σ K w σ (K.addI w.heap.size vals.size) w':=by
 have hcn:∀i,i<vals.size->w'.cell? (at_ w.heap.size i)=some (vals.getD i undef):=fun i hi=>by simp[World.cell?,hh,hi]
 have e:Ext K σ.top w (K.addI w.heap.size vals.size) σ.top w':=by
  refine⟨fun _ h=>⟨h,rfl,rfl,rfl⟩,fun _ _=>.inl ⟨rfl,rfl,rfl,rfl⟩,fun b i hi=>⟨.inl hi,?_⟩,fun b hb=>⟨hb,?_⟩⟩
  ·obtain⟨⟨v,hv⟩,_⟩:=h.I b i hi
   exact cell_of_heap (ho.block b (Sn (lt_of_cell hv)) (lt_of_cell hv))
  ·obtain⟨⟨es,aI,hv⟩,_⟩:=h.IM b hb
   exact ho.block b (Sn (lt_of_heap hv)) (lt_of_heap hv)
 refine⟨?_,e,ho.below hB hB,fun b hb=>hb,fun _ h=>.inl h,fun b o hi=>?_,fun _ h=>.inl h⟩
 ·refine h.upd ho e (fun _ _=>rfl) (fun r hr=>?_) ?_ ?_ ?_ ?_ ?_ ?_
  ·have:=h.Ar
   exact absurd (hr.symm.trans this) (by simp)
  ·intro loc s ob hs
   exact .inl ⟨hs,fun hr=>by have:=(h.rb _ _ ((h.obj _ _ _ hs).2.2 hr)).1;omega⟩
  ·intro s hs hlt
   exact .inl ⟨hs,rfl,rfl,rfl,by have:=(h.rb _ _ (h.own s hs hlt).2.1).1;omega⟩
  ·intro b' i hi
   rcases hi with hi| ⟨rfl,hi⟩
   ·obtain⟨⟨v,hv⟩,_⟩:=h.I b' i hi
    exact .inl ⟨hi,Sn (lt_of_cell hv)⟩
   ·exact .inr ⟨rfl,⟨_,hcn _ hi⟩,fun loc hr=>absurd (hr.symm.trans h.Ar) (by simp)⟩
  ·intro b' hi
   obtain⟨⟨es,aI,hv⟩,_⟩:=h.IM b' hi
   exact .inl ⟨hi,Sn (lt_of_heap hv)⟩
  ·intro l r hl
   exact .inl ⟨hl,by have:=(h.rb _ _ (h.loop l r hl).2.2.1).1;omega⟩
  ·intro b' hd
   exact .inl ⟨hd,Sn (lt_of_heap (h.D b' hd))⟩
 ·rcases hi with hi| ⟨rfl,_⟩
  ·exact .inl hi
  ·exact .inr hB
theorem Step.Av {E B0 new σ K w} (h:ay E B0 σ K w) (hB:B0<=w.heap.size) (vals:Array Value) (t:TypeId) (fz:Nat×Nat):
 Step E B0 new σ K w σ (K.addI w.heap.size vals.size) (w.alloc (.cells vals t fz)):=
 Step.Au h hB (l8 w _) (heap_alloc_new w _)
def Con.kS (K:Con) (s b lo hi:Nat):Con:=
 {K with A:=fun x=>K.A x\/x=s,ob:=upd K.ob s b,lo:=upd K.lo s lo,hi:=upd K.hi s hi,I:=fun b' o=>K.I b' o\/(b'=b/\o<lo),ρ:=upd K.ρ b (some (.own s))}
theorem Step.Aw {E B0 σ K w} (h:ay E B0 σ K w) (hB:B0<=w.heap.size) (s T':Nat) (hs:¬K.A s\/σ.top s<T') (vals:Array Value) (t:TypeId) (lo:Nat) (hlo:lo<=vals.size):
 Step E B0 (· =s) σ K w (σ.aL s T') (K.kS s w.heap.size lo vals.size) (w.alloc (.cells vals t)):=by
 have e:Ext K σ.top w (K.kS s w.heap.size lo vals.size) (σ.aL s T').top (w.alloc (.cells vals t)):=by
  refine⟨fun _ h=>⟨.inl h,rfl,rfl,rfl⟩,fun x hx=>?_,fun b i hi=>⟨.inl hi,?_⟩,fun b hb=>⟨hb,?_⟩⟩
  ·by_cases hxs:x=s
   ·subst hxs
    right
    show _<upd σ.top x T' x
    rw[upd_same]
    exact hs.resolve_left (fun hn=>hn hx)
   ·exact .inl ⟨upd_ne _ _ hxs,upd_ne _ _ hxs,upd_ne _ _ hxs,upd_ne _ _ hxs⟩
  ·obtain⟨⟨v,hv⟩,_⟩:=h.I b i hi
   rw[hv];exact sj hv
  ·obtain⟨⟨es,aI,hv⟩,_⟩:=h.IM b hb
   exact heap_alloc_old (lt_of_heap hv)
 refine⟨?_,e,(l8 w _).below hB hB,fun b hb=>hb,fun _ h=>h,fun b o hi=>?_,fun _ h=>.inl h⟩
 ·refine h.upd (σ':=σ.aL s T') (l8 w _) e (fun k hk=>upd_ne _ _ hk) (fun r _=>⟨by simp,hB⟩) ?_ ?_ ?_ ?_ ?_ ?_
  ·intro loc s ob hs
   exact .inl ⟨hs,fun hr=>by have:=(h.rb _ _ ((h.obj _ _ _ hs).2.2 hr)).1;omega⟩
  ·intro x hx hlt
   by_cases hxs:x=s
   ·subst hxs
    right
    have q1:(K.kS x w.heap.size lo vals.size).ob x=w.heap.size:=upd_same _ _ _
    have q2:(K.kS x w.heap.size lo vals.size).lo x=lo:=upd_same _ _ _
    have q3:(K.kS x w.heap.size lo vals.size).hi x=vals.size:=upd_same _ _ _
    refine⟨by rw[q1];exact hB,by rw[q1];exact upd_same _ _ _,fun o hl hh=>?_⟩
    rw[q2] at hl
    rw[q3] at hh
    rw[q1]
    refine⟨?_,⟨_,pU hh⟩,?_⟩
    ·rintro (hi| ⟨_,hi⟩)
     ·obtain⟨⟨v,hv⟩,_⟩:=h.I _ o hi
      have:=lt_of_cell hv
      omega
     ·omega
    ·have hh':(w.alloc (.cells vals t)).heap[w.heap.size]? =some (.cells vals t):=heap_alloc_new w _
     unfold World.frozen?
     simp only[hh']
     simp
   ·left
    have hA:K.A x:=hx.resolve_right hxs
    simp only[Con.kS,upd_ne _ _ hxs] at hlt
    refine⟨hA,upd_ne _ _ hxs,upd_ne _ _ hxs,upd_ne _ _ hxs,?_⟩
    have:=(h.rb _ _ (h.own x hA hlt).2.1).1
    omega
  ·intro b' i hi
   rcases hi with hi| ⟨rfl,hi⟩
   ·obtain⟨⟨v,hv⟩,_⟩:=h.I b' i hi
    exact .inl ⟨hi,Sn (lt_of_cell hv)⟩
   ·refine .inr ⟨rfl,⟨_,pU (by omega)⟩,fun loc hr=>?_⟩
    simp only[Con.kS,upd_same] at hr
    cases hr
  ·intro b' hi
   obtain⟨⟨es,aI,hv⟩,_⟩:=h.IM b' hi
   exact .inl ⟨hi,Sn (lt_of_heap hv)⟩
  ·intro l r hl
   exact .inl ⟨hl,by have:=(h.rb _ _ (h.loop l r hl).2.2.1).1;omega⟩
  ·intro b' hd
   exact .inl ⟨hd,Sn (lt_of_heap (h.D b' hd))⟩
 ·rcases hi with hi| ⟨rfl,_⟩
  ·exact .inl hi
  ·exact .inr hB
def Con.l9 (K:Con) (s n:Nat):Con:=
 {K with lo:=upd K.lo s (K.lo s+n),I:=fun b' o=>K.I b' o\/(b'=K.ob s/\K.lo s<=o/\o<K.lo s+n)}
theorem Step.l9 {E B0 new σ K w w'} (h:ay E B0 σ K w) (hB:B0<=w.heap.size) {s n T':Nat} (hs:K.A s) (hT:σ.top s<T') (hn:0<n) (hroom:K.lo s+n<=K.hi s)
 (ho:Only (K.ob s) w w') (hnew:∀o,K.lo s<=o->o<K.lo s+n->∃v,w'.cell? (at_ (K.ob s) o)=some v)
 (hold:∀o,o<K.lo s\/K.lo s+n<=o->w'.cell? (at_ (K.ob s) o)=w.cell? (at_ (K.ob s) o)) (hfz:∀o,w'.frozen? (at_ (K.ob s) o)=w.frozen? (at_ (K.ob s) o)):
 Step E B0 new σ K w (σ.aL s T') (K.l9 s n) w':=by
 obtain⟨o1,o2,o3⟩:=h.own s hs (by omega)
 have vK:=(o3 (K.lo s) (mF _) (by omega)).2.1
 have Ay:∀o,K.I (K.ob s) o->o<K.lo s\/K.lo s+n<=o:=fun o hi=>by
  rcases Nat.lt_or_ge o (K.lo s) with h1|h1
  ·exact .inl h1
  ·rcases Nat.lt_or_ge o (K.hi s) with h2|h2
   ·exact absurd hi (o3 o h1 h2).1
   ·exact .inr (by omega)
 have e:Ext K σ.top w (K.l9 s n) (σ.aL s T').top w':=by
  refine⟨fun _ h=>⟨h,rfl,rfl,rfl⟩,fun x hx=>?_,fun b i hi=>⟨.inl hi,?_⟩,fun b hb=>⟨hb,?_⟩⟩
  ·by_cases hxs:x=s
   ·subst hxs
    right
    show _<upd σ.top x T' x
    rw[upd_same]
    exact hT
   ·exact .inl ⟨upd_ne _ _ hxs,rfl,upd_ne _ _ hxs,rfl⟩
  ·by_cases hb:b=K.ob s
   ·subst hb;exact hold i (Ay i hi)
   ·obtain⟨⟨v,hv⟩,_⟩:=h.I b i hi
    exact cell_of_heap (ho.block b hb (lt_of_cell hv))
  ·obtain⟨⟨es,aI,hv⟩,_⟩:=h.IM b hb
   refine ho.block b ?_ (lt_of_heap hv)
   rintro rfl
   obtain⟨v,hc⟩:=vK
   simp[World.cell?,hv] at hc
 refine⟨?_,e,ho.below o1 hB,fun b hb=>hb,fun _ h=>.inl h,fun b o hi=>?_,fun _ h=>.inl h⟩
 ·refine h.upd (σ':=σ.aL s T') ho e (fun k _=>rfl) (fun r hr=>⟨RS (h.rb _ r hr).1 ho.size,o1⟩) ?_ ?_ ?_ ?_ ?_ ?_
  ·intro loc x ob hx
   refine .inl ⟨hx,fun hr e'=>?_⟩
   have a:=(h.obj _ _ _ hx).2.2 hr
   rw[e',o2] at a
   cases a
  ·intro x hx hlt
   by_cases hxs:x=s
   ·subst hxs
    right
    simp only[vG,Con.l9,upd_same] at hlt⊢
    refine⟨o1,o2,fun o hl hh=>⟨?_,?_,?_⟩⟩
    ·rintro (hi| ⟨_,_,hi⟩)
     ·exact(o3 o (by omega) hh).1 hi
     ·omega
    ·rw[hold o (.inr hl)];exact(o3 o (by omega) hh).2.1
    ·rw[hfz o];exact(o3 o (by omega) hh).2.2
   ·left
    simp only[Con.l9,upd_ne _ _ hxs] at hlt
    refine⟨hx,upd_ne _ _ hxs,rfl,rfl,fun e'=>?_⟩
    have a:=(h.own x hx hlt).2.1
    rw[e',o2] at a
    injection a with a
    injection a with a
    exact hxs a.symm
  ·intro b' i hi
   rcases hi with hi| ⟨rfl,hi1,hi2⟩
   ·by_cases hb:b'=K.ob s
    ·subst hb
     obtain⟨⟨v,hv⟩,hr⟩:=h.I _ i hi
     exact .inr ⟨rfl,⟨v,by rw[hold i (Ay i hi)];exact hv⟩,hr⟩
    ·exact .inl ⟨hi,hb⟩
   ·exact .inr ⟨rfl,hnew i hi1 hi2,fun loc hr=>by
     have:K.ρ (K.ob s)=some (.obj loc):=hr
     rw[o2] at this;cases this⟩
  ·intro b' hi
   obtain⟨⟨es,aI,hv⟩,_⟩:=h.IM b' hi
   refine .inl ⟨hi,?_⟩
   rintro rfl
   obtain⟨v,hc⟩:=vK
   simp[World.cell?,hv] at hc
  ·intro l r hl
   refine .inl ⟨hl,fun e'=>?_⟩
   have a:=(h.loop l r hl).2.2.1
   rw[e',o2] at a
   cases a
  ·intro b' hd
   refine .inl ⟨hd,?_⟩
   rintro rfl
   obtain⟨v,hc⟩:=vK
   simp[World.cell?,h.D _ hd] at hc
 ·rcases hi with hi| ⟨rfl,_⟩
  ·exact .inl hi
  ·exact .inr o1
theorem Step.HV {E B0 σ K w w'} (h:ay E B0 σ K w) (hB:B0<=w.heap.size) {bW loc:Loc} {s0 st:Nat} {cs0 cs:List V} {vals vals':Array Value} {t:TypeId} (hst:¬K.A st)
 (hs:σ.obj bW=some (s0,.cells cs0)) (hne:cs0≠[]) (hv:w.heap[K.blk s0]? =some (.cells vals t (0,0))) (ho:Only (K.blk s0) w w')
 (hv':w'.heap[K.blk s0]? =some (.cells vals' t (0,0))) (hne':cs≠[]) (hl:cs.length<=vals'.size)
 (hr:∀K',Ext K σ.top w K' σ.top w'->∀i,i<cs.length->Rel K' σ.top w' (cs.getD i undefV) (vals'.getD i undef)):
 Step E B0 (· =st) σ K w ((σ.bR bW).setObj loc st (.cells cs)) (K.dF st (K.blk s0) vals'.size loc) w':=by
 have dG:(AObj.cells cs0).real:=by cases cs0 with|nil=>exact absurd rfl hne|cons _ _=>trivial
 obtain⟨hA,bY,hρ⟩:=h.obj _ _ _ hs
 obtain⟨hb0,Ap,t0,g1,g2,g3,g4⟩:=bY.2 hne
 have sD:∀s,K.A s->s≠st:=fun s hs e=>hst (e▸hs)
 have e0:=h.vJ hs dG ho σ.top rfl
 have e:Ext K σ.top w (K.dF st (K.blk s0) vals'.size loc) σ.top w':=
  ⟨fun s hs=>⟨.inl hs,upd_ne _ _ (sD s hs),rfl,upd_ne _ _ (sD s hs)⟩,fun s hs=>.inl ⟨rfl,rfl,upd_ne _ _ (sD s hs),upd_ne _ _ (sD s hs)⟩,e0.I,e0.IM⟩
 refine⟨?_,e,ho.below hb0 hB,fun _ h=>h,fun _ h=>h,fun _ _ h=>.inl h,fun _ h=>.inl h⟩
 refine h.upd (σ':=(σ.bR bW).setObj loc st (.cells cs)) ho e (fun k hk=>upd_ne _ _ hk) (fun r _=>⟨RS (lt_of_heap hv) ho.size,hb0⟩) ?_ ?_ ?_ ?_ ?_ ?_
 ·intro loc' s' nK hs'
  by_cases hl':loc'=loc
  ·subst hl'
   right
   simp only[Sig.setObj,upd_same,iE,iR] at hs'
   obtain⟨rfl,rfl⟩:=hs'
   refine⟨.inr rfl,⟨fun h0=>absurd h0 hne',fun _=>⟨?_,vals',t,?_,?_,hl,hr _ e⟩⟩,fun _=>?_⟩
   ·show B0<=upd K.blk st (K.blk s0) st
    rw[upd_same];exact hb0
   ·show w'.heap[upd K.blk st (K.blk s0) st]? =_
    rw[upd_same];exact hv'
   ·show _=upd K.sz st _ st
    rw[upd_same]
   ·show upd K.ρ (K.blk s0) _ (upd K.blk st (K.blk s0) st)=_
    rw[upd_same,upd_same]
  ·left
   simp only[Sig.setObj,Sig.bR,upd_ne _ _ hl'] at hs'
   by_cases hl0:loc'=bW
   ·subst hl0;rw[upd_same] at hs';cases hs'
   ·rw[upd_ne _ _ hl0] at hs'
    exact⟨hs',fun hr'=>h.vI hs' hs hl0 hr' dG⟩
 ·intro s' hs' hlt
  have sF:s'≠st:=by
   rintro rfl
   simp only[Con.dF,upd_same] at hlt
   omega
  have hA':K.A s':=hs'.resolve_right sF
  simp only[Con.dF,upd_ne _ _ sF] at hlt
  have ⟨a1,a2,a3⟩:=h.own s' hA' hlt
  refine .inl ⟨hA',upd_ne _ _ sF,upd_ne _ _ sF,rfl,fun e'=>?_⟩
  rw[e',hρ dG] at a2
  cases a2
 ·intro b' i hi
  exact .inl ⟨hi,fun e'=>(h.I b' i hi).2 bW (e'▸hρ dG)⟩
 ·intro b' hi
  exact .inl ⟨hi,fun e'=>(h.IM b' hi).2 bW (e'▸hρ dG)⟩
 ·intro l r hl'
  exact .inl ⟨hl',h.Ao hl' hv⟩
 ·intro b' hd
  exact .inl ⟨hd,fK (h.D b' hd) hv (by simp)⟩
theorem Step.Az {E B0 new σ K w w'} (h:ay E B0 σ K w) (hB:B0<=w.heap.size) {loc:Loc} {s:Nat} {ks vs ks' vs':List V} {es es':Array MapEntry} {aI sG:Nat}
 (hs:σ.obj loc=some (s,.map ks vs)) (hv:w.heap[K.blk s]? =some (.map es aI)) (ho:Only (K.blk s) w w') (hv':w'.heap[K.blk s]? =some (.map es' sG))
 (hk:ks'.length=es'.size) (hvl:vs'.length=es'.size)
 (hr:Ext K σ.top w K σ.top w'->(∀i,i<es'.size->Rel K σ.top w' (ks'.getD i undefV) (es'.getD i default).key)/\(∀i,i<es'.size->Rel K σ.top w' (vs'.getD i undefV) (es'.getD i default).val)):
 Step E B0 new σ K w (σ.setObj loc s (.map ks' vs')) K w':=by
 have dG:(AObj.map ks vs).real:=trivial
 obtain⟨hA,bY,hρ⟩:=h.obj _ _ _ hs
 obtain⟨hb0,_⟩:=bY
 have e:=h.vJ hs dG ho σ.top rfl
 refine⟨?_,e,ho.below hb0 hB,fun _ h=>h,fun _ h=>.inl h,fun _ _ h=>.inl h,fun _ h=>.inl h⟩
 refine h.upd (σ':=σ.setObj loc s (.map ks' vs')) ho e (fun _ _=>rfl) (fun r hr'=>⟨RS (h.rb _ r hr').1 ho.size,hb0⟩) ?_ ?_ ?_ ?_ ?_ ?_
 ·intro loc' s' nK hs'
  by_cases hl':loc'=loc
  ·subst hl'
   right
   simp only[Sig.setObj,upd_same,iE,iR] at hs'
   obtain⟨rfl,rfl⟩:=hs'
   exact⟨hA,⟨hb0,es',sG,hv',hk,hvl,hr e⟩,fun _=>hρ dG⟩
  ·left
   simp only[Sig.setObj,upd_ne _ _ hl'] at hs'
   exact⟨hs',fun hr'=>h.vI hs' hs hl' hr' dG⟩
 ·intro s' hs' hlt
  have ⟨a1,a2,a3⟩:=h.own s' hs' hlt
  refine .inl ⟨hs',rfl,rfl,rfl,fun e'=>?_⟩
  rw[e',hρ dG] at a2
  cases a2
 ·intro b' i hi
  exact .inl ⟨hi,fun e'=>(h.I b' i hi).2 loc (e'▸hρ dG)⟩
 ·intro b' hi
  exact .inl ⟨hi,fun e'=>(h.IM b' hi).2 loc (e'▸hρ dG)⟩
 ·intro l r hl'
  obtain⟨_,_,_,fn,tmps,D,hh,_⟩:=h.loop l r hl'
  exact .inl ⟨hl',fK hh hv (by simp)⟩
 ·intro b' hd
  exact .inl ⟨hd,fK (h.D b' hd) hv (by simp)⟩
theorem AA {K T w} {v:Value} {z:V} (h:cB v=some z):Rel K T w z v:=by
 cases v with
 |bool b=>simp only[cB,iE] at h;subst h;exact .bool b
 |int k n=>simp only[cB,iE] at h;subst h;exact .int k n
 |string s=>simp only[cB,iE] at h;subst h;exact .str _ s rfl
 |pointer a=>
  cases a with
  |none=>simp only[cB,iE] at h;subst h;exact .nilp
  |some a=>simp[cB] at h
 |slice a n c=>
  cases a with
  |none=>
   cases n with
   |zero=>
    cases c with
    |zero=>simp only[cB,iE] at h;subst h;exact .aV .nil none (fun _=>rfl) trivial
    |succ c=>simp[cB] at h
   |succ n=>simp[cB] at h
  |some a=>simp[cB] at h
 |map r=>
  cases r with
  |none=>simp only[cB,iE] at h;subst h;exact .nilm
  |some a=>simp[cB] at h
 |nilFunc=>simp only[cB,iE] at h;subst h;exact .nilf
 |nilIface=>simp only[cB,iE] at h;subst h;exact .nili
 |_=>simp[cB] at h
theorem HY {v:Value} {z:V} (h:cB v=some z):notRaw z=true:=by
 cases z with
 |raw x=>cases v with
  |slice a n c=>cases a<;>cases n<;>cases c<;>simp[cB] at h
  |pointer a=>cases a<;>simp[cB] at h
  |map a=>cases a<;>simp[cB] at h
  |_=>simp[cB] at h
 |_=>rfl
theorem HZ {v:Value} {z:V} (h:ofValue v=some z):notRaw z=true:=by
 cases v with
 |agg cs=>simp only[ofValue,RF] at h;obtain⟨r,_,rfl⟩:=h;rfl
 |tuple cs=>simp only[ofValue,RF] at h;obtain⟨r,_,rfl⟩:=h;rfl
 |_=>exact HY (v:=_) (by unfold ofValue at h;exact h)
theorem mapM_some {α β:Type} {f:α->Option β}:∀{l:List α} {r:List β},l.mapM f=some r->l.length=r.length/\∀i (h:i<l.length),∃(h':i<r.length),f l[i]=some r[i]
 | [],r,h=>by simp at h;subst h;exact⟨rfl,fun i hi=>absurd hi (RI i)⟩
 |a::l,r,h=>by
  simp only[RX,Option.pure_def,Option.bind_eq_bind] at h
  cases ha:f a with
  |none=>simp[ha] at h
  |some x=>
   cases hl:l.mapM f with
   |none=>simp[ha,hl] at h
   |some r'=>
    simp only[ha,hl,Option.bind_some,iE] at h
    subst h
    obtain⟨h1,h2⟩:=mapM_some hl
    refine⟨by simp[h1],fun i hi=>?_⟩
    cases i with
    |zero=>exact⟨by simp,ha⟩
    |succ i=>
     obtain⟨h3,h4⟩:=h2 i (by simpa using hi)
     exact⟨by simpa using h3,by simpa using h4⟩
theorem bX {α:Type} {l:List α} {i:Nat} (h:i<l.length) (d:α):l.getD i d=l[i]:=by simp[List.getD,h]
theorem nL {α:Type} {l:Array α} {i:Nat} (h:i<l.size) (d:α):l.getD i d=l[i]:=by simp[Array.getD,h]
theorem sH {K T w} {v:Value} {z:V} (h:ofValue v=some z):Rel K T w z v:=by
 have hsc:∀(cs:Array Value) (r:List V),cs.toList.mapM cB=some r->r.length=cs.size/\∀i,i<r.length->Rel K T w (r.getD i undefV) (cs.getD i undef):=by
  intro cs r hr
  obtain⟨h1,h2⟩:=mapM_some hr
  have h1':r.length=cs.size:=by rw[<-h1];simp
  refine⟨h1',fun i hi=>?_⟩
  obtain⟨h3,h4⟩:=h2 i (by omega)
  rw[bX h3,nL (by omega)]
  exact AA (by simpa using h4)
 cases v with
 |agg cs=>
  simp only[ofValue,RF] at h
  obtain⟨r,hr,rfl⟩:=h
  obtain⟨h1,h2⟩:=hsc cs r hr
  exact .agg r cs h1 h2
 |tuple cs=>
  simp only[ofValue,RF] at h
  obtain⟨r,hr,rfl⟩:=h
  obtain⟨h1,h2⟩:=hsc cs r hr
  exact .tup r cs h1 h2
 |_=>exact AA h
theorem ig {E B0 σ K w} (h:ay E B0 σ K w) {fr:Fr} {a:Act} (hf:bT K σ.top w fr a.tmps) (x:Operand):Rel K σ.top w (fr.ev E x) (a.eval x):=by
 cases x with
 |tmp t=>exact hf t
 |const v=>
  simp only[Fr.ev,Act.eval]
  cases hv:ofValue v with
  |none=>exact .raw v
  |some z=>exact sH hv
 |global g=>
  simp only[Fr.ev,Act.eval]
  cases hg:E.glob g with
  |none=>exact .raw _
  |some cs=>exact h.glob g cs hg
 |func f=>exact .fn f [] [] #[] #[] rfl rfl (fun i hi=>absurd hi (RI i)) (fun i hi=>absurd hi (RI i))
theorem jW {K T w} {v:V} {c:Value} (h:Rel K T w v c) (hr:notRaw v=true):
 v.cells.length=c.cells.size/\∀i,i<v.cells.length->Rel K T w (v.cells.getD i undefV) (c.cells.getD i undef):=by
 have one:∀{v:V} {c:Value},Rel K T w v c->v.cells=[v]->c.cells= #[c]->v.cells.length=c.cells.size/\∀i,i<v.cells.length->Rel K T w (v.cells.getD i undefV) (c.cells.getD i undef):=by
  intro v c h h1 h2
  rw[h1,h2]
  refine⟨rfl,fun i hi=>?_⟩
  obtain rfl:i=0:=by simp at hi;omega
  exact h
 cases h with
 |agg cs vs hl h=>exact⟨hl,h⟩
 |raw v=>simp[notRaw] at hr
 |tup cs vs hl h=>exact one (.tup cs vs hl h) rfl rfl
 |int k n=>exact one (.int k n) rfl rfl
 |bool b=>exact one (.bool b) rfl rfl
 |str s b h=>exact one (.str s b h) rfl rfl
 |nilp=>exact one .nilp rfl rfl
 |nilf=>exact one .nilf rfl rfl
 |nilm=>exact one .nilm rfl rfl
 |nili=>exact one .nili rfl rfl
 |aV c a ha hc=>exact one (.aV c a ha hc) rfl rfl
 |lst c l b o n cap val h1 h2 h3 h4 h5=>exact one (.lst c l b o n cap val h1 h2 h3 h4 h5) rfl rfl
 |vw loc s off len cap au ag aM h1 h2 h3 h4=>exact one (.vw loc s off len cap au ag aM h1 h2 h3 h4) rfl rfl
 |dM loc s au ag h1=>exact one (.dM loc s au ag h1) rfl rfl
 |cref cs off b o val h1 h2=>exact one (.cref cs off b o val h1 h2) rfl rfl
 |ref loc s off h1=>exact one (.ref loc s off h1) rfl rfl
 |fn f a b av bv h1 h2 h3 h4=>exact one (.fn f a b av bv h1 h2 h3 h4) rfl rfl
 |yield l h1=>exact one (.yield l h1) rfl rfl
 |mapr loc s h1=>exact one (.mapr loc s h1) rfl rfl
 |mapc ks vs b es aI h1 h2 h3 h4 h5 h6=>exact one (.mapc ks vs b es aI h1 h2 h3 h4 h5 h6) rfl rfl
 |iface t v c h=>exact one (.iface t v c h) rfl rfl
theorem AB {K T w} {v:V} {c:Value} (h:Rel K T w v c) (ho:oneCell v=true):c.oneCell'=true/\c.cells= #[c]/\v.cells=[v]:=by
 cases h<;>first| (simp[oneCell] at ho;done)|exact⟨rfl,rfl,rfl⟩
section types
variable {P:Program} {t:TypeId} (w:World)
theorem AJ {i:TypeInfo} (h:P.info? t=some i):(typeInfo t).run P w= .ok i w:=by simp[typeInfo,h]
theorem dB {n:Nat} (h:szT P t=some n):(Go.sizeOf t).run P w= .ok n w:=by
 simp only[szT,RF] at h
 obtain⟨i,hi,rfl⟩:=h
 simp[Go.sizeOf,AJ w hi]
theorem AL {b:Bool} (h:isAggT P t=some b):(isAgg t).run P w= .ok b w:=by
 simp only[isAggT,RF] at h
 obtain⟨d,hd,rfl⟩:=h
 simp only[isAgg,Sem.run_bind,run_underlying hd,Result.andThen_ok]
 cases d<;>rfl
theorem kT {z:V} (h:zeroT P t=some z):∃c,(zeroValue t).run P w= .ok c w/\∀K T,Rel K T w z c:=by
 simp only[zeroT,iP] at h
 obtain⟨v,⟨i,hi,hz⟩,hv⟩:=h
 exact⟨v,by simp[zeroValue,AJ w hi,hz],fun K T=>sH hv⟩
theorem nM {z:V} (h:zeroT P t=some z):notRaw z=true:=by
 simp only[zeroT,iP] at h
 obtain⟨v,_,hv⟩:=h
 exact HZ hv
theorem nN {e:TypeId} (h:elemT P t=some e):P.underlying t=some (.slice e):=by
 unfold elemT at h
 split at h<;>simp_all
theorem AO {n:Nat} {e:TypeId} (h:arrT P t=some (n,e)):P.underlying t=some (.array n e):=by
 unfold arrT at h
 split at h<;>simp_all
theorem AP {k e:TypeId} (h:mapT P t=some (k,e)):P.underlying t=some (.map k e):=by
 unfold mapT at h
 split at h<;>simp_all
theorem AQ {f o:Nat} {u:TypeId} (h:fieldT P t f=some (o,u)):∃fs g n,P.underlying t=some (.struct fs)/\fs[f]? =some g/\g.offset=o/\g.type=u/\szT P u=some (n+1):=by
 unfold fieldT at h
 split at h
 ·rename_i fs hu
  simp only[iP] at h
  obtain⟨g,hg,h⟩:=h
  split at h
  ·rename_i n hn
   simp only[iE,iR] at h
   exact⟨fs,g,n,hu,hg,h.1,h.2,by rw[<-h.2];exact hn⟩
  ·simp at h
 ·simp at h
end types
theorem addr_add (b o n:Nat):(at_ b o).add n=at_ b (o+n):=by
 unfold Addr.add
 split
 ·subst_vars;rfl
 ·rfl
theorem vL {P:Program} {K T} {w:World} {t:TypeId} {cs:List V} {off:Nat} {v:V} {b o:Nat} (val:Nat->Value)
 (hc:∀i,i<cs.length->w.cell? (at_ b (o+i))=some (val i)) (hr:∀i,i<cs.length->Rel K T w (cs.getD i undefV) (val i)) (h:ldT P t cs off=some v):
 ∃c,(loadVar t (at_ b (o+off))).run P w= .ok c w/\Rel K T w v c:=by
 simp only[ldT,iP] at h
 obtain⟨ag,hag,n,hn,h⟩:=h
 simp only[loadVar,Sem.run_bind,AL w hag,Result.andThen_ok]
 cases ag with
 |true=>
  simp only[fH,if_true] at h
  split at h
  ·rename_i hle
   simp only[iE] at h
   subst h
   have hl:=run_loadCells (P:=P) w (at_ b (o+off)) n (fun j=>val (off+j)) (fun j hj=>by
    rw[addr_add,Sy];exact hc _ (by omega))
   refine⟨.agg ((List.range n).map fun j=>val (off+j)).toArray,by simp[dB w hn,hl],?_⟩
   refine .agg _ _ (by simp;omega) (fun i hi=>?_)
   simp only[R3,Sz] at hi
   have hi':i<n:=by omega
   have e1:((cs.drop off).take n).getD i undefV=cs.getD (off+i) undefV:=by
    simp[List.getD,hi',List.getElem?_drop]
   have e2:(((List.range n).map fun j=>val (off+j)).toArray).getD i undef=val (off+i):=by
    simp[Array.getD,hi']
   rw[e1,e2]
   exact hr _ (by omega)
  ·simp at h
 |false=>
  simp only[fH,RH,if_false] at h
  have hlt:off<cs.length:=(SH.1 h).1
  have hv:cs[off]=v:=(SH.1 h).2
  refine⟨val off,by simp[hc off hlt],?_⟩
  have:=hr off hlt
  rwa[bX hlt,hv] at this
theorem nO {P:Program} {K T} {w:World} {t:TypeId} {cs:List V} {vs:Array Value} {off:Nat} {v:V} (hl:cs.length=vs.size)
 (hr:∀i,i<cs.length->Rel K T w (cs.getD i undefV) (vs.getD i undef)) (h:ldT P t cs off=some v):
 ∃c,(part t vs off).run P w= .ok c w/\Rel K T w v c:=by
 simp only[ldT,iP] at h
 obtain⟨ag,hag,n,hn,h⟩:=h
 simp only[part,Sem.run_bind,AL w hag,Result.andThen_ok]
 cases ag with
 |true=>
  simp only[fH,if_true] at h
  split at h
  ·rename_i hle
   simp only[iE] at h
   subst h
   refine⟨.agg (vs.extract off (off+n)),by simp[dB w hn],?_⟩
   refine .agg _ _ (by simp;omega) (fun i hi=>?_)
   simp only[R3,Sz] at hi
   have hi':i<n:=by omega
   have e1:((cs.drop off).take n).getD i undefV=cs.getD (off+i) undefV:=by
    simp[List.getD,hi',List.getElem?_drop]
   have e2:(vs.extract off (off+n)).getD i undef=vs.getD (off+i) undef:=by
    have:off+i<vs.size:=by omega
    simp[Array.getD,this,show i<min (off+n) vs.size-off by omega]
   rw[e1,e2]
   exact hr _ (by omega)
  ·simp at h
 |false=>
  simp only[fH,RH,if_false] at h
  have hlt:off<cs.length:=(SH.1 h).1
  have hv:cs[off]=v:=(SH.1 h).2
  have hlt':off<vs.size:=by omega
  refine⟨vs.getD off undef,by simp[hlt',Array.getD],?_⟩
  have:=hr off hlt
  rwa[bX hlt,hv] at this
end Aq
end
