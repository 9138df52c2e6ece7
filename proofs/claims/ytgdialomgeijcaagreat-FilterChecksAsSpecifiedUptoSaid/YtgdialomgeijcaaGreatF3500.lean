import Derived.Below
import Derived.WalkKit
import GoSem.Dispatch
set_option linter.all false
section
namespace Aq
def iE:=@Option.some.injEq
def iP:=@Option.bind_eq_some_iff
def iR:=@Prod.mk.injEq
def mF:=@Nat.le_refl
def PZ:=@Option.map_eq_some_iff
def P6:=@Bool.and_eq_true
def P7:=@Nat.le_trans
def P8:=@Bool.false_eq_true
def P9:=@List.mem_cons
def Qa:=@List.mem_cons_self
def Qb:=@List.mem_cons_of_mem
def Qc:=@List.length_append
def Qd:=@List.map_cons
def Qe:=@Nat.not_lt_zero
def Qf:=@Nat.le_add_right
def Qg:=@Nat.lt_of_lt_of_le
def Qh:=@List.getElem?_eq_getElem
def Qi:=@List.length_map
def Qj:=@Int.le_refl
def Qk:=@List.mapM_cons
def Ql:=@List.mem_singleton
def Qm:=@Nat.le_succ
def Qn:=@Option.some.inj
def Qo:=@List.flatMap_cons
def Qp:=@List.mem_map
def Qq:=@List.drop_eq_getElem_cons
def Qr:=@List.all_eq_true
def Qs:=@List.length_take
def Qt:=@List.append_assoc
def Qu:=@List.drop_zero
def Qv:=@List.nodup_cons
def Qw:=@List.mem_of_getElem?
def Qx:=@Nat.ne_of_lt
def Qy:=@Nat.add_mul
def Qz:=@Nat.zero_add
def QA:=@List.cons.injEq
def QB:=@List.eq_nil_of_length_eq_zero
def QC:=@Nat.le_of_ble_eq_true
def QD:=@Nat.mul_le_mul_right
def QE:=@Nat.succ_mul
def QF:=@Nat.zero_le
def QG:=@Bool.or_eq_false_iff
def QH:=@Nat.beq_refl
def QI:=@List.append_nil
def QJ:=@List.take_of_length_le
def QK:=@Nat.add_assoc
def QL:=@List.getElem?_eq_some_iff
def QM:=@List.getElem_mem
def QN:=@Bool.not_eq_true'
def QO:=@Array.getD_eq_getD_getElem?
def QS:=@Bool.or_eq_true
def QT:=@List.map_append
def QU:=@Nat.mul_comm
def QV:=@Nat.le_of_eq
def QW:=@List.length_pos_iff
def QX:=@List.map_map
def QY:=@List.length_drop
def QZ:=@List.map_congr_left
def Q0:=@List.mem_append_left
def Q5:=@Nat.le_max_right
def Q6:=@Nat.eq_of_beq_eq_true
def Q7:=@List.getD_eq_getElem?_getD
def Q8:=@List.mem_append_right
def Q9:=@Nat.le_max_left
def Ra:=@List.drop_eq_nil_of_le
def Rb:=@Nat.add_sub_cancel_left
def Rc:=@List.drop_append
def Rf:=@List.take_append_of_le_length
def Rh:=@List.mem_iff_getElem
def Ri:=@List.getElem_range
open Go
abbrev Loc:=Nat×Nat
inductive Cap where
 |sh
 |full
 |nil
 |own (n s:Nat)
inductive V where
 |int (k:IntKind) (n:Int)
 |bool (b:Bool)
 |str (s:List UInt8)
 |nilp
 |nilf
 |nilm
 |nili
 |agg (cs:List V)
 |tup (vs:List V)
 |lst (c:Cap) (l:List V)
 |vw (loc:Loc) (s off len cap aG:Nat) (ag:Bool)
 |cref (cs:List V) (off:Nat)
 |ref (loc:Loc) (s off:Nat)
 |fn (f:Fn) (first cap:List V)
 |mapr (loc:Loc) (s:Nat)
 |mapc (ks vs:List V)
 |iface (t:TypeId) (v:V)
 |raw (v:Value)
instance:Inhabited V:=⟨.tup []⟩
def undefV:V:=.tup []
def V.cells:V->List V
 |.agg cs=>cs
 |v=>[v]
def bR:Value->Option V
 |.bool b=>some (.bool b)
 |.int k n=>some (.int k n)
 |.string s=>some (.str s.data.toList)
 |.pointer none=>some .nilp
 |.slice none 0 0=>some (.lst .nil [])
 |.map none=>some .nilm
 |.nilFunc=>some .nilf
 |.nilIface=>some .nili
 |_=>none
def ofValue:Value->Option V
 |.agg cs=>(cs.toList.mapM bR).map .agg
 |.tuple cs=>(cs.toList.mapM bR).map .tup
 |v=>bR v
mutual
def pclean:V->Bool
 |.int _ _|.bool _|.str _|.nilp|.nilf|.nilm|.nili=>true
 |.agg cs=>pcleanL cs
 |.tup vs=>pcleanL vs
 |.lst .sh l=>pcleanL l
 |.lst _ _=>false
 |.vw .. |.ref .. |.mapr .. =>false
 |.cref cs _=>pcleanL cs
 |.fn (.func _) a b=>pcleanL a&& pcleanL b
 |.fn _ _ _=>false
 |.mapc ks vs=>pcleanL ks&& pcleanL vs
 |.iface _ v=>pclean v
 |.raw _=>false
def pcleanL:List V->Bool
 | []=>true
 |v::l=>pclean v&& pcleanL l
end
mutual
def flat:V->Bool
 |.int _ _|.bool _|.str _|.nilp|.nilf|.nilm|.nili=>true
 |.agg cs=>bS cs
 |.tup vs=>bS vs
 |_=>false
def bS:List V->Bool
 | []=>true
 |v::l=>flat v&& bS l
end
def aR:V->V
 |.lst _ l=>.lst .sh l
 |v=>v
def er:V->V
 |.lst _ l=>.lst .sh l
 |.agg cs=>.agg (cs.map aR)
 |v=>v
inductive AObj where
 |cells (cs:List V)
 |map (ks vs:List V)
inductive Ex where
 |normal
 |exit (id:Nat)
 |ret
structure Fr where
 d:Nat
 om:Bool
 tm:Nat->V
structure fB where
 st:Nat
 pend:Option Ex
 fr:Fr
 ps:List Nat
 aJ:Code
 body:Code
structure Sig where
 next:Nat
 top:Nat->Nat
 obj:Loc->Option (Nat×AObj)
 loops:Nat->Option fB
def Sig.init:Sig:=⟨0,fun _=>0,fun _=>none,fun _=>none⟩
def upd {κ U:Type} [DecidableEq κ] (f:κ->U) (k:κ) (v:U):κ->U:=fun j=>if j=k then v else f j
def Fr.set (fr:Fr) (i:Nat) (v:V):Fr:={fr with tm:=upd fr.tm i v}
def Fr.put (fr:Fr) (d:Option Nat) (v:V):Fr:=match d with
 |some i=>fr.set i v
 |none=>fr
def Sig.setObj (Y:Sig) (loc:Loc) (s:Nat) (o:AObj):Sig:={Y with obj:=upd Y.obj loc (some (s,o))}
def Sig.bI (Y:Sig) (loc:Loc):Sig:={Y with obj:=upd Y.obj loc none}
def Sig.setTop (Y:Sig) (s n:Nat):Sig:={Y with top:=upd Y.top s n}
def Sig.aV (Y:Sig) (l:Nat) (r:fB):Sig:={Y with loops:=upd Y.loops l (some r)}
def Sig.dR (Y:Sig) (l:Nat):Sig:={Y with loops:=upd Y.loops l none}
def bC:Code->Bool
 |.seq a b=>bC a&& bC b
 |.cond _ a b=>bC a&& bC b
 |.block _ c=>bC c
 |.loop c=>bC c
 |.scope c=>bC c
 |.rangeFunc .. =>false
 |_=>true
def Sig.cellsAt (Y:Sig) (loc:Loc) (s:Nat):Option (List V):=
 match Y.obj loc with
 |some (s',.cells cs)=>if s'=s then some cs else none
 |_=>none
def Sig.aZ (Y:Sig) (loc:Loc) (s:Nat):Option (List V×List V):=
 match Y.obj loc with
 |some (s',.map ks vs)=>if s'=s then some (ks,vs) else none
 |_=>none
def chunks (agg:Bool) (n:Nat):Nat->List V->List V
 |0,_=>[]
 |k+1,cs=>(if agg then V.agg (cs.take n) else cs.headD undefV)::chunks agg n k (cs.drop n)
def oneCell:V->Bool
 |.agg _|.tup _|.raw _=>false
 |_=>true
def oneCells (l:List V):Bool:=l.all oneCell
def closeV:Nat->Sig->V->Option V
 |0,_,_=>none
 |n+1,Y,v=>if pclean v then some v else match v with
  |.lst _ l=>(l.mapM (closeV n Y)).map (.lst .sh)
  |.agg cs=>(cs.mapM (closeV n Y)).map .agg
  |.tup cs=>(cs.mapM (closeV n Y)).map .tup
  |.cref cs off=>(cs.mapM (closeV n Y)).map (.cref · off)
  |.fn (.func f) a b=>(a.mapM (closeV n Y)).bind fun a=>(b.mapM (closeV n Y)).map fun b=>.fn (.func f) a b
  |.ref loc s off=>(Y.cellsAt loc s).bind fun cs=>(cs.mapM (closeV n Y)).map (.cref · off)
  |.vw loc s off len _ aG ag=>(Y.cellsAt loc s).bind fun cs=>
     if off+len*aG<=cs.length then (((cs.drop off).take (len*aG)).mapM (closeV n Y)).bind fun cs=>if ag||aG==1&& oneCells cs then some (.lst .sh (chunks ag aG len cs)) else none else none
  |.mapr loc s=>(Y.aZ loc s).bind fun (ks,vs)=>
     (ks.mapM (closeV n Y)).bind fun ks=>(vs.mapM (closeV n Y)).map fun vs=>.mapc ks vs
  |.mapc ks vs=>(ks.mapM (closeV n Y)).bind fun ks=>(vs.mapM (closeV n Y)).map fun vs=>.mapc ks vs
  |.iface t v=>(closeV n Y v).map (.iface t)
  |_=>none
section ops
variable (P:Program)
def szT (t:TypeId):Option Nat:=(P.info? t).map (·.size)
def bytesT (t:TypeId):Option Nat:=(P.info? t).map (·.bytes)
def isAggT (t:TypeId):Option Bool:=(P.underlying t).map fun
 |.struct _|.array .. =>true
 |_=>false
def zeroT (t:TypeId):Option V:=((P.info? t).bind (·.zero)).bind ofValue
def fieldT (t:TypeId) (f:Nat):Option (Nat×TypeId):=
 match P.underlying t with
 |some (.struct fs)=>(fs[f]?).bind fun f=>match szT P f.type with
  |some (_+1)=>some (f.offset,f.type)
  |_=>none
 |_=>none
def elemT (t:TypeId):Option TypeId:=
 match P.underlying t with
 |some (.slice e)=>some e
 |_=>none
def arrT (t:TypeId):Option (Nat×TypeId):=
 match P.underlying t with
 |some (.array n e)=>some (n,e)
 |_=>none
def mapT (t:TypeId):Option (TypeId×TypeId):=
 match P.underlying t with
 |some (.map k e)=>some (k,e)
 |_=>none
def jv (agg:Bool) (n:Nat) (cs:List V) (off:Nat):Option V:=
 if agg then (if off+n<=cs.length then some (.agg ((cs.drop off).take n)) else none) else cs[off]?
def ldT (t:TypeId) (cs:List V) (off:Nat):Option V:=
 (isAggT P t).bind fun a=>(szT P t).bind fun n=>jv a n cs off
def spliceL (cs:List V) (off:Nat) (vs:List V):List V:=cs.take off++vs++cs.drop (off+vs.length)
def notRaw:V->Bool
 |.raw _=>false
 |_=>true
def fC (place:Nat->Option (Nat×Nat)) (cells:List V):List (Nat×V)->Option (List V)
 | []=>some cells
 | (i,v)::rest=>
   match place i with
   |none=>none
   |some (off,size)=>
    if v.cells.length=size/\off+size<=cells.length/\notRaw v then fC place (spliceL cells off v.cells) rest else none
def dS:V->V->Option Bool
 |.int k a,.int k' b=>if k=k' then some (a==b) else none
 |.bool a,.bool b=>some (a==b)
 |.str a,.str b=>some (a==b)
 |_,_=>none
def kW (eq:TypeId->V->V->Option Bool) (xs ys:List V):List Field->Option Bool
 | []=>some true
 |f::fs=>
  if f.name= "_" then kW eq xs ys fs else
  (ldT P f.type xs f.offset).bind fun a=>(ldT P f.type ys f.offset).bind fun b=>(eq f.type a b).bind fun r=>(kW eq xs ys fs).map (r&& ·)
def mH (eq:TypeId->V->V->Option Bool) (e:TypeId) (sz:Nat) (xs ys:List V):List Nat->Option Bool
 | []=>some true
 |i::is=>(ldT P e xs (i*sz)).bind fun a=>(ldT P e ys (i*sz)).bind fun b=>(eq e a b).bind fun r=>(mH eq e sz xs ys is).map (r&& ·)
def jV:Nat->TypeId->V->V->Option Bool
 |0,_,_,_=>none
 |d+1,t,x,y=>
  match P.underlying t,x,y with
  |some .bool,.bool a,.bool b=>some (a==b)
  |some (.int _),.int k a,.int k' b=>if k=k' then some (a==b) else none
  |some .string,.str a,.str b=>some (a==b)
  |some (.struct fs),.agg xs,.agg ys=>if P.stoodInHeld t then none else kW P (jV d) xs ys fs.toList
  |some (.array n e),.agg xs,.agg ys=>(szT P e).bind fun sz=>mH P (jV d) e sz xs ys (List.range n)
  |_,_,_=>none
def gP (t:TypeId) (x y:V):Option Bool:=
 match P.underlying t,x,y with
 |some (.func ..),.nilf,.nilf=>some true
 |some (.func ..),.nilf,.fn _ _ _|some (.func ..),.fn _ _ _,.nilf=>some false
 |some (.pointer _),.nilp,.nilp=>some true
 |some (.pointer _),.nilp,.ref .. |some (.pointer _),.ref ..,.nilp|some (.pointer _),.nilp,.cref .. |some (.pointer _),.cref ..,.nilp=>some false
 |some (.slice _),.lst .nil _,.lst .nil _=>some true
 |some (.slice _),.lst .nil _,.lst _ (_::_)|some (.slice _),.lst _ (_::_),.lst .nil _=>some false
 |some (.map ..),.nilm,.nilm=>some true
 |some (.map ..),.nilm,.mapr .. |some (.map ..),.mapr ..,.nilm|some (.map ..),.nilm,.mapc .. |some (.map ..),.mapc ..,.nilm=>some false
 |some (.struct _),.agg a,.agg b|some (.array ..),.agg a,.agg b=>if P.eqGuardType P.depth t then none else jV P 8 t (.agg a) (.agg b)
 |some .bool,.bool a,.bool b=>some (a==b)
 |some (.interface ms),.nili,.nili=>if ms.isEmpty then some true else none
 |some (.interface _),.nili,.iface _ _|some (.interface _),.iface _ _,.nili=>some false
 |_,_,_=>none
def intB (op:BinOp) (k:IntKind) (x y:Int):Option V:=
 match op with
 |.add=>some (.int k (k.wrap (x+y)))
 |.sub=>some (.int k (k.wrap (x-y)))
 |.mul=>some (.int k (k.wrap (x*y)))
 |.quo=>if y=0 then none else some (.int k (k.wrap (x.tdiv y)))
 |.rem=>if y=0 then none else some (.int k (x.tmod y))
 |.and=>some (.int k (k.wrap (BitVec.ofInt k.bits x&&& BitVec.ofInt k.bits y).toNat))
 |.or=>some (.int k (k.wrap (BitVec.ofInt k.bits x|||BitVec.ofInt k.bits y).toNat))
 |.xor=>some (.int k (k.wrap (BitVec.ofInt k.bits x^^^BitVec.ofInt k.bits y).toNat))
 |.andNot=>some (.int k (k.wrap (BitVec.ofInt k.bits x&&& ~~~BitVec.ofInt k.bits y).toNat))
 |.eql=>some (.bool (x==y))
 |.neq=>some (.bool (x !=y))
 |.lss=>some (.bool (x<y))
 |.leq=>some (.bool (x<=y))
 |.gtr=>some (.bool (x>y))
 |.geq=>some (.bool (x>=y))
 |_=>none
def oo (op:BinOp) (k:IntKind) (x y:Int):Option V:=
 if y<0 then none else
 match op with
 |.shl=>some (.int k (k.wrap (x*2^min y.toNat k.bits)))
 |.shr=>some (.int k (x.fdiv (2^min y.toNat k.bits)))
 |_=>none
def jW (op:BinOp) (x y:List UInt8):Option V:=
 match op with
 |.add=>if ((x.length+y.length:Nat):Int)>IntKind.i64.max then none else some (.str (x++y))
 |.eql=>some (.bool (x==y))
 |.neq=>some (.bool !(x==y))
 |.lss=>some (.bool (Op.bytesLess x y))
 |.leq=>some (.bool (Op.bytesLess x y||x==y))
 |.gtr=>some (.bool !(Op.bytesLess x y||x==y))
 |.geq=>some (.bool !(Op.bytesLess x y))
 |_=>none
def binV (op:BinOp) (t:TypeId) (x y:V):Option V:=
 match op,x,y with
 |.shl,.int k a,.int _ b|.shr,.int k a,.int _ b=>oo op k a b
 |_,.int k a,.int k' b=>if k=k' then intB op k a b else none
 |_,.str a,.str b=>jW op a b
 |.eql,x,y=>(gP P t x y).map .bool
 |.neq,x,y=>(gP P t x y).map fun b=>.bool !b
 |_,_,_=>none
def kX (op:UnOp) (x:V):Option V:=
 match op,x with
 |.neg,.int k n=>some (.int k (k.wrap (0-n)))
 |.xor,.int k n=>intB .xor k (if k.signed then-1 else k.max) n
 |.not,.bool b=>some (.bool !b)
 |_,_=>none
def iW (b:UInt8):V:=.int .u8 b.toNat
def jX (Y:Sig) (src dst:TypeId) (x:V):Option V:=
 match P.underlying src,P.underlying dst,x with
 |some _,some (.int k),.int _ n=>some (.int k (k.wrap n))
 |some _,some .string,.str s=>some (.str s)
 |_,_,_=>none
def fJ:V->Option Int
 |.int _ n=>some n
 |_=>none
def bnd (x:V) (y:Nat):Option Nat:=(fJ x).bind fun i=>if 0<=i/\i<=y then some i.toNat else none
def fK (len cap:Nat) (lo hi mx:Option V):Option (Nat×Nat×Nat):=
 (match mx with|some v=>bnd v cap|none=>some cap).bind fun m=>
 (match hi,mx with
   |some v,some _=>bnd v m
   |some v,none=>bnd v m
   |none,none=>some len
   |none,some _=>none).bind fun h=>
 (match lo with|some v=>bnd v h|none=>some 0).bind fun l=>some (l,h,m)
def eG (sz:Nat):List V->Bool
 | []=>true
 |v::_=>v.cells.length==sz
def gQ (Y:Sig) (t:TypeId) (x:V) (lo hi mx:Option V):Option V:=
 match P.underlying t,x with
 |some (.slice e),.lst c s=>
  (szT P e).bind fun sz=>(fK s.length s.length lo hi mx).bind fun (l,h,m)=>if eG sz s then some<|
    if l=0/\h=s.length/\mx.isNone then .lst c s else
    .lst (match mx with|some _=>if m=h then .full else .sh|none=>match c with|.full=>if h=s.length then .full else .sh|_=>.sh) ((s.take h).drop l)
    else none
 |some (.slice e),.vw loc st off len cap aG ag=>
  (szT P e).bind fun sz=>(fK len cap lo hi mx).bind fun (l,h,m)=>if sz=aG then some<|
    if l=h/\0<l then .lst (match mx with|some _=>if m=h then .full else .sh|none=>.sh) [] else .vw loc st (off+l*aG) (h-l) (m-l) aG ag
    else none
 |_,_=>none
def idx (i:V) (n:Nat):Option Nat:=(fJ i).bind fun i=>if 0<=i/\i<n then some i.toNat else none
def indexAddrV (t:TypeId) (x i:V):Option V:=
 match P.underlying t,x with
 |some (.slice e),.lst _ l=>(szT P e).bind fun sz=>(idx i l.length).bind fun k=>(l[k]?).bind fun e=>if e.cells.length=sz then some (.cref e.cells 0) else none
 |some (.slice e),.vw loc st off len _ aG _=>(szT P e).bind fun sz=>(idx i len).bind fun k=>if sz=aG then some (.ref loc st (off+k*aG)) else none
 |some (.array n e),.ref loc st off=>(szT P e).bind fun sz=>(idx i n).map fun k=>.ref loc st (off+k*sz)
 |some (.array n e),.cref cs off=>(szT P e).bind fun sz=>(idx i n).map fun k=>.cref cs (off+k*sz)
 |_,_=>none
def jY (t:TypeId) (x i:V):Option V:=
 match P.underlying t,x with
 |some (.array n e),.agg cs=>(idx i n).bind fun k=>(szT P e).bind fun sz=>ldT P e cs (k*sz)
 |some .string,.str s=>(idx i s.length).bind fun k=>(s[k]?).map iW
 |_,_=>none
def fD (k:V):List V->List V->Option (Option V)
 |a::as,v::vs=>(dS k a).bind fun b=>if b then some (some v) else fD k as vs
 | [],[]=>some none
 |_,_=>none
def iX (k v:V):List V->List V->Option (List V×List V)
 |a::as,w::ws=>(dS k a).bind fun b=>if b then some (k::as,v::ws) else (iX k v as ws).map fun (x,y)=>(a::x,w::y)
 | [],[]=>some ([k],[v])
 |_,_=>none
def dz (t:TypeId) (k:V):Bool:=
 match P.underlying t,k with
 |some (.int _),.int _ _|some .string,.str _|some .bool,.bool _=>true
 |_,_=>false
def iY (Y:Sig) (t:TypeId) (m k:V) (ok:Bool):Option V:=
 (mapT P t).bind fun (kt,et)=>
 if dz P kt k then
  (match m with
    |.nilm=>some ([],[])
    |.mapr loc s=>Y.aZ loc s
    |.mapc ks vs=>some (ks,vs)
    |_=>none).bind fun (ks,vs)=>
  (fD k ks vs).bind fun r=>
  (match r with|some v=>some (v,true)|none=>(zeroT P et).map fun z=>(z,false)).map fun (v,b)=>
  if ok then .tup [v,.bool b] else v
 else none
def fU (Y:Sig) (t:TypeId) (m k v:V):Option Sig:=
 (mapT P t).bind fun (kt,_)=>
 if dz P kt k then
  match m with
  |.mapr loc s=>(Y.aZ loc s).bind fun (ks,vs)=>(iX k v ks vs).map fun (ks,vs)=>Y.setObj loc s (.map ks vs)
  |_=>none
 else none
def roomOK (n b:Nat):Bool:=n*b<=2^47&& n<=2^47
def fV (Y:Sig) (ag:Bool) (sz:Nat) (z:V):V->Option (List V)
 |.int _ n=>if 0<=n/\n<=2^47 then some (List.replicate n.toNat z) else none
 |.lst _ l=>if eG sz l then some l else none
 |.str s=>if sz=1 then some (s.map iW) else none
 |.vw loc s off len _ aG _=>if aG≠sz then none else (Y.cellsAt loc s).bind fun cs=>
  if off+len*sz<=cs.length/\(oneCells cs=true\/ag=true) then some ((chunks ag sz len (cs.drop off)).map er) else none
 |_=>none
def oq:V->Bool
 |.int _ _=>true
 |_=>false
def cu (om zeros:Bool) (Y:Sig) (st:Nat) (loc:Option Loc) (t:TypeId) (x y:V):Option (V×Sig):=
 (elemT P t).bind fun e=>(szT P e).bind fun sz=>(bytesT P e).bind fun by_=>(isAggT P e).bind fun ag=>(zeroT P e).bind fun z=>
 if zeros=oq y/\z.cells.length=sz/\0<sz/\(ag||sz==1)=true then
 (fV Y ag sz z y).bind fun ys=>
 if ys.all (fun v=>oneCells v.cells)=true then
 match x with
 |.lst c l=>
  if roomOK (l.length+ys.length) by_=true/\eG sz l=true then
   match om,c with
   |true,.nil=>loc.map fun loc=>(.vw loc st 0 (l.length+ys.length) (l.length+ys.length) sz ag,Y.setObj loc st (.cells ((l++ys).flatMap V.cells)))
   |true,.full=>if ys.isEmpty then some (.lst .full l,Y) else loc.map fun loc=>(.vw loc st 0 (l.length+ys.length) (l.length+ys.length) sz ag,Y.setObj loc st (.cells ((l++ys).flatMap V.cells)))
   |false,.own n s=>if n=sz/\Y.top s=l.length then some (.lst (.own n s) (l++ys),Y.setTop s (l.length+ys.length)) else none
   |false,.nil|false,.full=>some (.lst (.own sz st) (l++ys),Y.setTop st (l.length+ys.length))
   |_,_=>none
  else none
 |.vw bN s off len cap aG _=>
  if roomOK (len+ys.length) by_=true/\om=true/\off=0/\aG=sz then
   loc.bind fun loc=>(Y.cellsAt bN s).bind fun cs=>
    if len+ys.length<=cap then
     if (len+ys.length)*sz<=cs.length then
      some (.vw bN s 0 (len+ys.length) cap sz ag,Y.setObj bN s (.cells (spliceL cs (len*sz) (ys.flatMap V.cells))))
     else none
    else if len*sz<=cs.length then
     some (.vw loc st 0 (len+ys.length) (len+ys.length) sz ag,(Y.bI bN).setObj loc st (.cells (cs.take (len*sz)++ys.flatMap V.cells)))
    else none
  else none
 |_=>none
 else none else none
def copyV (Y:Sig) (t:TypeId) (x y:V):Option (V×Sig):=
 (fun (_:Program) (_:Sig) (_:TypeId) (_ _:V)=>none) P Y t x y
def tO (t:TypeId) (ok:Bool) (x:V):Option V:=
 match P.underlying t with
 |none|some (.interface _)=>none
 |some _=>match x with
  |.iface u v=>if u=t then some (if ok then .tup [v,.bool true] else v) else if ok then (zeroT P t).map fun z=>.tup [z,.bool false] else none
  |.nili=>if ok then (zeroT P t).map fun z=>.tup [z,.bool false] else none
  |_=>none
def iy (Y:Sig) (t:TypeId) (x:V):Option (V×Sig):=
 (elemT P t).bind fun e=>(szT P e).bind fun sz=>(bytesT P e).bind fun _=>(zeroT P e).bind fun z=>
 if z.cells.length=sz/\oneCells z.cells=true then
  match x with
  |.vw loc s off len _ aG _=>
   (Y.cellsAt loc s).bind fun cs=>
     if aG=sz/\off+len*sz<=cs.length then
      if len=0 then some (undefV,Y) else some (undefV,Y.setObj loc s (.cells (spliceL cs off ((List.replicate len z).flatMap V.cells))))
     else none
  |.lst _ []=>some (undefV,Y)
  |_=>none
 else none
@[irreducible] def kY (_:Bool):V->List V->Option V:=fun _ _=>none
def jw (om:Bool) (Y:Sig) (st:Nat) (loc:Option Loc) (t:TypeId) (l c:V):Option (V×Sig):=
 (fun (_:Program) (_:Bool) (_:Sig) (_:Nat) (_:Option Loc) (_:TypeId) (_ _:V)=>none) P om Y st loc t l c
end ops
end Aq
end
section
namespace Aq
open Go
structure Env where
 P:Program
 glob:Nat->Option (List V)
 imp:FuncId->Bool
 om:FuncId->Bool
 summ:FuncId->Option (List V->Option V)
 own:FuncId->Nat->Bool:=fun _ _=>false
 ownN:FuncId->Bool:=fun _=>false
 frz:TypeId->Bool:=fun _=>false
 fzm:Nat->Bool:=fun _=>false
 cn:Nat->Nat:=fun d=>d
 bsm:Nat->Bool:=fun _=>false
 frzd:Nat->Bool:=fun _=>true
section
variable (E:Env)
def Fr.ev (fr:Fr):Operand->V
 |.tmp t=>fr.tm t
 |.const v=>(ofValue v).getD (.raw v)
 |.global g=>match E.glob g with|some cs=>.cref cs 0|none=>.raw (.pointer (some ⟨g,0,none⟩))
 |.func f=>.fn (.func f) [] []
def dA (fr:Fr):Option Operand->Option V
 |none=>none
 |some x=>some (fr.ev E x)
def dY:V->Option Bool
 |.bool b=>some b
 |_=>none
def partsT (t:TypeId):Option (Nat->Option (Nat×Nat)):=
 match E.P.underlying t with
 |some (.struct fs)=>if fs.toList.all (fun f=>(szT E.P f.type).isSome) then some fun i=>(fs[i]?).bind fun f=>(szT E.P f.type).map fun n=>(f.offset,n)
  else none
 |some (.array _ e)=>(szT E.P e).map fun n=>fun i=>some (i*n,n)
 |_=>none
def buildSliceV (t:TypeId) (len:Nat) (parts:List (Nat×V)):Option V:=
 (elemT E.P t).bind fun e=>(szT E.P e).bind fun sz=>(isAggT E.P e).bind fun ag=>(zeroT E.P e).bind fun z=>
 if len*sz<=2^24/\z.cells.length=sz/\0<sz/\(ag||sz==1)=true then
  (fC (fun i=>if i<len then some (i*sz,sz) else none) (List.replicate len z.cells).flatten parts).bind fun cs=>
    if oneCells cs then some (.lst .full ((chunks ag sz len cs).map er)) else none
 else none
def frzB (t:TypeId) (d:Option Nat):Bool:=E.frz t&& (match d with
 |some d=>E.frzd (1000*t+d)
 |none=>true)
def bsM (d:Option Nat):Bool:=match d with
 |some d=>E.bsm d
 |none=>false
def jZ (Y:Sig) (st:Nat) (loc:Option Loc) (t:TypeId) (len:Nat) (parts:List (Nat×V)):Option (V×Sig):=
 (elemT E.P t).bind fun e=>(szT E.P e).bind fun sz=>(isAggT E.P e).bind fun ag=>(zeroT E.P e).bind fun z=>
 if len*sz<=2^24/\z.cells.length=sz/\0<sz then
  (fC (fun i=>if i<len then some (i*sz,sz) else none) (List.replicate len z.cells).flatten parts).bind fun cs=>
    loc.map fun loc=>(.vw loc st 0 len len sz ag,Y.setObj loc st (.cells cs))
 else none
def fzM (d:Option Nat):Bool:=match d with
 |some d=>E.fzm d
 |none=>false
def iA (Y:Sig) (x:V):Option (V×Sig):=match x with
 |.vw loc s off len _ aG ag=>(Y.cellsAt loc s).bind fun cs=>
  if off+len*aG<=cs.length/\(ag||aG==1&& oneCells (((cs.drop off).take (len*aG)).map aR))=true then some (.lst .sh (chunks ag aG len (((cs.drop off).take (len*aG)).map aR)),Y.bI loc) else none
 |.lst _ l=>some (.lst .sh l,Y)
 |v=>some (v,Y)
def aF (fr:Fr) (Y:Sig) (st:Nat) (o:Oper):Option (V×Sig):=
 let loc:Option Loc:=o.dst.map fun t=>(fr.d,t)
 match o.op with
 |.move x=>if fzM E o.dst=true then iA Y (fr.ev E x) else some (fr.ev E x,Y)
 |.assign x=>some (fr.ev E x,Y)
 |.pick c a b=>(dY (fr.ev E c)).map fun t=>(if t then fr.ev E a else fr.ev E b,Y)
 |.alloc t=>loc.bind fun loc=>(zeroT E.P t).bind fun z=>if oneCells z.cells then some (.ref loc st 0,Y.setObj loc st (.cells z.cells)) else none
 |.box t x=>if frzB E t o.dst=true then (if pclean (er (fr.ev E x))=true/\notRaw (fr.ev E x) then some (.cref (er (fr.ev E x)).cells 0,Y) else none) else loc.bind fun loc=>if oneCells (fr.ev E x).cells/\notRaw (fr.ev E x) then some (.ref loc st 0,Y.setObj loc st (.cells (fr.ev E x).cells)) else none
 |.build t parts=>(partsT E t).bind fun pl=>(zeroT E.P t).bind fun z=>(fC pl z.cells (parts.toList.map fun (i,x)=>(i,fr.ev E x))).map fun cs=>(.agg cs,Y)
 |.buildSlice t len parts=>if bsM E o.dst=true then jZ E Y st (o.dst.map fun t=>(fr.d,E.cn t)) t len (parts.toList.map fun (i,x)=>(i,fr.ev E x)) else (buildSliceV E t len (parts.toList.map fun (i,x)=>(i,fr.ev E x))).map fun v=>(v,Y)
 |.load t a=>match fr.ev E a with
  |.ref loc s off=>(Y.cellsAt loc s).bind fun cs=>(ldT E.P t cs off).map fun v=>(v,Y)
  |.cref cs off=>(ldT E.P t cs off).map fun v=>(v,Y)
  |_=>none
 |.store t a x=>match fr.ev E a with
  |.ref loc s off=>(Y.cellsAt loc s).bind fun cs=>
   if some (fr.ev E x).cells.length=szT E.P t/\off+(fr.ev E x).cells.length<=cs.length/\oneCells (fr.ev E x).cells then
    some (undefV,Y.setObj loc s (.cells (spliceL cs off (fr.ev E x).cells))) else none
  |_=>none
 |.nilCheck x=>match fr.ev E x with
  |.ref loc s off=>some (.ref loc s off,Y)
  |.cref cs off=>some (.cref cs off,Y)
  |.fn (.func f) a b=>some (.fn (.func f) a b,Y)
  |_=>none
 |.binOp op t x y _=>(binV E.P op t (fr.ev E x) (fr.ev E y)).map fun v=>(v,Y)
 |.unOp op _ x=>(kX op (fr.ev E x)).map fun v=>(v,Y)
 |.convert a b x=>(jX E.P Y a b (fr.ev E x)).map fun v=>(v,Y)
 |.sliceToArrayPointer t x=>(arrT E.P t).bind fun (n,_)=>match fr.ev E x with
  |.vw loc s off len _ _ _=>if 0<n/\n<=len then some (.ref loc s off,Y) else none
  |.lst _ l=>if 0<n/\n<=l.length/\oneCells l=true then some (.cref (l.take n) 0,Y) else none
  |_=>none
 |.makeInterface t x=>match E.P.underlying t with
  |some (.interface _)=>none
  |some _=>some (.iface t (fr.ev E x),Y)
  |none=>none
 |.makeFunc (.func f) a b=>some (.fn (.func f) (a.toList.map (fr.ev E)) (b.toList.map (fr.ev E)),Y)
 |.makeMap _ none=>loc.map fun loc=>(.mapr loc st,Y.setObj loc st (.map [] []))
 |.makeSlice t l c=>jw E.P fr.om Y st loc t (fr.ev E l) (fr.ev E c)
 |.slice t x lo hi mx=>(gQ E.P Y t (fr.ev E x) (dA E fr lo) (dA E fr hi) (dA E fr mx)).map fun v=>(v,Y)
 |.fieldAddr t x f=>(fieldT E.P t f).bind fun (o,_)=>match fr.ev E x with
  |.ref loc s off=>some (.ref loc s (off+o),Y)
  |.cref cs off=>some (.cref cs (off+o),Y)
  |_=>none
 |.field t x f=>(fieldT E.P t f).bind fun (o,u)=>match fr.ev E x with
  |.agg cs=>(ldT E.P u cs o).map fun v=>(v,Y)
  |_=>none
 |.indexAddr t x i=>(indexAddrV E.P t (fr.ev E x) (fr.ev E i)).map fun v=>(v,Y)
 |.index t x i=>(jY E.P t (fr.ev E x) (fr.ev E i)).map fun v=>(v,Y)
 |.lookup t x i ok=>(iY E.P Y t (fr.ev E x) (fr.ev E i) ok).map fun v=>(v,Y)
 |.mapUpdate t m k v|.insert t m k v=>(fU E.P Y t (fr.ev E m) (fr.ev E k) (fr.ev E v)).map fun Y=>(undefV,Y)
 |.extract x i=>match fr.ev E x with
  |.tup vs=>(vs[i]?).map fun v=>(v,Y)
  |_=>none
 |.typeAssert x _ t ok=>(tO E.P t ok (fr.ev E x)).map fun v=>(v,Y)
 |_=>none
def dZ (Y:Sig) (t:TypeId) (x:V):Option Nat:=
 match E.P.underlying t,x with
 |some (.array n _),_=>some n
 |some (.map _ _),.mapr loc s=>(Y.aZ loc s).map fun (ks,_)=>ks.length
 |some (.map _ _),.mapc ks _=>some ks.length
 |some (.map _ _),.nilm=>some 0
 |some (.pointer a),_=>(arrT E.P a).map fun (n,_)=>n
 |some (.slice _),.lst _ l=>some l.length
 |some (.slice _),.vw _ _ _ len _ _ _=>some len
 |some .string,.str s=>some s.length
 |_,_=>none
def eH (om:Bool) (loc:Option Loc) (Y:Sig) (st:Nat) (b:Builtin) (tys:Array TypeId) (args:List V):Option (V×Sig):=
 match b,args with
 |.len,[x]=>(tys[0]?).bind fun t=>(dZ E Y t x).map fun n=>(.int .i64 (n:Nat),Y)
 |.cap,[x]=>(tys[0]?).bind fun t=>(elemT E.P t).bind fun _=>match x with
  |.lst .nil l|.lst .full l=>some (.int .i64 l.length,Y)
  |_=>none
 |.append,[x,y]=>(tys[0]?).bind fun t=>((tys[1]?).bind E.P.underlying).bind fun u=>match u with
  |.int _=>cu E.P om true Y st loc t x y
  |.slice _|.string=>cu E.P om false Y st loc t x y
  |_=>none
 |.copy,[x,y]=>(tys[0]?).bind fun t=>copyV E.P Y t x y
 |.clear,[x]=>(tys[0]?).bind fun t=>iy E.P Y t x
 |.min,x::l=>(kY false x l).map fun v=>(v,Y)
 |.max,x::l=>(kY true x l).map fun v=>(v,Y)
 |_,_=>none
structure Evl where
 code:Code->Fr->Sig->Option (Ex×Fr×Sig)
 call:FuncId->List V->Nat->Sig->Option (V×Sig)
variable (S:Evl)
def callPure (f:FuncId) (args:List V):Option V:=
 match E.summ f with
 |some g=>g args
 |none=>(S.call f args 1 Sig.init).bind fun (v,Y)=>closeV 20 Y v
def iD (l:Nat) (args:List V) (Y:Sig):Option (V×Sig):=
 (Y.loops l).bind fun r=>
 if r.st=0/\r.ps.length=args.length then
  (S.code r.aJ {r.fr with tm:=(r.ps.zip args).foldl (fun tm (p,a)=>upd tm p a) r.fr.tm} Y).bind fun (e,fr,Y1)=>
  match e with
  |.normal=>(Y1.loops l).bind fun r1=>
   if r1.st=0 then
    (S.code r.body fr (Y1.aV l {r1 with st:=1})).bind fun (e,_,Y2)=>(Y2.loops l).bind fun r2=>
    if r2.st=1 then
     match e with
     |.normal=>some (.bool true,Y2.aV l {r2 with st:=0,pend:=none})
     |e=>some (.bool false,Y2.aV l {r2 with st:=2,pend:=some e})
    else none
   else none
  |_=>none
 else none
def bV (d:Nat) (Y:Sig) (fv:V) (args:List V):Option (V×Sig):=
 match fv with
 |.fn (.func f) first cap=>
  if E.imp f then S.call f (first++args++cap) (d+1) Y
  else ((first++args++cap).mapM (closeV 20 Y)).bind fun as=>
   (callPure E S f as).bind fun v=>
   if (first++args++cap).all (fun a=>pclean (er a))||flat v then some (v,Y) else none
 |.fn (.yield l) [] []=>iD S l args Y
 |_=>none
def eO (fr:Fr) (o:Oper) (f:Operand):Bool:=match fr.ev E f,o.dst with
 |.fn (.func g) _ _,some d=>E.own g d
 |_,_=>false
def ou (Y:Sig) (st:Nat) (Y1:Sig):V->Option (V×Sig)
 |.lst c l=>if pcleanL l=true then (match c with
  |.nil=>some (.lst .nil l,Y)
  |.full=>some (.lst .full l,Y)
  |.own n s=>if Y1.top s=l.length then some (.lst (.own n st) l,Y.setTop st l.length) else none
  |.sh=>none) else none
 |.vw loc s off len _ aG _=>if off=0/\len=0 then (Y1.cellsAt loc s).bind fun _=>some (.lst (.own aG st) [],Y.setTop st 0) else none
 |_=>none
def iF (Y:Sig) (st:Nat) (fv:V) (args:List V):Option (V×Sig):=
 (fun (_:Env) (_:Evl) (_:Sig) (_:Nat) (_:V) (_:List V)=>none) E S Y st fv args
def opC (fr:Fr) (Y:Sig) (st:Nat) (o:Oper):Option (V×Fr×Sig):=
 match o.op with
 |.call c=>
  match c.callee with
  |.builtin b=>(eH E fr.om (o.dst.map fun t=>(fr.d,E.cn t)) Y st b c.argTypes (c.args.toList.map (fr.ev E))).map fun (v,Y)=>(v,fr,Y)
  |.value f=>if eO E fr o f=true then (iF E S Y st (fr.ev E f) (c.args.toList.map (fr.ev E))).map fun (v,Y)=>(v,fr,Y) else
   (bV E S fr.d Y (fr.ev E f) (c.args.toList.map (fr.ev E))).map fun (v,Y)=>(v,fr,Y)
  |.invoke .. =>none
 |.defer _=>none
 |_=>(aF E fr Y st o).map fun (v,Y)=>(v,fr,Y)
def aO (ops:List Oper) (fr:Fr) (o:Oper):Option Bool:=
 match o.guard with
 |none=>some true
 |some (j,want)=>match (ops[j]?).bind (·.dst) with
  |some t=>match fr.tm t with
   |.bool b=>some (b==want)
   |.raw _=>none
   |_=>some false
  |none=>some false
def opsE (all:List Oper):Nat->List Oper->Fr->Sig->Option (Fr×Sig)
 |_,[],fr,Y=>some (fr,Y)
 |st,o::os,fr,Y=>
  (aO all fr o).bind fun t=>if t then (opC E S fr Y st o).bind fun (v,fr,Y)=>opsE all (st+1) os (fr.put o.dst v) Y
  else opsE all (st+1) os (fr.put o.dst undefV) Y
inductive Key where
 |slot (t:Nat)
 |obj (l:Loc)
 |top
 |rest
 |nx
def fZ (a b:Loc):Bool:=a.2==b.2&& a.1==b.1
def Key.eq:Key->Key->Bool
 |.slot a,.slot b=>a==b
 |.obj a,.obj b=>fZ a b
 |.top,.top=>true
 |.rest,.rest=>true
 |.nx,.nx=>true
 |_,_=>false
def Key.state:Key->Bool
 |.obj _|.top|.nx=>true
 |_=>false
structure Foot where
 tAll:Bool
 wAll:Bool
 t:List Key
 w:List Key
def bE:V->List Key
 |.ref loc _ _|.vw loc _ _ _ _ _ _|.mapr loc _=>[.obj loc]
 |_=>[]
def iG (fr:Fr) (o:Oper):List Key:=match o.dst with
 |some t=>[.obj (fr.d,t)]
 |none=>[]
def rdF (t:List Key):Foot:=⟨false,false,t,[]⟩
def wrF (w:List Key):Foot:=⟨false,false,[],w⟩
def allF:Foot:=⟨true,true,[],[]⟩
def bO (fr:Fr) (o:Oper):Foot:=
 match o.op with
 |.buildSlice .. =>if bsM E o.dst=true then allF else rdF []
 |.assign _|.pick .. |.build .. |.nilCheck _|.binOp .. |.unOp .. |.makeInterface .. |.typeAssert .. |.makeFunc .. |.fieldAddr .. |.field .. |.indexAddr .. |.index .. |.extract ..
 |.sliceToArrayPointer .. =>rdF []
 |.move x=>if fzM E o.dst=true then wrF (bE (fr.ev E x)) else rdF []
 |.convert _ _ x|.slice _ x _ _ _|.load _ x|.lookup _ x _ _=>rdF (bE (fr.ev E x))
 |.alloc _|.box .. |.makeMap .. =>wrF (iG fr o)
 |.makeSlice .. =>wrF (.top::iG fr o)
 |.store _ a _=>wrF (bE (fr.ev E a))
 |.mapUpdate _ m _ _|.insert _ m _ _=>wrF (bE (fr.ev E m))
 |.call c=>match c.callee with
  |.builtin b=>match b with
   |.len|.cap|.min|.max=>rdF (c.args.toList.flatMap fun x=>bE (fr.ev E x))
   |.append=>if fr.om then allF else ⟨false,false,c.args.toList.flatMap fun x=>bE (fr.ev E x),[.top]⟩
   |_=>allF
  |.value f=>if eO E fr o f=true then wrF [.top] else match fr.ev E f with
   |.fn (.func g) a b=>if E.imp g then allF else if (a++c.args.toList.map (fr.ev E)++b).all (fun v=>pclean (er v)) then rdF [] else ⟨true,false,[],[]⟩
   |_=>allF
  |_=>allF
 |_=>allF
def slotsT (ops:List Oper) (o:Oper):List Key:=
 (o.op.operands.toList.filterMap fun|.tmp t=>some (.slot t)|_=>none)++
 match o.guard with
 |some (j,_)=>match (ops[j]?).bind (·.dst) with
  |some t=>[.slot t]
  |none=>[]
 |none=>[]
def slotsW (o:Oper):List Key:=match o.dst with
 |some t=>[.slot t]
 |none=>[]
def aX (ops:List Oper) (fr:Fr) (o:Oper) (wanted:Bool):Foot:=
 if wanted then let f:=bO E fr o;⟨f.tAll,f.wAll,slotsT ops o++f.t,slotsW o++f.w⟩
 else ⟨false,false,slotsT ops o,slotsW o⟩
def clash (f g:Foot):Bool:=
 (f.wAll&& (g.tAll||g.wAll||g.t.any Key.state||g.w.any Key.state))||f.w.any fun k=>k.eq .rest||g.t.any (·.eq k)||g.w.any (·.eq k)||(g.tAll||g.wAll)&& k.state
def tT (f g:Foot):Bool:= !clash f g&& !clash g f
def preM (ops:List Oper):List Nat:=
 ops.foldl (fun acc o=>acc++[o.after.toList.foldl (fun s e=>if Region.binds .any e then s|||2^e.on|||acc.getD e.on 0 else s) 0]) []
def pairsOK (ms:List Nat) (fs:List Foot):Bool:=
 (List.range fs.length).all fun i=>(List.range i).all fun j=>(ms.getD i 0).testBit j||tT (fs.getD i allF) (fs.getD j allF)
def edgesOK (ops:List Oper):Bool:=
 (List.range ops.length).all fun i=>match ops[i]? with
   |some o=>o.after.toList.all fun e=>!Region.binds .any e||decide (e.on<i)
   |none=>true
def d9 (all:List Oper):Nat->List Oper->Fr->Sig->Option (List Foot×Fr×Sig)
 |_,[],fr,Y=>some ([],fr,Y)
 |st,o::os,fr,Y=>
  (aO all fr o).bind fun t=>if t then (opC E S fr Y st o).bind fun (v,ay,Y)=>(d9 all (st+1) os (ay.put o.dst v) Y).map fun (fs,r)=>(aX E all fr o true::fs,r)
  else (d9 all (st+1) os (fr.put o.dst undefV) Y).map fun (fs,r)=>(aX E all fr o false::fs,r)
def Ag (k:Key) (x y:Fr×Sig):Prop:=
 match k with
 |.slot t=>x.1.tm t=y.1.tm t
 |.obj l=>x.2.obj l=y.2.obj l
 |.top=>x.2.top=y.2.top
 |.rest=>x.1.d=y.1.d/\x.1.om=y.1.om
 |.nx=>x.2.next=y.2.next/\x.2.loops=y.2.loops
def bW (ops:List Oper) (base i:Nat) (fr:Fr) (Y:Sig):Option (Fr×Sig):=
 match ops[i]? with
 |none=>some (fr,Y)
 |some o=>
  (aO ops fr o).bind fun t=>if t then (opC E S fr Y (base+i) o).map fun (v,fr,Y)=>(fr.put o.dst v,Y)
  else some (fr.put o.dst undefV,Y)
def Free (ms:List Nat) (ops:List Oper) (base:Nat) (x y:Fr×Sig):Prop:=
 ∃(s:Nat->Fr×Sig) (T W:Nat->Key->Prop),s 0=x/\s ops.length=y/\(∀i k,W i k->T i k)/\
  (∀i,i<ops.length->∀x,(∀k,T i k->Ag k (s i) x)->∃y,bW E S ops base i x.1 x.2=some y/\(∀k,W i k->Ag k (s (i+1)) y)/\∀k,¬W i k->Ag k x y)/\
  (∀i,i<ops.length->∀k,¬W i k->Ag k (s i) (s (i+1)))/\
  ∀i j,i<ops.length->j<i->(ms.getD i 0).testBit j=true\/((∀k,¬(W i k/\T j k))/\∀k,¬(W j k/\T i k))
noncomputable def tV {U:Type} (p:Prop) (x:Option U):Option U:= @ite _ p (Classical.propDecidable p) x none
def mI:V->Bool
 |.fn (.func _) _ _=>true
 |_=>false
noncomputable def aL:Code->Fr->Sig->Option (Ex×Fr×Sig)
 |.skip,fr,Y=>some (.normal,fr,Y)
 |.region _ ops dr,fr,Y=>
  if dr then (d9 E S ops.toList Y.next ops.toList fr {Y with next:=Y.next+ops.toList.length}).bind fun (fs,fr',Y')=>if edgesOK ops.toList&& pairsOK (preM ops.toList) fs then some (.normal,fr',Y') else tV (edgesOK ops.toList=true/\Free E S (preM ops.toList) ops.toList Y.next (fr,{Y with next:=Y.next+ops.toList.length}) (fr',Y')) (some (.normal,fr',Y'))
  else
  (opsE E S ops.toList Y.next ops.toList fr {Y with next:=Y.next+ops.toList.length}).map fun (fr,Y)=>(.normal,fr,Y)
 |.seq a b,fr,Y=>(aL a fr Y).bind fun (e,fr,Y)=>match e with
  |.normal=>aL b fr Y
  |e=>some (e,fr,Y)
 |.cond c a b,fr,Y=>(dY (fr.ev E c)).bind fun t=>if t then aL a fr Y else aL b fr Y
 |.block id c,fr,Y=>(aL c fr Y).map fun (e,fr,Y)=>match e with
  |.exit i=>if i=id then (.normal,fr,Y) else (.exit i,fr,Y)
  |e=>(e,fr,Y)
 |.loop c,fr,Y=>(aL c fr Y).bind fun (e,fr,Y)=>match e with
  |.normal=>S.code (.loop c) fr Y
  |e=>some (e,fr,Y)
 |.scope c,fr,Y=>aL c fr Y
 |.label _,fr,Y=>some (.normal,fr,Y)
 |.exit id,fr,Y=>some (.exit id,fr,Y)
 |.ret,fr,Y=>some (.ret,fr,Y)
 |.rangeFunc f ps aJ body,fr,Y=>
  if mI (fr.ev E f) then (bV E S fr.d ({Y with next:=Y.next+1}.aV Y.next {st:=0,pend:=none,fr:=fr,ps:=ps.toList,aJ:=aJ,body:=body}) (fr.ev E f) [.fn (.yield Y.next) [] []]).bind fun (_,Y2)=>
  (Y2.loops Y.next).bind fun r=>
  if r.st=1 then none else some ((match r.pend with|none=>.normal|some e=>e),fr,Y2.dR Y.next)
  else none
 |_,_,_=>none
def resV (fr:Fr) (Y:Sig):ResultVar->Option V
 |.tmp t=>some (fr.tm t)
 |.cell a t=>match fr.tm a with
  |.ref loc s off=>(Y.cellsAt loc s).bind fun cs=>ldT E.P t cs off
  |_=>none
def gT (n:Nat) (ops:List Oper):Bool:=ops.all fun o=>match o.dst with
 |some d=>d<n
 |none=>true
def aM (n:Nat):Code->Bool
 |.region _ ops _=>gT n ops.toList
 |.seq a b=>aM n a&& aM n b
 |.cond _ a b=>aM n a&& aM n b
 |.block _ c=>aM n c
 |.loop c=>aM n c
 |.scope c=>aM n c
 |.rangeFunc _ ps a b=>ps.toList.all (· <n)&& aM n a&& aM n b&& bC a&& bC b
 |_=>true
noncomputable def j3 (f:FuncId) (args:List V) (d:Nat) (Y:Sig):Option (V×Sig):=
 (E.P.funcs[f]?).bind fun fn=>fn.body.bind fun c=>
 if args.length<=fn.ntmps/\aM fn.ntmps c then
 (S.code c {d:=d,om:=E.om f,tm:=fun i=>args.getD i undefV} Y).bind fun (e,fr,Y)=>
 match e with
 |.normal|.ret=>
  (fn.results.toList.mapM (resV E fr Y)).map fun vs=>(match vs with| [v]=>v|vs=>.tup vs,Y)
 |.exit _=>none
 else none
noncomputable def evl:Nat->Evl
 |0=>⟨fun _ _ _=>none,fun _ _ _ _=>none⟩
 |n+1=>⟨aL E (evl n),j3 E (evl n)⟩
end
end Aq
end
section
namespace Aq
open Go Go.RowKit
inductive FC where
 |obj (loc:Loc)
 |own (s:Nat)
 |loop (l:Nat)
structure Con where
 A:Nat->Prop
 blk:Nat->Nat
 sz:Nat->Nat
 ob:Nat->Nat
 lo:Nat->Nat
 hi:Nat->Nat
 lp:Nat->Nat
 I:Nat->Nat->Prop
 IM:Nat->Prop
 D:Nat->Prop
 Z:Nat->Option FC
abbrev at_ (b o:Nat):Addr:=⟨b,o,none⟩
def gq (K:Con) (T:Nat->Nat) (c:Cap) (n b o len cap:Nat):Prop:=
 match c with
 |.sh=>True
 |.full=>cap=len
 |.nil=>False
 |.own n' s=>n'=n/\K.A s/\len<=T s/\(len=T s->K.ob s=b/\K.lo s=o+len*n/\K.hi s=o+cap*n)
def ow (K:Con) (T:Nat->Nat) (c:Cap):Prop:=
 match c with
 |.own _ s=>K.A s/\(T s=0->K.hi s=K.lo s)
 |_=>True
inductive Rel (K:Con) (T:Nat->Nat) (w:World):V->Value->Prop
 |int (k:IntKind) (n:Int):Rel K T w (.int k n) (.int k n)
 |bool (b:Bool):Rel K T w (.bool b) (.bool b)
 |str (s:List UInt8) (b:ByteArray) (h:b.data.toList=s):Rel K T w (.str s) (.string b)
 |nilp:Rel K T w .nilp (.pointer none)
 |nilf:Rel K T w .nilf .nilFunc
 |nilm:Rel K T w .nilm (.map none)
 |nili:Rel K T w .nili .nilIface
 |agg (cs:List V) (vs:Array Value) (hl:cs.length=vs.size) (h:∀i,i<cs.length->Rel K T w (cs.getD i undefV) (vs.getD i undef)):Rel K T w (.agg cs) (.agg vs)
 |tup (cs:List V) (vs:Array Value) (hl:cs.length=vs.size) (h:∀i,i<cs.length->Rel K T w (cs.getD i undefV) (vs.getD i undef)):Rel K T w (.tup cs) (.tuple vs)
 |bf (c:Cap) (a:Option Addr) (ha:c= .nil->a=none) (hc:ow K T c):Rel K T w (.lst c []) (.slice a 0 0)
 |lst (c:Cap) (l:List V) (b o n cap:Nat) (val:Nat->Nat->Value) (hle:l.length<=cap)
   (hn:∀i,i<l.length->(l.getD i undefV).cells.length=n)
   (hcell:∀i j,i<l.length->j<n->w.cell? (at_ b (o+i*n+j))=some (val i j)/\K.I b (o+i*n+j))
   (hrel:∀i j,i<l.length->j<n->Rel K T w ((l.getD i undefV).cells.getD j undefV) (val i j))
   (hc:gq K T c n b o l.length cap):Rel K T w (.lst c l) (.slice (some (at_ b o)) l.length cap)
 |vw (loc:Loc) (s off len cap aG:Nat) (ag:Bool) (aU:Nat) (hA:K.A s) (hc:cap<=aU) (hle:len<=cap) (hsz:off+aU*aG<=K.sz s):
   Rel K T w (.vw loc s off len cap aG ag) (.slice (some (at_ (K.blk s) off)) len aU)
 |dU (loc:Loc) (s aG:Nat) (ag:Bool) (hA:K.A s):Rel K T w (.vw loc s 0 0 0 aG ag) (.slice none 0 0)
 |cref (cs:List V) (off b o:Nat) (val:Nat->Value)
   (hcell:∀j,j<cs.length->w.cell? (at_ b (o+j))=some (val j)/\K.I b (o+j))
   (hrel:∀j,j<cs.length->Rel K T w (cs.getD j undefV) (val j)):Rel K T w (.cref cs off) (.pointer (some (at_ b (o+off))))
 |ref (loc:Loc) (s off:Nat) (hA:K.A s):Rel K T w (.ref loc s off) (.pointer (some (at_ (K.blk s) off)))
 |fn (f:FuncId) (a b:List V) (av bv:Array Value) (ha:a.length=av.size) (hb:b.length=bv.size)
   (ra:∀i,i<a.length->Rel K T w (a.getD i undefV) (av.getD i undef)) (rb:∀i,i<b.length->Rel K T w (b.getD i undefV) (bv.getD i undef)):
   Rel K T w (.fn (.func f) a b) (.func (.func f) av bv)
 |yield (l:Nat) (hA:K.A l):Rel K T w (.fn (.yield l) [] []) (.func (.yield (K.lp l)) #[] #[])
 |mapr (loc:Loc) (s:Nat) (hA:K.A s):Rel K T w (.mapr loc s) (.map (some (K.blk s)))
 |mapc (ks vs:List V) (b:Nat) (es:Array MapEntry) (aH:Nat) (hM:K.IM b) (hb:w.heap[b]? =some (.map es aH))
   (hk:ks.length=es.size) (hv:vs.length=es.size)
   (rk:∀i,i<es.size->Rel K T w (ks.getD i undefV) (es.getD i default).key) (rv:∀i,i<es.size->Rel K T w (vs.getD i undefV) (es.getD i default).val):
   Rel K T w (.mapc ks vs) (.map (some b))
 |iface (t:TypeId) (v:V) (c:Value) (h:Rel K T w v c):Rel K T w (.iface t v) (.iface t c)
 |raw (v:Value):Rel K T w (.raw v) v
structure Ext (K:Con) (T:Nat->Nat) (w:World) (K':Con) (T':Nat->Nat) (w':World):Prop where
 A:∀s,K.A s->K'.A s/\K'.blk s=K.blk s/\K'.lp s=K.lp s/\K'.sz s=K.sz s
 own:∀s,K.A s->(T' s=T s/\K'.ob s=K.ob s/\K'.lo s=K.lo s/\K'.hi s=K.hi s)\/T s<T' s
 I:∀b o,K.I b o->K'.I b o/\w'.cell? (at_ b o)=w.cell? (at_ b o)
 IM:∀b,K.IM b->K'.IM b/\w'.heap[b]? =w.heap[b]?
theorem Ext.refl (K:Con) (T:Nat->Nat) (w:World):Ext K T w K T w:=
 ⟨fun _ h=>⟨h,rfl,rfl,rfl⟩,fun _ _=>.inl ⟨rfl,rfl,rfl,rfl⟩,fun _ _ h=>⟨h,rfl⟩,fun _ h=>⟨h,rfl⟩⟩
theorem Ext.trans {K T w K1 T1 w1 K2 T2 w2} (h:Ext K T w K1 T1 w1) (g:Ext K1 T1 w1 K2 T2 w2):Ext K T w K2 T2 w2 where
 A s hs:=by
   obtain⟨a,b,c,d⟩:=h.A s hs
   obtain⟨a',b',c',d'⟩:=g.A s a
   exact⟨a',b'.trans b,c'.trans c,d'.trans d⟩
 own s hs:=by
  obtain⟨a,_,_,_⟩:=h.A s hs
  rcases h.own s hs with ⟨h1,h2,h3,h4⟩|h1
  .rcases g.own s a with ⟨g1,g2,g3,g4⟩|g1
   .exact .inl ⟨g1.trans h1,g2.trans h2,g3.trans h3,g4.trans h4⟩
   .exact .inr (by omega)
  .rcases g.own s a with ⟨g1,_⟩|g1
   .exact .inr (by omega)
   .exact .inr (by omega)
 I b o hb:=by
   obtain⟨a,e⟩:=h.I b o hb
   obtain⟨a',e'⟩:=g.I b o a
   exact⟨a',e'.trans e⟩
 IM b hb:=by
  obtain⟨a,e⟩:=h.IM b hb
  obtain⟨a',e'⟩:=g.IM b a
  exact⟨a',e'.trans e⟩
theorem gq.ext {K T w K' T' w'} (e:Ext K T w K' T' w') {c:Cap} {n b o len cap:Nat} (h:gq K T c n b o len cap):gq K' T' c n b o len cap:=by
 cases c with
 |sh=>trivial
 |full=>exact h
 |nil=>exact h
 |own n' s=>
  obtain⟨h1,h2,h3,h4⟩:=h
  refine⟨h1,(e.A s h2).1,?_,?_⟩
  .rcases e.own s h2 with ⟨e1,_⟩|e1<;>omega
  .intro hl
   rcases e.own s h2 with ⟨e1,e2,e3,e4⟩|e1
   .rw[e2,e3,e4];exact h4 (by omega)
   .omega
theorem ow.ext {K T w K' T' w'} (e:Ext K T w K' T' w') {c:Cap} (h:ow K T c):ow K' T' c:=by
 cases c with
 |own n' s=>
  refine⟨(e.A s h.1).1,fun h0=>?_⟩
  rcases e.own s h.1 with ⟨e1,_,e3,e4⟩|e1
  .rw[e3,e4];exact h.2 (by omega)
  .omega
 |_=>trivial
theorem Rel.ext {K T w K' T' w'} (e:Ext K T w K' T' w') {v:V} {c:Value} (h:Rel K T w v c):Rel K' T' w' v c:=by
 induction h with
 |int k n=>exact .int k n
 |bool b=>exact .bool b
 |str s b h=>exact .str s b h
 |nilp=>exact .nilp
 |nilf=>exact .nilf
 |nilm=>exact .nilm
 |nili=>exact .nili
 |agg cs vs hl _ ih=>exact .agg cs vs hl ih
 |tup cs vs hl _ ih=>exact .tup cs vs hl ih
 |bf c a ha hc=>exact .bf c a ha (hc.ext e)
 |lst c l b o n cap val hle hn hcell _ hc ih=>
  refine .lst c l b o n cap val hle hn (fun i j hi hj=>?_) ih (hc.ext e)
  obtain⟨h1,h2⟩:=hcell i j hi hj
  obtain⟨g1,g2⟩:=e.I _ _ h2
  exact⟨g2.trans h1,g1⟩
 |vw loc s off len cap aG ag aU hA hc hle hsz=>
  have:=(e.A s hA);rw[<-this.2.1];exact .vw loc s off len cap aG ag aU this.1 hc hle (by rw[this.2.2.2];exact hsz)
 |dU loc s aG ag hA=>exact .dU loc s aG ag (e.A s hA).1
 |cref cs off b o val hcell _ ih=>
  refine .cref cs off b o val (fun j hj=>?_) ih
  obtain⟨h1,h2⟩:=hcell j hj
  obtain⟨g1,g2⟩:=e.I _ _ h2
  exact⟨g2.trans h1,g1⟩
 |ref loc s off hA=>have:=(e.A s hA);rw[<-this.2.1];exact .ref loc s off this.1
 |fn f a b av bv ha hb _ _ iha ihb=>exact .fn f a b av bv ha hb iha ihb
 |yield l hA=>have:=(e.A l hA);rw[<-this.2.2.1];exact .yield l this.1
 |mapr loc s hA=>have:=(e.A s hA);rw[<-this.2.1];exact .mapr loc s this.1
 |mapc ks vs b es aH hM hb hk hv _ _ ihk oz=>
  obtain⟨g1,g2⟩:=e.IM b hM
  exact .mapc ks vs b es aH g1 (g2.trans hb) hk hv ihk oz
 |iface t v c _ ih=>exact .iface t v c ih
 |raw v=>exact .raw v
theorem Rel.undef (K T w):Rel K T w undefV undef:=.tup [] #[] rfl (fun i hi=>absurd hi (Qe i))
def AObj.real:AObj->Prop
 |.cells []=>False
 |_=>True
def mJ (K:Con) (T:Nat->Nat) (w:World) (B0 s:Nat):AObj->Prop
 |.cells cs=>(cs=[]->K.sz s=0)/\(cs≠[]->B0<=K.blk s/\∃vals t,w.heap[K.blk s]? =some (.cells vals t (0,0))/\vals.size=K.sz s/\cs.length<=vals.size/\
    ∀i,i<cs.length->Rel K T w (cs.getD i undefV) (vals.getD i undef))
 |.map ks vs=>B0<=K.blk s/\∃es aH,w.heap[K.blk s]? =some (.map es aH)/\ks.length=es.size/\vs.length=es.size/\
    (∀i,i<es.size->Rel K T w (ks.getD i undefV) (es.getD i default).key)/\(∀i,i<es.size->Rel K T w (vs.getD i undefV) (es.getD i default).val)
def bJ (K:Con) (T:Nat->Nat) (w:World) (fr:Fr) (tmps:Array Value):Prop:=∀t,Rel K T w (fr.tm t) (tmps.getD t undef)
def eP:Ex->Option Code
 |.normal=>none
 |.exit i=>some (.exit i)
 |.ret=>some .ret
def eu (n:Nat):LoopState:=if n=0 then .ready else if n=1 then .busy else .done
def oC (K:Con) (T:Nat->Nat) (w:World) (B0 l:Nat) (r:fB):Prop:=
 B0<=K.lp l/\K.Z (K.lp l)=some (.loop l)/\∃(fn:FuncId) (tmps:Array Value) (D:Nat),
  w.heap[K.lp l]? =some (.loop {state:=eu r.st,pending:=r.pend.bind eP,fn:=fn,tmps:=tmps,params:=r.ps.toArray,assign:=r.aJ,body:=r.body,defers:=D})/\
  bJ K T w r.fr tmps/\aM tmps.size r.aJ=true/\aM tmps.size r.body=true/\(∀p∈r.ps,p<tmps.size)/\bC r.aJ=true/\bC r.body=true
def tY (K:Con) (w:World) (B0 s:Nat):Prop:=
 B0<=K.ob s/\K.Z (K.ob s)=some (.own s)/\∀o,K.lo s<=o->o<K.hi s->¬K.I (K.ob s) o/\(∃v,w.cell? (at_ (K.ob s) o)=some v)/\w.frozen? (at_ (K.ob s) o)=false
structure au (E:Env) (B0:Nat) (Y:Sig) (K:Con) (w:World):Prop where
 obj:∀loc s ob,Y.obj loc=some (s,ob)->K.A s/\mJ K Y.top w B0 s ob/\(ob.real->K.Z (K.blk s)=some (.obj loc))
 own:∀s,K.A s->K.lo s<K.hi s->tY K w B0 s
 I:∀b o,K.I b o->(∃v,w.cell? (at_ b o)=some v)/\∀loc,K.Z b≠some (.obj loc)
 IM:∀b,K.IM b->(∃es aH,w.heap[b]? =some (.map es aH))/\∀loc,K.Z b≠some (.obj loc)
 loop:∀l r,Y.loops l=some r->K.A l/\oC K Y.top w B0 l r
 glob:∀g cs,E.glob g=some cs->Rel K Y.top w (.cref cs 0) (.pointer (some (at_ g 0)))
 rb:∀b r,K.Z b=some r->b<w.heap.size/\B0<=b
 D:∀b,K.D b->w.heap[b]? =some (.deferred (some []))
structure Only (b:Nat) (w w':World):Prop where
 os:w'.os=w.os
 tape:w'.tape=w.tape
 output:w'.output=w.output
 size:w.heap.size<=w'.heap.size
 block:∀k,k≠b->k<w.heap.size->w'.heap[k]? =w.heap[k]?
theorem Only.below {b B0:Nat} {w w':World} (h:Only b w w') (hb:B0<=b) (hB:B0<=w.heap.size):Below B0 w w':=
 ⟨h.os,h.tape,h.output,h.size,fun k hk=>h.block k (by omega) (by omega)⟩
theorem cell_of_heap {w w':World} {b o:Nat} (h:w'.heap[b]? =w.heap[b]?):w'.cell? (at_ b o)=w.cell? (at_ b o):=by
 simp[World.cell?,h]
theorem frozen_of_heap {w w':World} {b o:Nat} (h:w'.heap[b]? =w.heap[b]?):w'.frozen? (at_ b o)=w.frozen? (at_ b o):=by
 simp[World.frozen?,h]
theorem lt_of_cell {w:World} {b o:Nat} {v:Value} (h:w.cell? (at_ b o)=some v):b<w.heap.size:=World.block_lt_of_cell? w (at_ b o) h
theorem lt_of_heap {w:World} {b:Nat} {o:Obj} (h:w.heap[b]? =some o):b<w.heap.size:=(Array.getElem?_eq_some_iff.1 h).1
theorem bJ.ext {K T w K' T' w'} (e:Ext K T w K' T' w') {fr:Fr} {tmps:Array Value} (h:bJ K T w fr tmps):bJ K' T' w' fr tmps:=fun t=>(h t).ext e
theorem mJ.ext {K T w K' T' w'} (e:Ext K T w K' T' w') {B0 s:Nat} (hA:K.A s) {ob:AObj} (h:mJ K T w B0 s ob) (hb:ob.real->w'.heap[K.blk s]? =w.heap[K.blk s]?):
 mJ K' T' w' B0 s ob:=by
 obtain⟨_,e2,_,e4⟩:=e.A s hA
 cases ob with
 |cells cs=>
  refine⟨fun h0=>by rw[e4];exact h.1 h0,fun hne=>?_⟩
  obtain⟨h1,vals,t,h2,h3,h4,h5⟩:=h.2 hne
  have hb':=hb (by cases cs with|nil=>exact absurd rfl hne|cons _ _=>trivial)
  refine⟨by rw[e2];exact h1,vals,t,by rw[e2,hb',h2],by rw[e4];exact h3,h4,fun i hi=>(h5 i hi).ext e⟩
 |map ks vs=>
  obtain⟨h1,es,aH,h2,h3,h4,h5,h6⟩:=h
  exact⟨by rw[e2];exact h1,es,aH,by rw[e2,hb trivial,h2],h3,h4,fun i hi=>(h5 i hi).ext e,fun i hi=>(h6 i hi).ext e⟩
theorem oC.ext {K T w K' T' w'} (e:Ext K T w K' T' w') {B0 l:Nat} (hA:K.A l) {r:fB} (h:oC K T w B0 l r) (hb:w'.heap[K.lp l]? =w.heap[K.lp l]?) (hZ:K'.Z (K.lp l)=K.Z (K.lp l)):
 oC K' T' w' B0 l r:=by
 obtain⟨_,_,e3,_⟩:=e.A l hA
 obtain⟨h1,hr,fn,tmps,D,h2,h3,h4⟩:=h
 exact⟨by rw[e3];exact h1,by rw[e3,hZ];exact hr,fn,tmps,D,by rw[e3,hb,h2],h3.ext e,h4⟩
theorem au.upd {E:Env} {B0 b:Nat} {Y Y':Sig} {K K':Con} {w w':World} (h:au E B0 Y K w) (ho:Only b w w') (e:Ext K Y.top w K' Y'.top w')
 (hZ:∀k,k≠b->K'.Z k=K.Z k) (FD:∀r,K'.Z b=some r->b<w'.heap.size/\B0<=b)
 (qH:∀loc s ob,Y'.obj loc=some (s,ob)->(Y.obj loc=some (s,ob)/\(ob.real->K.blk s≠b))\/
   (K'.A s/\mJ K' Y'.top w' B0 s ob/\(ob.real->K'.Z (K'.blk s)=some (.obj loc))))
 (hown:∀s,K'.A s->K'.lo s<K'.hi s->(K.A s/\K'.lo s=K.lo s/\K'.hi s=K.hi s/\K'.ob s=K.ob s/\K.ob s≠b)\/tY K' w' B0 s)
 (hI:∀b' o,K'.I b' o->(K.I b' o/\b'≠b)\/(b'=b/\(∃v,w'.cell? (at_ b o)=some v)/\∀loc,K'.Z b≠some (.obj loc)))
 (FE:∀b',K'.IM b'->(K.IM b'/\b'≠b)\/(b'=b/\(∃es aH,w'.heap[b]? =some (.map es aH))/\∀loc,K'.Z b≠some (.obj loc)))
 (hloop:∀l r,Y'.loops l=some r->(Y.loops l=some r/\K.lp l≠b)\/(K'.A l/\oC K' Y'.top w' B0 l r))
 (hD:∀b',K'.D b'->(K.D b'/\b'≠b)\/(b'=b/\w'.heap[b]? =some (.deferred (some [])))):au E B0 Y' K' w' where
 obj loc s ob hs:=by
  rcases qH loc s ob hs with ⟨h1,h2⟩|h1
  .obtain⟨a1,a2,a3⟩:=h.obj loc s ob h1
   obtain⟨e1,e2,_,_⟩:=e.A s a1
   refine⟨e1,a2.ext e a1 (fun hr=>ho.block _ (h2 hr) (h.rb _ _ (a3 hr)).1),fun hr=>?_⟩
   rw[e2,hZ _ (h2 hr)];exact a3 hr
  .exact h1
 own s hs hlt:=by
  rcases hown s hs hlt with ⟨h1,h2,h3,h4,h5⟩|h1
  .obtain⟨a1,a2,a3⟩:=h.own s h1 (by omega)
   refine⟨by rw[h4];exact a1,by rw[h4,hZ _ h5];exact a2,fun o hl hh=>?_⟩
   obtain⟨c1,⟨v,c2⟩,c3⟩:=a3 o (by omega) (by omega)
   have hb:=ho.block _ h5 (lt_of_cell c2)
   rw[h4]
   refine⟨fun hi=>?_,⟨v,by rw[cell_of_heap hb];exact c2⟩,by rw[frozen_of_heap hb];exact c3⟩
   rcases hI _ _ hi with ⟨g,_⟩| ⟨g,_⟩
   .exact c1 g
   .exact h5 g
  .exact h1
 I b' o hi:=by
   rcases hI b' o hi with ⟨h1,h2⟩| ⟨h1,h2,h3⟩
   .obtain⟨⟨v,c⟩,r⟩:=h.I b' o h1
    exact⟨⟨v,by rw[cell_of_heap (ho.block _ h2 (lt_of_cell c))];exact c⟩,by rw[hZ _ h2];exact r⟩
   .subst h1;exact⟨h2,h3⟩
 IM b' hi:=by
  rcases FE b' hi with ⟨h1,h2⟩| ⟨h1,h2,h3⟩
  .obtain⟨⟨es,aH,c⟩,r⟩:=h.IM b' h1
   exact⟨⟨es,aH,by rw[ho.block _ h2 (lt_of_heap c)];exact c⟩,by rw[hZ _ h2];exact r⟩
  .subst h1;exact⟨h2,h3⟩
 loop l r hl:=by
  rcases hloop l r hl with ⟨h1,h2⟩|h1
  .obtain⟨a1,a2⟩:=h.loop l r h1
   refine⟨(e.A l a1).1,a2.ext e a1 (ho.block _ h2 (h.rb _ _ a2.2.1).1) (hZ _ h2)⟩
  .exact h1
 glob g cs hg:=(h.glob g cs hg).ext e
 rb b' r hr:=by
  by_cases hb:b'=b
  .subst hb;exact FD r hr
  .rw[hZ _ hb] at hr
   have:=h.rb b' r hr
   exact⟨Qg this.1 ho.size,this.2⟩
 D b' hd:=by
   rcases hD b' hd with ⟨h1,h2⟩| ⟨h1,h2⟩
   .have:=h.D b' h1
    rw[ho.block _ h2 (lt_of_heap this)];exact this
   .rw[h1];exact h2
theorem au.same {E:Env} {B0:Nat} {Y:Sig} {K:Con} {w w':World} (h:au E B0 Y K w) (hh:w'.heap=w.heap):au E B0 Y K w':=by
 have e:Ext K Y.top w K Y.top w':=⟨fun _ h=>⟨h,rfl,rfl,rfl⟩,fun _ _=>.inl ⟨rfl,rfl,rfl,rfl⟩,fun b o h=>⟨h,cell_of_heap (by rw[hh])⟩,fun b h=>⟨h,by rw[hh]⟩⟩
 refine⟨fun loc s ob hs=>?_,fun s hs hl=>?_,fun b o hi=>?_,fun b hi=>?_,fun l r hl=>?_,fun g cs hg=>(h.glob g cs hg).ext e,fun b r hr=>by rw[hh];exact h.rb b r hr,fun b hb=>by rw[hh];exact h.D b hb⟩
 .obtain⟨a1,a2,a3⟩:=h.obj loc s ob hs
  exact⟨a1,a2.ext e a1 (fun _=>by rw[hh]),a3⟩
 .obtain⟨a1,a2,a3⟩:=h.own s hs hl
  exact⟨a1,a2,fun o p q=>⟨(a3 o p q).1,by rw[cell_of_heap (w:=w) (by rw[hh])];exact(a3 o p q).2.1,by rw[frozen_of_heap (w:=w) (by rw[hh])];exact(a3 o p q).2.2⟩⟩
 .obtain⟨a1,a2⟩:=h.I b o hi
  exact⟨by rw[cell_of_heap (w:=w) (by rw[hh])];exact a1,a2⟩
 .obtain⟨a1,a2⟩:=h.IM b hi
  exact⟨by rw[hh];exact a1,a2⟩
 .obtain⟨a1,a2⟩:=h.loop l r hl
  exact⟨a1,a2.ext e a1 (by rw[hh]) rfl⟩
structure Step (E:Env) (B0:Nat) (new:Nat->Prop) (Y:Sig) (K:Con) (w:World) (Y':Sig) (K':Con) (w':World):Prop where
 ok:au E B0 Y' K' w'
 ext:Ext K Y.top w K' Y'.top w'
 below:Below B0 w w'
 D:∀b,K.D b->K'.D b
 A:∀s,K'.A s->K.A s\/new s
 nI:∀b o,K'.I b o->K.I b o\/B0<=b
 gU:∀b,K'.IM b->K.IM b\/B0<=b
theorem Step.refl {E B0 new Y K w} (h:au E B0 Y K w):Step E B0 new Y K w Y K w:=
 ⟨h,.refl _ _ _,.refl _ _,fun _ h=>h,fun _ h=>.inl h,fun _ _ h=>.inl h,fun _ h=>.inl h⟩
theorem Step.trans {E B0 new Y K w Y1 K1 w1 Y2 K2 w2} (h:Step E B0 new Y K w Y1 K1 w1) (g:Step E B0 new Y1 K1 w1 Y2 K2 w2):Step E B0 new Y K w Y2 K2 w2:=
 ⟨g.ok,h.ext.trans g.ext,h.below.trans g.below,fun b hb=>g.D b (h.D b hb),
   fun s hs=>(g.A s hs).elim (h.A s) .inr,fun b o hi=>(g.nI b o hi).elim (h.nI b o) .inr,fun b hi=>(g.gU b hi).elim (h.gU b) .inr⟩
theorem Step.mono {E B0 new new' Y K w Y1 K1 w1} (h:Step E B0 new Y K w Y1 K1 w1) (hn:∀s,new s->new' s):Step E B0 new' Y K w Y1 K1 w1:=
 ⟨h.ok,h.ext,h.below,h.D,fun s hs=>(h.A s hs).imp id (hn s),h.nI,h.gU⟩
theorem Step.same {E B0 new Y K w w'} (h:au E B0 Y K w) (hh:w'.heap=w.heap) (h1:w'.os=w.os) (h2:w'.tape=w.tape) (h3:w'.output=w.output):Step E B0 new Y K w Y K w':=
 ⟨h.same hh,⟨fun _ h=>⟨h,rfl,rfl,rfl⟩,fun _ _=>.inl ⟨rfl,rfl,rfl,rfl⟩,fun b o h=>⟨h,cell_of_heap (by rw[hh])⟩,fun b h=>⟨h,by rw[hh]⟩⟩,
   ⟨h1,h2,h3,by rw[hh];exact mF _,fun k _=>by rw[hh]⟩,fun b h=>h,fun _ h=>.inl h,fun _ _ h=>.inl h,fun _ h=>.inl h⟩
theorem kZ (w:World) (o:Obj):Only w.heap.size w (w.alloc o):=
 ⟨rfl,rfl,rfl,by simp,fun k hk hl=>by show (w.heap.push o)[k]? =_;rw[Array.getElem?_push,if_neg hk]⟩
theorem heap_alloc_new (w:World) (o:Obj):(w.alloc o).heap[w.heap.size]? =some o:=by show (w.heap.push o)[w.heap.size]? =_;simp
theorem heap_alloc_old {w:World} {o:Obj} {k:Nat} (h:k<w.heap.size):(w.alloc o).heap[k]? =w.heap[k]? :=by
 show (w.heap.push o)[k]? =_;rw[Array.getElem?_push,if_neg (by omega)]
theorem qI {w:World} {o:Obj} {b i:Nat} {v:Value} (h:w.cell? (at_ b i)=some v):(w.alloc o).cell? (at_ b i)=some v:=by
 rw[cell_of_heap (heap_alloc_old (lt_of_cell h))];exact h
def Con.cO (K:Con) (st b n:Nat) (loc:Loc):Con:=
 {K with A:=fun s=>K.A s\/s=st,blk:=upd K.blk st b,sz:=upd K.sz st n,lo:=upd K.lo st 0,hi:=upd K.hi st 0,Z:=upd K.Z b (some (.obj loc))}
theorem upd_same {κ U:Type} [DecidableEq κ] (f:κ->U) (k:κ) (v:U):upd f k v k=v:=by simp[upd]
theorem upd_ne {κ U:Type} [DecidableEq κ] (f:κ->U) {k j:κ} (v:U) (h:j≠k):upd f k v j=f j:=by simp[upd,h]
theorem Step.qJ {E B0 Y K w} (h:au E B0 Y K w) (hB:B0<=w.heap.size) {st:Nat} (hst:¬K.A st) (loc:Loc) (ob:AObj) (o:Obj) (n:Nat)
 (bX:∀K',Ext K Y.top w K' Y.top (w.alloc o)->K'.A st->K'.blk st=w.heap.size->K'.sz st=n->mJ K' Y.top (w.alloc o) B0 st ob):
 Step E B0 (· =st) Y K w (Y.setObj loc st ob) (K.cO st w.heap.size n loc) (w.alloc o):=by
 have hne:∀s,K.A s->s≠st:=fun s hs e=>hst (e▸hs)
 have e:Ext K Y.top w (K.cO st w.heap.size n loc) Y.top (w.alloc o):=by
  refine⟨fun s hs=>⟨.inl hs,upd_ne _ _ (hne s hs),rfl,upd_ne _ _ (hne s hs)⟩,fun s hs=>.inl ⟨rfl,rfl,upd_ne _ _ (hne s hs),upd_ne _ _ (hne s hs)⟩,fun b i hi=>⟨hi,?_⟩,fun b hb=>⟨hb,?_⟩⟩
  .obtain⟨⟨v,hv⟩,_⟩:=h.I b i hi
   rw[hv];exact qI hv
  .obtain⟨⟨es,aH,hv⟩,_⟩:=h.IM b hb
   exact heap_alloc_old (lt_of_heap hv)
 refine⟨?_,e,(kZ w o).below hB hB,fun b hb=>hb,fun s hs=>hs,fun _ _ hi=>.inl hi,fun _ hi=>.inl hi⟩
 refine h.upd (Y':=Y.setObj loc st ob) (kZ w o) e (fun k hk=>upd_ne _ _ hk) (fun r _=>⟨by simp,hB⟩) ?_ ?_ ?_ ?_ ?_ ?_
 .intro loc' s' mK hs
  by_cases hl:loc'=loc
  .subst hl
   right
   simp only[Sig.setObj,upd_same,iE,iR] at hs
   obtain⟨rfl,rfl⟩:=hs
   exact⟨.inr rfl,bX _ e (.inr rfl) (upd_same _ _ _) (upd_same _ _ _),fun _=>by
    show upd K.Z w.heap.size _ (upd K.blk st w.heap.size st)=_
    rw[upd_same,upd_same]⟩
  .left
   simp only[Sig.setObj,upd_ne _ _ hl] at hs
   refine⟨hs,fun hr=>?_⟩
   have:=(h.rb _ _ ((h.obj _ _ _ hs).2.2 hr)).1
   omega
 .intro s hs hlt
  left
  have hs':s≠st:=by
   rintro rfl
   simp only[Con.cO,upd_same] at hlt
   omega
  have hA:K.A s:=hs.resolve_right hs'
  simp only[Con.cO,upd_ne _ _ hs'] at hlt
  refine⟨hA,upd_ne _ _ hs',upd_ne _ _ hs',rfl,?_⟩
  have:=(h.rb _ _ (h.own s hA hlt).2.1).1
  omega
 .intro b' i hi
  obtain⟨⟨v,hv⟩,_⟩:=h.I b' i hi
  exact .inl ⟨hi,Qx (lt_of_cell hv)⟩
 .intro b' hi
  obtain⟨⟨es,aH,hv⟩,_⟩:=h.IM b' hi
  exact .inl ⟨hi,Qx (lt_of_heap hv)⟩
 .intro l r hl
  refine .inl ⟨hl,?_⟩
  have:=(h.rb _ _ (h.loop l r hl).2.2.1).1
  omega
 .intro b' hd
  exact .inl ⟨hd,Qx (lt_of_heap (h.D b' hd))⟩
theorem eT {w:World} {a b:Nat} {x y:Obj} (h:w.heap[a]? =some x) (g:w.heap[b]? =some y) (hxy:x≠y):a≠b:=by
 rintro rfl
 exact hxy (Qn (h.symm.trans g))
theorem au.cellsAt {E B0 Y K w} (h:au E B0 Y K w) {loc s cs} (hc:Y.cellsAt loc s=some cs):Y.obj loc=some (s,.cells cs)/\K.A s/\cs.length<=K.sz s\/cs=[]/\Y.obj loc=some (s,.cells cs)/\K.A s:=by
 unfold Sig.cellsAt at hc
 split at hc
 .rename_i s' cs' ho
  split at hc
  .rename_i hs
   subst hs
   simp only[iE] at hc;subst hc
   obtain⟨a1,a2,a3⟩:=h.obj _ _ _ ho
   by_cases hne:cs'=[]
   .exact .inr ⟨hne,ho,a1⟩
   .obtain⟨_,vals,t,g1,g2,g3,g4⟩:=a2.2 hne
    exact .inl ⟨ho,a1,by omega⟩
  .simp at hc
 .simp at hc
theorem au.j4 {E B0 Y K w} (h:au E B0 Y K w) {loc s cs} (hc:Y.cellsAt loc s=some cs):Y.obj loc=some (s,.cells cs)/\K.A s/\cs.length<=K.sz s:=by
 rcases h.cellsAt hc with h| ⟨rfl,h1,h2⟩
 .exact h
 .exact⟨h1,h2,by simp⟩
theorem au.yY {E B0 Y K w} (h:au E B0 Y K w) {l r} (hl:Y.loops l=some r) {b:Nat} {vals t f} (hb:w.heap[b]? =some (.cells vals t f)):K.lp l≠b:=by
 obtain⟨_,_,_,fn,tmps,D,hh,_⟩:=h.loop l r hl
 exact eT hh hb (by simp)
theorem au.tZ {E B0 Y K w} (h:au E B0 Y K w) {loc s ob loc' s' mK} (h1:Y.obj loc=some (s,ob)) (h2:Y.obj loc'=some (s',mK)) (hne:loc≠loc') (hr:ob.real) (hr':mK.real):
 K.blk s≠K.blk s':=by
 intro e
 have a:=(h.obj _ _ _ h1).2.2 hr
 have b:=(h.obj _ _ _ h2).2.2 hr'
 rw[e,b] at a
 exact hne (by injection a with a;injection a with a;exact a.symm)
theorem au.uf {E B0 Y K w w'} (h:au E B0 Y K w) {loc s ob} (hs:Y.obj loc=some (s,ob)) (hr:ob.real) (ho:Only (K.blk s) w w') (T':Nat->Nat) (hT:T'=Y.top):Ext K Y.top w K T' w':=by
 subst hT
 have hZ:=(h.obj _ _ _ hs).2.2 hr
 refine⟨fun _ h=>⟨h,rfl,rfl,rfl⟩,fun _ _=>.inl ⟨rfl,rfl,rfl,rfl⟩,fun b i hi=>⟨hi,?_⟩,fun b hb=>⟨hb,?_⟩⟩
 .obtain⟨⟨v,hv⟩,hn⟩:=h.I b i hi
  exact cell_of_heap (ho.block b (fun e=>hn loc (e▸hZ)) (lt_of_cell hv))
 .obtain⟨⟨es,aH,hv⟩,hn⟩:=h.IM b hb
  exact ho.block b (fun e=>hn loc (e▸hZ)) (lt_of_heap hv)
theorem Step.setCells {E B0 new Y K w w'} (h:au E B0 Y K w) (hB:B0<=w.heap.size) {loc:Loc} {s:Nat} {cs cs':List V} {vals vals':Array Value} {t t':TypeId}
 (hs:Y.obj loc=some (s,.cells cs)) (hne:cs≠[]) (hv:w.heap[K.blk s]? =some (.cells vals t (0,0))) (ho:Only (K.blk s) w w')
 (hv':w'.heap[K.blk s]? =some (.cells vals' t' (0,0))) (hsz:vals'.size=vals.size) (hne':cs'≠[]) (hl:cs'.length<=vals'.size)
 (hr:Ext K Y.top w K Y.top w'->∀i,i<cs'.length->Rel K Y.top w' (cs'.getD i undefV) (vals'.getD i undef)):
 Step E B0 new Y K w (Y.setObj loc s (.cells cs')) K w':=by
 have cZ:(AObj.cells cs).real:=by cases cs with|nil=>exact absurd rfl hne|cons _ _=>trivial
 obtain⟨hA,bX,hZ⟩:=h.obj _ _ _ hs
 obtain⟨hb0,yZ,t0,g1,g2,g3,g4⟩:=bX.2 hne
 have hvv:vals=yZ:=by rw[hv] at g1;simpa using And.left (by simpa using g1)
 have e:=h.uf hs cZ ho Y.top rfl
 refine⟨?_,e,ho.below hb0 hB,fun _ h=>h,fun _ h=>.inl h,fun _ _ h=>.inl h,fun _ h=>.inl h⟩
 refine h.upd (Y':=Y.setObj loc s (.cells cs')) ho e (fun _ _=>rfl) (fun r hr'=>⟨Qg (h.rb _ r hr').1 ho.size,hb0⟩) ?_ ?_ ?_ ?_ ?_ ?_
 .intro loc' s' mK hs'
  by_cases hl':loc'=loc
  .subst hl'
   right
   simp only[Sig.setObj,upd_same,iE,iR] at hs'
   obtain⟨rfl,rfl⟩:=hs'
   exact⟨hA,⟨fun h0=>absurd h0 hne',fun _=>⟨hb0,vals',t',hv',by rw[hsz,hvv,g2],hl,hr e⟩⟩,fun _=>hZ cZ⟩
  .left
   simp only[Sig.setObj,upd_ne _ _ hl'] at hs'
   exact⟨hs',fun hr'=>h.tZ hs' hs hl' hr' cZ⟩
 .intro s' hs' hlt
  have ⟨a1,a2,a3⟩:=h.own s' hs' hlt
  refine .inl ⟨hs',rfl,rfl,rfl,fun e'=>?_⟩
  rw[e',hZ cZ] at a2
  cases a2
 .intro b' i hi
  exact .inl ⟨hi,fun e'=>(h.I b' i hi).2 loc (e'▸hZ cZ)⟩
 .intro b' hi
  exact .inl ⟨hi,fun e'=>(h.IM b' hi).2 loc (e'▸hZ cZ)⟩
 .intro l r hl'
  exact .inl ⟨hl',h.yY hl' hv⟩
 .intro b' hd
  exact .inl ⟨hd,eT (h.D b' hd) hv (by simp)⟩
def Con.addI (K:Con) (b n:Nat):Con:={K with I:=fun b' o=>K.I b' o\/(b'=b/\o<n)}
theorem au.y5 {E B0 Y K w} (h:au E B0 Y K w):K.Z w.heap.size=none:=by
 cases hr:K.Z w.heap.size with
 |none=>rfl
 |some r=>have:=(h.rb _ _ hr).1;omega
theorem oD {w:World} {vals:Array Value} {t:TypeId} {fz:Nat×Nat} {i:Nat} (hi:i<vals.size):
 (w.alloc (.cells vals t fz)).cell? (at_ w.heap.size i)=some (vals.getD i undef):=by
 have hh:(w.alloc (.cells vals t fz)).heap[w.heap.size]? =some (.cells vals t fz):=heap_alloc_new w _
 unfold World.cell?
 simp only[hh]
 simp[hi]
theorem Step.FH {E B0 new Y K w w'} (h:au E B0 Y K w) (hB:B0<=w.heap.size) (ho:Only w.heap.size w w') {vals:Array Value} {t:TypeId} {fz:Nat×Nat}
 (hh:w'.heap[w.heap.size]? =some (.cells vals t fz)):Step E B0 new Y K w Y (K.addI w.heap.size vals.size) w':=by
 have hcn:∀i,i<vals.size->w'.cell? (at_ w.heap.size i)=some (vals.getD i undef):=fun i hi=>by simp[World.cell?,hh,hi]
 have e:Ext K Y.top w (K.addI w.heap.size vals.size) Y.top w':=by
  refine⟨fun _ h=>⟨h,rfl,rfl,rfl⟩,fun _ _=>.inl ⟨rfl,rfl,rfl,rfl⟩,fun b i hi=>⟨.inl hi,?_⟩,fun b hb=>⟨hb,?_⟩⟩
  .obtain⟨⟨v,hv⟩,_⟩:=h.I b i hi
   exact cell_of_heap (ho.block b (Qx (lt_of_cell hv)) (lt_of_cell hv))
  .obtain⟨⟨es,aH,hv⟩,_⟩:=h.IM b hb
   exact ho.block b (Qx (lt_of_heap hv)) (lt_of_heap hv)
 refine⟨?_,e,ho.below hB hB,fun b hb=>hb,fun _ h=>.inl h,fun b o hi=>?_,fun _ h=>.inl h⟩
 .refine h.upd ho e (fun _ _=>rfl) (fun r hr=>?_) ?_ ?_ ?_ ?_ ?_ ?_
  .have:=h.y5
   exact absurd (hr.symm.trans this) (by simp)
  .intro loc s ob hs
   exact .inl ⟨hs,fun hr=>by have:=(h.rb _ _ ((h.obj _ _ _ hs).2.2 hr)).1;omega⟩
  .intro s hs hlt
   exact .inl ⟨hs,rfl,rfl,rfl,by have:=(h.rb _ _ (h.own s hs hlt).2.1).1;omega⟩
  .intro b' i hi
   rcases hi with hi| ⟨rfl,hi⟩
   .obtain⟨⟨v,hv⟩,_⟩:=h.I b' i hi
    exact .inl ⟨hi,Qx (lt_of_cell hv)⟩
   .exact .inr ⟨rfl,⟨_,hcn _ hi⟩,fun loc hr=>absurd (hr.symm.trans h.y5) (by simp)⟩
  .intro b' hi
   obtain⟨⟨es,aH,hv⟩,_⟩:=h.IM b' hi
   exact .inl ⟨hi,Qx (lt_of_heap hv)⟩
  .intro l r hl
   exact .inl ⟨hl,by have:=(h.rb _ _ (h.loop l r hl).2.2.1).1;omega⟩
  .intro b' hd
   exact .inl ⟨hd,Qx (lt_of_heap (h.D b' hd))⟩
 .rcases hi with hi| ⟨rfl,_⟩
  .exact .inl hi
  .exact .inr hB
theorem Step.y7 {E B0 new Y K w} (h:au E B0 Y K w) (hB:B0<=w.heap.size) (vals:Array Value) (t:TypeId) (fz:Nat×Nat):
 Step E B0 new Y K w Y (K.addI w.heap.size vals.size) (w.alloc (.cells vals t fz)):=
 Step.FH h hB (kZ w _) (heap_alloc_new w _)
def Con.j5 (K:Con) (s b lo hi:Nat):Con:=
 {K with A:=fun x=>K.A x\/x=s,ob:=upd K.ob s b,lo:=upd K.lo s lo,hi:=upd K.hi s hi,I:=fun b' o=>K.I b' o\/(b'=b/\o<lo),Z:=upd K.Z b (some (.own s))}
theorem Step.FJ {E B0 Y K w} (h:au E B0 Y K w) (hB:B0<=w.heap.size) (s T':Nat) (hs:¬K.A s\/Y.top s<T') (vals:Array Value) (t:TypeId) (lo:Nat) (hlo:lo<=vals.size):
 Step E B0 (· =s) Y K w (Y.setTop s T') (K.j5 s w.heap.size lo vals.size) (w.alloc (.cells vals t)):=by
 have e:Ext K Y.top w (K.j5 s w.heap.size lo vals.size) (Y.setTop s T').top (w.alloc (.cells vals t)):=by
  refine⟨fun _ h=>⟨.inl h,rfl,rfl,rfl⟩,fun x hx=>?_,fun b i hi=>⟨.inl hi,?_⟩,fun b hb=>⟨hb,?_⟩⟩
  .by_cases hxs:x=s
   .subst hxs
    right
    show _<upd Y.top x T' x
    rw[upd_same]
    exact hs.resolve_left (fun hn=>hn hx)
   .exact .inl ⟨upd_ne _ _ hxs,upd_ne _ _ hxs,upd_ne _ _ hxs,upd_ne _ _ hxs⟩
  .obtain⟨⟨v,hv⟩,_⟩:=h.I b i hi
   rw[hv];exact qI hv
  .obtain⟨⟨es,aH,hv⟩,_⟩:=h.IM b hb
   exact heap_alloc_old (lt_of_heap hv)
 refine⟨?_,e,(kZ w _).below hB hB,fun b hb=>hb,fun _ h=>h,fun b o hi=>?_,fun _ h=>.inl h⟩
 .refine h.upd (Y':=Y.setTop s T') (kZ w _) e (fun k hk=>upd_ne _ _ hk) (fun r _=>⟨by simp,hB⟩) ?_ ?_ ?_ ?_ ?_ ?_
  .intro loc s ob hs
   exact .inl ⟨hs,fun hr=>by have:=(h.rb _ _ ((h.obj _ _ _ hs).2.2 hr)).1;omega⟩
  .intro x hx hlt
   by_cases hxs:x=s
   .subst hxs
    right
    have q1:(K.j5 x w.heap.size lo vals.size).ob x=w.heap.size:=upd_same _ _ _
    have q2:(K.j5 x w.heap.size lo vals.size).lo x=lo:=upd_same _ _ _
    have q3:(K.j5 x w.heap.size lo vals.size).hi x=vals.size:=upd_same _ _ _
    refine⟨by rw[q1];exact hB,by rw[q1];exact upd_same _ _ _,fun o hl hh=>?_⟩
    rw[q2] at hl
    rw[q3] at hh
    rw[q1]
    refine⟨?_,⟨_,oD hh⟩,?_⟩
    .rintro (hi| ⟨_,hi⟩)
     .obtain⟨⟨v,hv⟩,_⟩:=h.I _ o hi
      have:=lt_of_cell hv
      omega
     .omega
    .have hh':(w.alloc (.cells vals t)).heap[w.heap.size]? =some (.cells vals t):=heap_alloc_new w _
     unfold World.frozen?
     simp only[hh']
     simp
   .left
    have hA:K.A x:=hx.resolve_right hxs
    simp only[Con.j5,upd_ne _ _ hxs] at hlt
    refine⟨hA,upd_ne _ _ hxs,upd_ne _ _ hxs,upd_ne _ _ hxs,?_⟩
    have:=(h.rb _ _ (h.own x hA hlt).2.1).1
    omega
  .intro b' i hi
   rcases hi with hi| ⟨rfl,hi⟩
   .obtain⟨⟨v,hv⟩,_⟩:=h.I b' i hi
    exact .inl ⟨hi,Qx (lt_of_cell hv)⟩
   .refine .inr ⟨rfl,⟨_,oD (by omega)⟩,fun loc hr=>?_⟩
    simp only[Con.j5,upd_same] at hr
    cases hr
  .intro b' hi
   obtain⟨⟨es,aH,hv⟩,_⟩:=h.IM b' hi
   exact .inl ⟨hi,Qx (lt_of_heap hv)⟩
  .intro l r hl
   exact .inl ⟨hl,by have:=(h.rb _ _ (h.loop l r hl).2.2.1).1;omega⟩
  .intro b' hd
   exact .inl ⟨hd,Qx (lt_of_heap (h.D b' hd))⟩
 .rcases hi with hi| ⟨rfl,_⟩
  .exact .inl hi
  .exact .inr hB
def Con.lg (K:Con) (s n:Nat):Con:=
 {K with lo:=upd K.lo s (K.lo s+n),I:=fun b' o=>K.I b' o\/(b'=K.ob s/\K.lo s<=o/\o<K.lo s+n)}
theorem Step.lg {E B0 new Y K w w'} (h:au E B0 Y K w) (hB:B0<=w.heap.size) {s n T':Nat} (hs:K.A s) (hT:Y.top s<T') (hn:0<n) (hroom:K.lo s+n<=K.hi s)
 (ho:Only (K.ob s) w w') (hnew:∀o,K.lo s<=o->o<K.lo s+n->∃v,w'.cell? (at_ (K.ob s) o)=some v)
 (hold:∀o,o<K.lo s\/K.lo s+n<=o->w'.cell? (at_ (K.ob s) o)=w.cell? (at_ (K.ob s) o)) (hfz:∀o,w'.frozen? (at_ (K.ob s) o)=w.frozen? (at_ (K.ob s) o)):
 Step E B0 new Y K w (Y.setTop s T') (K.lg s n) w':=by
 obtain⟨o1,o2,o3⟩:=h.own s hs (by omega)
 have ug:=(o3 (K.lo s) (mF _) (by omega)).2.1
 have y8:∀o,K.I (K.ob s) o->o<K.lo s\/K.lo s+n<=o:=fun o hi=>by
  rcases Nat.lt_or_ge o (K.lo s) with h1|h1
  .exact .inl h1
  .rcases Nat.lt_or_ge o (K.hi s) with h2|h2
   .exact absurd hi (o3 o h1 h2).1
   .exact .inr (by omega)
 have e:Ext K Y.top w (K.lg s n) (Y.setTop s T').top w':=by
  refine⟨fun _ h=>⟨h,rfl,rfl,rfl⟩,fun x hx=>?_,fun b i hi=>⟨.inl hi,?_⟩,fun b hb=>⟨hb,?_⟩⟩
  .by_cases hxs:x=s
   .subst hxs
    right
    show _<upd Y.top x T' x
    rw[upd_same]
    exact hT
   .exact .inl ⟨upd_ne _ _ hxs,rfl,upd_ne _ _ hxs,rfl⟩
  .by_cases hb:b=K.ob s
   .subst hb;exact hold i (y8 i hi)
   .obtain⟨⟨v,hv⟩,_⟩:=h.I b i hi
    exact cell_of_heap (ho.block b hb (lt_of_cell hv))
  .obtain⟨⟨es,aH,hv⟩,_⟩:=h.IM b hb
   refine ho.block b ?_ (lt_of_heap hv)
   rintro rfl
   obtain⟨v,hc⟩:=ug
   simp[World.cell?,hv] at hc
 refine⟨?_,e,ho.below o1 hB,fun b hb=>hb,fun _ h=>.inl h,fun b o hi=>?_,fun _ h=>.inl h⟩
 .refine h.upd (Y':=Y.setTop s T') ho e (fun k _=>rfl) (fun r hr=>⟨Qg (h.rb _ r hr).1 ho.size,o1⟩) ?_ ?_ ?_ ?_ ?_ ?_
  .intro loc x ob hx
   refine .inl ⟨hx,fun hr e'=>?_⟩
   have a:=(h.obj _ _ _ hx).2.2 hr
   rw[e',o2] at a
   cases a
  .intro x hx hlt
   by_cases hxs:x=s
   .subst hxs
    right
    simp only[tY,Con.lg,upd_same] at hlt⊢
    refine⟨o1,o2,fun o hl hh=>⟨?_,?_,?_⟩⟩
    .rintro (hi| ⟨_,_,hi⟩)
     .exact(o3 o (by omega) hh).1 hi
     .omega
    .rw[hold o (.inr hl)];exact(o3 o (by omega) hh).2.1
    .rw[hfz o];exact(o3 o (by omega) hh).2.2
   .left
    simp only[Con.lg,upd_ne _ _ hxs] at hlt
    refine⟨hx,upd_ne _ _ hxs,rfl,rfl,fun e'=>?_⟩
    have a:=(h.own x hx hlt).2.1
    rw[e',o2] at a
    injection a with a
    injection a with a
    exact hxs a.symm
  .intro b' i hi
   rcases hi with hi| ⟨rfl,hi1,hi2⟩
   .by_cases hb:b'=K.ob s
    .subst hb
     obtain⟨⟨v,hv⟩,hr⟩:=h.I _ i hi
     exact .inr ⟨rfl,⟨v,by rw[hold i (y8 i hi)];exact hv⟩,hr⟩
    .exact .inl ⟨hi,hb⟩
   .exact .inr ⟨rfl,hnew i hi1 hi2,fun loc hr=>by
     have:K.Z (K.ob s)=some (.obj loc):=hr
     rw[o2] at this;cases this⟩
  .intro b' hi
   obtain⟨⟨es,aH,hv⟩,_⟩:=h.IM b' hi
   refine .inl ⟨hi,?_⟩
   rintro rfl
   obtain⟨v,hc⟩:=ug
   simp[World.cell?,hv] at hc
  .intro l r hl
   refine .inl ⟨hl,fun e'=>?_⟩
   have a:=(h.loop l r hl).2.2.1
   rw[e',o2] at a
   cases a
  .intro b' hd
   refine .inl ⟨hd,?_⟩
   rintro rfl
   obtain⟨v,hc⟩:=ug
   simp[World.cell?,h.D _ hd] at hc
 .rcases hi with hi| ⟨rfl,_⟩
  .exact .inl hi
  .exact .inr o1
theorem Step.FK {E B0 Y K w w'} (h:au E B0 Y K w) (hB:B0<=w.heap.size) {bN loc:Loc} {s0 st:Nat} {cs0 cs:List V} {vals vals':Array Value} {t:TypeId} (hst:¬K.A st)
 (hs:Y.obj bN=some (s0,.cells cs0)) (hne:cs0≠[]) (hv:w.heap[K.blk s0]? =some (.cells vals t (0,0))) (ho:Only (K.blk s0) w w')
 (hv':w'.heap[K.blk s0]? =some (.cells vals' t (0,0))) (hne':cs≠[]) (hl:cs.length<=vals'.size)
 (hr:∀K',Ext K Y.top w K' Y.top w'->∀i,i<cs.length->Rel K' Y.top w' (cs.getD i undefV) (vals'.getD i undef)):
 Step E B0 (· =st) Y K w ((Y.bI bN).setObj loc st (.cells cs)) (K.cO st (K.blk s0) vals'.size loc) w':=by
 have cZ:(AObj.cells cs0).real:=by cases cs0 with|nil=>exact absurd rfl hne|cons _ _=>trivial
 obtain⟨hA,bX,hZ⟩:=h.obj _ _ _ hs
 obtain⟨hb0,yZ,t0,g1,g2,g3,g4⟩:=bX.2 hne
 have qK:∀s,K.A s->s≠st:=fun s hs e=>hst (e▸hs)
 have e0:=h.uf hs cZ ho Y.top rfl
 have e:Ext K Y.top w (K.cO st (K.blk s0) vals'.size loc) Y.top w':=
  ⟨fun s hs=>⟨.inl hs,upd_ne _ _ (qK s hs),rfl,upd_ne _ _ (qK s hs)⟩,fun s hs=>.inl ⟨rfl,rfl,upd_ne _ _ (qK s hs),upd_ne _ _ (qK s hs)⟩,e0.I,e0.IM⟩
 refine⟨?_,e,ho.below hb0 hB,fun _ h=>h,fun _ h=>h,fun _ _ h=>.inl h,fun _ h=>.inl h⟩
 refine h.upd (Y':=(Y.bI bN).setObj loc st (.cells cs)) ho e (fun k hk=>upd_ne _ _ hk) (fun r _=>⟨Qg (lt_of_heap hv) ho.size,hb0⟩) ?_ ?_ ?_ ?_ ?_ ?_
 .intro loc' s' mK hs'
  by_cases hl':loc'=loc
  .subst hl'
   right
   simp only[Sig.setObj,upd_same,iE,iR] at hs'
   obtain⟨rfl,rfl⟩:=hs'
   refine⟨.inr rfl,⟨fun h0=>absurd h0 hne',fun _=>⟨?_,vals',t,?_,?_,hl,hr _ e⟩⟩,fun _=>?_⟩
   .show B0<=upd K.blk st (K.blk s0) st
    rw[upd_same];exact hb0
   .show w'.heap[upd K.blk st (K.blk s0) st]? =_
    rw[upd_same];exact hv'
   .show _=upd K.sz st _ st
    rw[upd_same]
   .show upd K.Z (K.blk s0) _ (upd K.blk st (K.blk s0) st)=_
    rw[upd_same,upd_same]
  .left
   simp only[Sig.setObj,Sig.bI,upd_ne _ _ hl'] at hs'
   by_cases hl0:loc'=bN
   .subst hl0;rw[upd_same] at hs';cases hs'
   .rw[upd_ne _ _ hl0] at hs'
    exact⟨hs',fun hr'=>h.tZ hs' hs hl0 hr' cZ⟩
 .intro s' hs' hlt
  have qL:s'≠st:=by
   rintro rfl
   simp only[Con.cO,upd_same] at hlt
   omega
  have hA':K.A s':=hs'.resolve_right qL
  simp only[Con.cO,upd_ne _ _ qL] at hlt
  have ⟨a1,a2,a3⟩:=h.own s' hA' hlt
  refine .inl ⟨hA',upd_ne _ _ qL,upd_ne _ _ qL,rfl,fun e'=>?_⟩
  rw[e',hZ cZ] at a2
  cases a2
 .intro b' i hi
  exact .inl ⟨hi,fun e'=>(h.I b' i hi).2 bN (e'▸hZ cZ)⟩
 .intro b' hi
  exact .inl ⟨hi,fun e'=>(h.IM b' hi).2 bN (e'▸hZ cZ)⟩
 .intro l r hl'
  exact .inl ⟨hl',h.yY hl' hv⟩
 .intro b' hd
  exact .inl ⟨hd,eT (h.D b' hd) hv (by simp)⟩
theorem Step.y9 {E B0 new Y K w w'} (h:au E B0 Y K w) (hB:B0<=w.heap.size) {loc:Loc} {s:Nat} {ks vs ks' vs':List V} {es es':Array MapEntry} {aH qM:Nat}
 (hs:Y.obj loc=some (s,.map ks vs)) (hv:w.heap[K.blk s]? =some (.map es aH)) (ho:Only (K.blk s) w w') (hv':w'.heap[K.blk s]? =some (.map es' qM))
 (hk:ks'.length=es'.size) (hvl:vs'.length=es'.size)
 (hr:Ext K Y.top w K Y.top w'->(∀i,i<es'.size->Rel K Y.top w' (ks'.getD i undefV) (es'.getD i default).key)/\(∀i,i<es'.size->Rel K Y.top w' (vs'.getD i undefV) (es'.getD i default).val)):
 Step E B0 new Y K w (Y.setObj loc s (.map ks' vs')) K w':=by
 have cZ:(AObj.map ks vs).real:=trivial
 obtain⟨hA,bX,hZ⟩:=h.obj _ _ _ hs
 obtain⟨hb0,_⟩:=bX
 have e:=h.uf hs cZ ho Y.top rfl
 refine⟨?_,e,ho.below hb0 hB,fun _ h=>h,fun _ h=>.inl h,fun _ _ h=>.inl h,fun _ h=>.inl h⟩
 refine h.upd (Y':=Y.setObj loc s (.map ks' vs')) ho e (fun _ _=>rfl) (fun r hr'=>⟨Qg (h.rb _ r hr').1 ho.size,hb0⟩) ?_ ?_ ?_ ?_ ?_ ?_
 .intro loc' s' mK hs'
  by_cases hl':loc'=loc
  .subst hl'
   right
   simp only[Sig.setObj,upd_same,iE,iR] at hs'
   obtain⟨rfl,rfl⟩:=hs'
   exact⟨hA,⟨hb0,es',qM,hv',hk,hvl,hr e⟩,fun _=>hZ cZ⟩
  .left
   simp only[Sig.setObj,upd_ne _ _ hl'] at hs'
   exact⟨hs',fun hr'=>h.tZ hs' hs hl' hr' cZ⟩
 .intro s' hs' hlt
  have ⟨a1,a2,a3⟩:=h.own s' hs' hlt
  refine .inl ⟨hs',rfl,rfl,rfl,fun e'=>?_⟩
  rw[e',hZ cZ] at a2
  cases a2
 .intro b' i hi
  exact .inl ⟨hi,fun e'=>(h.I b' i hi).2 loc (e'▸hZ cZ)⟩
 .intro b' hi
  exact .inl ⟨hi,fun e'=>(h.IM b' hi).2 loc (e'▸hZ cZ)⟩
 .intro l r hl'
  obtain⟨_,_,_,fn,tmps,D,hh,_⟩:=h.loop l r hl'
  exact .inl ⟨hl',eT hh hv (by simp)⟩
 .intro b' hd
  exact .inl ⟨hd,eT (h.D b' hd) hv (by simp)⟩
theorem za {K T w} {v:Value} {z:V} (h:bR v=some z):Rel K T w z v:=by
 cases v with
 |bool b=>simp only[bR,iE] at h;subst h;exact .bool b
 |int k n=>simp only[bR,iE] at h;subst h;exact .int k n
 |string s=>simp only[bR,iE] at h;subst h;exact .str _ s rfl
 |pointer a=>
  cases a with
  |none=>simp only[bR,iE] at h;subst h;exact .nilp
  |some a=>simp[bR] at h
 |slice a n c=>
  cases a with
  |none=>
   cases n with
   |zero=>
    cases c with
    |zero=>simp only[bR,iE] at h;subst h;exact .bf .nil none (fun _=>rfl) trivial
    |succ c=>simp[bR] at h
   |succ n=>simp[bR] at h
  |some a=>simp[bR] at h
 |map r=>
  cases r with
  |none=>simp only[bR,iE] at h;subst h;exact .nilm
  |some a=>simp[bR] at h
 |nilFunc=>simp only[bR,iE] at h;subst h;exact .nilf
 |nilIface=>simp only[bR,iE] at h;subst h;exact .nili
 |_=>simp[bR] at h
theorem FL {v:Value} {z:V} (h:bR v=some z):notRaw z=true:=by
 cases z with
 |raw x=>cases v with
  |slice a n c=>cases a<;>cases n<;>cases c<;>simp[bR] at h
  |pointer a=>cases a<;>simp[bR] at h
  |map a=>cases a<;>simp[bR] at h
  |_=>simp[bR] at h
 |_=>rfl
theorem FP {v:Value} {z:V} (h:ofValue v=some z):notRaw z=true:=by
 cases v with
 |agg cs=>simp only[ofValue,PZ] at h;obtain⟨r,_,rfl⟩:=h;rfl
 |tuple cs=>simp only[ofValue,PZ] at h;obtain⟨r,_,rfl⟩:=h;rfl
 |_=>exact FL (v:=_) (by unfold ofValue at h;exact h)
theorem mapM_some {U β:Type} {f:U->Option β}:∀{l:List U} {r:List β},l.mapM f=some r->l.length=r.length/\∀i (h:i<l.length),∃(h':i<r.length),f l[i]=some r[i]
 | [],r,h=>by simp at h;subst h;exact⟨rfl,fun i hi=>absurd hi (Qe i)⟩
 |a::l,r,h=>by
  simp only[Qk,Option.pure_def,Option.bind_eq_bind] at h
  cases ha:f a with
  |none=>simp[ha] at h
  |some x=>
   cases hl:l.mapM f with
   |none=>simp[ha,hl] at h
   |some r'=>
    simp only[ha,hl,Option.bind_some,iE] at h
    subst h
    obtain⟨h1,h2⟩:=mapM_some hl
    refine⟨by simp[h1],fun i hi=>?_⟩
    cases i with
    |zero=>exact⟨by simp,ha⟩
    |succ i=>
     obtain⟨h3,h4⟩:=h2 i (by simpa using hi)
     exact⟨by simpa using h3,by simpa using h4⟩
theorem dw {U:Type} {l:List U} {i:Nat} (h:i<l.length) (d:U):l.getD i d=l[i]:=by simp[List.getD,h]
theorem mM {U:Type} {l:Array U} {i:Nat} (h:i<l.size) (d:U):l.getD i d=l[i]:=by simp[Array.getD,h]
theorem uh {K T w} {v:Value} {z:V} (h:ofValue v=some z):Rel K T w z v:=by
 have hsc:∀(cs:Array Value) (r:List V),cs.toList.mapM bR=some r->r.length=cs.size/\∀i,i<r.length->Rel K T w (r.getD i undefV) (cs.getD i undef):=by
  intro cs r hr
  obtain⟨h1,h2⟩:=mapM_some hr
  have h1':r.length=cs.size:=by rw[<-h1];simp
  refine⟨h1',fun i hi=>?_⟩
  obtain⟨h3,h4⟩:=h2 i (by omega)
  rw[dw h3,mM (by omega)]
  exact za (by simpa using h4)
 cases v with
 |agg cs=>
  simp only[ofValue,PZ] at h
  obtain⟨r,hr,rfl⟩:=h
  obtain⟨h1,h2⟩:=hsc cs r hr
  exact .agg r cs h1 h2
 |tuple cs=>
  simp only[ofValue,PZ] at h
  obtain⟨r,hr,rfl⟩:=h
  obtain⟨h1,h2⟩:=hsc cs r hr
  exact .tup r cs h1 h2
 |_=>exact za h
theorem gu {E B0 Y K w} (h:au E B0 Y K w) {fr:Fr} {a:Act} (hf:bJ K Y.top w fr a.tmps) (x:Operand):Rel K Y.top w (fr.ev E x) (a.eval x):=by
 cases x with
 |tmp t=>exact hf t
 |const v=>
  simp only[Fr.ev,Act.eval]
  cases hv:ofValue v with
  |none=>exact .raw v
  |some z=>exact uh hv
 |global g=>
  simp only[Fr.ev,Act.eval]
  cases hg:E.glob g with
  |none=>exact .raw _
  |some cs=>exact h.glob g cs hg
 |func f=>exact .fn f [] [] #[] #[] rfl rfl (fun i hi=>absurd hi (Qe i)) (fun i hi=>absurd hi (Qe i))
theorem jy {K T w} {v:V} {c:Value} (h:Rel K T w v c) (hr:notRaw v=true):
 v.cells.length=c.cells.size/\∀i,i<v.cells.length->Rel K T w (v.cells.getD i undefV) (c.cells.getD i undef):=by
 have one:∀{v:V} {c:Value},Rel K T w v c->v.cells=[v]->c.cells= #[c]->v.cells.length=c.cells.size/\∀i,i<v.cells.length->Rel K T w (v.cells.getD i undefV) (c.cells.getD i undef):=by
  intro v c h h1 h2
  rw[h1,h2]
  refine⟨rfl,fun i hi=>?_⟩
  obtain rfl:i=0:=by simp at hi;omega
  exact h
 cases h with
 |agg cs vs hl h=>exact⟨hl,h⟩
 |raw v=>simp[notRaw] at hr
 |tup cs vs hl h=>exact one (.tup cs vs hl h) rfl rfl
 |int k n=>exact one (.int k n) rfl rfl
 |bool b=>exact one (.bool b) rfl rfl
 |str s b h=>exact one (.str s b h) rfl rfl
 |nilp=>exact one .nilp rfl rfl
 |nilf=>exact one .nilf rfl rfl
 |nilm=>exact one .nilm rfl rfl
 |nili=>exact one .nili rfl rfl
 |bf c a ha hc=>exact one (.bf c a ha hc) rfl rfl
 |lst c l b o n cap val h1 h2 h3 h4 h5=>exact one (.lst c l b o n cap val h1 h2 h3 h4 h5) rfl rfl
 |vw loc s off len cap aG ag aU h1 h2 h3 h4=>exact one (.vw loc s off len cap aG ag aU h1 h2 h3 h4) rfl rfl
 |dU loc s aG ag h1=>exact one (.dU loc s aG ag h1) rfl rfl
 |cref cs off b o val h1 h2=>exact one (.cref cs off b o val h1 h2) rfl rfl
 |ref loc s off h1=>exact one (.ref loc s off h1) rfl rfl
 |fn f a b av bv h1 h2 h3 h4=>exact one (.fn f a b av bv h1 h2 h3 h4) rfl rfl
 |yield l h1=>exact one (.yield l h1) rfl rfl
 |mapr loc s h1=>exact one (.mapr loc s h1) rfl rfl
 |mapc ks vs b es aH h1 h2 h3 h4 h5 h6=>exact one (.mapc ks vs b es aH h1 h2 h3 h4 h5 h6) rfl rfl
 |iface t v c h=>exact one (.iface t v c h) rfl rfl
theorem ze {K T w} {v:V} {c:Value} (h:Rel K T w v c) (ho:oneCell v=true):c.oneCell'=true/\c.cells= #[c]/\v.cells=[v]:=by
 cases h<;>first| (simp[oneCell] at ho;done)|exact⟨rfl,rfl,rfl⟩
section types
variable {P:Program} {t:TypeId} (w:World)
theorem zf {i:TypeInfo} (h:P.info? t=some i):(typeInfo t).run P w= .ok i w:=by simp[typeInfo,h]
theorem dH {n:Nat} (h:szT P t=some n):(Go.sizeOf t).run P w= .ok n w:=by
 simp only[szT,PZ] at h
 obtain⟨i,hi,rfl⟩:=h
 simp[Go.sizeOf,zf w hi]
theorem zh {b:Bool} (h:isAggT P t=some b):(isAgg t).run P w= .ok b w:=by
 simp only[isAggT,PZ] at h
 obtain⟨d,hd,rfl⟩:=h
 simp only[isAgg,Sem.run_bind,run_underlying hd,Result.andThen_ok]
 cases d<;>rfl
theorem jA {z:V} (h:zeroT P t=some z):∃c,(zeroValue t).run P w= .ok c w/\∀K T,Rel K T w z c:=by
 simp only[zeroT,iP] at h
 obtain⟨v,⟨i,hi,hz⟩,hv⟩:=h
 exact⟨v,by simp[zeroValue,zf w hi,hz],fun K T=>uh hv⟩
theorem mO {z:V} (h:zeroT P t=some z):notRaw z=true:=by
 simp only[zeroT,iP] at h
 obtain⟨v,_,hv⟩:=h
 exact FP hv
theorem oF {e:TypeId} (h:elemT P t=some e):P.underlying t=some (.slice e):=by
 unfold elemT at h
 split at h<;>simp_all
theorem zi {n:Nat} {e:TypeId} (h:arrT P t=some (n,e)):P.underlying t=some (.array n e):=by
 unfold arrT at h
 split at h<;>simp_all
theorem zk {k e:TypeId} (h:mapT P t=some (k,e)):P.underlying t=some (.map k e):=by
 unfold mapT at h
 split at h<;>simp_all
theorem zl {f o:Nat} {u:TypeId} (h:fieldT P t f=some (o,u)):∃fs g n,P.underlying t=some (.struct fs)/\fs[f]? =some g/\g.offset=o/\g.type=u/\szT P u=some (n+1):=by
 unfold fieldT at h
 split at h
 .rename_i fs hu
  simp only[iP] at h
  obtain⟨g,hg,h⟩:=h
  split at h
  .rename_i n hn
   simp only[iE,iR] at h
   exact⟨fs,g,n,hu,hg,h.1,h.2,by rw[<-h.2];exact hn⟩
  .simp at h
 .simp at h
end types
theorem addr_add (b o n:Nat):(at_ b o).add n=at_ b (o+n):=by
 unfold Addr.add
 split
 .subst_vars;rfl
 .rfl
theorem uj {P:Program} {K T} {w:World} {t:TypeId} {cs:List V} {off:Nat} {v:V} {b o:Nat} (val:Nat->Value)
 (hc:∀i,i<cs.length->w.cell? (at_ b (o+i))=some (val i)) (hr:∀i,i<cs.length->Rel K T w (cs.getD i undefV) (val i)) (h:ldT P t cs off=some v):
 ∃c,(loadVar t (at_ b (o+off))).run P w= .ok c w/\Rel K T w v c:=by
 simp only[ldT,iP] at h
 obtain⟨ag,hag,n,hn,h⟩:=h
 simp only[loadVar,Sem.run_bind,zh w hag,Result.andThen_ok]
 cases ag with
 |true=>
  simp only[jv,if_true] at h
  split at h
  .rename_i hle
   simp only[iE] at h
   subst h
   have hl:=run_loadCells (P:=P) w (at_ b (o+off)) n (fun j=>val (off+j)) (fun j hj=>by
    rw[addr_add,QK];exact hc _ (by omega))
   refine⟨.agg ((List.range n).map fun j=>val (off+j)).toArray,by simp[dH w hn,hl],?_⟩
   refine .agg _ _ (by simp;omega) (fun i hi=>?_)
   simp only[Qs,QY] at hi
   have hi':i<n:=by omega
   have e1:((cs.drop off).take n).getD i undefV=cs.getD (off+i) undefV:=by
    simp[List.getD,hi',List.getElem?_drop]
   have e2:(((List.range n).map fun j=>val (off+j)).toArray).getD i undef=val (off+i):=by
    simp[Array.getD,hi']
   rw[e1,e2]
   exact hr _ (by omega)
  .simp at h
 |false=>
  simp only[jv,P8,if_false] at h
  have hlt:off<cs.length:=(QL.1 h).1
  have hv:cs[off]=v:=(QL.1 h).2
  refine⟨val off,by simp[hc off hlt],?_⟩
  have:=hr off hlt
  rwa[dw hlt,hv] at this
theorem mP {P:Program} {K T} {w:World} {t:TypeId} {cs:List V} {vs:Array Value} {off:Nat} {v:V} (hl:cs.length=vs.size)
 (hr:∀i,i<cs.length->Rel K T w (cs.getD i undefV) (vs.getD i undef)) (h:ldT P t cs off=some v):
 ∃c,(part t vs off).run P w= .ok c w/\Rel K T w v c:=by
 simp only[ldT,iP] at h
 obtain⟨ag,hag,n,hn,h⟩:=h
 simp only[part,Sem.run_bind,zh w hag,Result.andThen_ok]
 cases ag with
 |true=>
  simp only[jv,if_true] at h
  split at h
  .rename_i hle
   simp only[iE] at h
   subst h
   refine⟨.agg (vs.extract off (off+n)),by simp[dH w hn],?_⟩
   refine .agg _ _ (by simp;omega) (fun i hi=>?_)
   simp only[Qs,QY] at hi
   have hi':i<n:=by omega
   have e1:((cs.drop off).take n).getD i undefV=cs.getD (off+i) undefV:=by
    simp[List.getD,hi',List.getElem?_drop]
   have e2:(vs.extract off (off+n)).getD i undef=vs.getD (off+i) undef:=by
    have:off+i<vs.size:=by omega
    simp[Array.getD,this,show i<min (off+n) vs.size-off by omega]
   rw[e1,e2]
   exact hr _ (by omega)
  .simp at h
 |false=>
  simp only[jv,P8,if_false] at h
  have hlt:off<cs.length:=(QL.1 h).1
  have hv:cs[off]=v:=(QL.1 h).2
  have hlt':off<vs.size:=by omega
  refine⟨vs.getD off undef,by simp[hlt',Array.getD],?_⟩
  have:=hr off hlt
  rwa[dw hlt,hv] at this
end Aq
end
