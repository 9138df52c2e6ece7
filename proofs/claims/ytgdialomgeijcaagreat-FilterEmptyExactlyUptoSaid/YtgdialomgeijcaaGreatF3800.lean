import Derived.Below
import Derived.WalkKit
import GoSem.Dispatch
set_option linter.all false
section
namespace Aq
def iE:=@Option.some.injEq
def iP:=@Option.bind_eq_some_iff
def iR:=@Prod.mk.injEq
def mF:=@Nat.le_refl
def Py:=@Option.map_eq_some_iff
def Pz:=@Bool.and_eq_true
def PD:=@Nat.le_trans
def PE:=@Bool.false_eq_true
def PG:=@List.mem_cons
def PI:=@List.mem_cons_self
def PK:=@List.mem_cons_of_mem
def PN:=@Nat.le_add_right
def PO:=@List.map_cons
def PS:=@Nat.not_lt_zero
def PU:=@List.length_append
def PV:=@Nat.lt_of_lt_of_le
def PW:=@List.mapM_cons
def PX:=@List.getElem?_eq_getElem
def PY:=@List.length_map
def PZ:=@Int.le_refl
def P6:=@List.flatMap_cons
def P7:=@List.all_eq_true
def P8:=@Nat.le_succ
def P9:=@Option.some.inj
def Qa:=@List.cons.injEq
def Qb:=@List.length_take
def Qc:=@List.mem_singleton
def Qd:=@List.drop_eq_getElem_cons
def Qe:=@List.append_assoc
def Qf:=@List.nodup_cons
def Qg:=@Nat.le_max_right
def Qh:=@Nat.ne_of_lt
def Qi:=@Nat.zero_add
def Qj:=@Nat.add_mul
def Qk:=@List.mem_of_getElem?
def Ql:=@Nat.mul_le_mul_right
def Qm:=@List.eq_nil_of_length_eq_zero
def Qn:=@Nat.zero_le
def Qo:=@List.mem_map
def Qp:=@Nat.le_of_ble_eq_true
def Qq:=@List.getElem?_eq_some_iff
def Qr:=@Nat.succ_mul
def Qs:=@Bool.or_eq_false_iff
def Qt:=@Nat.beq_refl
def Qu:=@List.take_of_length_le
def Qv:=@Nat.add_assoc
def Qw:=@List.getElem_mem
def Qx:=@List.append_nil
def Qy:=@Bool.not_eq_true'
def Qz:=@List.drop_zero
def QA:=@Nat.mul_comm
def QB:=@Array.getD_eq_getD_getElem?
def QC:=@Nat.le_max_left
def QD:=@List.map_append
def QE:=@Bool.or_eq_true
def QF:=@List.mem_append_left
def QG:=@Nat.le_of_eq
def QH:=@List.length_pos_iff
def QI:=@List.mem_append_right
def QJ:=@Nat.eq_of_beq_eq_true
def QK:=@List.length_drop
def QL:=@List.getD_eq_getElem?_getD
def QM:=@List.map_congr_left
def QN:=@List.map_map
def QO:=@List.mem_filter
def QS:=@Nat.mod_eq_of_lt
def QT:=@List.mem_append
def QU:=@Nat.add_sub_cancel_left
def QV:=@List.drop_append
def QW:=@List.drop_eq_nil_of_le
def QX:=@List.take_append_of_le_length
def QY:=@List.mem_iff_getElem
def QZ:=@List.getElem_range
open Go
abbrev Loc:=Nat×Nat
inductive Cap where
 |sh
 |full
 |nil
 |own (n s:Nat)
inductive V where
 |int (k:IntKind) (n:Int)
 |bool (b:Bool)
 |str (s:List UInt8)
 |SX
 |SQ
 |SF
 |Sw
 |agg (cs:List V)
 |Rm (vs:List V)
 |tX (c:Cap) (l:List V)
 |vw (loc:Loc) (s off len cap aD:Nat) (ag:Bool)
 |Q5 (cs:List V) (off:Nat)
 |ref (loc:Loc) (s off:Nat)
 |fn (f:Fn) (first cap:List V)
 |RA (loc:Loc) (s:Nat)
 |RX (ks vs:List V)
 |iface (t:TypeId) (v:V)
 |raw (v:Value)
instance:Inhabited V:=⟨.Rm []⟩
def FN:V:=.Rm []
def V.cells:V->List V
 |.agg cs=>cs|v=>[v]
def bP:Value->Option V
 |.bool b=>some (.bool b)|.int k n=>some (.int k n)|.string s=>some (.str s.data.toList)|.pointer none=>some .SX|.slice none 0 0=>some (.tX .nil [])|.map none=>some .SF|.nilFunc=>some .SQ|.nilIface=>some .Sw|_=>none
def ofValue:Value->Option V
 |.agg cs=>(cs.toList.mapM bP).map .agg|.tuple cs=>(cs.toList.mapM bP).map .Rm|v=>bP v
mutual
def Q9:V->Bool
 |.int _ _|.bool _|.str _|.SX|.SQ|.SF|.Sw=>true|.agg cs=>Rz cs|.Rm vs=>Rz vs|.tX .sh l=>Rz l|.tX _ _=>false|.vw .. |.ref .. |.RA .. =>false|.Q5 cs _=>Rz cs|.fn (.func _) a b=>Rz a&& Rz b|.fn _ _ _=>false|.RX ks vs=>Rz ks&& Rz vs|.iface _ v=>Q9 v|.raw _=>false
def Rz:List V->Bool
 | []=>true|v::l=>Q9 v&& Rz l
end
mutual
def flat:V->Bool
 |.int _ _|.bool _|.str _|.SX|.SQ|.SF|.Sw=>true|.agg cs=>bQ cs|.Rm vs=>bQ vs|_=>false
def bQ:List V->Bool
 | []=>true|v::l=>flat v&& bQ l
end
def aN:V->V
 |.tX _ l=>.tX .sh l|v=>v
def er:V->V
 |.tX _ l=>.tX .sh l|.agg cs=>.agg (cs.map aN)|v=>v
inductive Te where
 |cells (cs:List V)
 |map (ks vs:List V)
inductive Ex where
 |normal
 |exit (id:Nat)
 |ret
structure Fr where
 d:Nat
 om:Bool
 tm:Nat->V
structure Vi where
 st:Nat
 pend:Option Ex
 fr:Fr
 ps:List Nat
 aF:Code
 body:Code
structure qd where
 next:Nat
 top:Nat->Nat
 obj:Loc->Option (Nat×Te)
 loops:Nat->Option Vi
def qd.init:qd:=⟨0,fun _=>0,fun _=>none,fun _=>none⟩
def upd {κ U:Type}[DecidableEq κ](f:κ->U)(k:κ)(v:U):κ->U:=fun j=>if j=k then v else f j
def Fr.set (fr:Fr)(i:Nat)(v:V):Fr:={fr with tm:=upd fr.tm i v}
def Fr.put (fr:Fr)(d:Option Nat)(v:V):Fr:=match d with
 |some i=>fr.set i v|none=>fr
def qd.setObj (Y:qd)(loc:Loc)(s:Nat)(o:Te):qd:={Y with obj:=upd Y.obj loc (some (s,o))}
def qd.bF (Y:qd)(loc:Loc):qd:={Y with obj:=upd Y.obj loc none}
def qd.R9 (Y:qd)(s n:Nat):qd:={Y with top:=upd Y.top s n}
def qd.aO (Y:qd)(l:Nat)(r:Vi):qd:={Y with loops:=upd Y.loops l (some r)}
def qd.dG (Y:qd)(l:Nat):qd:={Y with loops:=upd Y.loops l none}
def bq:Code->Bool
 |.seq a b=>bq a&& bq b|.cond _ a b=>bq a&& bq b|.block _ c=>bq c|.loop c=>bq c|.scope c=>bq c|.rangeFunc .. =>false|_=>true
def qd.Rq (Y:qd)(loc:Loc)(s:Nat):Option (List V):=
 match Y.obj loc with
 |some (s',.cells cs)=>if s'=s then some cs else none|_=>none
def qd.aW (Y:qd)(loc:Loc)(s:Nat):Option (List V×List V):=
 match Y.obj loc with
 |some (s',.map ks vs)=>if s'=s then some (ks,vs) else none|_=>none
def chunks (agg:Bool)(n:Nat):Nat->List V->List V
 |0,_=>[]|k+1,cs=>(if agg then V.agg (cs.take n) else cs.headD FN)::chunks agg n k (cs.drop n)
def oneCell:V->Bool
 |.agg _|.Rm _|.raw _=>false|_=>true
def RN (l:List V):Bool:=l.all oneCell
def Rf:Nat->qd->V->Option V
 |0,_,_=>none|n+1,Y,v=>if Q9 v then some v else match v with
  |.tX _ l=>(l.mapM (Rf n Y)).map (.tX .sh)|.agg cs=>(cs.mapM (Rf n Y)).map .agg|.Rm cs=>(cs.mapM (Rf n Y)).map .Rm|.Q5 cs off=>(cs.mapM (Rf n Y)).map (.Q5 · off)|.fn (.func f) a b=>(a.mapM (Rf n Y)).bind fun a=>(b.mapM (Rf n Y)).map fun b=>.fn (.func f) a b
  |.ref loc s off=>(Y.Rq loc s).bind fun cs=>(cs.mapM (Rf n Y)).map (.Q5 · off)
  |.vw loc s off len _ aD ag=>(Y.Rq loc s).bind fun cs=>
     if off+len*aD<=cs.length then (((cs.drop off).take (len*aD)).mapM (Rf n Y)).bind fun cs=>if ag||aD==1&& RN cs then some (.tX .sh (chunks ag aD len cs)) else none else none
  |.RA loc s=>(Y.aW loc s).bind fun (ks,vs)=>(ks.mapM (Rf n Y)).bind fun ks=>(vs.mapM (Rf n Y)).map fun vs=>.RX ks vs
  |.RX ks vs=>(ks.mapM (Rf n Y)).bind fun ks=>(vs.mapM (Rf n Y)).map fun vs=>.RX ks vs
  |.iface t v=>(Rf n Y v).map (.iface t)|_=>none
section ops
variable (P:Program)
def RI (t:TypeId):Option Nat:=(P.info? t).map (·.size)
def Yn (t:TypeId):Option Nat:=(P.info? t).map (·.bytes)
def U8 (t:TypeId):Option Bool:=(P.underlying t).map fun
 |.struct _|.array .. =>true|_=>false
def T9 (t:TypeId):Option V:=((P.info? t).bind (·.zero)).bind ofValue
def WZ (t:TypeId)(f:Nat):Option (Nat×TypeId):=
 match P.underlying t with
 |some (.struct fs)=>(fs[f]?).bind fun f=>match RI P f.type with
  |some (_+1)=>some (f.offset,f.type)|_=>none
 |_=>none
def UD (t:TypeId):Option TypeId:=
 match P.underlying t with
 |some (.slice e)=>some e|_=>none
def aep (t:TypeId):Option (Nat×TypeId):=
 match P.underlying t with
 |some (.array n e)=>some (n,e)|_=>none
def W9 (t:TypeId):Option (TypeId×TypeId):=
 match P.underlying t with
 |some (.map k e)=>some (k,e)|_=>none
def jm (agg:Bool)(n:Nat)(cs:List V)(off:Nat):Option V:=
 if agg then (if off+n<=cs.length then some (.agg ((cs.drop off).take n)) else none) else cs[off]?
def TB (t:TypeId)(cs:List V)(off:Nat):Option V:=
 (U8 P t).bind fun a=>(RI P t).bind fun n=>jm a n cs off
def Tf (cs:List V)(off:Nat)(vs:List V):List V:=cs.take off++vs++cs.drop (off+vs.length)
def SI:V->Bool
 |.raw _=>false|_=>true
def fM (place:Nat->Option (Nat×Nat))(cells:List V):List (Nat×V)->Option (List V)
 | []=>some cells| (i,v)::rest=>
   match place i with
   |none=>none|some (off,size)=>
    if v.cells.length=size/\off+size<=cells.length/\SI v then fM place (Tf cells off v.cells) rest else none
def dP:V->V->Option Bool
 |.int k a,.int k' b=>if k=k' then some (a==b) else none|.bool a,.bool b=>some (a==b)|.str a,.str b=>some (a==b)|_,_=>none
def kR (eq:TypeId->V->V->Option Bool)(xs ys:List V):List Field->Option Bool
 | []=>some true|f::fs=>
  if f.name= "_" then kR eq xs ys fs else (TB P f.type xs f.offset).bind fun a=>(TB P f.type ys f.offset).bind fun b=>(eq f.type a b).bind fun r=>(kR eq xs ys fs).map (r&& ·)
def l9 (eq:TypeId->V->V->Option Bool)(e:TypeId)(sz:Nat)(xs ys:List V):List Nat->Option Bool
 | []=>some true|i::is=>(TB P e xs (i*sz)).bind fun a=>(TB P e ys (i*sz)).bind fun b=>(eq e a b).bind fun r=>(l9 eq e sz xs ys is).map (r&& ·)
def jP:Nat->TypeId->V->V->Option Bool
 |0,_,_,_=>none|d+1,t,x,y=>
  match P.underlying t,x,y with
  |some .bool,.bool a,.bool b=>some (a==b)|some (.int _),.int k a,.int k' b=>if k=k' then some (a==b) else none|some .string,.str a,.str b=>some (a==b)|some (.struct fs),.agg xs,.agg ys=>if P.stoodInHeld t then none else kR P (jP d) xs ys fs.toList|some (.array n e),.agg xs,.agg ys=>(RI P e).bind fun sz=>l9 P (jP d) e sz xs ys (List.range n)
  |_,_,_=>none
def gL (t:TypeId)(x y:V):Option Bool:=
 match P.underlying t,x,y with
 |some (.func ..),.SQ,.SQ=>some true|some (.func ..),.SQ,.fn _ _ _|some (.func ..),.fn _ _ _,.SQ=>some false|some (.pointer _),.SX,.SX=>some true|some (.pointer _),.SX,.ref .. |some (.pointer _),.ref ..,.SX|some (.pointer _),.SX,.Q5 .. |some (.pointer _),.Q5 ..,.SX=>some false|some (.slice _),.tX .nil _,.tX .nil _=>some true|some (.slice _),.tX .nil _,.tX _ (_::_)|some (.slice _),.tX _ (_::_),.tX .nil _=>some false
 |some (.map ..),.SF,.SF=>some true|some (.map ..),.SF,.RA .. |some (.map ..),.RA ..,.SF|some (.map ..),.SF,.RX .. |some (.map ..),.RX ..,.SF=>some false|some (.struct _),.agg a,.agg b|some (.array ..),.agg a,.agg b=>if P.eqGuardType P.depth t then none else jP P 8 t (.agg a) (.agg b)|some .bool,.bool a,.bool b=>some (a==b)|some (.interface ms),.Sw,.Sw=>if ms.isEmpty then some true else none|some (.interface _),.Sw,.iface _ _|some (.interface _),.iface _ _,.Sw=>some false
 |_,_,_=>none
def TP (op:BinOp)(k:IntKind)(x y:Int):Option V:=
 match op with
 |.add=>some (.int k (k.wrap (x+y)))|.sub=>some (.int k (k.wrap (x-y)))|.mul=>some (.int k (k.wrap (x*y)))|.quo=>if y=0 then none else some (.int k (k.wrap (x.tdiv y)))|.rem=>if y=0 then none else some (.int k (x.tmod y))|.and=>some (.int k (k.wrap (BitVec.ofInt k.bits x&&& BitVec.ofInt k.bits y).toNat))|.or=>some (.int k (k.wrap (BitVec.ofInt k.bits x|||BitVec.ofInt k.bits y).toNat))|.xor=>some (.int k (k.wrap (BitVec.ofInt k.bits x^^^BitVec.ofInt k.bits y).toNat))
 |.andNot=>some (.int k (k.wrap (BitVec.ofInt k.bits x&&& ~~~BitVec.ofInt k.bits y).toNat))|.eql=>some (.bool (x==y))|.neq=>some (.bool (x !=y))|.lss=>some (.bool (x<y))|.leq=>some (.bool (x<=y))|.gtr=>some (.bool (x>y))|.geq=>some (.bool (x>=y))|_=>none
def nW (op:BinOp)(k:IntKind)(x y:Int):Option V:=
 if y<0 then none else match op with
 |.shl=>some (.int k (k.wrap (x*2^min y.toNat k.bits)))|.shr=>some (.int k (x.fdiv (2^min y.toNat k.bits)))|_=>none
def jQ (op:BinOp)(x y:List UInt8):Option V:=
 match op with
 |.add=>if ((x.length+y.length:Nat):Int)>IntKind.i64.max then none else some (.str (x++y))|.eql=>some (.bool (x==y))|.neq=>some (.bool !(x==y))|.lss=>some (.bool (Op.bytesLess x y))|.leq=>some (.bool (Op.bytesLess x y||x==y))|.gtr=>some (.bool !(Op.bytesLess x y||x==y))|.geq=>some (.bool !(Op.bytesLess x y))|_=>none
def VX (op:BinOp)(t:TypeId)(x y:V):Option V:=
 match op,x,y with
 |.shl,.int k a,.int _ b|.shr,.int k a,.int _ b=>nW op k a b|_,.int k a,.int k' b=>if k=k' then TP op k a b else none|_,.str a,.str b=>jQ op a b|.eql,x,y=>(gL P t x y).map .bool|.neq,x,y=>(gL P t x y).map fun b=>.bool !b
 |_,_,_=>none
def kS (op:UnOp)(x:V):Option V:=
 match op,x with
 |.neg,.int k n=>some (.int k (k.wrap (0-n)))|.xor,.int k n=>TP .xor k (if k.signed then-1 else k.max) n|.not,.bool b=>some (.bool !b)|_,_=>none
def iT (b:UInt8):V:=.int .u8 b.toNat
def jR (Y:qd)(src dst:TypeId)(x:V):Option V:=
 match P.underlying src,P.underlying dst,x with
 |some _,some (.int k),.int _ n=>some (.int k (k.wrap n))|some _,some .string,.str s=>some (.str s)|_,_,_=>none
def fu:V->Option Int
 |.int _ n=>some n|_=>none
def bnd (x:V)(y:Nat):Option Nat:=(fu x).bind fun i=>if 0<=i/\i<=y then some i.toNat else none
def fD (len cap:Nat)(lo hi mx:Option V):Option (Nat×Nat×Nat):=
 (match mx with|some v=>bnd v cap|none=>some cap).bind fun m=>(match hi,mx with
   |some v,some _=>bnd v m|some v,none=>bnd v m|none,none=>some len|none,some _=>none).bind fun h=>(match lo with|some v=>bnd v h|none=>some 0).bind fun l=>some (l,h,m)
def dH (sz:Nat):List V->Bool
 | []=>true|v::_=>v.cells.length==sz
def gM (Y:qd)(t:TypeId)(x:V)(lo hi mx:Option V):Option V:=
 match P.underlying t,x with
 |some (.slice e),.tX c s=>
  (RI P e).bind fun sz=>(fD s.length s.length lo hi mx).bind fun (l,h,m)=>if dH sz s then some<|
    if l=0/\h=s.length/\mx.isNone then .tX c s else .tX (match mx with|some _=>if m=h then .full else .sh|none=>match c with|.full=>if h=s.length then .full else .sh|_=>.sh) ((s.take h).drop l)else none
 |some (.slice e),.vw loc st off len cap aD ag=>
  (RI P e).bind fun sz=>(fD len cap lo hi mx).bind fun (l,h,m)=>if sz=aD then some<|
    if l=h/\0<l then .tX (match mx with|some _=>if m=h then .full else .sh|none=>.sh) [] else .vw loc st (off+l*aD) (h-l) (m-l) aD ag else none
 |_,_=>none
def idx (i:V)(n:Nat):Option Nat:=(fu i).bind fun i=>if 0<=i/\i<n then some i.toNat else none
def Vj (t:TypeId)(x i:V):Option V:=
 match P.underlying t,x with
 |some (.slice e),.tX _ l=>(RI P e).bind fun sz=>(idx i l.length).bind fun k=>(l[k]?).bind fun e=>if e.cells.length=sz then some (.Q5 e.cells 0) else none
 |some (.slice e),.vw loc st off len _ aD _=>(RI P e).bind fun sz=>(idx i len).bind fun k=>if sz=aD then some (.ref loc st (off+k*aD)) else none
 |some (.array n e),.ref loc st off=>(RI P e).bind fun sz=>(idx i n).map fun k=>.ref loc st (off+k*sz)
 |some (.array n e),.Q5 cs off=>(RI P e).bind fun sz=>(idx i n).map fun k=>.Q5 cs (off+k*sz)
 |_,_=>none
def mg (t:TypeId)(x i:V):Option V:=
 match P.underlying t,x with
 |some (.array n e),.agg cs=>(idx i n).bind fun k=>(RI P e).bind fun sz=>TB P e cs (k*sz)
 |some .string,.str s=>(idx i s.length).bind fun k=>(s[k]?).map iT
 |_,_=>none
def eU (k:V):List V->List V->Option (Option V)
 |a::az,v::vs=>(dP k a).bind fun b=>if b then some (some v) else eU k az vs
 | [],[]=>some none|_,_=>none
def iU (k v:V):List V->List V->Option (List V×List V)
 |a::az,w::ws=>(dP k a).bind fun b=>if b then some (k::az,v::ws) else (iU k v az ws).map fun (x,y)=>(a::x,w::y)
 | [],[]=>some ([k],[v])|_,_=>none
def dw (t:TypeId)(k:V):Bool:=
 match P.underlying t,k with
 |some (.int _),.int _ _|some .string,.str _|some .bool,.bool _=>true|_,_=>false
def iV (Y:qd)(t:TypeId)(m k:V)(ok:Bool):Option V:=
 (W9 P t).bind fun (kt,et)=>
 if dw P kt k then (match m with
    |.SF=>some ([],[])|.RA loc s=>Y.aW loc s|.RX ks vs=>some (ks,vs)|_=>none).bind fun (ks,vs)=>(eU k ks vs).bind fun r=>(match r with|some v=>some (v,true)|none=>(T9 P et).map fun z=>(z,false)).map fun (v,b)=>
  if ok then .Rm [v,.bool b] else v else none
def fO (Y:qd)(t:TypeId)(m k v:V):Option qd:=
 (W9 P t).bind fun (kt,_)=>
 if dw P kt k then match m with
  |.RA loc s=>(Y.aW loc s).bind fun (ks,vs)=>(iU k v ks vs).map fun (ks,vs)=>Y.setObj loc s (.map ks vs)
  |_=>none else none
def Si (n b:Nat):Bool:=n*b<=2^47&& n<=2^47
def fE (Y:qd)(ag:Bool)(sz:Nat)(z:V):V->Option (List V)
 |.int _ n=>if 0<=n/\n<=2^47 then some (List.replicate n.toNat z) else none|.tX _ l=>if dH sz l then some l else none|.str s=>if sz=1 then some (s.map iT) else none|.vw loc s off len _ aD _=>if aD≠sz then none else (Y.Rq loc s).bind fun cs=>
  if off+len*sz<=cs.length/\(RN cs=true\/ag=true) then some ((chunks ag sz len (cs.drop off)).map er) else none
 |_=>none
def mh:V->Bool
 |.int _ _=>true|_=>false
def bT (om zeros:Bool)(Y:qd)(st:Nat)(loc:Option Loc)(t:TypeId)(x y:V):Option (V×qd):=
 (UD P t).bind fun e=>(RI P e).bind fun sz=>(Yn P e).bind fun Sz=>(U8 P e).bind fun ag=>(T9 P e).bind fun z=>
 if zeros=mh y/\z.cells.length=sz/\0<sz/\(ag||sz==1)=true then (fE Y ag sz z y).bind fun ys=>
 if ys.all (fun v=>RN v.cells)=true then match x with
 |.tX c l=>
  if Si (l.length+ys.length) Sz=true/\dH sz l=true then match om,c with
   |true,.nil=>loc.map fun loc=>(.vw loc st 0 (l.length+ys.length) (l.length+ys.length) sz ag,Y.setObj loc st (.cells ((l++ys).flatMap V.cells)))
   |true,.full=>if ys.isEmpty then some (.tX .full l,Y) else loc.map fun loc=>(.vw loc st 0 (l.length+ys.length) (l.length+ys.length) sz ag,Y.setObj loc st (.cells ((l++ys).flatMap V.cells)))
   |false,.own n s=>if n=sz/\Y.top s=l.length then some (.tX (.own n s) (l++ys),Y.R9 s (l.length+ys.length)) else none|false,.nil|false,.full=>some (.tX (.own sz st) (l++ys),Y.R9 st (l.length+ys.length))|_,_=>none else none
 |.vw bJ s off len cap aD _=>
  if Si (len+ys.length) Sz=true/\om=true/\off=0/\aD=sz then loc.bind fun loc=>(Y.Rq bJ s).bind fun cs=>
    if len+ys.length<=cap then if (len+ys.length)*sz<=cs.length then some (.vw bJ s 0 (len+ys.length) cap sz ag,Y.setObj bJ s (.cells (Tf cs (len*sz) (ys.flatMap V.cells))))else none else if len*sz<=cs.length then some (.vw loc st 0 (len+ys.length) (len+ys.length) sz ag,(Y.bF bJ).setObj loc st (.cells (cs.take (len*sz)++ys.flatMap V.cells)))else none else none
 |_=>none else none else none
def copyV (Y:qd)(t:TypeId)(x y:V):Option (V×qd):=
 (fun (_:Program) (_:qd) (_:TypeId) (_ _:V)=>none) P Y t x y
def tK (t:TypeId)(ok:Bool)(x:V):Option V:=
 match P.underlying t with
 |none|some (.interface _)=>none|some _=>match x with
  |.iface u v=>if u=t then some (if ok then .Rm [v,.bool true] else v) else if ok then (T9 P t).map fun z=>.Rm [z,.bool false] else none
  |.Sw=>if ok then (T9 P t).map fun z=>.Rm [z,.bool false] else none
  |_=>none
def ig (Y:qd)(t:TypeId)(x:V):Option (V×qd):=
 (UD P t).bind fun e=>(RI P e).bind fun sz=>(Yn P e).bind fun _=>(T9 P e).bind fun z=>
 if z.cells.length=sz/\RN z.cells=true then match x with
  |.vw loc s off len _ aD _=>
   (Y.Rq loc s).bind fun cs=>
     if aD=sz/\off+len*sz<=cs.length then if len=0 then some (FN,Y) else some (FN,Y.setObj loc s (.cells (Tf cs off ((List.replicate len z).flatMap V.cells))))else none
  |.tX _ []=>some (FN,Y)|_=>none else none
@[irreducible] def kT (_:Bool):V->List V->Option V:=fun _ _=>none
def jo (om:Bool)(Y:qd)(st:Nat)(loc:Option Loc)(t:TypeId)(l c:V):Option (V×qd):=
 (fun (_:Program) (_:Bool) (_:qd) (_:Nat) (_:Option Loc) (_:TypeId) (_ _:V)=>none) P om Y st loc t l c
end ops
end Aq
end
section
namespace Aq
open Go
structure Env where
 P:Program
 glob:Nat->Option (List V)
 imp:FuncId->Bool
 om:FuncId->Bool
 Wn:FuncId->Option (List V->Option V)
 own:FuncId->Nat->Bool:=fun _ _=>false
 akV:FuncId->Bool:=fun _=>false
 frz:TypeId->Bool:=fun _=>false
 fzm:Nat->Bool:=fun _=>false
 cn:Nat->Nat:=fun d=>d
 bsm:Nat->Bool:=fun _=>false
 akY:Nat->Bool:=fun _=>true
section
variable (E:Env)
def Fr.ev (fr:Fr):Operand->V
 |.tmp t=>fr.tm t|.const v=>(ofValue v).getD (.raw v)|.global g=>match E.glob g with|some cs=>.Q5 cs 0|none=>.raw (.pointer (some ⟨g,0,none⟩))
 |.func f=>.fn (.func f) [] []
def dx (fr:Fr):Option Operand->Option V
 |none=>none|some x=>some (fr.ev E x)
def dI:V->Option Bool
 |.bool b=>some b|_=>none
def aer (t:TypeId):Option (Nat->Option (Nat×Nat)):=
 match E.P.underlying t with
 |some (.struct fs)=>if fs.toList.all (fun f=>(RI E.P f.type).isSome) then some fun i=>(fs[i]?).bind fun f=>(RI E.P f.type).map fun n=>(f.offset,n)else none
 |some (.array _ e)=>(RI E.P e).map fun n=>fun i=>some (i*n,n)
 |_=>none
def aaD (t:TypeId)(len:Nat)(parts:List (Nat×V)):Option V:=
 (UD E.P t).bind fun e=>(RI E.P e).bind fun sz=>(U8 E.P e).bind fun ag=>(T9 E.P e).bind fun z=>
 if len*sz<=2^24/\z.cells.length=sz/\0<sz/\(ag||sz==1)=true then (fM (fun i=>if i<len then some (i*sz,sz) else none) (List.replicate len z.cells).flatten parts).bind fun cs=>
    if RN cs then some (.tX .full ((chunks ag sz len cs).map er)) else none else none
def Xz (t:TypeId)(d:Option Nat):Bool:=E.frz t&& (match d with
 |some d=>E.akY (1000*t+d)|none=>true)
def bsM (d:Option Nat):Bool:=match d with
 |some d=>E.bsm d|none=>false
def jS (Y:qd)(st:Nat)(loc:Option Loc)(t:TypeId)(len:Nat)(parts:List (Nat×V)):Option (V×qd):=
 (UD E.P t).bind fun e=>(RI E.P e).bind fun sz=>(U8 E.P e).bind fun ag=>(T9 E.P e).bind fun z=>
 if len*sz<=2^24/\z.cells.length=sz/\0<sz then (fM (fun i=>if i<len then some (i*sz,sz) else none) (List.replicate len z.cells).flatten parts).bind fun cs=>
    loc.map fun loc=>(.vw loc st 0 len len sz ag,Y.setObj loc st (.cells cs))else none
def Yo (d:Option Nat):Bool:=match d with
 |some d=>E.fzm d|none=>false
def iq (Y:qd)(x:V):Option (V×qd):=match x with
 |.vw loc s off len _ aD ag=>(Y.Rq loc s).bind fun cs=>
  if off+len*aD<=cs.length/\(ag||aD==1&& RN (((cs.drop off).take (len*aD)).map aN))=true then some (.tX .sh (chunks ag aD len (((cs.drop off).take (len*aD)).map aN)),Y.bF loc) else none
 |.tX _ l=>some (.tX .sh l,Y)|v=>some (v,Y)
def aH (fr:Fr)(Y:qd)(st:Nat)(o:Oper):Option (V×qd):=
 let loc:Option Loc:=o.dst.map fun t=>(fr.d,t)
 match o.op with
 |.move x=>if Yo E o.dst=true then iq Y (fr.ev E x) else some (fr.ev E x,Y)|.assign x=>some (fr.ev E x,Y)|.pick c a b=>(dI (fr.ev E c)).map fun t=>(if t then fr.ev E a else fr.ev E b,Y)
 |.alloc t=>loc.bind fun loc=>(T9 E.P t).bind fun z=>if RN z.cells then some (.ref loc st 0,Y.setObj loc st (.cells z.cells)) else none
 |.box t x=>if Xz E t o.dst=true then (if Q9 (er (fr.ev E x))=true/\SI (fr.ev E x) then some (.Q5 (er (fr.ev E x)).cells 0,Y) else none) else loc.bind fun loc=>if RN (fr.ev E x).cells/\SI (fr.ev E x) then some (.ref loc st 0,Y.setObj loc st (.cells (fr.ev E x).cells)) else none
 |.build t parts=>(aer E t).bind fun pl=>(T9 E.P t).bind fun z=>(fM pl z.cells (parts.toList.map fun (i,x)=>(i,fr.ev E x))).map fun cs=>(.agg cs,Y)
 |.buildSlice t len parts=>if bsM E o.dst=true then jS E Y st (o.dst.map fun t=>(fr.d,E.cn t)) t len (parts.toList.map fun (i,x)=>(i,fr.ev E x)) else (aaD E t len (parts.toList.map fun (i,x)=>(i,fr.ev E x))).map fun v=>(v,Y)
 |.load t a=>match fr.ev E a with
  |.ref loc s off=>(Y.Rq loc s).bind fun cs=>(TB E.P t cs off).map fun v=>(v,Y)
  |.Q5 cs off=>(TB E.P t cs off).map fun v=>(v,Y)
  |_=>none
 |.store t a x=>match fr.ev E a with
  |.ref loc s off=>(Y.Rq loc s).bind fun cs=>
   if some (fr.ev E x).cells.length=RI E.P t/\off+(fr.ev E x).cells.length<=cs.length/\RN (fr.ev E x).cells then some (FN,Y.setObj loc s (.cells (Tf cs off (fr.ev E x).cells))) else none
  |_=>none
 |.nilCheck x=>match fr.ev E x with
  |.ref loc s off=>some (.ref loc s off,Y)|.Q5 cs off=>some (.Q5 cs off,Y)|.fn (.func f) a b=>some (.fn (.func f) a b,Y)|_=>none
 |.binOp op t x y _=>(VX E.P op t (fr.ev E x) (fr.ev E y)).map fun v=>(v,Y)
 |.unOp op _ x=>(kS op (fr.ev E x)).map fun v=>(v,Y)
 |.convert a b x=>(jR E.P Y a b (fr.ev E x)).map fun v=>(v,Y)
 |.sliceToArrayPointer t x=>(aep E.P t).bind fun (n,_)=>match fr.ev E x with
  |.vw loc s off len _ _ _=>if 0<n/\n<=len then some (.ref loc s off,Y) else none|.tX _ l=>if 0<n/\n<=l.length/\RN l=true then some (.Q5 (l.take n) 0,Y) else none|_=>none
 |.makeInterface t x=>match E.P.underlying t with
  |some (.interface _)=>none|some _=>some (.iface t (fr.ev E x),Y)|none=>none
 |.makeFunc (.func f) a b=>some (.fn (.func f) (a.toList.map (fr.ev E)) (b.toList.map (fr.ev E)),Y)|.makeMap _ none=>loc.map fun loc=>(.RA loc st,Y.setObj loc st (.map [] []))
 |.makeSlice t l c=>jo E.P fr.om Y st loc t (fr.ev E l) (fr.ev E c)|.slice t x lo hi mx=>(gM E.P Y t (fr.ev E x) (dx E fr lo) (dx E fr hi) (dx E fr mx)).map fun v=>(v,Y)
 |.fieldAddr t x f=>(WZ E.P t f).bind fun (o,_)=>match fr.ev E x with
  |.ref loc s off=>some (.ref loc s (off+o),Y)|.Q5 cs off=>some (.Q5 cs (off+o),Y)|_=>none
 |.field t x f=>(WZ E.P t f).bind fun (o,u)=>match fr.ev E x with
  |.agg cs=>(TB E.P u cs o).map fun v=>(v,Y)
  |_=>none
 |.indexAddr t x i=>(Vj E.P t (fr.ev E x) (fr.ev E i)).map fun v=>(v,Y)
 |.index t x i=>(mg E.P t (fr.ev E x) (fr.ev E i)).map fun v=>(v,Y)
 |.lookup t x i ok=>(iV E.P Y t (fr.ev E x) (fr.ev E i) ok).map fun v=>(v,Y)
 |.mapUpdate t m k v|.insert t m k v=>(fO E.P Y t (fr.ev E m) (fr.ev E k) (fr.ev E v)).map fun Y=>(FN,Y)
 |.extract x i=>match fr.ev E x with
  |.Rm vs=>(vs[i]?).map fun v=>(v,Y)
  |_=>none
 |.typeAssert x _ t ok=>(tK E.P t ok (fr.ev E x)).map fun v=>(v,Y)
 |_=>none
def fP (Y:qd)(t:TypeId)(x:V):Option Nat:=
 match E.P.underlying t,x with
 |some (.array n _),_=>some n|some (.map _ _),.RA loc s=>(Y.aW loc s).map fun (ks,_)=>ks.length
 |some (.map _ _),.RX ks _=>some ks.length|some (.map _ _),.SF=>some 0|some (.pointer a),_=>(aep E.P a).map fun (n,_)=>n
 |some (.slice _),.tX _ l=>some l.length|some (.slice _),.vw _ _ _ len _ _ _=>some len|some .string,.str s=>some s.length|_,_=>none
def eu (om:Bool)(loc:Option Loc)(Y:qd)(st:Nat)(b:Builtin)(tys:Array TypeId)(args:List V):Option (V×qd):=
 match b,args with
 |.len,[x]=>(tys[0]?).bind fun t=>(fP E Y t x).map fun n=>(.int .i64 (n:Nat),Y)
 |.cap,[x]=>(tys[0]?).bind fun t=>(UD E.P t).bind fun _=>match x with
  |.tX .nil l|.tX .full l=>some (.int .i64 l.length,Y)|_=>none
 |.append,[x,y]=>(tys[0]?).bind fun t=>((tys[1]?).bind E.P.underlying).bind fun u=>match u with
  |.int _=>bT E.P om true Y st loc t x y|.slice _|.string=>bT E.P om false Y st loc t x y|_=>none
 |.copy,[x,y]=>(tys[0]?).bind fun t=>copyV E.P Y t x y
 |.clear,[x]=>(tys[0]?).bind fun t=>ig E.P Y t x
 |.min,x::l=>(kT false x l).map fun v=>(v,Y)
 |.max,x::l=>(kT true x l).map fun v=>(v,Y)
 |_,_=>none
structure R7 where
 code:Code->Fr->qd->Option (Ex×Fr×qd)
 call:FuncId->List V->Nat->qd->Option (V×qd)
variable (S:R7)
def VY (f:FuncId)(args:List V):Option V:=
 match E.Wn f with
 |some g=>g args|none=>(S.call f args 1 qd.init).bind fun (v,Y)=>Rf 20 Y v
def fF (l:Nat)(args:List V)(Y:qd):Option (V×qd):=
 (Y.loops l).bind fun r=>
 if r.st=0/\r.ps.length=args.length then (S.code r.aF {r.fr with tm:=(r.ps.zip args).foldl (fun tm (p,a)=>upd tm p a) r.fr.tm} Y).bind fun (e,fr,Y1)=>
  match e with
  |.normal=>(Y1.loops l).bind fun r1=>
   if r1.st=0 then (S.code r.body fr (Y1.aO l {r1 with st:=1})).bind fun (e,_,Y2)=>(Y2.loops l).bind fun r2=>
    if r2.st=1 then match e with
     |.normal=>some (.bool true,Y2.aO l {r2 with st:=0,pend:=none})
     |e=>some (.bool false,Y2.aO l {r2 with st:=2,pend:=some e})else none else none
  |_=>none else none
def bG (d:Nat)(Y:qd)(fv:V)(args:List V):Option (V×qd):=
 match fv with
 |.fn (.func f) first cap=>
  if E.imp f then S.call f (first++args++cap) (d+1) Y else ((first++args++cap).mapM (Rf 20 Y)).bind fun az=>(VY E S f az).bind fun v=>
   if (first++args++cap).all (fun a=>Q9 (er a))||flat v then some (v,Y) else none
 |.fn (.yield l) [] []=>fF S l args Y|_=>none
def Vk (fr:Fr)(o:Oper)(f:Operand):Bool:=match fr.ev E f,o.dst with
 |.fn (.func g) _ _,some d=>E.own g d|_,_=>false
def nX (Y:qd)(st:Nat)(Y1:qd):V->Option (V×qd)
 |.tX c l=>if Rz l=true then (match c with
  |.nil=>some (.tX .nil l,Y)|.full=>some (.tX .full l,Y)|.own n s=>if Y1.top s=l.length then some (.tX (.own n st) l,Y.R9 st l.length) else none|.sh=>none) else none
 |.vw loc s off len _ aD _=>if off=0/\len=0 then (Y1.Rq loc s).bind fun _=>some (.tX (.own aD st) [],Y.R9 st 0) else none
 |_=>none
def iw (Y:qd)(st:Nat)(fv:V)(args:List V):Option (V×qd):=
 (fun (_:Env) (_:R7) (_:qd) (_:Nat) (_:V) (_:List V)=>none) E S Y st fv args
def opC (fr:Fr)(Y:qd)(st:Nat)(o:Oper):Option (V×Fr×qd):=
 match o.op with
 |.call c=>
  match c.callee with
  |.builtin b=>(eu E fr.om (o.dst.map fun t=>(fr.d,E.cn t)) Y st b c.argTypes (c.args.toList.map (fr.ev E))).map fun (v,Y)=>(v,fr,Y)
  |.value f=>if Vk E fr o f=true then (iw E S Y st (fr.ev E f) (c.args.toList.map (fr.ev E))).map fun (v,Y)=>(v,fr,Y) else (bG E S fr.d Y (fr.ev E f) (c.args.toList.map (fr.ev E))).map fun (v,Y)=>(v,fr,Y)
  |.invoke .. =>none
 |.defer _=>none|_=>(aH E fr Y st o).map fun (v,Y)=>(v,fr,Y)
def Sl (ops:List Oper)(fr:Fr)(o:Oper):Option Bool:=
 match o.guard with
 |none=>some true|some (j,want)=>match (ops[j]?).bind (·.dst) with
  |some t=>match fr.tm t with
   |.bool b=>some (b==want)|.raw _=>none|_=>some false
  |none=>some false
def opsE (all:List Oper):Nat->List Oper->Fr->qd->Option (Fr×qd)
 |_,[],fr,Y=>some (fr,Y)|st,o::os,fr,Y=>
  (Sl all fr o).bind fun t=>if t then (opC E S fr Y st o).bind fun (v,fr,Y)=>opsE all (st+1) os (fr.put o.dst v) Y else opsE all (st+1) os (fr.put o.dst FN) Y
inductive Key where
 |slot (t:Nat)
 |obj (l:Loc)
 |top
 |rest
 |nx
def fQ (a b:Loc):Bool:=a.2==b.2&& a.1==b.1
def Key.eq:Key->Key->Bool
 |.slot a,.slot b=>a==b|.obj a,.obj b=>fQ a b|.top,.top=>true|.rest,.rest=>true|.nx,.nx=>true|_,_=>false
def Key.state:Key->Bool
 |.obj _|.top|.nx=>true|_=>false
structure RU where
 WA:Bool
 U9:Bool
 t:List Key
 w:List Key
def bB:V->List Key
 |.ref loc _ _|.vw loc _ _ _ _ _ _|.RA loc _=>[.obj loc]|_=>[]
def iy (fr:Fr)(o:Oper):List Key:=match o.dst with
 |some t=>[.obj (fr.d,t)]|none=>[]
def UZ (t:List Key):RU:=⟨false,false,t,[]⟩
def UE (w:List Key):RU:=⟨false,false,[],w⟩
def SG:RU:=⟨true,true,[],[]⟩
def bK (fr:Fr)(o:Oper):RU:=
 match o.op with
 |.buildSlice .. =>if bsM E o.dst=true then SG else UZ []
 |.assign _|.pick .. |.build .. |.nilCheck _|.binOp .. |.unOp .. |.makeInterface .. |.typeAssert .. |.makeFunc .. |.fieldAddr .. |.field .. |.indexAddr .. |.index .. |.extract ..
 |.sliceToArrayPointer .. =>UZ []|.move x=>if Yo E o.dst=true then UE (bB (fr.ev E x)) else UZ []|.convert _ _ x|.slice _ x _ _ _|.load _ x|.lookup _ x _ _=>UZ (bB (fr.ev E x))|.alloc _|.box .. |.makeMap .. =>UE (iy fr o)|.makeSlice .. =>UE (.top::iy fr o)|.store _ a _=>UE (bB (fr.ev E a))|.mapUpdate _ m _ _|.insert _ m _ _=>UE (bB (fr.ev E m))|.call c=>match c.callee with
  |.builtin b=>match b with
   |.len|.cap|.min|.max=>UZ (c.args.toList.flatMap fun x=>bB (fr.ev E x))
   |.append=>if fr.om then SG else ⟨false,false,c.args.toList.flatMap fun x=>bB (fr.ev E x),[.top]⟩
   |_=>SG
  |.value f=>if Vk E fr o f=true then UE [.top] else match fr.ev E f with
   |.fn (.func g) a b=>if E.imp g then SG else if (a++c.args.toList.map (fr.ev E)++b).all (fun v=>Q9 (er v)) then UZ [] else ⟨true,false,[],[]⟩
   |_=>SG
  |_=>SG
 |_=>SG
def XA (ops:List Oper)(o:Oper):List Key:=
 (o.op.operands.toList.filterMap fun|.tmp t=>some (.slot t)|_=>none)++
 match o.guard with
 |some (j,_)=>match (ops[j]?).bind (·.dst) with
  |some t=>[.slot t]|none=>[]
 |none=>[]
def U0 (o:Oper):List Key:=match o.dst with
 |some t=>[.slot t]|none=>[]
def aU (ops:List Oper)(fr:Fr)(o:Oper)(wanted:Bool):RU:=
 if wanted then let f:=bK E fr o;⟨f.WA,f.U9,XA ops o++f.t,U0 o++f.w⟩else ⟨false,false,XA ops o,U0 o⟩
def clash (f g:RU):Bool:=
 (f.U9&& (g.WA||g.U9||g.t.any Key.state||g.w.any Key.state))||f.w.any fun k=>k.eq .rest||g.t.any (·.eq k)||g.w.any (·.eq k)||(g.WA||g.U9)&& k.state
def tL (f g:RU):Bool:= !clash f g&& !clash g f
def Vl (ops:List Oper):List Nat:=
 ops.foldl (fun acc o=>acc++[o.after.toList.foldl (fun s e=>if Region.binds .any e then s|||2^e.on|||acc.getD e.on 0 else s) 0]) []
def Z5 (ms:List Nat)(fs:List RU):Bool:=
 (List.range fs.length).all fun i=>(List.range i).all fun j=>(ms.getD i 0).testBit j||tL (fs.getD i SG) (fs.getD j SG)
def Vv (ops:List Oper):Bool:=
 (List.range ops.length).all fun i=>match ops[i]? with
   |some o=>o.after.toList.all fun e=>!Region.binds .any e||decide (e.on<i)
   |none=>true
def dU (all:List Oper):Nat->List Oper->Fr->qd->Option (List RU×Fr×qd)
 |_,[],fr,Y=>some ([],fr,Y)|st,o::os,fr,Y=>
  (Sl all fr o).bind fun t=>if t then (opC E S fr Y st o).bind fun (v,Rb,Y)=>(dU all (st+1) os (Rb.put o.dst v) Y).map fun (fs,r)=>(aU E all fr o true::fs,r)else (dU all (st+1) os (fr.put o.dst FN) Y).map fun (fs,r)=>(aU E all fr o false::fs,r)
def Ag (k:Key)(x y:Fr×qd):Prop:=
 match k with
 |.slot t=>x.1.tm t=y.1.tm t|.obj l=>x.2.obj l=y.2.obj l|.top=>x.2.top=y.2.top|.rest=>x.1.d=y.1.d/\x.1.om=y.1.om|.nx=>x.2.next=y.2.next/\x.2.loops=y.2.loops
def Tc (ops:List Oper)(base i:Nat)(fr:Fr)(Y:qd):Option (Fr×qd):=
 match ops[i]? with
 |none=>some (fr,Y)|some o=>
  (Sl ops fr o).bind fun t=>if t then (opC E S fr Y (base+i) o).map fun (v,fr,Y)=>(fr.put o.dst v,Y)else some (fr.put o.dst FN,Y)
def Free (ms:List Nat)(ops:List Oper)(base:Nat)(x y:Fr×qd):Prop:=
 ∃(s:Nat->Fr×qd) (T W:Nat->Key->Prop),s 0=x/\s ops.length=y/\(∀i k,W i k->T i k)/\
  (∀i,i<ops.length->∀x,(∀k,T i k->Ag k (s i) x)->∃y,Tc E S ops base i x.1 x.2=some y/\(∀k,W i k->Ag k (s (i+1)) y)/\∀k,¬W i k->Ag k x y)/\
  (∀i,i<ops.length->∀k,¬W i k->Ag k (s i) (s (i+1)))/\
  ∀i j,i<ops.length->j<i->(ms.getD i 0).testBit j=true\/((∀k,¬(W i k/\T j k))/\∀k,¬(W j k/\T i k))
noncomputable def tO {U:Type}(p:Prop)(x:Option U):Option U:= @ite _ p (Classical.propDecidable p) x none
def kU:V->Bool
 |.fn (.func _) _ _=>true|_=>false
noncomputable def RB:Code->Fr->qd->Option (Ex×Fr×qd)
 |.skip,fr,Y=>some (.normal,fr,Y)|.region _ ops dr,fr,Y=>
  if dr then (dU E S ops.toList Y.next ops.toList fr {Y with next:=Y.next+ops.toList.length}).bind fun (fs,fr',Y')=>if Vv ops.toList&& Z5 (Vl ops.toList) fs then some (.normal,fr',Y') else tO (Vv ops.toList=true/\Free E S (Vl ops.toList) ops.toList Y.next (fr,{Y with next:=Y.next+ops.toList.length}) (fr',Y')) (some (.normal,fr',Y'))else (opsE E S ops.toList Y.next ops.toList fr {Y with next:=Y.next+ops.toList.length}).map fun (fr,Y)=>(.normal,fr,Y)
 |.seq a b,fr,Y=>(RB a fr Y).bind fun (e,fr,Y)=>match e with
  |.normal=>RB b fr Y|e=>some (e,fr,Y)
 |.cond c a b,fr,Y=>(dI (fr.ev E c)).bind fun t=>if t then RB a fr Y else RB b fr Y
 |.block id c,fr,Y=>(RB c fr Y).map fun (e,fr,Y)=>match e with
  |.exit i=>if i=id then (.normal,fr,Y) else (.exit i,fr,Y)|e=>(e,fr,Y)
 |.loop c,fr,Y=>(RB c fr Y).bind fun (e,fr,Y)=>match e with
  |.normal=>S.code (.loop c) fr Y|e=>some (e,fr,Y)
 |.scope c,fr,Y=>RB c fr Y|.label _,fr,Y=>some (.normal,fr,Y)|.exit id,fr,Y=>some (.exit id,fr,Y)|.ret,fr,Y=>some (.ret,fr,Y)|.rangeFunc f ps aF body,fr,Y=>
  if kU (fr.ev E f) then (bG E S fr.d ({Y with next:=Y.next+1}.aO Y.next {st:=0,pend:=none,fr:=fr,ps:=ps.toList,aF:=aF,body:=body}) (fr.ev E f) [.fn (.yield Y.next) [] []]).bind fun (_,Y2)=>(Y2.loops Y.next).bind fun r=>
  if r.st=1 then none else some ((match r.pend with|none=>.normal|some e=>e),fr,Y2.dG Y.next)else none
 |_,_,_=>none
def TJ (fr:Fr)(Y:qd):ResultVar->Option V
 |.tmp t=>some (fr.tm t)|.cell a t=>match fr.tm a with
  |.ref loc s off=>(Y.Rq loc s).bind fun cs=>TB E.P t cs off
  |_=>none
def gN (n:Nat)(ops:List Oper):Bool:=ops.all fun o=>match o.dst with
 |some d=>d<n|none=>true
def aK (n:Nat):Code->Bool
 |.region _ ops _=>gN n ops.toList|.seq a b=>aK n a&& aK n b|.cond _ a b=>aK n a&& aK n b|.block _ c=>aK n c|.loop c=>aK n c|.scope c=>aK n c|.rangeFunc _ ps a b=>ps.toList.all (· <n)&& aK n a&& aK n b&& bq a&& bq b|_=>true
noncomputable def jT (f:FuncId)(args:List V)(d:Nat)(Y:qd):Option (V×qd):=
 (E.P.funcs[f]?).bind fun fn=>fn.body.bind fun c=>
 if args.length<=fn.ntmps/\aK fn.ntmps c then (S.code c {d:=d,om:=E.om f,tm:=fun i=>args.getD i FN} Y).bind fun (e,fr,Y)=>
 match e with
 |.normal|.ret=>
  (fn.results.toList.mapM (TJ E fr Y)).map fun vs=>(match vs with| [v]=>v|vs=>.Rm vs,Y)
 |.exit _=>none else none
noncomputable def Rh:Nat->R7
 |0=>⟨fun _ _ _=>none,fun _ _ _ _=>none⟩
 |n+1=>⟨RB E (Rh n),jT E (Rh n)⟩
end
end Aq
end
section
namespace Aq
open Go Go.RowKit
inductive Fy where
 |obj (loc:Loc)
 |own (s:Nat)
 |loop (l:Nat)
structure Ra where
 A:Nat->Prop
 blk:Nat->Nat
 sz:Nat->Nat
 ob:Nat->Nat
 lo:Nat->Nat
 hi:Nat->Nat
 lp:Nat->Nat
 I:Nat->Nat->Prop
 IM:Nat->Prop
 D:Nat->Prop
 Z:Nat->Option Fy
abbrev at_ (b o:Nat):Addr:=⟨b,o,none⟩
def fT (K:Ra)(T:Nat->Nat)(c:Cap)(n b o len cap:Nat):Prop:=
 match c with
 |.sh=>True|.full=>cap=len|.nil=>False|.own n' s=>n'=n/\K.A s/\len<=T s/\(len=T s->K.ob s=b/\K.lo s=o+len*n/\K.hi s=o+cap*n)
def nY (K:Ra)(T:Nat->Nat)(c:Cap):Prop:=
 match c with
 |.own _ s=>K.A s/\(T s=0->K.hi s=K.lo s)|_=>True
inductive Rel (K:Ra)(T:Nat->Nat)(w:World):V->Value->Prop
 |int (k:IntKind) (n:Int):Rel K T w (.int k n) (.int k n)
 |bool (b:Bool):Rel K T w (.bool b) (.bool b)
 |str (s:List UInt8) (b:ByteArray) (h:b.data.toList=s):Rel K T w (.str s) (.string b)
 |SX:Rel K T w .SX (.pointer none)
 |SQ:Rel K T w .SQ .nilFunc
 |SF:Rel K T w .SF (.map none)
 |Sw:Rel K T w .Sw .nilIface
 |agg (cs:List V) (vs:Array Value) (hl:cs.length=vs.size) (h:∀i,i<cs.length->Rel K T w (cs.getD i FN) (vs.getD i undef)):Rel K T w (.agg cs) (.agg vs)
 |Rm (cs:List V) (vs:Array Value) (hl:cs.length=vs.size) (h:∀i,i<cs.length->Rel K T w (cs.getD i FN) (vs.getD i undef)):Rel K T w (.Rm cs) (.tuple vs)
 |aX (c:Cap) (a:Option Addr) (ha:c= .nil->a=none) (hc:nY K T c):Rel K T w (.tX c []) (.slice a 0 0)
 |tX (c:Cap) (l:List V) (b o n cap:Nat) (val:Nat->Nat->Value) (hle:l.length<=cap)
   (hn:∀i,i<l.length->(l.getD i FN).cells.length=n)
   (hcell:∀i j,i<l.length->j<n->w.cell? (at_ b (o+i*n+j))=some (val i j)/\K.I b (o+i*n+j))
   (hrel:∀i j,i<l.length->j<n->Rel K T w ((l.getD i FN).cells.getD j FN) (val i j))
   (hc:fT K T c n b o l.length cap):Rel K T w (.tX c l) (.slice (some (at_ b o)) l.length cap)
 |vw (loc:Loc) (s off len cap aD:Nat) (ag:Bool) (aR:Nat) (hA:K.A s) (hc:cap<=aR) (hle:len<=cap) (hsz:off+aR*aD<=K.sz s):
   Rel K T w (.vw loc s off len cap aD ag) (.slice (some (at_ (K.blk s) off)) len aR)
 |dQ (loc:Loc) (s aD:Nat) (ag:Bool) (hA:K.A s):Rel K T w (.vw loc s 0 0 0 aD ag) (.slice none 0 0)
 |Q5 (cs:List V) (off b o:Nat) (val:Nat->Value)
   (hcell:∀j,j<cs.length->w.cell? (at_ b (o+j))=some (val j)/\K.I b (o+j))
   (hrel:∀j,j<cs.length->Rel K T w (cs.getD j FN) (val j)):Rel K T w (.Q5 cs off) (.pointer (some (at_ b (o+off))))
 |ref (loc:Loc) (s off:Nat) (hA:K.A s):Rel K T w (.ref loc s off) (.pointer (some (at_ (K.blk s) off)))
 |fn (f:FuncId) (a b:List V) (av bv:Array Value) (ha:a.length=av.size) (hb:b.length=bv.size)
   (ra:∀i,i<a.length->Rel K T w (a.getD i FN) (av.getD i undef)) (rb:∀i,i<b.length->Rel K T w (b.getD i FN) (bv.getD i undef)):
   Rel K T w (.fn (.func f) a b) (.func (.func f) av bv)
 |yield (l:Nat) (hA:K.A l):Rel K T w (.fn (.yield l) [] []) (.func (.yield (K.lp l)) #[] #[])
 |RA (loc:Loc) (s:Nat) (hA:K.A s):Rel K T w (.RA loc s) (.map (some (K.blk s)))
 |RX (ks vs:List V) (b:Nat) (es:Array MapEntry) (aG:Nat) (hM:K.IM b) (hb:w.heap[b]? =some (.map es aG))
   (hk:ks.length=es.size) (hv:vs.length=es.size)
   (rk:∀i,i<es.size->Rel K T w (ks.getD i FN) (es.getD i default).key) (rv:∀i,i<es.size->Rel K T w (vs.getD i FN) (es.getD i default).val):
   Rel K T w (.RX ks vs) (.map (some b))
 |iface (t:TypeId) (v:V) (c:Value) (h:Rel K T w v c):Rel K T w (.iface t v) (.iface t c)
 |raw (v:Value):Rel K T w (.raw v) v
structure Ext (K:Ra)(T:Nat->Nat)(w:World)(K':Ra)(T':Nat->Nat)(w':World):Prop where
 A:∀s,K.A s->K'.A s/\K'.blk s=K.blk s/\K'.lp s=K.lp s/\K'.sz s=K.sz s
 own:∀s,K.A s->(T' s=T s/\K'.ob s=K.ob s/\K'.lo s=K.lo s/\K'.hi s=K.hi s)\/T s<T' s
 I:∀b o,K.I b o->K'.I b o/\w'.cell? (at_ b o)=w.cell? (at_ b o)
 IM:∀b,K.IM b->K'.IM b/\w'.heap[b]? =w.heap[b]?
theorem Ext.refl (K:Ra)(T:Nat->Nat)(w:World):Ext K T w K T w:=
 ⟨fun _ h=>⟨h,rfl,rfl,rfl⟩,fun _ _=>.inl ⟨rfl,rfl,rfl,rfl⟩,fun _ _ h=>⟨h,rfl⟩,fun _ h=>⟨h,rfl⟩⟩
theorem Ext.trans {K T w K1 T1 w1 K2 T2 w2}(h:Ext K T w K1 T1 w1)(g:Ext K1 T1 w1 K2 T2 w2):Ext K T w K2 T2 w2 where
 A s hs:=by obtain⟨a,b,c,d⟩:=h.A s hs;obtain⟨a',b',c',d'⟩:=g.A s a;exact⟨a',b'.trans b,c'.trans c,d'.trans d⟩
 own s hs:=by
  obtain⟨a,_,_,_⟩:=h.A s hs;rcases h.own s hs with ⟨h1,h2,h3,h4⟩|h1
  .rcases g.own s a with ⟨g1,g2,g3,g4⟩|g1
   .exact .inl ⟨g1.trans h1,g2.trans h2,g3.trans h3,g4.trans h4⟩
   .exact .inr (by omega)
  .rcases g.own s a with ⟨g1,_⟩|g1
   .exact .inr (by omega)
   .exact .inr (by omega)
 I b o hb:=by obtain⟨a,e⟩:=h.I b o hb;obtain⟨a',e'⟩:=g.I b o a;exact⟨a',e'.trans e⟩
 IM b hb:=by obtain⟨a,e⟩:=h.IM b hb;obtain⟨a',e'⟩:=g.IM b a;exact⟨a',e'.trans e⟩
theorem fT.ext {K T w K' T' w'}(e:Ext K T w K' T' w'){c:Cap}{n b o len cap:Nat}(h:fT K T c n b o len cap):fT K' T' c n b o len cap:=by
 cases c with
 |sh=>trivial|full=>exact h|nil=>exact h|own n' s=>
  obtain⟨h1,h2,h3,h4⟩:=h;refine⟨h1,(e.A s h2).1,?_,?_⟩
  .rcases e.own s h2 with ⟨e1,_⟩|e1<;>omega
  .intro hl;rcases e.own s h2 with ⟨e1,e2,e3,e4⟩|e1
   .rw[e2,e3,e4];exact h4 (by omega)
   .omega
theorem nY.ext {K T w K' T' w'}(e:Ext K T w K' T' w'){c:Cap}(h:nY K T c):nY K' T' c:=by
 cases c with
 |own n' s=>
  refine⟨(e.A s h.1).1,fun h0=>?_⟩;rcases e.own s h.1 with ⟨e1,_,e3,e4⟩|e1
  .rw[e3,e4];exact h.2 (by omega)
  .omega
 |_=>trivial
theorem Rel.ext {K T w K' T' w'}(e:Ext K T w K' T' w'){v:V}{c:Value}(h:Rel K T w v c):Rel K' T' w' v c:=by
 induction h with
 |int k n=>exact .int k n|bool b=>exact .bool b|str s b h=>exact .str s b h|SX=>exact .SX|SQ=>exact .SQ|SF=>exact .SF|Sw=>exact .Sw|agg cs vs hl _ ih=>exact .agg cs vs hl ih|Rm cs vs hl _ ih=>exact .Rm cs vs hl ih|aX c a ha hc=>exact .aX c a ha (hc.ext e)|tX c l b o n cap val hle hn hcell _ hc ih=>refine .tX c l b o n cap val hle hn (fun i j hi hj=>?_) ih (hc.ext e);obtain⟨h1,h2⟩:=hcell i j hi hj;obtain⟨g1,g2⟩:=e.I _ _ h2;exact⟨g2.trans h1,g1⟩
 |vw loc s off len cap aD ag aR hA hc hle hsz=>have:=(e.A s hA);rw[<-this.2.1];exact .vw loc s off len cap aD ag aR this.1 hc hle (by rw[this.2.2.2];exact hsz)|dQ loc s aD ag hA=>exact .dQ loc s aD ag (e.A s hA).1|Q5 cs off b o val hcell _ ih=>refine .Q5 cs off b o val (fun j hj=>?_) ih;obtain⟨h1,h2⟩:=hcell j hj;obtain⟨g1,g2⟩:=e.I _ _ h2;exact⟨g2.trans h1,g1⟩
 |ref loc s off hA=>have:=(e.A s hA);rw[<-this.2.1];exact .ref loc s off this.1|fn f a b av bv ha hb _ _ iha ihb=>exact .fn f a b av bv ha hb iha ihb|yield l hA=>have:=(e.A l hA);rw[<-this.2.2.1];exact .yield l this.1|RA loc s hA=>have:=(e.A s hA);rw[<-this.2.1];exact .RA loc s this.1|RX ks vs b es aG hM hb hk hv _ _ ihk nZ=>obtain⟨g1,g2⟩:=e.IM b hM;exact .RX ks vs b es aG g1 (g2.trans hb) hk hv ihk nZ
 |iface t v c _ ih=>exact .iface t v c ih|raw v=>exact .raw v
theorem Rel.undef (K T w):Rel K T w FN undef:=.Rm [] #[] rfl (fun i hi=>absurd hi (PS i))
def Te.real:Te->Prop
 |.cells []=>False|_=>True
def mo (K:Ra)(T:Nat->Nat)(w:World)(B0 s:Nat):Te->Prop
 |.cells cs=>(cs=[]->K.sz s=0)/\(cs≠[]->B0<=K.blk s/\∃vals t,w.heap[K.blk s]? =some (.cells vals t (0,0))/\vals.size=K.sz s/\cs.length<=vals.size/\
    ∀i,i<cs.length->Rel K T w (cs.getD i FN) (vals.getD i undef))
 |.map ks vs=>B0<=K.blk s/\∃es aG,w.heap[K.blk s]? =some (.map es aG)/\ks.length=es.size/\vs.length=es.size/\
    (∀i,i<es.size->Rel K T w (ks.getD i FN) (es.getD i default).key)/\(∀i,i<es.size->Rel K T w (vs.getD i FN) (es.getD i default).val)
def bH (K:Ra)(T:Nat->Nat)(w:World)(fr:Fr)(tmps:Array Value):Prop:=∀t,Rel K T w (fr.tm t) (tmps.getD t undef)
def eB:Ex->Option Code
 |.normal=>none|.exit i=>some (.exit i)|.ret=>some .ret
def dV (n:Nat):LoopState:=if n=0 then .ready else if n=1 then .busy else .done
def og (K:Ra)(T:Nat->Nat)(w:World)(B0 l:Nat)(r:Vi):Prop:=
 B0<=K.lp l/\K.Z (K.lp l)=some (.loop l)/\∃(fn:FuncId) (tmps:Array Value) (D:Nat),
  w.heap[K.lp l]? =some (.loop {state:=dV r.st,pending:=r.pend.bind eB,fn:=fn,tmps:=tmps,params:=r.ps.toArray,assign:=r.aF,body:=r.body,defers:=D})/\
  bH K T w r.fr tmps/\aK tmps.size r.aF=true/\aK tmps.size r.body=true/\(∀p∈r.ps,p<tmps.size)/\bq r.aF=true/\bq r.body=true
def tT (K:Ra)(w:World)(B0 s:Nat):Prop:=
 B0<=K.ob s/\K.Z (K.ob s)=some (.own s)/\∀o,K.lo s<=o->o<K.hi s->¬K.I (K.ob s) o/\(∃v,w.cell? (at_ (K.ob s) o)=some v)/\w.frozen? (at_ (K.ob s) o)=false
structure au (E:Env)(B0:Nat)(Y:qd)(K:Ra)(w:World):Prop where
 obj:∀loc s ob,Y.obj loc=some (s,ob)->K.A s/\mo K Y.top w B0 s ob/\(ob.real->K.Z (K.blk s)=some (.obj loc))
 own:∀s,K.A s->K.lo s<K.hi s->tT K w B0 s
 I:∀b o,K.I b o->(∃v,w.cell? (at_ b o)=some v)/\∀loc,K.Z b≠some (.obj loc)
 IM:∀b,K.IM b->(∃es aG,w.heap[b]? =some (.map es aG))/\∀loc,K.Z b≠some (.obj loc)
 loop:∀l r,Y.loops l=some r->K.A l/\og K Y.top w B0 l r
 glob:∀g cs,E.glob g=some cs->Rel K Y.top w (.Q5 cs 0) (.pointer (some (at_ g 0)))
 rb:∀b r,K.Z b=some r->b<w.heap.size/\B0<=b
 D:∀b,K.D b->w.heap[b]? =some (.deferred (some []))
structure Only (b:Nat)(w w':World):Prop where
 os:w'.os=w.os
 tape:w'.tape=w.tape
 output:w'.output=w.output
 size:w.heap.size<=w'.heap.size
 block:∀k,k≠b->k<w.heap.size->w'.heap[k]? =w.heap[k]?
theorem Only.below {b B0:Nat}{w w':World}(h:Only b w w')(hb:B0<=b)(hB:B0<=w.heap.size):Below B0 w w':=
 ⟨h.os,h.tape,h.output,h.size,fun k hk=>h.block k (by omega) (by omega)⟩
theorem cell_of_heap {w w':World}{b o:Nat}(h:w'.heap[b]? =w.heap[b]?):w'.cell? (at_ b o)=w.cell? (at_ b o):=by simp[World.cell?,h]
theorem frozen_of_heap {w w':World}{b o:Nat}(h:w'.heap[b]? =w.heap[b]?):w'.frozen? (at_ b o)=w.frozen? (at_ b o):=by simp[World.frozen?,h]
theorem lt_of_cell {w:World}{b o:Nat}{v:Value}(h:w.cell? (at_ b o)=some v):b<w.heap.size:=World.block_lt_of_cell? w (at_ b o) h
theorem lt_of_heap {w:World}{b:Nat}{o:Obj}(h:w.heap[b]? =some o):b<w.heap.size:=(Array.getElem?_eq_some_iff.1 h).1
theorem bH.ext {K T w K' T' w'}(e:Ext K T w K' T' w'){fr:Fr}{tmps:Array Value}(h:bH K T w fr tmps):bH K' T' w' fr tmps:=fun t=>(h t).ext e
theorem mo.ext {K T w K' T' w'}(e:Ext K T w K' T' w'){B0 s:Nat}(hA:K.A s){ob:Te}(h:mo K T w B0 s ob)(hb:ob.real->w'.heap[K.blk s]? =w.heap[K.blk s]?):
 mo K' T' w' B0 s ob:=by
 obtain⟨_,e2,_,e4⟩:=e.A s hA;cases ob with
 |cells cs=>refine⟨fun h0=>by rw[e4];exact h.1 h0,fun hne=>?_⟩;obtain⟨h1,vals,t,h2,h3,h4,h5⟩:=h.2 hne;have hb':=hb (by cases cs with|nil=>exact absurd rfl hne|cons _ _=>trivial);refine⟨by rw[e2];exact h1,vals,t,by rw[e2,hb',h2],by rw[e4];exact h3,h4,fun i hi=>(h5 i hi).ext e⟩
 |map ks vs=>obtain⟨h1,es,aG,h2,h3,h4,h5,h6⟩:=h;exact⟨by rw[e2];exact h1,es,aG,by rw[e2,hb trivial,h2],h3,h4,fun i hi=>(h5 i hi).ext e,fun i hi=>(h6 i hi).ext e⟩
theorem og.ext {K T w K' T' w'}(e:Ext K T w K' T' w'){B0 l:Nat}(hA:K.A l){r:Vi}(h:og K T w B0 l r)(hb:w'.heap[K.lp l]? =w.heap[K.lp l]?)(hZ:K'.Z (K.lp l)=K.Z (K.lp l)):
 og K' T' w' B0 l r:=by
 obtain⟨_,_,e3,_⟩:=e.A l hA;obtain⟨h1,hr,fn,tmps,D,h2,h3,h4⟩:=h;exact⟨by rw[e3];exact h1,by rw[e3,hZ];exact hr,fn,tmps,D,by rw[e3,hb,h2],h3.ext e,h4⟩
theorem au.upd {E:Env}{B0 b:Nat}{Y Y':qd}{K K':Ra}{w w':World}(h:au E B0 Y K w)(ho:Only b w w')(e:Ext K Y.top w K' Y'.top w')(hZ:∀k,k≠b->K'.Z k=K.Z k)(Fz:∀r,K'.Z b=some r->b<w'.heap.size/\B0<=b)(qC:∀loc s ob,Y'.obj loc=some (s,ob)->(Y.obj loc=some (s,ob)/\(ob.real->K.blk s≠b))\/ (K'.A s/\mo K' Y'.top w' B0 s ob/\(ob.real->K'.Z (K'.blk s)=some (.obj loc))))(hown:∀s,K'.A s->K'.lo s<K'.hi s->(K.A s/\K'.lo s=K.lo s/\K'.hi s=K.hi s/\K'.ob s=K.ob s/\K.ob s≠b)\/tT K' w' B0 s)(hI:∀b' o,K'.I b' o->(K.I b' o/\b'≠b)\/(b'=b/\(∃v,w'.cell? (at_ b o)=some v)/\∀loc,K'.Z b≠some (.obj loc)))(FB:∀b',K'.IM b'->(K.IM b'/\b'≠b)\/(b'=b/\(∃es aG,w'.heap[b]? =some (.map es aG))/\∀loc,K'.Z b≠some (.obj loc)))(hloop:∀l r,Y'.loops l=some r->(Y.loops l=some r/\K.lp l≠b)\/(K'.A l/\og K' Y'.top w' B0 l r))(hD:∀b',K'.D b'->(K.D b'/\b'≠b)\/(b'=b/\w'.heap[b]? =some (.deferred (some [])))):au E B0 Y' K' w' where
 obj loc s ob hs:=by
  rcases qC loc s ob hs with ⟨h1,h2⟩|h1
  .obtain⟨a1,a2,a3⟩:=h.obj loc s ob h1;obtain⟨e1,e2,_,_⟩:=e.A s a1;refine⟨e1,a2.ext e a1 (fun hr=>ho.block _ (h2 hr) (h.rb _ _ (a3 hr)).1),fun hr=>?_⟩;rw[e2,hZ _ (h2 hr)];exact a3 hr
  .exact h1
 own s hs hlt:=by
  rcases hown s hs hlt with ⟨h1,h2,h3,h4,h5⟩|h1
  .obtain⟨a1,a2,a3⟩:=h.own s h1 (by omega);refine⟨by rw[h4];exact a1,by rw[h4,hZ _ h5];exact a2,fun o hl hh=>?_⟩;obtain⟨c1,⟨v,c2⟩,c3⟩:=a3 o (by omega) (by omega);have hb:=ho.block _ h5 (lt_of_cell c2);rw[h4];refine⟨fun hi=>?_,⟨v,by rw[cell_of_heap hb];exact c2⟩,by rw[frozen_of_heap hb];exact c3⟩;rcases hI _ _ hi with ⟨g,_⟩| ⟨g,_⟩
   .exact c1 g
   .exact h5 g
  .exact h1
 I b' o hi:=by
   rcases hI b' o hi with ⟨h1,h2⟩| ⟨h1,h2,h3⟩
   .obtain⟨⟨v,c⟩,r⟩:=h.I b' o h1;exact⟨⟨v,by rw[cell_of_heap (ho.block _ h2 (lt_of_cell c))];exact c⟩,by rw[hZ _ h2];exact r⟩
   .subst h1;exact⟨h2,h3⟩
 IM b' hi:=by
  rcases FB b' hi with ⟨h1,h2⟩| ⟨h1,h2,h3⟩
  .obtain⟨⟨es,aG,c⟩,r⟩:=h.IM b' h1;exact⟨⟨es,aG,by rw[ho.block _ h2 (lt_of_heap c)];exact c⟩,by rw[hZ _ h2];exact r⟩
  .subst h1;exact⟨h2,h3⟩
 loop l r hl:=by
  rcases hloop l r hl with ⟨h1,h2⟩|h1
  .obtain⟨a1,a2⟩:=h.loop l r h1;refine⟨(e.A l a1).1,a2.ext e a1 (ho.block _ h2 (h.rb _ _ a2.2.1).1) (hZ _ h2)⟩
  .exact h1
 glob g cs hg:=(h.glob g cs hg).ext e
 rb b' r hr:=by
  by_cases hb:b'=b
  .subst hb;exact Fz r hr
  .rw[hZ _ hb] at hr;have:=h.rb b' r hr;exact⟨PV this.1 ho.size,this.2⟩
 D b' hd:=by
   rcases hD b' hd with ⟨h1,h2⟩| ⟨h1,h2⟩
   .have:=h.D b' h1;rw[ho.block _ h2 (lt_of_heap this)];exact this
   .rw[h1];exact h2
theorem au.same {E:Env}{B0:Nat}{Y:qd}{K:Ra}{w w':World}(h:au E B0 Y K w)(hh:w'.heap=w.heap):au E B0 Y K w':=by
 have e:Ext K Y.top w K Y.top w':=⟨fun _ h=>⟨h,rfl,rfl,rfl⟩,fun _ _=>.inl ⟨rfl,rfl,rfl,rfl⟩,fun b o h=>⟨h,cell_of_heap (by rw[hh])⟩,fun b h=>⟨h,by rw[hh]⟩⟩;refine⟨fun loc s ob hs=>?_,fun s hs hl=>?_,fun b o hi=>?_,fun b hi=>?_,fun l r hl=>?_,fun g cs hg=>(h.glob g cs hg).ext e,fun b r hr=>by rw[hh];exact h.rb b r hr,fun b hb=>by rw[hh];exact h.D b hb⟩
 .obtain⟨a1,a2,a3⟩:=h.obj loc s ob hs;exact⟨a1,a2.ext e a1 (fun _=>by rw[hh]),a3⟩
 .obtain⟨a1,a2,a3⟩:=h.own s hs hl;exact⟨a1,a2,fun o p q=>⟨(a3 o p q).1,by rw[cell_of_heap (w:=w) (by rw[hh])];exact(a3 o p q).2.1,by rw[frozen_of_heap (w:=w) (by rw[hh])];exact(a3 o p q).2.2⟩⟩
 .obtain⟨a1,a2⟩:=h.I b o hi;exact⟨by rw[cell_of_heap (w:=w) (by rw[hh])];exact a1,a2⟩
 .obtain⟨a1,a2⟩:=h.IM b hi;exact⟨by rw[hh];exact a1,a2⟩
 .obtain⟨a1,a2⟩:=h.loop l r hl;exact⟨a1,a2.ext e a1 (by rw[hh]) rfl⟩
structure Step (E:Env)(B0:Nat)(new:Nat->Prop)(Y:qd)(K:Ra)(w:World)(Y':qd)(K':Ra)(w':World):Prop where
 ok:au E B0 Y' K' w'
 ext:Ext K Y.top w K' Y'.top w'
 below:Below B0 w w'
 D:∀b,K.D b->K'.D b
 A:∀s,K'.A s->K.A s\/new s
 nI:∀b o,K'.I b o->K.I b o\/B0<=b
 fU:∀b,K'.IM b->K.IM b\/B0<=b
theorem Step.refl {E B0 new Y K w}(h:au E B0 Y K w):Step E B0 new Y K w Y K w:=
 ⟨h,.refl _ _ _,.refl _ _,fun _ h=>h,fun _ h=>.inl h,fun _ _ h=>.inl h,fun _ h=>.inl h⟩
theorem Step.trans {E B0 new Y K w Y1 K1 w1 Y2 K2 w2}(h:Step E B0 new Y K w Y1 K1 w1)(g:Step E B0 new Y1 K1 w1 Y2 K2 w2):Step E B0 new Y K w Y2 K2 w2:=
 ⟨g.ok,h.ext.trans g.ext,h.below.trans g.below,fun b hb=>g.D b (h.D b hb),
   fun s hs=>(g.A s hs).elim (h.A s) .inr,fun b o hi=>(g.nI b o hi).elim (h.nI b o) .inr,fun b hi=>(g.fU b hi).elim (h.fU b) .inr⟩
theorem Step.mono {E B0 new new' Y K w Y1 K1 w1}(h:Step E B0 new Y K w Y1 K1 w1)(hn:∀s,new s->new' s):Step E B0 new' Y K w Y1 K1 w1:=
 ⟨h.ok,h.ext,h.below,h.D,fun s hs=>(h.A s hs).imp id (hn s),h.nI,h.fU⟩
theorem Step.same {E B0 new Y K w w'}(h:au E B0 Y K w)(hh:w'.heap=w.heap)(h1:w'.os=w.os)(h2:w'.tape=w.tape)(h3:w'.output=w.output):Step E B0 new Y K w Y K w':=
 ⟨h.same hh,⟨fun _ h=>⟨h,rfl,rfl,rfl⟩,fun _ _=>.inl ⟨rfl,rfl,rfl,rfl⟩,fun b o h=>⟨h,cell_of_heap (by rw[hh])⟩,fun b h=>⟨h,by rw[hh]⟩⟩,
   ⟨h1,h2,h3,by rw[hh];exact mF _,fun k _=>by rw[hh]⟩,fun b h=>h,fun _ h=>.inl h,fun _ _ h=>.inl h,fun _ h=>.inl h⟩
theorem kV (w:World)(o:Obj):Only w.heap.size w (w.alloc o):=
 ⟨rfl,rfl,rfl,by simp,fun k hk hl=>by show (w.heap.push o)[k]? =_;rw[Array.getElem?_push,if_neg hk]⟩
theorem heap_alloc_new (w:World)(o:Obj):(w.alloc o).heap[w.heap.size]? =some o:=by show (w.heap.push o)[w.heap.size]? =_;simp
theorem heap_alloc_old {w:World}{o:Obj}{k:Nat}(h:k<w.heap.size):(w.alloc o).heap[k]? =w.heap[k]? :=by show (w.heap.push o)[k]? =_;rw[Array.getElem?_push,if_neg (by omega)]
theorem qD {w:World}{o:Obj}{b i:Nat}{v:Value}(h:w.cell? (at_ b i)=some v):(w.alloc o).cell? (at_ b i)=some v:=by rw[cell_of_heap (heap_alloc_old (lt_of_cell h))];exact h
def Ra.bZ (K:Ra)(st b n:Nat)(loc:Loc):Ra:=
 {K with A:=fun s=>K.A s\/s=st,blk:=upd K.blk st b,sz:=upd K.sz st n,lo:=upd K.lo st 0,hi:=upd K.hi st 0,Z:=upd K.Z b (some (.obj loc))}
theorem upd_same {κ U:Type}[DecidableEq κ](f:κ->U)(k:κ)(v:U):upd f k v k=v:=by simp[upd]
theorem upd_ne {κ U:Type}[DecidableEq κ](f:κ->U){k j:κ}(v:U)(h:j≠k):upd f k v j=f j:=by simp[upd,h]
theorem Step.qE {E B0 Y K w}(h:au E B0 Y K w)(hB:B0<=w.heap.size){st:Nat}(hst:¬K.A st)(loc:Loc)(ob:Te)(o:Obj)(n:Nat)(bU:∀K',Ext K Y.top w K' Y.top (w.alloc o)->K'.A st->K'.blk st=w.heap.size->K'.sz st=n->mo K' Y.top (w.alloc o) B0 st ob):
 Step E B0 (· =st) Y K w (Y.setObj loc st ob) (K.bZ st w.heap.size n loc) (w.alloc o):=by
 have hne:∀s,K.A s->s≠st:=fun s hs e=>hst (e▸hs);have e:Ext K Y.top w (K.bZ st w.heap.size n loc) Y.top (w.alloc o):=by
  refine⟨fun s hs=>⟨.inl hs,upd_ne _ _ (hne s hs),rfl,upd_ne _ _ (hne s hs)⟩,fun s hs=>.inl ⟨rfl,rfl,upd_ne _ _ (hne s hs),upd_ne _ _ (hne s hs)⟩,fun b i hi=>⟨hi,?_⟩,fun b hb=>⟨hb,?_⟩⟩
  .obtain⟨⟨v,hv⟩,_⟩:=h.I b i hi;rw[hv];exact qD hv
  .obtain⟨⟨es,aG,hv⟩,_⟩:=h.IM b hb;exact heap_alloc_old (lt_of_heap hv)
 refine⟨?_,e,(kV w o).below hB hB,fun b hb=>hb,fun s hs=>hs,fun _ _ hi=>.inl hi,fun _ hi=>.inl hi⟩;refine h.upd (Y':=Y.setObj loc st ob) (kV w o) e (fun k hk=>upd_ne _ _ hk) (fun r _=>⟨by simp,hB⟩) ?_ ?_ ?_ ?_ ?_ ?_
 .intro loc' s' mq hs;by_cases hl:loc'=loc
  .subst hl;right;simp only[qd.setObj,upd_same,iE,iR] at hs;obtain⟨rfl,rfl⟩:=hs;exact⟨.inr rfl,bU _ e (.inr rfl) (upd_same _ _ _) (upd_same _ _ _),fun _=>by show upd K.Z w.heap.size _ (upd K.blk st w.heap.size st)=_;rw[upd_same,upd_same]⟩
  .left;simp only[qd.setObj,upd_ne _ _ hl] at hs;refine⟨hs,fun hr=>?_⟩;have:=(h.rb _ _ ((h.obj _ _ _ hs).2.2 hr)).1;omega
 .intro s hs hlt;left;have hs':s≠st:=by rintro rfl;simp only[Ra.bZ,upd_same] at hlt;omega
  have hA:K.A s:=hs.resolve_right hs';simp only[Ra.bZ,upd_ne _ _ hs'] at hlt;refine⟨hA,upd_ne _ _ hs',upd_ne _ _ hs',rfl,?_⟩;have:=(h.rb _ _ (h.own s hA hlt).2.1).1;omega
 .intro b' i hi;obtain⟨⟨v,hv⟩,_⟩:=h.I b' i hi;exact .inl ⟨hi,Qh (lt_of_cell hv)⟩
 .intro b' hi;obtain⟨⟨es,aG,hv⟩,_⟩:=h.IM b' hi;exact .inl ⟨hi,Qh (lt_of_heap hv)⟩
 .intro l r hl;refine .inl ⟨hl,?_⟩;have:=(h.rb _ _ (h.loop l r hl).2.2.1).1;omega
 .intro b' hd;exact .inl ⟨hd,Qh (lt_of_heap (h.D b' hd))⟩
theorem eD {w:World}{a b:Nat}{x y:Obj}(h:w.heap[a]? =some x)(g:w.heap[b]? =some y)(hxy:x≠y):a≠b:=by rintro rfl;exact hxy (P9 (h.symm.trans g))
theorem au.Rq {E B0 Y K w}(h:au E B0 Y K w){loc s cs}(hc:Y.Rq loc s=some cs):Y.obj loc=some (s,.cells cs)/\K.A s/\cs.length<=K.sz s\/cs=[]/\Y.obj loc=some (s,.cells cs)/\K.A s:=by
 unfold qd.Rq at hc;split at hc
 .rename_i s' cs' ho;split at hc
  .rename_i hs;subst hs;simp only[iE] at hc;subst hc;obtain⟨a1,a2,a3⟩:=h.obj _ _ _ ho;by_cases hne:cs'=[]
   .exact .inr ⟨hne,ho,a1⟩
   .obtain⟨_,vals,t,g1,g2,g3,g4⟩:=a2.2 hne;exact .inl ⟨ho,a1,by omega⟩
  .simp at hc
 .simp at hc
theorem au.jU {E B0 Y K w}(h:au E B0 Y K w){loc s cs}(hc:Y.Rq loc s=some cs):Y.obj loc=some (s,.cells cs)/\K.A s/\cs.length<=K.sz s:=by
 rcases h.Rq hc with h| ⟨rfl,h1,h2⟩
 .exact h
 .exact⟨h1,h2,by simp⟩
theorem au.yT {E B0 Y K w}(h:au E B0 Y K w){l r}(hl:Y.loops l=some r){b:Nat}{vals t f}(hb:w.heap[b]? =some (.cells vals t f)):K.lp l≠b:=by obtain⟨_,_,_,fn,tmps,D,hh,_⟩:=h.loop l r hl;exact eD hh hb (by simp)
theorem au.tV {E B0 Y K w}(h:au E B0 Y K w){loc s ob loc' s' mq}(h1:Y.obj loc=some (s,ob))(h2:Y.obj loc'=some (s',mq))(hne:loc≠loc')(hr:ob.real)(hr':mq.real):
 K.blk s≠K.blk s':=by
 intro e;have a:=(h.obj _ _ _ h1).2.2 hr;have b:=(h.obj _ _ _ h2).2.2 hr';rw[e,b] at a;exact hne (by injection a with a;injection a with a;exact a.symm)
theorem au.tY {E B0 Y K w w'}(h:au E B0 Y K w){loc s ob}(hs:Y.obj loc=some (s,ob))(hr:ob.real)(ho:Only (K.blk s) w w')(T':Nat->Nat)(hT:T'=Y.top):Ext K Y.top w K T' w':=by
 subst hT;have hZ:=(h.obj _ _ _ hs).2.2 hr;refine⟨fun _ h=>⟨h,rfl,rfl,rfl⟩,fun _ _=>.inl ⟨rfl,rfl,rfl,rfl⟩,fun b i hi=>⟨hi,?_⟩,fun b hb=>⟨hb,?_⟩⟩
 .obtain⟨⟨v,hv⟩,hn⟩:=h.I b i hi;exact cell_of_heap (ho.block b (fun e=>hn loc (e▸hZ)) (lt_of_cell hv))
 .obtain⟨⟨es,aG,hv⟩,hn⟩:=h.IM b hb;exact ho.block b (fun e=>hn loc (e▸hZ)) (lt_of_heap hv)
theorem Step.setCells {E B0 new Y K w w'}(h:au E B0 Y K w)(hB:B0<=w.heap.size){loc:Loc}{s:Nat}{cs cs':List V}{vals vals':Array Value}{t t':TypeId}(hs:Y.obj loc=some (s,.cells cs))(hne:cs≠[])(hv:w.heap[K.blk s]? =some (.cells vals t (0,0)))(ho:Only (K.blk s) w w')(hv':w'.heap[K.blk s]? =some (.cells vals' t' (0,0)))(hsz:vals'.size=vals.size)(hne':cs'≠[])(hl:cs'.length<=vals'.size)(hr:Ext K Y.top w K Y.top w'->∀i,i<cs'.length->Rel K Y.top w' (cs'.getD i FN) (vals'.getD i undef)):
 Step E B0 new Y K w (Y.setObj loc s (.cells cs')) K w':=by
 have cu:(Te.cells cs).real:=by cases cs with|nil=>exact absurd rfl hne|cons _ _=>trivial
 obtain⟨hA,bU,hZ⟩:=h.obj _ _ _ hs;obtain⟨hb0,yU,t0,g1,g2,g3,g4⟩:=bU.2 hne;have hvv:vals=yU:=by rw[hv] at g1;simpa using And.left (by simpa using g1)
 have e:=h.tY hs cu ho Y.top rfl;refine⟨?_,e,ho.below hb0 hB,fun _ h=>h,fun _ h=>.inl h,fun _ _ h=>.inl h,fun _ h=>.inl h⟩;refine h.upd (Y':=Y.setObj loc s (.cells cs')) ho e (fun _ _=>rfl) (fun r hr'=>⟨PV (h.rb _ r hr').1 ho.size,hb0⟩) ?_ ?_ ?_ ?_ ?_ ?_
 .intro loc' s' mq hs';by_cases hl':loc'=loc
  .subst hl';right;simp only[qd.setObj,upd_same,iE,iR] at hs';obtain⟨rfl,rfl⟩:=hs';exact⟨hA,⟨fun h0=>absurd h0 hne',fun _=>⟨hb0,vals',t',hv',by rw[hsz,hvv,g2],hl,hr e⟩⟩,fun _=>hZ cu⟩
  .left;simp only[qd.setObj,upd_ne _ _ hl'] at hs';exact⟨hs',fun hr'=>h.tV hs' hs hl' hr' cu⟩
 .intro s' hs' hlt;have ⟨a1,a2,a3⟩:=h.own s' hs' hlt;refine .inl ⟨hs',rfl,rfl,rfl,fun e'=>?_⟩;rw[e',hZ cu] at a2;cases a2
 .intro b' i hi;exact .inl ⟨hi,fun e'=>(h.I b' i hi).2 loc (e'▸hZ cu)⟩
 .intro b' hi;exact .inl ⟨hi,fun e'=>(h.IM b' hi).2 loc (e'▸hZ cu)⟩
 .intro l r hl';exact .inl ⟨hl',h.yT hl' hv⟩
 .intro b' hd;exact .inl ⟨hd,eD (h.D b' hd) hv (by simp)⟩
def Ra.abR (K:Ra)(b n:Nat):Ra:={K with I:=fun b' o=>K.I b' o\/(b'=b/\o<n)}
theorem au.yV {E B0 Y K w}(h:au E B0 Y K w):K.Z w.heap.size=none:=by
 cases hr:K.Z w.heap.size with
 |none=>rfl|some r=>have:=(h.rb _ _ hr).1;omega
theorem oh {w:World}{vals:Array Value}{t:TypeId}{fz:Nat×Nat}{i:Nat}(hi:i<vals.size):(w.alloc (.cells vals t fz)).cell? (at_ w.heap.size i)=some (vals.getD i undef):=by
 have hh:(w.alloc (.cells vals t fz)).heap[w.heap.size]? =some (.cells vals t fz):=heap_alloc_new w _;unfold World.cell?;simp only[hh];simp[hi]
theorem Step.FC {E B0 new Y K w w'}(h:au E B0 Y K w)(hB:B0<=w.heap.size)(ho:Only w.heap.size w w'){vals:Array Value}{t:TypeId}{fz:Nat×Nat}(hh:w'.heap[w.heap.size]? =some (.cells vals t fz)):Step E B0 new Y K w Y (K.abR w.heap.size vals.size) w':=by
 have hcn:∀i,i<vals.size->w'.cell? (at_ w.heap.size i)=some (vals.getD i undef):=fun i hi=>by simp[World.cell?,hh,hi]
 have e:Ext K Y.top w (K.abR w.heap.size vals.size) Y.top w':=by
  refine⟨fun _ h=>⟨h,rfl,rfl,rfl⟩,fun _ _=>.inl ⟨rfl,rfl,rfl,rfl⟩,fun b i hi=>⟨.inl hi,?_⟩,fun b hb=>⟨hb,?_⟩⟩
  .obtain⟨⟨v,hv⟩,_⟩:=h.I b i hi;exact cell_of_heap (ho.block b (Qh (lt_of_cell hv)) (lt_of_cell hv))
  .obtain⟨⟨es,aG,hv⟩,_⟩:=h.IM b hb;exact ho.block b (Qh (lt_of_heap hv)) (lt_of_heap hv)
 refine⟨?_,e,ho.below hB hB,fun b hb=>hb,fun _ h=>.inl h,fun b o hi=>?_,fun _ h=>.inl h⟩
 .refine h.upd ho e (fun _ _=>rfl) (fun r hr=>?_) ?_ ?_ ?_ ?_ ?_ ?_
  .have:=h.yV;exact absurd (hr.symm.trans this) (by simp)
  .intro loc s ob hs;exact .inl ⟨hs,fun hr=>by have:=(h.rb _ _ ((h.obj _ _ _ hs).2.2 hr)).1;omega⟩
  .intro s hs hlt;exact .inl ⟨hs,rfl,rfl,rfl,by have:=(h.rb _ _ (h.own s hs hlt).2.1).1;omega⟩
  .intro b' i hi;rcases hi with hi| ⟨rfl,hi⟩
   .obtain⟨⟨v,hv⟩,_⟩:=h.I b' i hi;exact .inl ⟨hi,Qh (lt_of_cell hv)⟩
   .exact .inr ⟨rfl,⟨_,hcn _ hi⟩,fun loc hr=>absurd (hr.symm.trans h.yV) (by simp)⟩
  .intro b' hi;obtain⟨⟨es,aG,hv⟩,_⟩:=h.IM b' hi;exact .inl ⟨hi,Qh (lt_of_heap hv)⟩
  .intro l r hl;exact .inl ⟨hl,by have:=(h.rb _ _ (h.loop l r hl).2.2.1).1;omega⟩
  .intro b' hd;exact .inl ⟨hd,Qh (lt_of_heap (h.D b' hd))⟩
 .rcases hi with hi| ⟨rfl,_⟩
  .exact .inl hi
  .exact .inr hB
theorem Step.yX {E B0 new Y K w}(h:au E B0 Y K w)(hB:B0<=w.heap.size)(vals:Array Value)(t:TypeId)(fz:Nat×Nat):
 Step E B0 new Y K w Y (K.abR w.heap.size vals.size) (w.alloc (.cells vals t fz)):=
 Step.FC h hB (kV w _) (heap_alloc_new w _)
def Ra.jV (K:Ra)(s b lo hi:Nat):Ra:=
 {K with A:=fun x=>K.A x\/x=s,ob:=upd K.ob s b,lo:=upd K.lo s lo,hi:=upd K.hi s hi,I:=fun b' o=>K.I b' o\/(b'=b/\o<lo),Z:=upd K.Z b (some (.own s))}
theorem Step.FD {E B0 Y K w}(h:au E B0 Y K w)(hB:B0<=w.heap.size)(s T':Nat)(hs:¬K.A s\/Y.top s<T')(vals:Array Value)(t:TypeId)(lo:Nat)(hlo:lo<=vals.size):
 Step E B0 (· =s) Y K w (Y.R9 s T') (K.jV s w.heap.size lo vals.size) (w.alloc (.cells vals t)):=by
 have e:Ext K Y.top w (K.jV s w.heap.size lo vals.size) (Y.R9 s T').top (w.alloc (.cells vals t)):=by
  refine⟨fun _ h=>⟨.inl h,rfl,rfl,rfl⟩,fun x hx=>?_,fun b i hi=>⟨.inl hi,?_⟩,fun b hb=>⟨hb,?_⟩⟩
  .by_cases hxs:x=s
   .subst hxs;right;show _<upd Y.top x T' x;rw[upd_same];exact hs.resolve_left (fun hn=>hn hx)
   .exact .inl ⟨upd_ne _ _ hxs,upd_ne _ _ hxs,upd_ne _ _ hxs,upd_ne _ _ hxs⟩
  .obtain⟨⟨v,hv⟩,_⟩:=h.I b i hi;rw[hv];exact qD hv
  .obtain⟨⟨es,aG,hv⟩,_⟩:=h.IM b hb;exact heap_alloc_old (lt_of_heap hv)
 refine⟨?_,e,(kV w _).below hB hB,fun b hb=>hb,fun _ h=>h,fun b o hi=>?_,fun _ h=>.inl h⟩
 .refine h.upd (Y':=Y.R9 s T') (kV w _) e (fun k hk=>upd_ne _ _ hk) (fun r _=>⟨by simp,hB⟩) ?_ ?_ ?_ ?_ ?_ ?_
  .intro loc s ob hs;exact .inl ⟨hs,fun hr=>by have:=(h.rb _ _ ((h.obj _ _ _ hs).2.2 hr)).1;omega⟩
  .intro x hx hlt;by_cases hxs:x=s
   .subst hxs;right;have q1:(K.jV x w.heap.size lo vals.size).ob x=w.heap.size:=upd_same _ _ _;have q2:(K.jV x w.heap.size lo vals.size).lo x=lo:=upd_same _ _ _;have q3:(K.jV x w.heap.size lo vals.size).hi x=vals.size:=upd_same _ _ _;refine⟨by rw[q1];exact hB,by rw[q1];exact upd_same _ _ _,fun o hl hh=>?_⟩;rw[q2] at hl;rw[q3] at hh;rw[q1];refine⟨?_,⟨_,oh hh⟩,?_⟩
    .rintro (hi| ⟨_,hi⟩)
     .obtain⟨⟨v,hv⟩,_⟩:=h.I _ o hi;have:=lt_of_cell hv;omega
     .omega
    .have hh':(w.alloc (.cells vals t)).heap[w.heap.size]? =some (.cells vals t):=heap_alloc_new w _;unfold World.frozen?;simp only[hh'];simp
   .left;have hA:K.A x:=hx.resolve_right hxs;simp only[Ra.jV,upd_ne _ _ hxs] at hlt;refine⟨hA,upd_ne _ _ hxs,upd_ne _ _ hxs,upd_ne _ _ hxs,?_⟩;have:=(h.rb _ _ (h.own x hA hlt).2.1).1;omega
  .intro b' i hi;rcases hi with hi| ⟨rfl,hi⟩
   .obtain⟨⟨v,hv⟩,_⟩:=h.I b' i hi;exact .inl ⟨hi,Qh (lt_of_cell hv)⟩
   .refine .inr ⟨rfl,⟨_,oh (by omega)⟩,fun loc hr=>?_⟩;simp only[Ra.jV,upd_same] at hr;cases hr
  .intro b' hi;obtain⟨⟨es,aG,hv⟩,_⟩:=h.IM b' hi;exact .inl ⟨hi,Qh (lt_of_heap hv)⟩
  .intro l r hl;exact .inl ⟨hl,by have:=(h.rb _ _ (h.loop l r hl).2.2.1).1;omega⟩
  .intro b' hd;exact .inl ⟨hd,Qh (lt_of_heap (h.D b' hd))⟩
 .rcases hi with hi| ⟨rfl,_⟩
  .exact .inl hi
  .exact .inr hB
def Ra.kW (K:Ra)(s n:Nat):Ra:=
 {K with lo:=upd K.lo s (K.lo s+n),I:=fun b' o=>K.I b' o\/(b'=K.ob s/\K.lo s<=o/\o<K.lo s+n)}
theorem Step.kW {E B0 new Y K w w'}(h:au E B0 Y K w)(hB:B0<=w.heap.size){s n T':Nat}(hs:K.A s)(hT:Y.top s<T')(hn:0<n)(hroom:K.lo s+n<=K.hi s)(ho:Only (K.ob s) w w')(hnew:∀o,K.lo s<=o->o<K.lo s+n->∃v,w'.cell? (at_ (K.ob s) o)=some v)(hold:∀o,o<K.lo s\/K.lo s+n<=o->w'.cell? (at_ (K.ob s) o)=w.cell? (at_ (K.ob s) o))(hfz:∀o,w'.frozen? (at_ (K.ob s) o)=w.frozen? (at_ (K.ob s) o)):
 Step E B0 new Y K w (Y.R9 s T') (K.kW s n) w':=by
 obtain⟨o1,o2,o3⟩:=h.own s hs (by omega);have tZ:=(o3 (K.lo s) (mF _) (by omega)).2.1;have yY:∀o,K.I (K.ob s) o->o<K.lo s\/K.lo s+n<=o:=fun o hi=>by
  rcases Nat.lt_or_ge o (K.lo s) with h1|h1
  .exact .inl h1
  .rcases Nat.lt_or_ge o (K.hi s) with h2|h2
   .exact absurd hi (o3 o h1 h2).1
   .exact .inr (by omega)
 have e:Ext K Y.top w (K.kW s n) (Y.R9 s T').top w':=by
  refine⟨fun _ h=>⟨h,rfl,rfl,rfl⟩,fun x hx=>?_,fun b i hi=>⟨.inl hi,?_⟩,fun b hb=>⟨hb,?_⟩⟩
  .by_cases hxs:x=s
   .subst hxs;right;show _<upd Y.top x T' x;rw[upd_same];exact hT
   .exact .inl ⟨upd_ne _ _ hxs,rfl,upd_ne _ _ hxs,rfl⟩
  .by_cases hb:b=K.ob s
   .subst hb;exact hold i (yY i hi)
   .obtain⟨⟨v,hv⟩,_⟩:=h.I b i hi;exact cell_of_heap (ho.block b hb (lt_of_cell hv))
  .obtain⟨⟨es,aG,hv⟩,_⟩:=h.IM b hb;refine ho.block b ?_ (lt_of_heap hv);rintro rfl;obtain⟨v,hc⟩:=tZ;simp[World.cell?,hv] at hc
 refine⟨?_,e,ho.below o1 hB,fun b hb=>hb,fun _ h=>.inl h,fun b o hi=>?_,fun _ h=>.inl h⟩
 .refine h.upd (Y':=Y.R9 s T') ho e (fun k _=>rfl) (fun r hr=>⟨PV (h.rb _ r hr).1 ho.size,o1⟩) ?_ ?_ ?_ ?_ ?_ ?_
  .intro loc x ob hx;refine .inl ⟨hx,fun hr e'=>?_⟩;have a:=(h.obj _ _ _ hx).2.2 hr;rw[e',o2] at a;cases a
  .intro x hx hlt;by_cases hxs:x=s
   .subst hxs;right;simp only[tT,Ra.kW,upd_same] at hlt⊢;refine⟨o1,o2,fun o hl hh=>⟨?_,?_,?_⟩⟩
    .rintro (hi| ⟨_,_,hi⟩)
     .exact(o3 o (by omega) hh).1 hi
     .omega
    .rw[hold o (.inr hl)];exact(o3 o (by omega) hh).2.1
    .rw[hfz o];exact(o3 o (by omega) hh).2.2
   .left;simp only[Ra.kW,upd_ne _ _ hxs] at hlt;refine⟨hx,upd_ne _ _ hxs,rfl,rfl,fun e'=>?_⟩;have a:=(h.own x hx hlt).2.1;rw[e',o2] at a;injection a with a
    injection a with a
    exact hxs a.symm
  .intro b' i hi;rcases hi with hi| ⟨rfl,hi1,hi2⟩
   .by_cases hb:b'=K.ob s
    .subst hb;obtain⟨⟨v,hv⟩,hr⟩:=h.I _ i hi;exact .inr ⟨rfl,⟨v,by rw[hold i (yY i hi)];exact hv⟩,hr⟩
    .exact .inl ⟨hi,hb⟩
   .exact .inr ⟨rfl,hnew i hi1 hi2,fun loc hr=>by have:K.Z (K.ob s)=some (.obj loc):=hr;rw[o2] at this;cases this⟩
  .intro b' hi;obtain⟨⟨es,aG,hv⟩,_⟩:=h.IM b' hi;refine .inl ⟨hi,?_⟩;rintro rfl;obtain⟨v,hc⟩:=tZ;simp[World.cell?,hv] at hc
  .intro l r hl;refine .inl ⟨hl,fun e'=>?_⟩;have a:=(h.loop l r hl).2.2.1;rw[e',o2] at a;cases a
  .intro b' hd;refine .inl ⟨hd,?_⟩;rintro rfl;obtain⟨v,hc⟩:=tZ;simp[World.cell?,h.D _ hd] at hc
 .rcases hi with hi| ⟨rfl,_⟩
  .exact .inl hi
  .exact .inr o1
theorem Step.FE {E B0 Y K w w'}(h:au E B0 Y K w)(hB:B0<=w.heap.size){bJ loc:Loc}{s0 st:Nat}{cs0 cs:List V}{vals vals':Array Value}{t:TypeId}(hst:¬K.A st)(hs:Y.obj bJ=some (s0,.cells cs0))(hne:cs0≠[])(hv:w.heap[K.blk s0]? =some (.cells vals t (0,0)))(ho:Only (K.blk s0) w w')(hv':w'.heap[K.blk s0]? =some (.cells vals' t (0,0)))(hne':cs≠[])(hl:cs.length<=vals'.size)(hr:∀K',Ext K Y.top w K' Y.top w'->∀i,i<cs.length->Rel K' Y.top w' (cs.getD i FN) (vals'.getD i undef)):
 Step E B0 (· =st) Y K w ((Y.bF bJ).setObj loc st (.cells cs)) (K.bZ st (K.blk s0) vals'.size loc) w':=by
 have cu:(Te.cells cs0).real:=by cases cs0 with|nil=>exact absurd rfl hne|cons _ _=>trivial
 obtain⟨hA,bU,hZ⟩:=h.obj _ _ _ hs;obtain⟨hb0,yU,t0,g1,g2,g3,g4⟩:=bU.2 hne;have qF:∀s,K.A s->s≠st:=fun s hs e=>hst (e▸hs);have e0:=h.tY hs cu ho Y.top rfl;have e:Ext K Y.top w (K.bZ st (K.blk s0) vals'.size loc) Y.top w':=
  ⟨fun s hs=>⟨.inl hs,upd_ne _ _ (qF s hs),rfl,upd_ne _ _ (qF s hs)⟩,fun s hs=>.inl ⟨rfl,rfl,upd_ne _ _ (qF s hs),upd_ne _ _ (qF s hs)⟩,e0.I,e0.IM⟩
 refine⟨?_,e,ho.below hb0 hB,fun _ h=>h,fun _ h=>h,fun _ _ h=>.inl h,fun _ h=>.inl h⟩;refine h.upd (Y':=(Y.bF bJ).setObj loc st (.cells cs)) ho e (fun k hk=>upd_ne _ _ hk) (fun r _=>⟨PV (lt_of_heap hv) ho.size,hb0⟩) ?_ ?_ ?_ ?_ ?_ ?_
 .intro loc' s' mq hs';by_cases hl':loc'=loc
  .subst hl';right;simp only[qd.setObj,upd_same,iE,iR] at hs';obtain⟨rfl,rfl⟩:=hs';refine⟨.inr rfl,⟨fun h0=>absurd h0 hne',fun _=>⟨?_,vals',t,?_,?_,hl,hr _ e⟩⟩,fun _=>?_⟩
   .show B0<=upd K.blk st (K.blk s0) st;rw[upd_same];exact hb0
   .show w'.heap[upd K.blk st (K.blk s0) st]? =_;rw[upd_same];exact hv'
   .show _=upd K.sz st _ st;rw[upd_same]
   .show upd K.Z (K.blk s0) _ (upd K.blk st (K.blk s0) st)=_;rw[upd_same,upd_same]
  .left;simp only[qd.setObj,qd.bF,upd_ne _ _ hl'] at hs';by_cases hl0:loc'=bJ
   .subst hl0;rw[upd_same] at hs';cases hs'
   .rw[upd_ne _ _ hl0] at hs';exact⟨hs',fun hr'=>h.tV hs' hs hl0 hr' cu⟩
 .intro s' hs' hlt;have qG:s'≠st:=by rintro rfl;simp only[Ra.bZ,upd_same] at hlt;omega
  have hA':K.A s':=hs'.resolve_right qG;simp only[Ra.bZ,upd_ne _ _ qG] at hlt;have ⟨a1,a2,a3⟩:=h.own s' hA' hlt;refine .inl ⟨hA',upd_ne _ _ qG,upd_ne _ _ qG,rfl,fun e'=>?_⟩;rw[e',hZ cu] at a2;cases a2
 .intro b' i hi;exact .inl ⟨hi,fun e'=>(h.I b' i hi).2 bJ (e'▸hZ cu)⟩
 .intro b' hi;exact .inl ⟨hi,fun e'=>(h.IM b' hi).2 bJ (e'▸hZ cu)⟩
 .intro l r hl';exact .inl ⟨hl',h.yT hl' hv⟩
 .intro b' hd;exact .inl ⟨hd,eD (h.D b' hd) hv (by simp)⟩
theorem Step.yZ {E B0 new Y K w w'}(h:au E B0 Y K w)(hB:B0<=w.heap.size){loc:Loc}{s:Nat}{ks vs ks' vs':List V}{es es':Array MapEntry}{aG qH:Nat}(hs:Y.obj loc=some (s,.map ks vs))(hv:w.heap[K.blk s]? =some (.map es aG))(ho:Only (K.blk s) w w')(hv':w'.heap[K.blk s]? =some (.map es' qH))(hk:ks'.length=es'.size)(hvl:vs'.length=es'.size)(hr:Ext K Y.top w K Y.top w'->(∀i,i<es'.size->Rel K Y.top w' (ks'.getD i FN) (es'.getD i default).key)/\(∀i,i<es'.size->Rel K Y.top w' (vs'.getD i FN) (es'.getD i default).val)):
 Step E B0 new Y K w (Y.setObj loc s (.map ks' vs')) K w':=by
 have cu:(Te.map ks vs).real:=trivial;obtain⟨hA,bU,hZ⟩:=h.obj _ _ _ hs;obtain⟨hb0,_⟩:=bU;have e:=h.tY hs cu ho Y.top rfl;refine⟨?_,e,ho.below hb0 hB,fun _ h=>h,fun _ h=>.inl h,fun _ _ h=>.inl h,fun _ h=>.inl h⟩;refine h.upd (Y':=Y.setObj loc s (.map ks' vs')) ho e (fun _ _=>rfl) (fun r hr'=>⟨PV (h.rb _ r hr').1 ho.size,hb0⟩) ?_ ?_ ?_ ?_ ?_ ?_
 .intro loc' s' mq hs';by_cases hl':loc'=loc
  .subst hl';right;simp only[qd.setObj,upd_same,iE,iR] at hs';obtain⟨rfl,rfl⟩:=hs';exact⟨hA,⟨hb0,es',qH,hv',hk,hvl,hr e⟩,fun _=>hZ cu⟩
  .left;simp only[qd.setObj,upd_ne _ _ hl'] at hs';exact⟨hs',fun hr'=>h.tV hs' hs hl' hr' cu⟩
 .intro s' hs' hlt;have ⟨a1,a2,a3⟩:=h.own s' hs' hlt;refine .inl ⟨hs',rfl,rfl,rfl,fun e'=>?_⟩;rw[e',hZ cu] at a2;cases a2
 .intro b' i hi;exact .inl ⟨hi,fun e'=>(h.I b' i hi).2 loc (e'▸hZ cu)⟩
 .intro b' hi;exact .inl ⟨hi,fun e'=>(h.IM b' hi).2 loc (e'▸hZ cu)⟩
 .intro l r hl';obtain⟨_,_,_,fn,tmps,D,hh,_⟩:=h.loop l r hl';exact .inl ⟨hl',eD hh hv (by simp)⟩
 .intro b' hd;exact .inl ⟨hd,eD (h.D b' hd) hv (by simp)⟩
theorem y5 {K T w}{v:Value}{z:V}(h:bP v=some z):Rel K T w z v:=by
 cases v with
 |bool b=>simp only[bP,iE] at h;subst h;exact .bool b|int k n=>simp only[bP,iE] at h;subst h;exact .int k n|string s=>simp only[bP,iE] at h;subst h;exact .str _ s rfl|pointer a=>
  cases a with
  |none=>simp only[bP,iE] at h;subst h;exact .SX|some a=>simp[bP] at h
 |slice a n c=>
  cases a with
  |none=>
   cases n with
   |zero=>
    cases c with
    |zero=>simp only[bP,iE] at h;subst h;exact .aX .nil none (fun _=>rfl) trivial
    |succ c=>simp[bP] at h
   |succ n=>simp[bP] at h
  |some a=>simp[bP] at h
 |map r=>
  cases r with
  |none=>simp only[bP,iE] at h;subst h;exact .SF|some a=>simp[bP] at h
 |nilFunc=>simp only[bP,iE] at h;subst h;exact .SQ|nilIface=>simp only[bP,iE] at h;subst h;exact .Sw|_=>simp[bP] at h
theorem FH {v:Value}{z:V}(h:bP v=some z):SI z=true:=by
 cases z with
 |raw x=>cases v with
  |slice a n c=>cases a<;>cases n<;>cases c<;>simp[bP] at h|pointer a=>cases a<;>simp[bP] at h|map a=>cases a<;>simp[bP] at h|_=>simp[bP] at h
 |_=>rfl
theorem FJ {v:Value}{z:V}(h:ofValue v=some z):SI z=true:=by
 cases v with
 |agg cs=>simp only[ofValue,Py] at h;obtain⟨r,_,rfl⟩:=h;rfl
 |tuple cs=>simp only[ofValue,Py] at h;obtain⟨r,_,rfl⟩:=h;rfl
 |_=>exact FH (v:=_) (by unfold ofValue at h;exact h)
theorem mapM_some {U β:Type}{f:U->Option β}:∀{l:List U}{r:List β},l.mapM f=some r->l.length=r.length/\∀i (h:i<l.length),∃(h':i<r.length),f l[i]=some r[i]
 | [],r,h=>by simp at h;subst h;exact⟨rfl,fun i hi=>absurd hi (PS i)⟩
 |a::l,r,h=>by
  simp only[PW,Option.pure_def,Option.bind_eq_bind] at h;cases ha:f a with
  |none=>simp[ha] at h|some x=>
   cases hl:l.mapM f with
   |none=>simp[ha,hl] at h|some r'=>
    simp only[ha,hl,Option.bind_some,iE] at h;subst h;obtain⟨h1,h2⟩:=mapM_some hl;refine⟨by simp[h1],fun i hi=>?_⟩;cases i with
    |zero=>exact⟨by simp,ha⟩|succ i=>obtain⟨h3,h4⟩:=h2 i (by simpa using hi);exact⟨by simpa using h3,by simpa using h4⟩
theorem cZ {U:Type}{l:List U}{i:Nat}(h:i<l.length)(d:U):l.getD i d=l[i]:=by simp[List.getD,h]
theorem mD {U:Type}{l:Array U}{i:Nat}(h:i<l.size)(d:U):l.getD i d=l[i]:=by simp[Array.getD,h]
theorem uf {K T w}{v:Value}{z:V}(h:ofValue v=some z):Rel K T w z v:=by
 have hsc:∀(cs:Array Value)(r:List V),cs.toList.mapM bP=some r->r.length=cs.size/\∀i,i<r.length->Rel K T w (r.getD i FN) (cs.getD i undef):=by
  intro cs r hr;obtain⟨h1,h2⟩:=mapM_some hr;have h1':r.length=cs.size:=by rw[<-h1];simp
  refine⟨h1',fun i hi=>?_⟩;obtain⟨h3,h4⟩:=h2 i (by omega);rw[cZ h3,mD (by omega)];exact y5 (by simpa using h4)
 cases v with
 |agg cs=>simp only[ofValue,Py] at h;obtain⟨r,hr,rfl⟩:=h;obtain⟨h1,h2⟩:=hsc cs r hr;exact .agg r cs h1 h2
 |tuple cs=>simp only[ofValue,Py] at h;obtain⟨r,hr,rfl⟩:=h;obtain⟨h1,h2⟩:=hsc cs r hr;exact .Rm r cs h1 h2
 |_=>exact y5 h
theorem fV {E B0 Y K w}(h:au E B0 Y K w){fr:Fr}{a:Act}(hf:bH K Y.top w fr a.tmps)(x:Operand):Rel K Y.top w (fr.ev E x) (a.eval x):=by
 cases x with
 |tmp t=>exact hf t|const v=>
  simp only[Fr.ev,Act.eval];cases hv:ofValue v with
  |none=>exact .raw v|some z=>exact uf hv
 |global g=>
  simp only[Fr.ev,Act.eval];cases hg:E.glob g with
  |none=>exact .raw _|some cs=>exact h.glob g cs hg
 |func f=>exact .fn f [] [] #[] #[] rfl rfl (fun i hi=>absurd hi (PS i)) (fun i hi=>absurd hi (PS i))
theorem jq {K T w}{v:V}{c:Value}(h:Rel K T w v c)(hr:SI v=true):
 v.cells.length=c.cells.size/\∀i,i<v.cells.length->Rel K T w (v.cells.getD i FN) (c.cells.getD i undef):=by
 have one:∀{v:V}{c:Value},Rel K T w v c->v.cells=[v]->c.cells= #[c]->v.cells.length=c.cells.size/\∀i,i<v.cells.length->Rel K T w (v.cells.getD i FN) (c.cells.getD i undef):=by
  intro v c h h1 h2;rw[h1,h2];refine⟨rfl,fun i hi=>?_⟩;obtain rfl:i=0:=by simp at hi;omega
  exact h
 cases h with
 |agg cs vs hl h=>exact⟨hl,h⟩|raw v=>simp[SI] at hr|Rm cs vs hl h=>exact one (.Rm cs vs hl h) rfl rfl|int k n=>exact one (.int k n) rfl rfl|bool b=>exact one (.bool b) rfl rfl|str s b h=>exact one (.str s b h) rfl rfl|SX=>exact one .SX rfl rfl|SQ=>exact one .SQ rfl rfl|SF=>exact one .SF rfl rfl|Sw=>exact one .Sw rfl rfl|aX c a ha hc=>exact one (.aX c a ha hc) rfl rfl|tX c l b o n cap val h1 h2 h3 h4 h5=>exact one (.tX c l b o n cap val h1 h2 h3 h4 h5) rfl rfl
 |vw loc s off len cap aD ag aR h1 h2 h3 h4=>exact one (.vw loc s off len cap aD ag aR h1 h2 h3 h4) rfl rfl|dQ loc s aD ag h1=>exact one (.dQ loc s aD ag h1) rfl rfl|Q5 cs off b o val h1 h2=>exact one (.Q5 cs off b o val h1 h2) rfl rfl|ref loc s off h1=>exact one (.ref loc s off h1) rfl rfl|fn f a b av bv h1 h2 h3 h4=>exact one (.fn f a b av bv h1 h2 h3 h4) rfl rfl|yield l h1=>exact one (.yield l h1) rfl rfl
 |RA loc s h1=>exact one (.RA loc s h1) rfl rfl|RX ks vs b es aG h1 h2 h3 h4 h5 h6=>exact one (.RX ks vs b es aG h1 h2 h3 h4 h5 h6) rfl rfl|iface t v c h=>exact one (.iface t v c h) rfl rfl
theorem y7 {K T w}{v:V}{c:Value}(h:Rel K T w v c)(ho:oneCell v=true):c.oneCell'=true/\c.cells= #[c]/\v.cells=[v]:=by
 cases h<;>first| (simp[oneCell] at ho;done)|exact⟨rfl,rfl,rfl⟩
section types
variable {P:Program}{t:TypeId}(w:World)
theorem y8 {i:TypeInfo}(h:P.info? t=some i):(typeInfo t).run P w= .ok i w:=by simp[typeInfo,h]
theorem dD {n:Nat}(h:RI P t=some n):(Go.sizeOf t).run P w= .ok n w:=by simp only[RI,Py] at h;obtain⟨i,hi,rfl⟩:=h;simp[Go.sizeOf,y8 w hi]
theorem y9 {b:Bool}(h:U8 P t=some b):(isAgg t).run P w= .ok b w:=by simp only[U8,Py] at h;obtain⟨d,hd,rfl⟩:=h;simp only[isAgg,Sem.run_bind,run_underlying hd,Result.andThen_ok];cases d<;>rfl
theorem jr {z:V}(h:T9 P t=some z):∃c,(zeroValue t).run P w= .ok c w/\∀K T,Rel K T w z c:=by simp only[T9,iP] at h;obtain⟨v,⟨i,hi,hz⟩,hv⟩:=h;exact⟨v,by simp[zeroValue,y8 w hi,hz],fun K T=>uf hv⟩
theorem mE {z:V}(h:T9 P t=some z):SI z=true:=by simp only[T9,iP] at h;obtain⟨v,_,hv⟩:=h;exact FJ hv
theorem oo {e:TypeId}(h:UD P t=some e):P.underlying t=some (.slice e):=by unfold UD at h;split at h<;>simp_all
theorem za {n:Nat}{e:TypeId}(h:aep P t=some (n,e)):P.underlying t=some (.array n e):=by unfold aep at h;split at h<;>simp_all
theorem ze {k e:TypeId}(h:W9 P t=some (k,e)):P.underlying t=some (.map k e):=by unfold W9 at h;split at h<;>simp_all
theorem zf {f o:Nat}{u:TypeId}(h:WZ P t f=some (o,u)):∃fs g n,P.underlying t=some (.struct fs)/\fs[f]? =some g/\g.offset=o/\g.type=u/\RI P u=some (n+1):=by
 unfold WZ at h;split at h
 .rename_i fs hu;simp only[iP] at h;obtain⟨g,hg,h⟩:=h;split at h
  .rename_i n hn;simp only[iE,iR] at h;exact⟨fs,g,n,hu,hg,h.1,h.2,by rw[<-h.2];exact hn⟩
  .simp at h
 .simp at h
end types
theorem addr_add (b o n:Nat):(at_ b o).add n=at_ b (o+n):=by
 unfold Addr.add;split
 .subst_vars;rfl
 .rfl
theorem ug {P:Program}{K T}{w:World}{t:TypeId}{cs:List V}{off:Nat}{v:V}{b o:Nat}(val:Nat->Value)(hc:∀i,i<cs.length->w.cell? (at_ b (o+i))=some (val i))(hr:∀i,i<cs.length->Rel K T w (cs.getD i FN) (val i))(h:TB P t cs off=some v):
 ∃c,(loadVar t (at_ b (o+off))).run P w= .ok c w/\Rel K T w v c:=by
 simp only[TB,iP] at h;obtain⟨ag,hag,n,hn,h⟩:=h;simp only[loadVar,Sem.run_bind,y9 w hag,Result.andThen_ok];cases ag with
 |true=>
  simp only[jm,if_true] at h;split at h
  .rename_i hle;simp only[iE] at h;subst h;have hl:=run_loadCells (P:=P) w (at_ b (o+off)) n (fun j=>val (off+j)) (fun j hj=>by rw[addr_add,Qv];exact hc _ (by omega));refine⟨.agg ((List.range n).map fun j=>val (off+j)).toArray,by simp[dD w hn,hl],?_⟩;refine .agg _ _ (by simp;omega) (fun i hi=>?_);simp only[Qb,QK] at hi;have hi':i<n:=by omega
   have e1:((cs.drop off).take n).getD i FN=cs.getD (off+i) FN:=by simp[List.getD,hi',List.getElem?_drop]
   have e2:(((List.range n).map fun j=>val (off+j)).toArray).getD i undef=val (off+i):=by simp[Array.getD,hi']
   rw[e1,e2];exact hr _ (by omega)
  .simp at h
 |false=>
  simp only[jm,PE,if_false] at h;have hlt:off<cs.length:=(Qq.1 h).1;have hv:cs[off]=v:=(Qq.1 h).2;refine⟨val off,by simp[hc off hlt],?_⟩;have:=hr off hlt
  rwa[cZ hlt,hv] at this
theorem mG {P:Program}{K T}{w:World}{t:TypeId}{cs:List V}{vs:Array Value}{off:Nat}{v:V}(hl:cs.length=vs.size)(hr:∀i,i<cs.length->Rel K T w (cs.getD i FN) (vs.getD i undef))(h:TB P t cs off=some v):
 ∃c,(part t vs off).run P w= .ok c w/\Rel K T w v c:=by
 simp only[TB,iP] at h;obtain⟨ag,hag,n,hn,h⟩:=h;simp only[part,Sem.run_bind,y9 w hag,Result.andThen_ok];cases ag with
 |true=>
  simp only[jm,if_true] at h;split at h
  .rename_i hle;simp only[iE] at h;subst h;refine⟨.agg (vs.extract off (off+n)),by simp[dD w hn],?_⟩;refine .agg _ _ (by simp;omega) (fun i hi=>?_);simp only[Qb,QK] at hi;have hi':i<n:=by omega
   have e1:((cs.drop off).take n).getD i FN=cs.getD (off+i) FN:=by simp[List.getD,hi',List.getElem?_drop]
   have e2:(vs.extract off (off+n)).getD i undef=vs.getD (off+i) undef:=by have:off+i<vs.size:=(by omega);simp[Array.getD,this,show i<min (off+n) vs.size-off by omega]
   rw[e1,e2];exact hr _ (by omega)
  .simp at h
 |false=>
  simp only[jm,PE,if_false] at h;have hlt:off<cs.length:=(Qq.1 h).1;have hv:cs[off]=v:=(Qq.1 h).2;have hlt':off<vs.size:=by omega
  refine⟨vs.getD off undef,by simp[hlt',Array.getD],?_⟩;have:=hr off hlt
  rwa[cZ hlt,hv] at this
end Aq
end
