import Derived.Below
import Derived.WalkKit
import Derived.KernelRfl
import GoSem.Dispatch
theorem ah {P:Prop}(h:P:=by omega):P:=h
theorem aA {P:Prop}(h:P:=by kernel_rfl):P:=h
theorem aD {P:Prop}(h:P:=by simp):P:=h
theorem aX {P:Prop}(h:P:=by decide):P:=h
theorem oD {P:Prop}(h:P:=by simp only[RS,List.length_cons,List.length_nil];omega):P:=h
theorem bL {P:Prop}(h:P:=by cases h):P:=h
theorem nR {P:Prop}(h:P:=by simp[Go.Op.equalIn,run_underlying hu]):P:=h
theorem eY {P:Prop}(h:P:=by simp;omega):P:=h
theorem jm {P:Prop}(h:P:=by simpa using hi):P:=h
theorem MK {P:Prop}(h:P:=by obtain⟨s,h1,h2⟩:=h;unfold nE at hm;exact⟨s,((ho p (fun e=>by rw[e,vS] at hm;cases hm)).1.trans h1),by rw[hx];exact h2⟩):P:=h
theorem iY {P:Prop}(h:P:=by unfold aB;rfl):P:=h
theorem ML {P:Prop}(h:P:=by obtain⟨s,h1,h2⟩:=h;unfold aR.solid at hs;exact⟨s,by rw[(ho o (by simpa using hs)).1];exact h1,by rw[hx];exact h2⟩):P:=h
theorem mQ {P:Prop}(h:P:=by unfold aB at h;exact h):P:=h
theorem o9 {P:Prop}(h:P:=by simp only[RS];omega):P:=h
theorem Gw {P:Prop}(h:P:=by simp only[go_sem,Nat.reduceBEq,Nat.reduceAdd, *];exact Is.rfl):P:=h
theorem En {P:Prop}(h:P:=by simp only[List.length_cons,List.length_nil];omega):P:=h
theorem MN {P:Prop}(h:P:=by obtain⟨s,h1,h2⟩:=h;exact⟨s,by rw[ho.1];exact h1,by rw[ho.2.2];exact h2⟩):P:=h
theorem MO {P:Prop}(h:P:=by simp only[RS,List.length_cons,List.length_nil] at hb'⊢;omega):P:=h
theorem Cn {P:Prop}(h:P:=by simp only[RS,List.length_cons];omega):P:=h
theorem nS {P:Prop}(h:P:=by cases op<;>rfl):P:=h
theorem Co {P:Prop}(h:P:=by simp only[d9,hop,hz,Option.map_some]):P:=h
theorem pq {P:Prop}(h:P:=by simpa using h2):P:=h
theorem ql {P:Prop}(h:P:=by simpa using hj):P:=h
theorem zk {P:Prop}(h:P:=by rw[IntKind.wrap_i64];omega):P:=h
theorem vT {P:Prop}(h:P:=by first|exact AY|rfl):P:=h
theorem MP {P:Prop}(h:P:=by rw[hx];exact h2):P:=h
theorem Gx {P:Prop}(h:P:=by unfold ak.bQ at h2⊢;rw[hp];exact h2):P:=h
theorem aEn {P:Prop}(h:P:=by rw[(ho o (by simpa using hs)).1];exact h1):P:=h
theorem MQ {P:Prop}(h:P:=by rw[wr (by omega) (by omega)];simp;omega):P:=h
theorem TY {P:Prop}(h:P:=by show 0+_<=upd K.sz st _ st;rw[upd_same];omega):P:=h
theorem xI {P:Prop}(h:P:=by simpa using hl):P:=h
theorem vU {P:Prop}(h:P:=by simp[nT] at hs):P:=h
theorem Cq {P:Prop}(h:P:=by simpa [aW] using hp):P:=h
theorem xJ {P:Prop}(h:P:=by simpa using h):P:=h
theorem ad4 {P:Prop}(h:P:=by rw[e,vS] at hm;cases hm):P:=h
theorem vV {P:Prop}(h:P:=by simp[vW] at h):P:=h
theorem T9 {P:Prop}(h:P:=by simp only[d9,hop,pz,hz,Option.map_some]):P:=h
theorem Gy {P:Prop}(h:P:=by rw[hlc,hlen];exact iP _):P:=h
theorem MR {P:Prop}(h:P:=by rw[<-hy];exact(kZ _ _ _).symm):P:=h
theorem MS {P:Prop}(h:P:=by rw[<-hy];exact(jh _ _ e).symm):P:=h
theorem Ua {P:Prop}(h:P:=by unfold ak.gB at h2⊢;rw[hp];exact h2):P:=h
theorem Ub {P:Prop}(h:P:=by simp only[List.length_cons];omega):P:=h
theorem Uc {P:Prop}(h:P:=by rw[wr (by omega) (by omega)];omega):P:=h
theorem zl {P:Prop}(h:P:=by rw[h];exact k):P:=h
theorem Ud {P:Prop}(h:P:=by simp only[List.length_nil];omega):P:=h
theorem Gz {P:Prop}(h:P:=by rw[htk t] at h;cases h):P:=h
theorem Ue {P:Prop}(h:P:=by simp only[fH,h1,Option.bind_some]):P:=h
theorem Cr {P:Prop}(h:P:=by simpa using h1):P:=h
theorem Uf {P:Prop}(h:P:=by rw[hb'];exact heap_alloc_new w _):P:=h
theorem uH {P:Prop}(h:P:=by simp at h):P:=h
theorem MU {P:Prop}(h:P:=by simp[kE,Fence.wide] at hd):P:=h
theorem Ug {P:Prop}(h:P:=by unfold aB at h;subst h;simp[aW]):P:=h
theorem ad5 {P:Prop}(h:P:=by rw[ho.1];exact h1):P:=h
theorem MV {P:Prop}(h:P:=by rw[(ho o hm).1];exact h1):P:=h
theorem MW {P:Prop}(h:P:=by have:=hi.lt u _ hu;omega):P:=h
theorem Uh {P:Prop}(h:P:=by rw[hx,GA _ _ _ _ hp];exact h2):P:=h
theorem ad6 {P:Prop}(h:P:=by simpa using hs):P:=h
theorem Ct {P:Prop}(h:P:=by rw[RS];omega):P:=h
theorem vX {P:Prop}(h:P:=by simp[aW]):P:=h
theorem zm {P:Prop}(h:P:=by simp[hx]):P:=h
theorem Cu {P:Prop}(h:P:=by rw[j3];omega):P:=h
theorem Ui {P:Prop}(h:P:=by unfold aB;exact⟨aK,vY,rfl⟩):P:=h
theorem Eo {P:Prop}(h:P:=by rw[b];exact h1):P:=h
theorem MX {P:Prop}(h:P:=by simp[List.getD,hi']):P:=h
theorem GD {P:Prop}(h:P:=by simpa using hb):P:=h
theorem Uj {P:Prop}(h:P:=by simp[Array.range_zero']):P:=h
theorem aEo {P:Prop}(h:P:=by rw[ho.2.2];exact h2):P:=h
theorem zn {P:Prop}(h:P:=by simp[e]):P:=h
theorem Ep {P:Prop}(h:P:=by rw[<-hfr];rfl):P:=h
theorem Uk {P:Prop}(h:P:=by simpa [er,aW] using hp):P:=h
theorem Ul {P:Prop}(h:P:=by simp only[d9,hop,h2]):P:=h
theorem zo {P:Prop}(h:P:=by cases hd):P:=h
theorem Cv {P:Prop}(h:P:=by simp[ji]):P:=h
theorem MZ {P:Prop}(h:P:=by simp at hi;omega):P:=h
theorem Um {P:Prop}(h:P:=by simpa using k2.symm):P:=h
theorem M0 {P:Prop}(h:P:=by rw[hb'];exact hB):P:=h
theorem GH {P:Prop}(h:P:=by cases d<;>rfl):P:=h
theorem zq {P:Prop}(h:P:=by rw[hh]):P:=h
theorem Un {P:Prop}(h:P:=by have:3<=n:=hn;omega):P:=h
theorem M4 {P:Prop}(h:P:=by rw[hb];exact h1):P:=h
theorem M5 {P:Prop}(h:P:=by rw[hl];exact h2):P:=h
theorem Cw {P:Prop}(h:P:=by simp[c]):P:=h
theorem Cx {P:Prop}(h:P:=by simp[h]):P:=h
theorem Er {P:Prop}(h:P:=by simp[hj]):P:=h
theorem M6 {P:Prop}(h:P:=by simpa using hd):P:=h
theorem M7 {P:Prop}(h:P:=by simpa using hk):P:=h
theorem M8 {P:Prop}(h:P:=by rw[a];exact h2):P:=h
theorem uI {P:Prop}(h:P:=by rfl):P:=h
theorem Uo {P:Prop}(h:P:=by simp at h2;omega):P:=h
theorem Uq {P:Prop}(h:P:=by rw[f];simp[dU,e]):P:=h
theorem Ur {P:Prop}(h:P:=by have:=Yk p;omega):P:=h
theorem Cy {P:Prop}(h:P:=by rw[<-q3]):P:=h
theorem GI {P:Prop}(h:P:=by simp at hj):P:=h
theorem Us {P:Prop}(h:P:=by simpa using hc):P:=h
theorem M9 {P:Prop}(h:P:=by rw[h.iq];rfl):P:=h
theorem Es {P:Prop}(h:P:=by cases hk):P:=h
theorem Et {P:Prop}(h:P:=by cases hv):P:=h
set_option linter.all false
section
namespace aR
def iE:=@Option.some.injEq
def iP:=@Nat.le_refl
def iR:=@Option.bind_eq_some_iff
def mF:=@Prod.mk.injEq
def RS:=@List.length_append
def aT:=@Bool.and_eq_true
def bf:=@Option.map_eq_some_iff
def dJ:=@Nat.le_trans
def dL:=@Bool.false_eq_true
def fQ:=@List.map_cons
def fV:=@List.mem_cons
def gF:=@Nat.le_add_right
def gL:=@Nat.not_lt_zero
def gM:=@Nat.lt_of_lt_of_le
def iw:=@List.mem_cons_self
def iG:=@List.length_map
def iZ:=@List.mem_cons_of_mem
def jc:=@List.getElem?_eq_getElem
def jk:=@List.mem_singleton
def j3:=@List.length_take
def jP:=@Option.some.inj
def jQ:=@List.getElem_mem
def jR:=@List.append_assoc
def j4:=@Nat.le_succ
def j5:=@List.mapM_cons
def kF:=@Nat.ne_of_lt
def kG:=@List.all_eq_true
def lN:=@Nat.le_of_ble_eq_true
def mh:=@List.eq_nil_of_length_eq_zero
def mo:=@List.flatMap_cons
def nG:=@List.mem_append
def nH:=@Nat.zero_add
def nI:=@Nat.zero_le
def nU:=@List.map_append
def nV:=@List.append_nil
def oF:=@Bool.or_eq_true
def pE:=@Bool.not_eq_true'
def pF:=@List.mem_of_getElem?
def qm:=@List.getElem?_eq_some_iff
def vS:=@Nat.beq_refl
def qO:=@List.cons.injEq
def rM:=@Nat.add_mul
def rO:=@Nat.mul_le_mul_right
def rP:=@Nat.succ_mul
def rQ:=@List.getD_eq_getElem?_getD
def rR:=@Bool.or_eq_false_iff
def sZ:=@Nat.add_assoc
def tq:=@List.take_append_drop
def uJ:=@List.drop_eq_getElem_cons
def uK:=@List.nodup_cons
def uL:=@List.mem_append_left
def uM:=@List.take_of_length_le
def vZ:=@List.length_drop
def wh:=@List.length_pos_iff
def wm:=@List.mem_append_right
def wo:=@Nat.eq_of_beq_eq_true
def wu:=@Nat.le_of_eq
def xK:=@Nat.mul_comm
def xL:=@List.mem_map
def xM:=@List.mem_filter
def xO:=@Nat.le_max_right
def xP:=@List.filter_append
def zu:=@Array.getD_eq_getD_getElem?
def zw:=@Nat.le_max_left
def zx:=@List.filter_cons_of_pos
def Cz:=@Nat.lt_succ_self
def CB:=@List.getElem_map
def CF:=@List.map_map
def CG:=@List.drop_zero
def Eu:=@List.getElem?_append_left
def GJ:=@List.mem_iff_getElem
def GK:=@List.map_congr_left
def GL:=@Nat.add_sub_cancel_left
def GN:=@List.drop_eq_nil_of_le
def GQ:=@List.filter_cons_of_neg
def Na:=@List.getElem_range
def Nb:=@List.drop_append
def Nc:=@Nat.min_eq_left
def Yl:=@List.take_append_of_le_length
open Go
abbrev Loc:=Nat×Nat
inductive Cap where
 |sh
 |full
 |nil
 |own (n s:Nat)
inductive V where
 |int (k:IntKind) (n:Int)
 |bool (b:Bool)
 |str (s:List UInt8)
 |iC
 |gQ
 |gD
 |iH
 |agg (cs:List V)
 |bB (vs:List V)
 |ay (c:Cap) (l:List V)
 |aM (loc:Loc) (s off len cap bZ:Nat) (ag:Bool)
 |aY (cs:List V) (off:Nat)
 |ref (loc:Loc) (s off:Nat)
 |fn (f:Fn) (first cap:List V)
 |cu (loc:Loc) (s:Nat)
 |dV (ks vs:List V)
 |iface (t:TypeId) (v:V)
 |raw (v:Value)
instance:Inhabited V:=⟨.bB []⟩
def aL:V:=.bB []
def V.cells:V->List V
 |.agg cs=>cs|v=>[v]
def kL:Value->Option V
 |.bool b=>some (.bool b)|.int k n=>some (.int k n)|.string s=>some (.str s.data.toList)|.pointer none=>some .iC|.slice none 0 0=>some (.ay .nil [])|.map none=>some .gD|.nilFunc=>some .gQ|.nilIface=>some .iH|_=>none
def ofValue:Value->Option V
 |.agg cs=>(cs.toList.mapM kL).map .agg|.tuple cs=>(cs.toList.mapM kL).map .bB|v=>kL v
mutual
def aW:V->Bool
 |.int _ _|.bool _|.str _|.iC|.gQ|.gD|.iH=>true|.agg cs=>cB cs|.bB vs=>cB vs|.ay .sh l=>cB l|.ay _ _=>false|.aM .. |.ref .. |.cu .. =>false|.aY cs _=>cB cs|.fn (.func _) a b=>cB a&& cB b|.fn _ _ _=>false|.dV ks vs=>cB ks&& cB vs|.iface _ v=>aW v|.raw _=>false
def cB:List V->Bool
 | []=>true|v::l=>aW v&& cB l
end
mutual
def flat:V->Bool
 |.int _ _|.bool _|.str _|.iC|.gQ|.gD|.iH=>true|.agg cs=>kM cs|.bB vs=>kM vs|_=>false
def kM:List V->Bool
 | []=>true|v::l=>flat v&& kM l
end
def fB:V->V
 |.ay _ l=>.ay .sh l|v=>v
def er:V->V
 |.ay _ l=>.ay .sh l|.agg cs=>.agg (cs.map fB)|v=>v
inductive iN where
 |cells (cs:List V)
 |map (ks vs:List V)
inductive Ex where
 |normal
 |exit (id:Nat)
 |ret
structure Fr where
 d:Nat
 aj:Bool
 tm:Nat->V
structure qP where
 st:Nat
 pend:Option Ex
 fr:Fr
 ps:List Nat
 fO:Code
 body:Code
structure ak where
 next:Nat
 top:Nat->Nat
 obj:Loc->Option (Nat×iN)
 loops:Nat->Option qP
def ak.init:ak:=⟨0,fun _=>0,fun _=>none,fun _=>none⟩
def upd {κ α:Type}[DecidableEq κ](f:κ->α)(k:κ)(v:α):κ->α:=fun j=>if j=k then v else f j
def Fr.set (fr:Fr)(i:Nat)(v:V):Fr:={fr with tm:=upd fr.tm i v}
def Fr.put (fr:Fr)(d:Option Nat)(v:V):Fr:=match d with
 |some i=>fr.set i v|none=>fr
def ak.setObj (σ:ak)(loc:Loc)(s:Nat)(o:iN):ak:={σ with obj:=upd σ.obj loc (some (s,o))}
def ak.eu (σ:ak)(loc:Loc):ak:={σ with obj:=upd σ.obj loc none}
def ak.dR (σ:ak)(s n:Nat):ak:={σ with top:=upd σ.top s n}
def ak.jd (σ:ak)(l:Nat)(r:qP):ak:={σ with loops:=upd σ.loops l (some r)}
def ak.pG (σ:ak)(l:Nat):ak:={σ with loops:=upd σ.loops l none}
def lX:Code->Bool
 |.seq a b=>lX a&& lX b|.cond _ a b=>lX a&& lX b|.block _ c=>lX c|.loop c=>lX c|.scope c=>lX c|.rangeFunc .. =>false|_=>true
def ak.bQ (σ:ak)(loc:Loc)(s:Nat):Option (List V):=
 match σ.obj loc with
 |some (s',.cells cs)=>if s'=s then some cs else none|_=>none
def ak.gB (σ:ak)(loc:Loc)(s:Nat):Option (List V×List V):=
 match σ.obj loc with
 |some (s',.map ks vs)=>if s'=s then some (ks,vs) else none|_=>none
def chunks (agg:Bool)(n:Nat):Nat->List V->List V
 |0,_=>[]|k+1,cs=>(if agg then V.agg (cs.take n) else cs.headD aL)::chunks agg n k (cs.drop n)
def oneCell:V->Bool
 |.agg _|.bB _|.raw _=>false|_=>true
def dU (l:List V):Bool:=l.all oneCell
def bG:Nat->ak->V->Option V
 |0,_,_=>none|n+1,σ,v=>if aW v then some v else match v with
  |.ay _ l=>(l.mapM (bG n σ)).map (.ay .sh)|.agg cs=>(cs.mapM (bG n σ)).map .agg|.bB cs=>(cs.mapM (bG n σ)).map .bB|.aY cs off=>(cs.mapM (bG n σ)).map (.aY · off)|.fn (.func f) a b=>(a.mapM (bG n σ)).bind fun a=>(b.mapM (bG n σ)).map fun b=>.fn (.func f) a b
  |.ref loc s off=>(σ.bQ loc s).bind fun cs=>(cs.mapM (bG n σ)).map (.aY · off)
  |.aM loc s off len _ bZ ag=>(σ.bQ loc s).bind fun cs=>
     if off+len*bZ<=cs.length then (((cs.drop off).take (len*bZ)).mapM (bG n σ)).bind fun cs=>if ag||bZ==1&& dU cs then some (.ay .sh (chunks ag bZ len cs)) else none else none
  |.cu loc s=>(σ.gB loc s).bind fun (ks,vs)=>(ks.mapM (bG n σ)).bind fun ks=>(vs.mapM (bG n σ)).map fun vs=>.dV ks vs
  |.dV ks vs=>(ks.mapM (bG n σ)).bind fun ks=>(vs.mapM (bG n σ)).map fun vs=>.dV ks vs
  |.iface t v=>(bG n σ v).map (.iface t)|_=>none
section ops
variable (P:Program)
def fq (t:TypeId):Option Nat:=(P.info? t).map (·.size)
def xQ (t:TypeId):Option Nat:=(P.info? t).map (·.bytes)
def pI (t:TypeId):Option Bool:=(P.underlying t).map fun
 |.struct _|.array .. =>true|_=>false
def kC (t:TypeId):Option V:=((P.info? t).bind (·.zero)).bind ofValue
def xR (t:TypeId)(f:Nat):Option (Nat×TypeId):=
 match P.underlying t with
 |some (.struct fs)=>(fs[f]?).bind fun f=>match fq P f.type with
  |some (_+1)=>some (f.offset,f.type)|_=>none
 |_=>none
def nW (t:TypeId):Option TypeId:=
 match P.underlying t with
 |some (.slice e)=>some e|_=>none
def Ut (t:TypeId):Option (Nat×TypeId):=
 match P.underlying t with
 |some (.array n e)=>some (n,e)|_=>none
def wz (t:TypeId):Option (TypeId×TypeId):=
 match P.underlying t with
 |some (.map k e)=>some (k,e)|_=>none
def CJ (agg:Bool)(n:Nat)(cs:List V)(off:Nat):Option V:=
 if agg then (if off+n<=cs.length then some (.agg ((cs.drop off).take n)) else none) else cs[off]?
def kN (t:TypeId)(cs:List V)(off:Nat):Option V:=
 (pI P t).bind fun a=>(fq P t).bind fun n=>CJ a n cs off
def iT (cs:List V)(off:Nat)(vs:List V):List V:=cs.take off++vs++cs.drop (off+vs.length)
def fM:V->Bool
 |.raw _=>false|_=>true
def uN (place:Nat->Option (Nat×Nat))(cells:List V):List (Nat×V)->Option (List V)
 | []=>some cells| (i,v)::rest=>
   match place i with
   |none=>none|some (off,size)=>
    if v.cells.length=size/\off+size<=cells.length/\fM v then uN place (iT cells off v.cells) rest else none
def pJ:V->V->Option Bool
 |.int k a,.int k' b=>if k=k' then some (a==b) else none|.bool a,.bool b=>some (a==b)|.str a,.str b=>some (a==b)|_,_=>none
def Ev (eq:TypeId->V->V->Option Bool)(xs ys:List V):List Field->Option Bool
 | []=>some true|f::fs=>
  if f.name= "_" then Ev eq xs ys fs else (kN P f.type xs f.offset).bind fun a=>(kN P f.type ys f.offset).bind fun b=>(eq f.type a b).bind fun r=>(Ev eq xs ys fs).map (r&& ·)
def GR (eq:TypeId->V->V->Option Bool)(e:TypeId)(sz:Nat)(xs ys:List V):List Nat->Option Bool
 | []=>some true|i::is=>(kN P e xs (i*sz)).bind fun a=>(kN P e ys (i*sz)).bind fun b=>(eq e a b).bind fun r=>(GR eq e sz xs ys is).map (r&& ·)
def CK:Nat->TypeId->V->V->Option Bool
 |0,_,_,_=>none|d+1,t,x,y=>
  match P.underlying t,x,y with
  |some .bool,.bool a,.bool b=>some (a==b)|some (.int _),.int k a,.int k' b=>if k=k' then some (a==b) else none|some .string,.str a,.str b=>some (a==b)|some (.struct fs),.agg xs,.agg ys=>if P.stoodInHeld t then none else Ev P (CK d) xs ys fs.toList|some (.array n e),.agg xs,.agg ys=>(fq P e).bind fun sz=>GR P (CK d) e sz xs ys (List.range n)
  |_,_,_=>none
def qQ (t:TypeId)(x y:V):Option Bool:=
 match P.underlying t,x,y with
 |some (.func ..),.gQ,.gQ=>some true|some (.func ..),.gQ,.fn _ _ _|some (.func ..),.fn _ _ _,.gQ=>some false|some (.pointer _),.iC,.iC=>some true|some (.pointer _),.iC,.ref .. |some (.pointer _),.ref ..,.iC|some (.pointer _),.iC,.aY .. |some (.pointer _),.aY ..,.iC=>some false|some (.slice _),.ay .nil [],.ay .nil []=>some true|some (.slice _),.ay .nil [],.ay _ (_::_)|some (.slice _),.ay _ (_::_),.ay .nil []=>some false
 |some (.map ..),.gD,.gD=>some true|some (.map ..),.gD,.cu .. |some (.map ..),.cu ..,.gD|some (.map ..),.gD,.dV .. |some (.map ..),.dV ..,.gD=>some false|some (.struct _),.agg a,.agg b|some (.array ..),.agg a,.agg b=>if P.eqGuardType P.depth t then none else CK P 8 t (.agg a) (.agg b)|some .bool,.bool a,.bool b=>some (a==b)|some (.interface ms),.iH,.iH=>if ms.isEmpty then some true else none|some (.interface _),.iH,.iface _ _|some (.interface _),.iface _ _,.iH=>some false
 |_,_,_=>none
def lY (op:BinOp)(k:IntKind)(x y:Int):Option V:=
 match op with
 |.add=>some (.int k (k.wrap (x+y)))|.sub=>some (.int k (k.wrap (x-y)))|.mul=>some (.int k (k.wrap (x*y)))|.quo=>if y=0 then none else some (.int k (k.wrap (x.tdiv y)))|.rem=>if y=0 then none else some (.int k (x.tmod y))|.and=>some (.int k (k.wrap (BitVec.ofInt k.bits x&&& BitVec.ofInt k.bits y).toNat))|.or=>some (.int k (k.wrap (BitVec.ofInt k.bits x|||BitVec.ofInt k.bits y).toNat))|.xor=>some (.int k (k.wrap (BitVec.ofInt k.bits x^^^BitVec.ofInt k.bits y).toNat))
 |.andNot=>some (.int k (k.wrap (BitVec.ofInt k.bits x&&& ~~~BitVec.ofInt k.bits y).toNat))|.eql=>some (.bool (x==y))|.neq=>some (.bool (x !=y))|.lss=>some (.bool (x<y))|.leq=>some (.bool (x<=y))|.gtr=>some (.bool (x>y))|.geq=>some (.bool (x>=y))|_=>none
def Nf (op:BinOp)(k:IntKind)(x y:Int):Option V:=
 if y<0 then none else match op with
 |.shl=>some (.int k (k.wrap (x*2^min y.toNat k.bits)))|.shr=>some (.int k (x.fdiv (2^min y.toNat k.bits)))|_=>none
def CO (op:BinOp)(x y:List UInt8):Option V:=
 match op with
 |.add=>if ((x.length+y.length:Nat):Int)>IntKind.i64.max then none else some (.str (x++y))|.eql=>some (.bool (x==y))|.neq=>some (.bool !(x==y))|.lss=>some (.bool (Op.bytesLess x y))|.leq=>some (.bool (Op.bytesLess x y||x==y))|.gtr=>some (.bool !(Op.bytesLess x y||x==y))|.geq=>some (.bool !(Op.bytesLess x y))|_=>none
def tu (op:BinOp)(t:TypeId)(x y:V):Option V:=
 match op,x,y with
 |.shl,.int k a,.int _ b|.shr,.int k a,.int _ b=>Nf op k a b|_,.int k a,.int k' b=>if k=k' then lY op k a b else none|_,.str a,.str b=>CO op a b|.eql,x,y=>(qQ P t x y).map .bool|.neq,x,y=>(qQ P t x y).map fun b=>.bool !b
 |_,_,_=>none
def Ew (op:UnOp)(x:V):Option V:=
 match op,x with
 |.neg,.int k n=>some (.int k (k.wrap (0-n)))|.xor,.int k n=>lY .xor k (if k.signed then-1 else k.max) n|.not,.bool b=>some (.bool !b)|_,_=>none
def zy (b:UInt8):V:=.int .u8 b.toNat
def Ey:V->Option UInt8
 |.int .u8 n=>some (UInt8.ofNat n.toNat)|_=>none
def CP (σ:ak)(src dst:TypeId)(x:V):Option V:=
 match P.underlying src,P.underlying dst,x with
 |some _,some (.int k),.int _ n=>some (.int k (k.wrap n))|some _,some .string,.str s=>some (.str s)|some (.slice e),some .string,.ay _ l=>
  match P.underlying e with
  |some (.int .u8)=>(l.mapM Ey).map .str|_=>none
 |some (.slice e),some .string,.aM loc s off len _ _ _=>
  match P.underlying e with
  |some (.int .u8)=>(σ.bQ loc s).bind fun cs=>if off+len<=cs.length then (((cs.drop off).take len).mapM Ey).map .str else none
  |_=>none
 |_,_,_=>none
def oG:V->Option Int
 |.int _ n=>some n|_=>none
def bnd (x:V)(y:Nat):Option Nat:=(oG x).bind fun i=>if 0<=i/\i<=y then some i.toNat else none
def tC (len cap:Nat)(lo hi mx:Option V):Option (Nat×Nat×Nat):=
 (match mx with|some v=>bnd v cap|none=>some cap).bind fun m=>(match hi,mx with
   |some v,some _=>bnd v m|some v,none=>bnd v m|none,none=>some len|none,some _=>none).bind fun h=>(match lo with|some v=>bnd v h|none=>some 0).bind fun l=>some (l,h,m)
def qR (sz:Nat):List V->Bool
 | []=>true|v::_=>v.cells.length==sz
def wB (σ:ak)(t:TypeId)(x:V)(lo hi mx:Option V):Option V:=
 match P.underlying t,x with
 |some (.slice e),.ay c s=>
  (fq P e).bind fun sz=>(tC s.length s.length lo hi mx).bind fun (l,h,m)=>if qR sz s then some<|
    if l=0/\h=s.length/\mx.isNone then .ay c s else .ay (match mx with|some _=>if m=h then .full else .sh|none=>match c with|.full=>if h=s.length then .full else .sh|_=>.sh) ((s.take h).drop l)else none
 |some (.slice e),.aM loc st off len cap bZ ag=>
  (fq P e).bind fun sz=>(tC len cap lo hi mx).bind fun (l,h,m)=>if sz=bZ then some<|
    if l=h/\0<l then .ay (match mx with|some _=>if m=h then .full else .sh|none=>.sh) [] else .aM loc st (off+l*bZ) (h-l) (m-l) bZ ag else none
 |_,_=>none
def idx (i:V)(n:Nat):Option Nat:=(oG i).bind fun i=>if 0<=i/\i<n then some i.toNat else none
def qU (t:TypeId)(x i:V):Option V:=
 match P.underlying t,x with
 |some (.slice e),.ay _ l=>(fq P e).bind fun sz=>(idx i l.length).bind fun k=>(l[k]?).bind fun e=>if e.cells.length=sz then some (.aY e.cells 0) else none
 |some (.slice e),.aM loc st off len _ bZ _=>(fq P e).bind fun sz=>(idx i len).bind fun k=>if sz=bZ then some (.ref loc st (off+k*bZ)) else none
 |some (.array n e),.ref loc st off=>(fq P e).bind fun sz=>(idx i n).map fun k=>.ref loc st (off+k*sz)
 |some (.array n e),.aY cs off=>(fq P e).bind fun sz=>(idx i n).map fun k=>.aY cs (off+k*sz)
 |_,_=>none
def GU (t:TypeId)(x i:V):Option V:=
 match P.underlying t,x with
 |some (.array n e),.agg cs=>(idx i n).bind fun k=>(fq P e).bind fun sz=>kN P e cs (k*sz)
 |some .string,.str s=>(idx i s.length).bind fun k=>(s[k]?).map zy
 |_,_=>none
def rT (k:V):List V->List V->Option (Option V)
 |a::dz,v::vs=>(pJ k a).bind fun b=>if b then some (some v) else rT k dz vs
 | [],[]=>some none|_,_=>none
def zA (k v:V):List V->List V->Option (List V×List V)
 |a::dz,w::ws=>(pJ k a).bind fun b=>if b then some (k::dz,v::ws) else (zA k v dz ws).map fun (x,y)=>(a::x,w::y)
 | [],[]=>some ([k],[v])|_,_=>none
def nJ (t:TypeId)(k:V):Bool:=
 match P.underlying t,k with
 |some (.int _),.int _ _|some .string,.str _|some .bool,.bool _=>true|_,_=>false
def zB (σ:ak)(t:TypeId)(m k:V)(ok:Bool):Option V:=
 (wz P t).bind fun (kt,et)=>
 if nJ P kt k then (match m with
    |.gD=>some ([],[])|.cu loc s=>σ.gB loc s|.dV ks vs=>some (ks,vs)|_=>none).bind fun (ks,vs)=>(rT k ks vs).bind fun r=>(match r with|some v=>some (v,true)|none=>(kC P et).map fun z=>(z,false)).map fun (v,b)=>
  if ok then .bB [v,.bool b] else v else none
def uO (σ:ak)(t:TypeId)(m k v:V):Option ak:=
 (wz P t).bind fun (kt,_)=>
 if nJ P kt k then match m with
  |.cu loc s=>(σ.gB loc s).bind fun (ks,vs)=>(zA k v ks vs).map fun (ks,vs)=>σ.setObj loc s (.map ks vs)
  |_=>none else none
def dB (n b:Nat):Bool:=n*b<=2^47&& n<=2^47
def tF (σ:ak)(ag:Bool)(sz:Nat)(z:V):V->Option (List V)
 |.int _ n=>if 0<=n/\n<=2^47 then some (List.replicate n.toNat z) else none|.ay _ l=>if qR sz l then some l else none|.str s=>if sz=1 then some (s.map zy) else none|.aM loc s off len _ bZ _=>if bZ≠sz then none else (σ.bQ loc s).bind fun cs=>
  if off+len*sz<=cs.length/\(dU cs=true\/ag=true) then some ((chunks ag sz len (cs.drop off)).map er) else none
 |_=>none
def Ng:V->Bool
 |.int _ _=>true|_=>false
def mR (aj zeros:Bool)(σ:ak)(st:Nat)(loc:Option Loc)(t:TypeId)(x y:V):Option (V×ak):=
 (nW P t).bind fun e=>(fq P e).bind fun sz=>(xQ P e).bind fun iO=>(pI P e).bind fun ag=>(kC P e).bind fun z=>
 if zeros=Ng y/\z.cells.length=sz/\0<sz/\(ag||sz==1)=true then (tF σ ag sz z y).bind fun ys=>
 if ys.all (fun v=>dU v.cells)=true then match x with
 |.ay c l=>
  if dB (l.length+ys.length) iO=true/\qR sz l=true then match aj,c with
   |true,.nil=>loc.map fun loc=>(.aM loc st 0 (l.length+ys.length) (l.length+ys.length) sz ag,σ.setObj loc st (.cells ((l++ys).flatMap V.cells)))
   |true,.full=>if ys.isEmpty then some (.ay .full l,σ) else loc.map fun loc=>(.aM loc st 0 (l.length+ys.length) (l.length+ys.length) sz ag,σ.setObj loc st (.cells ((l++ys).flatMap V.cells)))
   |false,.own n s=>if n=sz/\σ.top s=l.length then some (.ay (.own n s) (l++ys),σ.dR s (l.length+ys.length)) else none|false,.nil|false,.full=>some (.ay (.own sz st) (l++ys),σ.dR st (l.length+ys.length))|_,_=>none else none
 |.aM jH s off len cap bZ _=>
  if dB (len+ys.length) iO=true/\aj=true/\off=0/\bZ=sz then loc.bind fun loc=>(σ.bQ jH s).bind fun cs=>
    if len+ys.length<=cap then if (len+ys.length)*sz<=cs.length then some (.aM jH s 0 (len+ys.length) cap sz ag,σ.setObj jH s (.cells (iT cs (len*sz) (ys.flatMap V.cells))))else none else if len*sz<=cs.length then some (.aM loc st 0 (len+ys.length) (len+ys.length) sz ag,(σ.eu jH).setObj loc st (.cells (cs.take (len*sz)++ys.flatMap V.cells)))else none else none
 |_=>none else none else none
def copyV (σ:ak)(t:TypeId)(x y:V):Option (V×ak):=
 (fun (_:Program) (_:ak) (_:TypeId) (_ _:V)=>none) P σ t x y
def Ym (t:TypeId)(ok:Bool)(x:V):Option V:=
 match P.underlying t with
 |none|some (.interface _)=>none|some _=>match x with
  |.iface u v=>if u=t then some (if ok then .bB [v,.bool true] else v) else if ok then (kC P t).map fun z=>.bB [z,.bool false] else none
  |.iH=>if ok then (kC P t).map fun z=>.bB [z,.bool false] else none
  |_=>none
def GV (σ:ak)(t:TypeId)(x:V):Option (V×ak):=
 (fun (_:Program) (_:ak) (_:TypeId) (_:V)=>none) P σ t x
def xS (mx:Bool):V->List V->Option V
 |x,[]=>some x|.int k a,.int k' b::l=>if k=k' then xS mx (.int k (if mx then (if b>a then b else a) else (if b<a then b else a))) l else none|_,_=>none
def wC (aj:Bool)(σ:ak)(st:Nat)(loc:Option Loc)(t:TypeId)(l c:V):Option (V×ak):=
 (nW P t).bind fun e=>(fq P e).bind fun sz=>(xQ P e).bind fun iO=>(kC P e).bind fun z=>(oG l).bind fun n=>(oG c).bind fun m=>
 if 0<=n/\n<=m/\dB m.toNat iO/\m<=2^47/\z.cells.length=sz then if n=0/\aj=false then some (.ay (.own sz st) [],σ.dR st 0)else loc.bind fun loc=>(pI P e).map fun ag=>(.aM loc st 0 n.toNat m.toNat sz ag,σ.setObj loc st (.cells (List.replicate m.toNat z.cells).flatten))else none
end ops
end aR
end
section
namespace aR
open Go
structure Env where
 P:Program
 glob:Nat->Option (List V)
 imp:FuncId->Bool
 aj:FuncId->Bool
 rU:FuncId->Option (List V->Option V)
 own:FuncId->Nat->Bool:=fun _ _=>false
 zC:FuncId->Bool:=fun _=>false
 cl:FuncId->Option (List V->Option V):=fun _=>none
 uP:TypeId->Bool:=fun _=>false
 aoP:Nat->Bool:=fun _=>false
 cn:Nat->Nat:=fun d=>d
 aoQ:Nat->Bool:=fun _=>false
 Uu:Nat->Bool:=fun _=>true
section
variable (E:Env)
def Fr.ev (fr:Fr):Operand->V
 |.tmp t=>fr.tm t|.const v=>(ofValue v).getD (.raw v)|.global g=>match E.glob g with|some cs=>.aY cs 0|none=>.raw (.pointer (some ⟨g,0,none⟩))
 |.func f=>.fn (.func f) [] []
def pz (fr:Fr):Option Operand->Option V
 |none=>none|some x=>some (fr.ev E x)
def zD:V->Option Bool
 |.bool b=>some b|_=>none
def Uv (t:TypeId):Option (Nat->Option (Nat×Nat)):=
 match E.P.underlying t with
 |some (.struct fs)=>if fs.toList.all (fun f=>(fq E.P f.type).isSome) then some fun i=>(fs[i]?).bind fun f=>(fq E.P f.type).map fun n=>(f.offset,n)else none
 |some (.array _ e)=>(fq E.P e).map fun n=>fun i=>some (i*n,n)
 |_=>none
def zF (t:TypeId)(len:Nat)(parts:List (Nat×V)):Option V:=
 (nW E.P t).bind fun e=>(fq E.P e).bind fun sz=>(pI E.P e).bind fun ag=>(kC E.P e).bind fun z=>
 if len*sz<=2^24/\z.cells.length=sz/\0<sz/\(ag||sz==1)=true then (uN (fun i=>if i<len then some (i*sz,sz) else none) (List.replicate len z.cells).flatten parts).bind fun cs=>
    if dU cs then some (.ay .full ((chunks ag sz len cs).map er)) else none else none
def AZ (t:TypeId)(d:Option Nat):Bool:=E.uP t&& (match d with
 |some d=>E.Uu (1000*t+d)|none=>true)
def CQ (d:Option Nat):Bool:=match d with
 |some d=>E.aoQ d|none=>false
def CS (σ:ak)(st:Nat)(loc:Option Loc)(t:TypeId)(len:Nat)(parts:List (Nat×V)):Option (V×ak):=
 (nW E.P t).bind fun e=>(fq E.P e).bind fun sz=>(pI E.P e).bind fun ag=>(kC E.P e).bind fun z=>
 if len*sz<=2^24/\z.cells.length=sz/\0<sz then (uN (fun i=>if i<len then some (i*sz,sz) else none) (List.replicate len z.cells).flatten parts).bind fun cs=>
    loc.map fun loc=>(.aM loc st 0 len len sz ag,σ.setObj loc st (.cells cs))else none
def zG (d:Option Nat):Bool:=match d with
 |some d=>E.aoP d|none=>false
def xU (σ:ak)(x:V):Option (V×ak):=match x with
 |.aM loc s off len _ bZ ag=>(σ.bQ loc s).bind fun cs=>
  if off+len*bZ<=cs.length/\(ag||bZ==1&& dU (((cs.drop off).take (len*bZ)).map fB))=true then some (.ay .sh (chunks ag bZ len (((cs.drop off).take (len*bZ)).map fB)),σ.eu loc) else none
 |.ay _ l=>some (.ay .sh l,σ)|v=>some (v,σ)
def d9 (fr:Fr)(σ:ak)(st:Nat)(o:Oper):Option (V×ak):=
 let loc:Option Loc:=o.dst.map fun t=>(fr.d,t)
 match o.op with
 |.move x=>if zG E o.dst=true then xU σ (fr.ev E x) else some (fr.ev E x,σ)|.assign x=>some (fr.ev E x,σ)|.pick c a b=>(zD (fr.ev E c)).map fun t=>(if t then fr.ev E a else fr.ev E b,σ)
 |.alloc t=>loc.bind fun loc=>(kC E.P t).bind fun z=>if dU z.cells then some (.ref loc st 0,σ.setObj loc st (.cells z.cells)) else none
 |.box t x=>if AZ E t o.dst=true then (if aW (er (fr.ev E x))=true/\fM (fr.ev E x) then some (.aY (er (fr.ev E x)).cells 0,σ) else none) else loc.bind fun loc=>if dU (fr.ev E x).cells/\fM (fr.ev E x) then some (.ref loc st 0,σ.setObj loc st (.cells (fr.ev E x).cells)) else none
 |.build t parts=>(Uv E t).bind fun pl=>(kC E.P t).bind fun z=>(uN pl z.cells (parts.toList.map fun (i,x)=>(i,fr.ev E x))).map fun cs=>(.agg cs,σ)
 |.buildSlice t len parts=>if CQ E o.dst=true then CS E σ st (o.dst.map fun t=>(fr.d,E.cn t)) t len (parts.toList.map fun (i,x)=>(i,fr.ev E x)) else (zF E t len (parts.toList.map fun (i,x)=>(i,fr.ev E x))).map fun v=>(v,σ)
 |.load t a=>match fr.ev E a with
  |.ref loc s off=>(σ.bQ loc s).bind fun cs=>(kN E.P t cs off).map fun v=>(v,σ)
  |.aY cs off=>(kN E.P t cs off).map fun v=>(v,σ)
  |_=>none
 |.store t a x=>match fr.ev E a with
  |.ref loc s off=>(σ.bQ loc s).bind fun cs=>
   if some (fr.ev E x).cells.length=fq E.P t/\off+(fr.ev E x).cells.length<=cs.length/\dU (fr.ev E x).cells then some (aL,σ.setObj loc s (.cells (iT cs off (fr.ev E x).cells))) else none
  |_=>none
 |.nilCheck x=>match fr.ev E x with
  |.ref loc s off=>some (.ref loc s off,σ)|.aY cs off=>some (.aY cs off,σ)|.fn (.func f) a b=>some (.fn (.func f) a b,σ)|_=>none
 |.binOp op t x y _=>(tu E.P op t (fr.ev E x) (fr.ev E y)).map fun v=>(v,σ)
 |.unOp op _ x=>(Ew op (fr.ev E x)).map fun v=>(v,σ)
 |.convert a b x=>(CP E.P σ a b (fr.ev E x)).map fun v=>(v,σ)
 |.sliceToArrayPointer t x=>(Ut E.P t).bind fun (n,_)=>match fr.ev E x with
  |.aM loc s off len _ _ _=>if 0<n/\n<=len then some (.ref loc s off,σ) else none|.ay _ l=>if 0<n/\n<=l.length/\dU l=true then some (.aY (l.take n) 0,σ) else none|_=>none
 |.makeInterface t x=>match E.P.underlying t with
  |some (.interface _)=>none|some _=>some (.iface t (fr.ev E x),σ)|none=>none
 |.makeFunc (.func f) a b=>some (.fn (.func f) (a.toList.map (fr.ev E)) (b.toList.map (fr.ev E)),σ)|.makeMap _ none=>loc.map fun loc=>(.cu loc st,σ.setObj loc st (.map [] []))
 |.makeSlice t l c=>wC E.P fr.aj σ st loc t (fr.ev E l) (fr.ev E c)|.slice t x lo hi mx=>(wB E.P σ t (fr.ev E x) (pz E fr lo) (pz E fr hi) (pz E fr mx)).map fun v=>(v,σ)
 |.fieldAddr t x f=>(xR E.P t f).bind fun (o,_)=>match fr.ev E x with
  |.ref loc s off=>some (.ref loc s (off+o),σ)|.aY cs off=>some (.aY cs (off+o),σ)|_=>none
 |.field t x f=>(xR E.P t f).bind fun (o,u)=>match fr.ev E x with
  |.agg cs=>(kN E.P u cs o).map fun v=>(v,σ)
  |_=>none
 |.indexAddr t x i=>(qU E.P t (fr.ev E x) (fr.ev E i)).map fun v=>(v,σ)
 |.index t x i=>(GU E.P t (fr.ev E x) (fr.ev E i)).map fun v=>(v,σ)
 |.lookup t x i ok=>(zB E.P σ t (fr.ev E x) (fr.ev E i) ok).map fun v=>(v,σ)
 |.mapUpdate t m k v|.insert t m k v=>(uO E.P σ t (fr.ev E m) (fr.ev E k) (fr.ev E v)).map fun σ=>(aL,σ)
 |.extract x i=>match fr.ev E x with
  |.bB vs=>(vs[i]?).map fun v=>(v,σ)
  |_=>none
 |.typeAssert x _ t ok=>(Ym E.P t ok (fr.ev E x)).map fun v=>(v,σ)
 |_=>none
def rV (σ:ak)(t:TypeId)(x:V):Option Nat:=
 match E.P.underlying t,x with
 |some (.array n _),_=>some n|some (.map _ _),.cu loc s=>(σ.gB loc s).map fun (ks,_)=>ks.length
 |some (.map _ _),.dV ks _=>some ks.length|some (.map _ _),.gD=>some 0|some (.pointer a),_=>(Ut E.P a).map fun (n,_)=>n
 |some (.slice _),.ay _ l=>some l.length|some (.slice _),.aM _ _ _ len _ _ _=>some len|some .string,.str s=>some s.length|_,_=>none
def nK (aj:Bool)(loc:Option Loc)(σ:ak)(st:Nat)(b:Builtin)(tys:Array TypeId)(args:List V):Option (V×ak):=
 match b,args with
 |.len,[x]=>(tys[0]?).bind fun t=>(rV E σ t x).map fun n=>(.int .i64 (n:Nat),σ)
 |.cap,[x]=>(tys[0]?).bind fun t=>(nW E.P t).bind fun _=>match x with
  |.ay .nil l|.ay .full l=>some (.int .i64 l.length,σ)|_=>none
 |.append,[x,y]=>(tys[0]?).bind fun t=>((tys[1]?).bind E.P.underlying).bind fun u=>match u with
  |.int _=>mR E.P aj true σ st loc t x y|.slice _|.string=>mR E.P aj false σ st loc t x y|_=>none
 |.copy,[x,y]=>(tys[0]?).bind fun t=>copyV E.P σ t x y
 |.clear,[x]=>(tys[0]?).bind fun t=>GV E.P σ t x
 |.min,x::l=>(xS false x l).map fun v=>(v,σ)
 |.max,x::l=>(xS true x l).map fun v=>(v,σ)
 |_,_=>none
structure kH where
 code:Code->Fr->ak->Option (Ex×Fr×ak)
 call:FuncId->List V->Nat->ak->Option (V×ak)
variable (S:kH)
def wD (f:FuncId)(args:List V):Option V:=
 match E.rU f with
 |some g=>g args|none=>(S.call f args 1 ak.init).bind fun (v,σ)=>bG 20 σ v
def xV (l:Nat)(args:List V)(σ:ak):Option (V×ak):=
 (σ.loops l).bind fun r=>
 if r.st=0/\r.ps.length=args.length then (S.code r.fO {r.fr with tm:=(r.ps.zip args).foldl (fun tm (p,a)=>upd tm p a) r.fr.tm} σ).bind fun (e,fr,σ1)=>
  match e with
  |.normal=>(σ1.loops l).bind fun r1=>
   if r1.st=0 then (S.code r.body fr (σ1.jd l {r1 with st:=1})).bind fun (e,_,σ2)=>(σ2.loops l).bind fun r2=>
    if r2.st=1 then match e with
     |.normal=>some (.bool true,σ2.jd l {r2 with st:=0,pend:=none})
     |e=>some (.bool false,σ2.jd l {r2 with st:=2,pend:=some e})else none else none
  |_=>none else none
def wE (L' L:Loc)(s:Nat)(σ:ak)(v v':V):V×ak:=if L'.1<L.1 then (match σ.obj L with
 |some (s',ob)=>if s'=s then (v',(σ.eu L).setObj L' s ob) else (v,σ)|none=>(v,σ)) else (v,σ)
def jD (L':Option Loc)(σ:ak)(v:V):V×ak:=match v with
 |.aM L s off len cap bZ ag=>(match L' with
  |none=>(.aM L s off len cap bZ ag,σ)|some L'=>wE L' L s σ (.aM L s off len cap bZ ag) (.aM L' s off len cap bZ ag))
 |.fn (.func f) a (.ref L s off::b)=>(match L' with
  |none=>(.fn (.func f) a (.ref L s off::b),σ)|some L'=>wE L' L s σ (.fn (.func f) a (.ref L s off::b)) (.fn (.func f) a (.ref L' s off::b)))
 |v=>(v,σ)
def lg (d:Nat)(dst:Option Nat)(σ:ak)(fv:V)(args:List V):Option (V×ak):=
 match fv with
 |.fn (.func f) first cap=>
  if E.imp f then (S.call f (first++args++cap) (d+1) σ).map fun (v,σ1)=>jD (dst.map fun t=>(d,t)) σ1 v else ((first++args++cap).mapM (bG 20 σ)).bind fun dz=>(wD E S f dz).bind fun v=>
   if (first++args++cap).all (fun a=>aW (er a))||flat v then some (v,σ) else none
 |.fn (.yield l) [] []=>xV S l args σ|_=>none
def lq (fr:Fr)(o:Oper)(f:Operand):Bool:=match fr.ev E f,o.dst with
 |.fn (.func g) _ _,some d=>E.own g d|_,_=>false
def rW (σ:ak)(st:Nat)(σ1:ak):V->Option (V×ak)
 |.ay c l=>if cB l=true then (match c with
  |.nil=>some (.ay .nil l,σ)|.full=>some (.ay .full l,σ)|.own n s=>if σ1.top s=l.length then some (.ay (.own n st) l,σ.dR st l.length) else none|.sh=>none) else none
 |.aM loc s off len _ bZ _=>if off=0/\len=0 then (σ1.bQ loc s).bind fun _=>some (.ay (.own bZ st) [],σ.dR st 0) else none
 |_=>none
def rX (b:Bool)(σ:ak)(l:List V):Option (List V):=if b=true then (match l with
 |.ay .nil []::l=>(l.mapM (bG 20 σ)).map (.ay .nil []:: ·)|_=>none) else l.mapM (bG 20 σ)
def zH (σ:ak)(st:Nat)(loc:Option Loc)(σ1:ak):V->Option (V×ak)
 |.ay c l=>if l.isEmpty=true then (match c with
  |.nil=>some (.ay .nil [],σ)|.full=>some (.ay .full [],σ)|_=>none) else none
 |.aM L s off len cap bZ ag=>loc.bind fun loc=>(σ1.bQ L s).bind fun cs=>if cB (cs.map fB)=true then some (.aM loc st off len cap bZ ag,σ.setObj loc st (.cells (cs.map fB))) else none
 |_=>none
def qo (σ:ak)(st:Nat)(loc:Option Loc)(fv:V)(args:List V):Option (V×ak):=
 match fv with
 |.fn (.func f) first cap=>if (first++args++cap).all (fun a=>aW (er a))=true then (rX (E.zC f) σ (first++args++cap)).bind fun dz=>(S.call f dz 1 ak.init).bind fun (v0,σ1)=>if E.imp f=true then zH σ st loc σ1 v0 else rW σ st σ1 v0 else none
 |_=>none
def opC (fr:Fr)(σ:ak)(st:Nat)(o:Oper):Option (V×Fr×ak):=
 match o.op with
 |.call c=>
  match c.callee with
  |.builtin b=>(nK E fr.aj (o.dst.map fun t=>(fr.d,E.cn t)) σ st b c.argTypes (c.args.toList.map (fr.ev E))).map fun (v,σ)=>(v,fr,σ)
  |.value f=>if lq E fr o f=true then (qo E S σ st (o.dst.map fun t=>(fr.d,E.cn t)) (fr.ev E f) (c.args.toList.map (fr.ev E))).map fun (v,σ)=>(v,fr,σ) else (lg E S fr.d (o.dst.map E.cn) σ (fr.ev E f) (c.args.toList.map (fr.ev E))).map fun (v,σ)=>(v,fr,σ)
  |.invoke .. =>none
 |.defer _=>none|_=>(d9 E fr σ st o).map fun (v,σ)=>(v,fr,σ)
def iU (ops:List Oper)(fr:Fr)(o:Oper):Option Bool:=
 match o.guard with
 |none=>some true|some (j,want)=>match (ops[j]?).bind (·.dst) with
  |some t=>match fr.tm t with
   |.bool b=>some (b==want)|.raw _=>none|_=>some false
  |none=>some false
def opsE (all:List Oper):Nat->List Oper->Fr->ak->Option (Fr×ak)
 |_,[],fr,σ=>some (fr,σ)|st,o::os,fr,σ=>
  (iU all fr o).bind fun t=>if t then (opC E S fr σ st o).bind fun (v,fr,σ)=>opsE all (st+1) os (fr.put o.dst v) σ else opsE all (st+1) os (fr.put o.dst aL) σ
inductive Key where
 |slot (t:Nat)
 |obj (l:Loc)
 |top
 |rest
 |nx
def uQ (a b:Loc):Bool:=a.2==b.2&& a.1==b.1
def Key.eq:Key->Key->Bool
 |.slot a,.slot b=>a==b|.obj a,.obj b=>uQ a b|.top,.top=>true|.rest,.rest=>true|.nx,.nx=>true|_,_=>false
def Key.state:Key->Bool
 |.obj _|.top|.nx=>true|_=>false
structure dO where
 rY:Bool
 oH:Bool
 t:List Key
 w:List Key
def ji:V->List Key
 |.ref loc _ _|.aM loc _ _ _ _ _ _|.cu loc _=>[.obj loc]|_=>[]
def uR (fr:Fr)(o:Oper):List Key:=match o.dst with
 |some t=>[.obj (fr.d,t)]|none=>[]
def nX (t:List Key):dO:=⟨false,false,t,[]⟩
def mq (w:List Key):dO:=⟨false,false,[],w⟩
def gT:dO:=⟨true,true,[],[]⟩
def xW (fr:Fr)(o:Oper):List Key:=match o.dst with
 |some t=>[.obj (fr.d,E.cn t)]|none=>[]
def jw (fr:Fr)(o:Oper):dO:=
 match o.op with
 |.buildSlice .. =>if CQ E o.dst=true then gT else nX []
 |.assign _|.pick .. |.build .. |.nilCheck _|.binOp .. |.unOp .. |.makeInterface .. |.typeAssert .. |.makeFunc .. |.fieldAddr .. |.field .. |.indexAddr .. |.index .. |.extract ..
 |.sliceToArrayPointer .. =>nX []|.move x=>if zG E o.dst=true then mq (ji (fr.ev E x)) else nX []|.convert _ _ x|.slice _ x _ _ _|.load _ x|.lookup _ x _ _=>nX (ji (fr.ev E x))|.alloc _|.box .. |.makeMap .. =>mq (uR fr o)|.makeSlice .. =>mq (.top::uR fr o)|.store _ a _=>mq (ji (fr.ev E a))|.mapUpdate _ m _ _|.insert _ m _ _=>mq (ji (fr.ev E m))|.call c=>match c.callee with
  |.builtin b=>match b with
   |.len|.cap|.min|.max=>nX (c.args.toList.flatMap fun x=>ji (fr.ev E x))
   |.append=>if fr.aj then ⟨false,false,c.args.toList.flatMap fun x=>ji (fr.ev E x),.top::(xW E fr o++c.args.toList.flatMap fun x=>ji (fr.ev E x))⟩ else ⟨false,false,c.args.toList.flatMap fun x=>ji (fr.ev E x),[.top]⟩
   |_=>gT
  |.value f=>if lq E fr o f=true then mq (.top::xW E fr o) else match fr.ev E f with
   |.fn (.func g) a b=>if E.imp g then gT else if (a++c.args.toList.map (fr.ev E)++b).all (fun v=>aW (er v)) then nX [] else ⟨true,false,[],[]⟩
   |_=>gT
  |_=>gT
 |_=>gT
def wF (ops:List Oper)(o:Oper):List Key:=
 (o.op.operands.toList.filterMap fun|.tmp t=>some (.slot t)|_=>none)++
 match o.guard with
 |some (j,_)=>match (ops[j]?).bind (·.dst) with
  |some t=>[.slot t]|none=>[]
 |none=>[]
def nY (o:Oper):List Key:=match o.dst with
 |some t=>[.slot t]|none=>[]
def iD (ops:List Oper)(fr:Fr)(o:Oper)(wanted:Bool):dO:=
 if wanted then let f:=jw E fr o;⟨f.rY,f.oH,wF ops o++f.t,nY o++f.w⟩else ⟨false,false,wF ops o,nY o⟩
def clash (f g:dO):Bool:=
 (f.oH&& (g.rY||g.oH||g.t.any Key.state||g.w.any Key.state))||f.w.any fun k=>k.eq .rest||g.t.any (·.eq k)||g.w.any (·.eq k)||(g.rY||g.oH)&& k.state
def Uw (f g:dO):Bool:= !clash f g&& !clash g f
def tH (ops:List Oper):List Nat:=
 ops.foldl (fun acc o=>acc++[o.after.toList.foldl (fun s e=>if Region.binds .any e then s|||2^e.on|||acc.getD e.on 0 else s) 0]) []
def wG (ms:List Nat)(fs:List dO):Bool:=
 (List.range fs.length).all fun i=>(List.range i).all fun j=>(ms.getD i 0).testBit j||Uw (fs.getD i gT) (fs.getD j gT)
def rZ (ops:List Oper):Bool:=
 (List.range ops.length).all fun i=>match ops[i]? with
   |some o=>o.after.toList.all fun e=>!Region.binds .any e||decide (e.on<i)
   |none=>true
def oI (all:List Oper):Nat->List Oper->Fr->ak->Option (List dO×Fr×ak)
 |_,[],fr,σ=>some ([],fr,σ)|st,o::os,fr,σ=>
  (iU all fr o).bind fun t=>if t then (opC E S fr σ st o).bind fun (v,bM,σ)=>(oI all (st+1) os (bM.put o.dst v) σ).map fun (fs,r)=>(iD E all fr o true::fs,r)else (oI all (st+1) os (fr.put o.dst aL) σ).map fun (fs,r)=>(iD E all fr o false::fs,r)
def fu (k:Key)(x y:Fr×ak):Prop:=
 match k with
 |.slot t=>x.1.tm t=y.1.tm t|.obj l=>x.2.obj l=y.2.obj l|.top=>x.2.top=y.2.top|.rest=>x.1.d=y.1.d/\x.1.aj=y.1.aj|.nx=>x.2.next=y.2.next/\x.2.loops=y.2.loops
def lQ (ops:List Oper)(base i:Nat)(fr:Fr)(σ:ak):Option (Fr×ak):=
 match ops[i]? with
 |none=>some (fr,σ)|some o=>
  (iU ops fr o).bind fun t=>if t then (opC E S fr σ (base+i) o).map fun (v,fr,σ)=>(fr.put o.dst v,σ)else some (fr.put o.dst aL,σ)
def Free (ms:List Nat)(ops:List Oper)(base:Nat)(x y:Fr×ak):Prop:=
 ∃(s:Nat->Fr×ak) (T W:Nat->Key->Prop),s 0=x/\s ops.length=y/\(∀i k,W i k->T i k)/\
  (∀i,i<ops.length->∀x,(∀k,T i k->fu k (s i) x)->∃y,lQ E S ops base i x.1 x.2=some y/\(∀k,W i k->fu k (s (i+1)) y)/\∀k,¬W i k->fu k x y)/\
  (∀i,i<ops.length->∀k,¬W i k->fu k (s i) (s (i+1)))/\
  ∀i j,i<ops.length->j<i->(ms.getD i 0).testBit j=true\/((∀k,¬(W i k/\T j k))/\∀k,¬(W j k/\T i k))
noncomputable def Yn {α:Type}(p:Prop)(x:Option α):Option α:= @ite _ p (Classical.propDecidable p) x none
def Yo:V->Bool
 |.fn (.func _) _ _=>true|_=>false
noncomputable def fH:Code->Fr->ak->Option (Ex×Fr×ak)
 |.skip,fr,σ=>some (.normal,fr,σ)|.region _ ops dr,fr,σ=>
  if dr then (oI E S ops.toList σ.next ops.toList fr {σ with next:=σ.next+ops.toList.length}).bind fun (fs,fr',σ')=>if rZ ops.toList&& wG (tH ops.toList) fs then some (.normal,fr',σ') else Yn (rZ ops.toList=true/\Free E S (tH ops.toList) ops.toList σ.next (fr,{σ with next:=σ.next+ops.toList.length}) (fr',σ')) (some (.normal,fr',σ'))else (opsE E S ops.toList σ.next ops.toList fr {σ with next:=σ.next+ops.toList.length}).map fun (fr,σ)=>(.normal,fr,σ)
 |.seq a b,fr,σ=>(fH a fr σ).bind fun (e,fr,σ)=>match e with
  |.normal=>fH b fr σ|e=>some (e,fr,σ)
 |.cond c a b,fr,σ=>(zD (fr.ev E c)).bind fun t=>if t then fH a fr σ else fH b fr σ
 |.block id c,fr,σ=>(fH c fr σ).map fun (e,fr,σ)=>match e with
  |.exit i=>if i=id then (.normal,fr,σ) else (.exit i,fr,σ)|e=>(e,fr,σ)
 |.loop c,fr,σ=>(fH c fr σ).bind fun (e,fr,σ)=>match e with
  |.normal=>S.code (.loop c) fr σ|e=>some (e,fr,σ)
 |.scope c,fr,σ=>fH c fr σ|.label _,fr,σ=>some (.normal,fr,σ)|.exit id,fr,σ=>some (.exit id,fr,σ)|.ret,fr,σ=>some (.ret,fr,σ)|.rangeFunc f ps fO body,fr,σ=>
  if Yo (fr.ev E f) then (lg E S fr.d none ({σ with next:=σ.next+1}.jd σ.next {st:=0,pend:=none,fr:=fr,ps:=ps.toList,fO:=fO,body:=body}) (fr.ev E f) [.fn (.yield σ.next) [] []]).bind fun (_,σ2)=>(σ2.loops σ.next).bind fun r=>
  if r.st=1 then none else some ((match r.pend with|none=>.normal|some e=>e),fr,σ2.pG σ.next)else none
 |_,_,_=>none
def lu (fr:Fr)(σ:ak):ResultVar->Option V
 |.tmp t=>some (fr.tm t)|.cell a t=>match fr.tm a with
  |.ref loc s off=>(σ.bQ loc s).bind fun cs=>kN E.P t cs off
  |_=>none
def wH (n:Nat)(ops:List Oper):Bool:=ops.all fun o=>match o.dst with
 |some d=>d<n|none=>true
def jy (n:Nat):Code->Bool
 |.region _ ops _=>wH n ops.toList|.seq a b=>jy n a&& jy n b|.cond _ a b=>jy n a&& jy n b|.block _ c=>jy n c|.loop c=>jy n c|.scope c=>jy n c|.rangeFunc _ ps a b=>ps.toList.all (· <n)&& jy n a&& jy n b&& lX a&& lX b|_=>true
noncomputable def CU (f:FuncId)(args:List V)(d:Nat)(σ:ak):Option (V×ak):=
 (E.P.funcs[f]?).bind fun fn=>fn.body.bind fun c=>
 if args.length<=fn.ntmps/\jy fn.ntmps c then (S.code c {d:=d,aj:=E.aj f,tm:=fun i=>args.getD i aL} σ).bind fun (e,fr,σ)=>
 match e with
 |.normal|.ret=>
  (fn.results.toList.mapM (lu E fr σ)).map fun vs=>(match vs with| [v]=>v|vs=>.bB vs,σ)
 |.exit _=>none else none
def CV (f:FuncId)(args:List V):Option V:=(E.cl f).bind fun g=>g args
noncomputable def CW (f:FuncId)(args:List V)(d:Nat)(σ:ak):Option (V×ak):=match CV E f args with
 |some v=>some (v,σ)|none=>CU E S f args d σ
noncomputable def dX:Nat->kH
 |0=>⟨fun _ _ _=>none,fun _ _ _ _=>none⟩
 |n+1=>⟨fH E (dX n),CW E (dX n)⟩
end
end aR
end
section
namespace aR
open Go Go.RowKit
inductive xX where
 |obj (loc:Loc)
 |own (s:Nat)
 |loop (l:Nat)
structure aU where
 A:Nat->Prop
 blk:Nat->Nat
 sz:Nat->Nat
 ob:Nat->Nat
 lo:Nat->Nat
 hi:Nat->Nat
 lp:Nat->Nat
 I:Nat->Nat->Prop
 IM:Nat->Prop
 D:Nat->Prop
 ρ:Nat->Option xX
abbrev at_ (b o:Nat):Addr:=⟨b,o,none⟩
def Nh:Obj->Prop
 |.map _ _=>True|.mapIter _ _ _ _=>True|_=>False
def r9 (w:World)(b:Nat):Prop:=∃o,w.heap[b]? =some o/\Nh o
def iV (es:Array MapEntry)(bX:Nat):Prop:=(∀y∈es.toList.map MapEntry.born,y<bX)/\(es.toList.map MapEntry.born).Nodup
theorem iV.empty:iV #[] 0:=⟨fun _ h=>bL,List.nodup_nil⟩
theorem iV.push {es:Array MapEntry}{bX:Nat}(h:iV es bX){e:MapEntry}(he:e.born=bX):iV (es.push e) (bX+1):=by
 have e1:(es.push e).toList.map MapEntry.born=es.toList.map MapEntry.born++[bX]:=by rw[Array.toList_push,nU,List.map_singleton,he]
 refine⟨fun y hy=>?_,?_⟩
 ·rw[e1] at hy
  rcases nG.1 hy with hy|hy
  ·exact Nat.lt_succ_of_lt (h.1 y hy)
  ·rw[jk.1 hy];exact Cz _
 ·rw[e1]
  refine List.nodup_append.2 ⟨h.2,List.pairwise_singleton _ _,fun a ha b hb=>?_⟩;rw[jk.1 hb];exact kF (h.1 a ha)
theorem iV.modify {es:Array MapEntry}{bX:Nat}(h:iV es bX){j:Nat}{f:MapEntry->MapEntry}(hf:∀e,(f e).born=e.born):iV (es.modify j f) bX:=by
 have e1:(es.modify j f).toList.map MapEntry.born=es.toList.map MapEntry.born:=by
  apply List.ext_getElem?;intro i;rw[List.getElem?_map,List.getElem?_map,Array.getElem?_toList,Array.getElem?_toList,Array.getElem?_modify];by_cases hji:j=i
  ·rw[if_pos hji]
   cases es[i]? with
   |none=>rfl|some e=>exact congrArg some (hf e)
  ·rw[if_neg hji]
 unfold iV;rw[e1];exact h
def uS (K:aU)(T:Nat->Nat)(c:Cap)(n b o len cap:Nat):Prop:=
 match c with
 |.sh=>True|.full=>cap=len|.nil=>False|.own n' s=>n'=n/\K.A s/\len<=T s/\(len=T s->K.ob s=b/\K.lo s=o+len*n/\K.hi s=o+cap*n)
def Ni (K:aU)(T:Nat->Nat)(c:Cap):Prop:=
 match c with
 |.own _ s=>K.A s/\(T s=0->K.hi s=K.lo s)|_=>True
inductive Rel (K:aU)(T:Nat->Nat)(w:World):V->Value->Prop
 |int (k:IntKind) (n:Int):Rel K T w (.int k n) (.int k n)
 |bool (b:Bool):Rel K T w (.bool b) (.bool b)
 |str (s:List UInt8) (b:ByteArray) (h:b.data.toList=s):Rel K T w (.str s) (.string b)
 |iC:Rel K T w .iC (.pointer none)
 |gQ:Rel K T w .gQ .nilFunc
 |gD:Rel K T w .gD (.map none)
 |iH:Rel K T w .iH .nilIface
 |agg (cs:List V) (vs:Array Value) (hl:cs.length=vs.size) (h:∀i,i<cs.length->Rel K T w (cs.getD i aL) (vs.getD i undef)):Rel K T w (.agg cs) (.agg vs)
 |bB (cs:List V) (vs:Array Value) (hl:cs.length=vs.size) (h:∀i,i<cs.length->Rel K T w (cs.getD i aL) (vs.getD i undef)):Rel K T w (.bB cs) (.tuple vs)
 |eP (c:Cap) (a:Option Addr) (ha:c= .nil->a=none) (hc:Ni K T c):Rel K T w (.ay c []) (.slice a 0 0)
 |ay (c:Cap) (l:List V) (b o n cap:Nat) (val:Nat->Nat->Value) (hle:l.length<=cap)
   (hn:∀i,i<l.length->(l.getD i aL).cells.length=n)
   (hcell:∀i j,i<l.length->j<n->w.cell? (at_ b (o+i*n+j))=some (val i j)/\K.I b (o+i*n+j))
   (hrel:∀i j,i<l.length->j<n->Rel K T w ((l.getD i aL).cells.getD j aL) (val i j))
   (hc:uS K T c n b o l.length cap):Rel K T w (.ay c l) (.slice (some (at_ b o)) l.length cap)
 |aM (loc:Loc) (s off len cap bZ:Nat) (ag:Bool) (dP:Nat) (hA:K.A s) (hc:cap<=dP) (hle:len<=cap) (hsz:off+dP*bZ<=K.sz s):
   Rel K T w (.aM loc s off len cap bZ ag) (.slice (some (at_ (K.blk s) off)) len dP)
 |kP (loc:Loc) (s bZ:Nat) (ag:Bool) (hA:K.A s):Rel K T w (.aM loc s 0 0 0 bZ ag) (.slice none 0 0)
 |aY (cs:List V) (off b o:Nat) (val:Nat->Value)
   (hcell:∀j,j<cs.length->w.cell? (at_ b (o+j))=some (val j)/\K.I b (o+j))
   (hrel:∀j,j<cs.length->Rel K T w (cs.getD j aL) (val j)):Rel K T w (.aY cs off) (.pointer (some (at_ b (o+off))))
 |ref (loc:Loc) (s off:Nat) (hA:K.A s):Rel K T w (.ref loc s off) (.pointer (some (at_ (K.blk s) off)))
 |fn (f:FuncId) (a b:List V) (j6 bv:Array Value) (ha:a.length=j6.size) (hb:b.length=bv.size)
   (ra:∀i,i<a.length->Rel K T w (a.getD i aL) (j6.getD i undef)) (rb:∀i,i<b.length->Rel K T w (b.getD i aL) (bv.getD i undef)):
   Rel K T w (.fn (.func f) a b) (.func (.func f) j6 bv)
 |yield (l:Nat) (hA:K.A l):Rel K T w (.fn (.yield l) [] []) (.func (.yield (K.lp l)) #[] #[])
 |cu (loc:Loc) (s:Nat) (hA:K.A s):Rel K T w (.cu loc s) (.map (some (K.blk s)))
 |dV (ks vs:List V) (b:Nat) (es:Array MapEntry) (bX:Nat) (hM:K.IM b) (hb:w.heap[b]? =some (.map es bX))
   (hk:ks.length=es.size) (hv:vs.length=es.size)
   (rk:∀i,i<es.size->Rel K T w (ks.getD i aL) (es.getD i default).key) (rv:∀i,i<es.size->Rel K T w (vs.getD i aL) (es.getD i default).val):
   Rel K T w (.dV ks vs) (.map (some b))
 |iface (t:TypeId) (v:V) (c:Value) (h:Rel K T w v c):Rel K T w (.iface t v) (.iface t c)
 |raw (v:Value):Rel K T w (.raw v) v
structure Ext (K:aU)(T:Nat->Nat)(w:World)(K':aU)(T':Nat->Nat)(w':World):Prop where
 A:∀s,K.A s->K'.A s/\K'.blk s=K.blk s/\K'.lp s=K.lp s/\K'.sz s=K.sz s
 own:∀s,K.A s->(T' s=T s/\K'.ob s=K.ob s/\K'.lo s=K.lo s/\K'.hi s=K.hi s)\/T s<T' s
 I:∀b o,K.I b o->K'.I b o/\w'.cell? (at_ b o)=w.cell? (at_ b o)
 IM:∀b,K.IM b->K'.IM b/\w'.heap[b]? =w.heap[b]?
theorem Ext.refl (K:aU)(T:Nat->Nat)(w:World):Ext K T w K T w:=
 ⟨fun _ h=>⟨h,rfl,rfl,rfl⟩,fun _ _=>.inl ⟨rfl,rfl,rfl,rfl⟩,fun _ _ h=>⟨h,rfl⟩,fun _ h=>⟨h,rfl⟩⟩
theorem Ext.trans {K T w K1 T1 w1 K2 T2 w2}(h:Ext K T w K1 T1 w1)(g:Ext K1 T1 w1 K2 T2 w2):Ext K T w K2 T2 w2 where
 A s hs:=by obtain⟨a,b,c,d⟩:=h.A s hs;obtain⟨a',b',c',d'⟩:=g.A s a;exact⟨a',b'.trans b,c'.trans c,d'.trans d⟩
 own s hs:=by
  obtain⟨a,_,_,_⟩:=h.A s hs;rcases h.own s hs with ⟨h1,h2,h3,h4⟩|h1
  ·rcases g.own s a with ⟨g1,g2,g3,g4⟩|g1
   ·exact .inl ⟨g1.trans h1,g2.trans h2,g3.trans h3,g4.trans h4⟩
   ·exact .inr ah
  ·rcases g.own s a with ⟨g1,_⟩|g1
   ·exact .inr ah
   ·exact .inr ah
 I b o hb:=by obtain⟨a,e⟩:=h.I b o hb;obtain⟨a',e'⟩:=g.I b o a;exact⟨a',e'.trans e⟩
 IM b hb:=by obtain⟨a,e⟩:=h.IM b hb;obtain⟨a',e'⟩:=g.IM b a;exact⟨a',e'.trans e⟩
theorem uS.ext {K T w K' T' w'}(e:Ext K T w K' T' w'){c:Cap}{n b o len cap:Nat}(h:uS K T c n b o len cap):uS K' T' c n b o len cap:=by
 cases c with
 |sh=>trivial|full=>exact h|nil=>exact h|own n' s=>
  obtain⟨h1,h2,h3,h4⟩:=h;refine⟨h1,(e.A s h2).1,?_,?_⟩
  ·rcases e.own s h2 with ⟨e1,_⟩|e1<;>omega
  ·intro hl
   rcases e.own s h2 with ⟨e1,e2,e3,e4⟩|e1
   ·rw[e2,e3,e4];exact h4 ah
   ·omega
theorem Ni.ext {K T w K' T' w'}(e:Ext K T w K' T' w'){c:Cap}(h:Ni K T c):Ni K' T' c:=by
 cases c with
 |own n' s=>
  refine⟨(e.A s h.1).1,fun h0=>?_⟩;rcases e.own s h.1 with ⟨e1,_,e3,e4⟩|e1
  ·rw[e3,e4];exact h.2 ah
  ·omega
 |_=>trivial
theorem Rel.ext {K T w K' T' w'}(e:Ext K T w K' T' w'){v:V}{c:Value}(h:Rel K T w v c):Rel K' T' w' v c:=by
 induction h with
 |int k n=>exact .int k n|bool b=>exact .bool b|str s b h=>exact .str s b h|iC=>exact .iC|gQ=>exact .gQ|gD=>exact .gD|iH=>exact .iH|agg cs vs hl _ ih=>exact .agg cs vs hl ih|bB cs vs hl _ ih=>exact .bB cs vs hl ih|eP c a ha hc=>exact .eP c a ha (hc.ext e)|ay c l b o n cap val hle hn hcell _ hc ih=>refine .ay c l b o n cap val hle hn (fun i j hi hj=>?_) ih (hc.ext e);obtain⟨h1,h2⟩:=hcell i j hi hj;obtain⟨g1,g2⟩:=e.I _ _ h2;exact⟨g2.trans h1,g1⟩
 |aM loc s off len cap bZ ag dP hA hc hle hsz=>have:=(e.A s hA);rw[<-this.2.1];exact .aM loc s off len cap bZ ag dP this.1 hc hle (by rw[this.2.2.2];exact hsz)|kP loc s bZ ag hA=>exact .kP loc s bZ ag (e.A s hA).1|aY cs off b o val hcell _ ih=>refine .aY cs off b o val (fun j hj=>?_) ih;obtain⟨h1,h2⟩:=hcell j hj;obtain⟨g1,g2⟩:=e.I _ _ h2;exact⟨g2.trans h1,g1⟩
 |ref loc s off hA=>have:=(e.A s hA);rw[<-this.2.1];exact .ref loc s off this.1|fn f a b j6 bv ha hb _ _ iha ihb=>exact .fn f a b j6 bv ha hb iha ihb|yield l hA=>have:=(e.A l hA);rw[<-this.2.2.1];exact .yield l this.1|cu loc s hA=>have:=(e.A s hA);rw[<-this.2.1];exact .cu loc s this.1|dV ks vs b es bX hM hb hk hv _ _ ihk Ez=>obtain⟨g1,g2⟩:=e.IM b hM;exact .dV ks vs b es bX g1 (g2.trans hb) hk hv ihk Ez
 |iface t v c _ ih=>exact .iface t v c ih|raw v=>exact .raw v
theorem Rel.undef (K T w):Rel K T w aL undef:=.bB [] #[] rfl (fun i hi=>absurd hi (gL i))
def iN.real:iN->Prop
 |.cells []=>False|_=>True
def EA (K:aU)(T:Nat->Nat)(w:World)(B0 s:Nat):iN->Prop
 |.cells cs=>(cs=[]->K.sz s=0)/\(cs≠[]->B0<=K.blk s/\∃vals t,w.heap[K.blk s]? =some (.cells vals t (0,0))/\vals.size=K.sz s/\cs.length<=vals.size/\
    ∀i,i<cs.length->Rel K T w (cs.getD i aL) (vals.getD i undef))
 |.map ks vs=>B0<=K.blk s/\∃es bX,w.heap[K.blk s]? =some (.map es bX)/\iV es bX/\ks.length=es.size/\vs.length=es.size/\
    (∀i,i<es.size->Rel K T w (ks.getD i aL) (es.getD i default).key)/\(∀i,i<es.size->Rel K T w (vs.getD i aL) (es.getD i default).val)
def kD (K:aU)(T:Nat->Nat)(w:World)(fr:Fr)(tmps:Array Value):Prop:=∀t,Rel K T w (fr.tm t) (tmps.getD t undef)
def uT:Ex->Option Code
 |.normal=>none|.exit i=>some (.exit i)|.ret=>some .ret
def tJ (n:Nat):LoopState:=if n=0 then .ready else if n=1 then .busy else .done
def Nj (K:aU)(T:Nat->Nat)(w:World)(B0 l:Nat)(r:qP):Prop:=
 B0<=K.lp l/\K.ρ (K.lp l)=some (.loop l)/\∃(fn:FuncId) (tmps:Array Value) (D:Nat),
  w.heap[K.lp l]? =some (.loop {state:=tJ r.st,pending:=r.pend.bind uT,fn:=fn,tmps:=tmps,params:=r.ps.toArray,assign:=r.fO,body:=r.body,defers:=D})/\
  kD K T w r.fr tmps/\jy tmps.size r.fO=true/\jy tmps.size r.body=true/\(∀p∈r.ps,p<tmps.size)/\lX r.fO=true/\lX r.body=true
def Yp (K:aU)(w:World)(B0 s:Nat):Prop:=
 B0<=K.ob s/\K.ρ (K.ob s)=some (.own s)/\∀o,K.lo s<=o->o<K.hi s->¬K.I (K.ob s) o/\(∃v,w.cell? (at_ (K.ob s) o)=some v)/\w.frozen? (at_ (K.ob s) o)=false
structure bE (E:Env)(B0:Nat)(σ:ak)(K:aU)(w:World):Prop where
 obj:∀loc s ob,σ.obj loc=some (s,ob)->K.A s/\EA K σ.top w B0 s ob/\(ob.real->K.ρ (K.blk s)=some (.obj loc))
 own:∀s,K.A s->K.lo s<K.hi s->Yp K w B0 s
 I:∀b o,K.I b o->(∃v,w.cell? (at_ b o)=some v)/\∀loc,K.ρ b≠some (.obj loc)
 IM:∀b,K.IM b->r9 w b/\∀loc,K.ρ b≠some (.obj loc)
 loop:∀l r,σ.loops l=some r->K.A l/\Nj K σ.top w B0 l r
 glob:∀g cs,E.glob g=some cs->Rel K σ.top w (.aY cs 0) (.pointer (some (at_ g 0)))
 rb:∀b r,K.ρ b=some r->b<w.heap.size/\B0<=b
 D:∀b,K.D b->w.heap[b]? =some (.deferred (some []))
structure Only (b:Nat)(w w':World):Prop where
 os:w'.os=w.os
 tape:w'.tape=w.tape
 output:w'.output=w.output
 size:w.heap.size<=w'.heap.size
 block:∀k,k≠b->k<w.heap.size->w'.heap[k]? =w.heap[k]?
 dr:w.drawn<=w'.drawn
structure Below (B:Nat)(w w':World):Prop where
 kit:Go.RowKit.Below B w w'
 dr:w.drawn<=w'.drawn
theorem Below.refl (B:Nat)(w:World):Below B w w:=⟨.refl _ _,iP _⟩
theorem Below.trans {B:Nat}{a b c:World}(h:Below B a b)(k:Below B b c):Below B a c:=⟨h.kit.trans k.kit,dJ h.dr k.dr⟩
theorem Below.size {B:Nat}{w w':World}(h:Below B w w'):w.heap.size<=w'.heap.size:=h.kit.size
theorem Below.block {B:Nat}{w w':World}(h:Below B w w'):∀k,k<B->w'.heap[k]? =w.heap[k]? :=h.kit.block
theorem Only.below {b B0:Nat}{w w':World}(h:Only b w w')(hb:B0<=b)(hB:B0<=w.heap.size):Below B0 w w':=
 ⟨⟨h.os,h.tape,h.output,h.size,fun k hk=>h.block k ah ah⟩,h.dr⟩
theorem cell_of_heap {w w':World}{b o:Nat}(h:w'.heap[b]? =w.heap[b]?):w'.cell? (at_ b o)=w.cell? (at_ b o):=by simp[World.cell?,h]
theorem frozen_of_heap {w w':World}{b o:Nat}(h:w'.heap[b]? =w.heap[b]?):w'.frozen? (at_ b o)=w.frozen? (at_ b o):=by simp[World.frozen?,h]
theorem lt_of_cell {w:World}{b o:Nat}{v:Value}(h:w.cell? (at_ b o)=some v):b<w.heap.size:=World.block_lt_of_cell? w (at_ b o) h
theorem lt_of_heap {w:World}{b:Nat}{o:Obj}(h:w.heap[b]? =some o):b<w.heap.size:=(Array.getElem?_eq_some_iff.1 h).1
theorem Yq {w:World}{b i:Nat}{o:Obj}{v:Value}(h:w.heap[b]? =some o)(hm:Nh o)(hc:w.cell? (at_ b i)=some v):False:=by
 cases o<;>first|exact hm| (simp[World.cell?,h] at hc)
theorem Ux {w:World}{b c:Nat}{o o':Obj}(h:w.heap[b]? =some o)(hm:Nh o)(h':w.heap[c]? =some o')(hn:¬Nh o'):b≠c:=by rintro rfl;rw[h] at h';cases h';exact hn hm
theorem kD.ext {K T w K' T' w'}(e:Ext K T w K' T' w'){fr:Fr}{tmps:Array Value}(h:kD K T w fr tmps):kD K' T' w' fr tmps:=fun t=>(h t).ext e
theorem EA.ext {K T w K' T' w'}(e:Ext K T w K' T' w'){B0 s:Nat}(hA:K.A s){ob:iN}(h:EA K T w B0 s ob)(hb:ob.real->w'.heap[K.blk s]? =w.heap[K.blk s]?):
 EA K' T' w' B0 s ob:=by
 obtain⟨_,e2,_,e4⟩:=e.A s hA;cases ob with
 |cells cs=>refine⟨fun h0=>by rw[e4];exact h.1 h0,fun hne=>?_⟩;obtain⟨h1,vals,t,h2,h3,h4,h5⟩:=h.2 hne;have hb':=hb (by cases cs with|nil=>exact absurd rfl hne|cons _ _=>trivial);refine⟨by rw[e2];exact h1,vals,t,by rw[e2,hb',h2],by rw[e4];exact h3,h4,fun i hi=>(h5 i hi).ext e⟩
 |map ks vs=>obtain⟨h1,es,bX,h2,hbn,h3,h4,h5,h6⟩:=h;exact⟨by rw[e2];exact h1,es,bX,by rw[e2,hb trivial,h2],hbn,h3,h4,fun i hi=>(h5 i hi).ext e,fun i hi=>(h6 i hi).ext e⟩
theorem Nj.ext {K T w K' T' w'}(e:Ext K T w K' T' w'){B0 l:Nat}(hA:K.A l){r:qP}(h:Nj K T w B0 l r)(hb:w'.heap[K.lp l]? =w.heap[K.lp l]?)(hρ:K'.ρ (K.lp l)=K.ρ (K.lp l)):
 Nj K' T' w' B0 l r:=by
 obtain⟨_,_,e3,_⟩:=e.A l hA;obtain⟨h1,hr,fn,tmps,D,h2,h3,h4⟩:=h;exact⟨by rw[e3];exact h1,by rw[e3,hρ];exact hr,fn,tmps,D,by rw[e3,hb,h2],h3.ext e,h4⟩
theorem bE.upd {E:Env}{B0 b:Nat}{σ σ':ak}{K K':aU}{w w':World}(h:bE E B0 σ K w)(ho:Only b w w')(e:Ext K σ.top w K' σ'.top w')(hρ:∀k,k≠b->K'.ρ k=K.ρ k)(aoR:∀r,K'.ρ b=some r->b<w'.heap.size/\B0<=b)(EB:∀loc s ob,σ'.obj loc=some (s,ob)->(σ.obj loc=some (s,ob)/\(ob.real->K.blk s≠b))\/ (K'.A s/\EA K' σ'.top w' B0 s ob/\(ob.real->K'.ρ (K'.blk s)=some (.obj loc))))(hown:∀s,K'.A s->K'.lo s<K'.hi s->(K.A s/\K'.lo s=K.lo s/\K'.hi s=K.hi s/\K'.ob s=K.ob s/\K.ob s≠b)\/Yp K' w' B0 s)(hI:∀b' o,K'.I b' o->(K.I b' o/\b'≠b)\/(b'=b/\(∃v,w'.cell? (at_ b o)=some v)/\∀loc,K'.ρ b≠some (.obj loc)))(Nk:∀b',K'.IM b'->(K.IM b'/\b'≠b)\/(b'=b/\r9 w' b/\∀loc,K'.ρ b≠some (.obj loc)))(hloop:∀l r,σ'.loops l=some r->(σ.loops l=some r/\K.lp l≠b)\/(K'.A l/\Nj K' σ'.top w' B0 l r))(hD:∀b',K'.D b'->(K.D b'/\b'≠b)\/(b'=b/\w'.heap[b]? =some (.deferred (some [])))):bE E B0 σ' K' w' where
 obj loc s ob hs:=by
  rcases EB loc s ob hs with ⟨h1,h2⟩|h1
  ·obtain⟨a1,a2,a3⟩:=h.obj loc s ob h1
   obtain⟨e1,e2,_,_⟩:=e.A s a1;refine⟨e1,a2.ext e a1 (fun hr=>ho.block _ (h2 hr) (h.rb _ _ (a3 hr)).1),fun hr=>?_⟩;rw[e2,hρ _ (h2 hr)];exact a3 hr
  ·exact h1
 own s hs hlt:=by
  rcases hown s hs hlt with ⟨h1,h2,h3,h4,h5⟩|h1
  ·obtain⟨a1,a2,a3⟩:=h.own s h1 ah
   refine⟨by rw[h4];exact a1,by rw[h4,hρ _ h5];exact a2,fun o hl hh=>?_⟩;obtain⟨c1,⟨v,c2⟩,c3⟩:=a3 o ah ah;have hb:=ho.block _ h5 (lt_of_cell c2);rw[h4];refine⟨fun hi=>?_,⟨v,by rw[cell_of_heap hb];exact c2⟩,by rw[frozen_of_heap hb];exact c3⟩;rcases hI _ _ hi with ⟨g,_⟩| ⟨g,_⟩
   ·exact c1 g
   ·exact h5 g
  ·exact h1
 I b' o hi:=by
   rcases hI b' o hi with ⟨h1,h2⟩| ⟨h1,h2,h3⟩
   ·obtain⟨⟨v,c⟩,r⟩:=h.I b' o h1
    exact⟨⟨v,by rw[cell_of_heap (ho.block _ h2 (lt_of_cell c))];exact c⟩,by rw[hρ _ h2];exact r⟩
   ·subst h1;exact⟨h2,h3⟩
 IM b' hi:=by
  rcases Nk b' hi with ⟨h1,h2⟩| ⟨h1,h2,h3⟩
  ·obtain⟨⟨o,c,c'⟩,r⟩:=h.IM b' h1
   exact⟨⟨o,by rw[ho.block _ h2 (lt_of_heap c)];exact c,c'⟩,by rw[hρ _ h2];exact r⟩
  ·subst h1;exact⟨h2,h3⟩
 loop l r hl:=by
  rcases hloop l r hl with ⟨h1,h2⟩|h1
  ·obtain⟨a1,a2⟩:=h.loop l r h1
   refine⟨(e.A l a1).1,a2.ext e a1 (ho.block _ h2 (h.rb _ _ a2.2.1).1) (hρ _ h2)⟩
  ·exact h1
 glob g cs hg:=(h.glob g cs hg).ext e
 rb b' r hr:=by
  by_cases hb:b'=b
  ·subst hb;exact aoR r hr
  ·rw[hρ _ hb] at hr
   have:=h.rb b' r hr;exact⟨gM this.1 ho.size,this.2⟩
 D b' hd:=by
   rcases hD b' hd with ⟨h1,h2⟩| ⟨h1,h2⟩
   ·have:=h.D b' h1
    rw[ho.block _ h2 (lt_of_heap this)];exact this
   ·rw[h1];exact h2
theorem bE.same {E:Env}{B0:Nat}{σ:ak}{K:aU}{w w':World}(h:bE E B0 σ K w)(hh:w'.heap=w.heap):bE E B0 σ K w':=by
 have e:Ext K σ.top w K σ.top w':=⟨fun _ h=>⟨h,rfl,rfl,rfl⟩,fun _ _=>.inl ⟨rfl,rfl,rfl,rfl⟩,fun b o h=>⟨h,cell_of_heap zq⟩,fun b h=>⟨h,zq⟩⟩;refine⟨fun loc s ob hs=>?_,fun s hs hl=>?_,fun b o hi=>?_,fun b hi=>?_,fun l r hl=>?_,fun g cs hg=>(h.glob g cs hg).ext e,fun b r hr=>by rw[hh];exact h.rb b r hr,fun b hb=>by rw[hh];exact h.D b hb⟩
 ·obtain⟨a1,a2,a3⟩:=h.obj loc s ob hs
  exact⟨a1,a2.ext e a1 (fun _=>zq),a3⟩
 ·obtain⟨a1,a2,a3⟩:=h.own s hs hl
  exact⟨a1,a2,fun o p q=>⟨(a3 o p q).1,by rw[cell_of_heap (w:=w) zq];exact(a3 o p q).2.1,by rw[frozen_of_heap (w:=w) zq];exact(a3 o p q).2.2⟩⟩
 ·obtain⟨a1,a2⟩:=h.I b o hi
  exact⟨by rw[cell_of_heap (w:=w) zq];exact a1,a2⟩
 ·obtain⟨a1,a2⟩:=h.IM b hi
  exact⟨by unfold r9;rw[hh];exact a1,a2⟩
 ·obtain⟨a1,a2⟩:=h.loop l r hl
  exact⟨a1,a2.ext e a1 zq rfl⟩
structure Step (E:Env)(B0:Nat)(new:Nat->Prop)(σ:ak)(K:aU)(w:World)(σ':ak)(K':aU)(w':World):Prop where
 ok:bE E B0 σ' K' w'
 ext:Ext K σ.top w K' σ'.top w'
 below:Below B0 w w'
 D:∀b,K.D b->K'.D b
 A:∀s,K'.A s->K.A s\/new s
 qp:∀b o,K'.I b o->K.I b o\/B0<=b
 qw:∀b,K'.IM b->K.IM b\/B0<=b
theorem Step.refl {E B0 new σ K w}(h:bE E B0 σ K w):Step E B0 new σ K w σ K w:=
 ⟨h,.refl _ _ _,.refl _ _,fun _ h=>h,fun _ h=>.inl h,fun _ _ h=>.inl h,fun _ h=>.inl h⟩
theorem Step.trans {E B0 new σ K w σ1 K1 w1 σ2 K2 w2}(h:Step E B0 new σ K w σ1 K1 w1)(g:Step E B0 new σ1 K1 w1 σ2 K2 w2):Step E B0 new σ K w σ2 K2 w2:=
 ⟨g.ok,h.ext.trans g.ext,h.below.trans g.below,fun b hb=>g.D b (h.D b hb),
   fun s hs=>(g.A s hs).elim (h.A s) .inr,fun b o hi=>(g.qp b o hi).elim (h.qp b o) .inr,fun b hi=>(g.qw b hi).elim (h.qw b) .inr⟩
theorem Step.mono {E B0 new new' σ K w σ1 K1 w1}(h:Step E B0 new σ K w σ1 K1 w1)(hn:∀s,new s->new' s):Step E B0 new' σ K w σ1 K1 w1:=
 ⟨h.ok,h.ext,h.below,h.D,fun s hs=>(h.A s hs).imp id (hn s),h.qp,h.qw⟩
theorem Step.same {E B0 new σ K w w'}(h:bE E B0 σ K w)(hh:w'.heap=w.heap)(h1:w'.os=w.os)(h2:w'.tape=w.tape)(h3:w'.output=w.output)(h4:w.drawn<=w'.drawn:=by first|exact iP _|exact j4 _):Step E B0 new σ K w σ K w':=
 ⟨h.same hh,⟨fun _ h=>⟨h,rfl,rfl,rfl⟩,fun _ _=>.inl ⟨rfl,rfl,rfl,rfl⟩,fun b o h=>⟨h,cell_of_heap zq⟩,fun b h=>⟨h,zq⟩⟩,
   ⟨⟨h1,h2,h3,by rw[hh];exact iP _,fun k _=>zq⟩,h4⟩,fun b h=>h,fun _ h=>.inl h,fun _ _ h=>.inl h,fun _ h=>.inl h⟩
theorem CX (w:World)(o:Obj):Only w.heap.size w (w.alloc o):=
 ⟨rfl,rfl,rfl,aD,fun k hk hl=>by show (w.heap.push o)[k]? =_;rw[Array.getElem?_push,if_neg hk],iP _⟩
theorem heap_alloc_new (w:World)(o:Obj):(w.alloc o).heap[w.heap.size]? =some o:=by show (w.heap.push o)[w.heap.size]? =_;simp
theorem heap_alloc_old {w:World}{o:Obj}{k:Nat}(h:k<w.heap.size):(w.alloc o).heap[k]? =w.heap[k]? :=by show (w.heap.push o)[k]? =_;rw[Array.getElem?_push,if_neg ah]
theorem Nl {w:World}{o:Obj}{b i:Nat}{v:Value}(h:w.cell? (at_ b i)=some v):(w.alloc o).cell? (at_ b i)=some v:=by rw[cell_of_heap (heap_alloc_old (lt_of_cell h))];exact h
def aU.lC (K:aU)(st b n:Nat)(loc:Loc):aU:=
 {K with A:=fun s=>K.A s\/s=st,blk:=upd K.blk st b,sz:=upd K.sz st n,lo:=upd K.lo st 0,hi:=upd K.hi st 0,ρ:=upd K.ρ b (some (.obj loc))}
theorem upd_same {κ α:Type}[DecidableEq κ](f:κ->α)(k:κ)(v:α):upd f k v k=v:=by simp[upd]
theorem upd_ne {κ α:Type}[DecidableEq κ](f:κ->α){k j:κ}(v:α)(h:j≠k):upd f k v j=f j:=by simp[upd,h]
theorem Step.Nn {E B0 σ K w}(h:bE E B0 σ K w)(hB:B0<=w.heap.size){st:Nat}(hst:¬K.A st)(loc:Loc)(ob:iN)(o:Obj)(n:Nat)(gU:∀K',Ext K σ.top w K' σ.top (w.alloc o)->K'.A st->K'.blk st=w.heap.size->K'.sz st=n->EA K' σ.top (w.alloc o) B0 st ob):
 Step E B0 (· =st) σ K w (σ.setObj loc st ob) (K.lC st w.heap.size n loc) (w.alloc o):=by
 have hne:∀s,K.A s->s≠st:=fun s hs e=>hst (e▸hs);have e:Ext K σ.top w (K.lC st w.heap.size n loc) σ.top (w.alloc o):=by
  refine⟨fun s hs=>⟨.inl hs,upd_ne _ _ (hne s hs),rfl,upd_ne _ _ (hne s hs)⟩,fun s hs=>.inl ⟨rfl,rfl,upd_ne _ _ (hne s hs),upd_ne _ _ (hne s hs)⟩,fun b i hi=>⟨hi,?_⟩,fun b hb=>⟨hb,?_⟩⟩
  ·obtain⟨⟨v,hv⟩,_⟩:=h.I b i hi
   rw[hv];exact Nl hv
  ·obtain⟨⟨_,hv,_⟩,_⟩:=h.IM b hb
   exact heap_alloc_old (lt_of_heap hv)
 refine⟨?_,e,(CX w o).below hB hB,fun b hb=>hb,fun s hs=>hs,fun _ _ hi=>.inl hi,fun _ hi=>.inl hi⟩;refine h.upd (σ':=σ.setObj loc st ob) (CX w o) e (fun k hk=>upd_ne _ _ hk) (fun r _=>⟨aD,hB⟩) ?_ ?_ ?_ ?_ ?_ ?_
 ·intro loc' s' GX hs
  by_cases hl:loc'=loc
  ·subst hl
   right;simp only[ak.setObj,upd_same,iE,mF] at hs;obtain⟨rfl,rfl⟩:=hs;exact⟨.inr rfl,gU _ e (.inr rfl) (upd_same _ _ _) (upd_same _ _ _),fun _=>by show upd K.ρ w.heap.size _ (upd K.blk st w.heap.size st)=_;rw[upd_same,upd_same]⟩
  ·left
   simp only[ak.setObj,upd_ne _ _ hl] at hs;refine⟨hs,fun hr=>?_⟩;have:=(h.rb _ _ ((h.obj _ _ _ hs).2.2 hr)).1;omega
 ·intro s hs hlt
  left;have hs':s≠st:=by rintro rfl;simp only[aU.lC,upd_same] at hlt;omega
  have hA:K.A s:=hs.resolve_right hs';simp only[aU.lC,upd_ne _ _ hs'] at hlt;refine⟨hA,upd_ne _ _ hs',upd_ne _ _ hs',rfl,?_⟩;have:=(h.rb _ _ (h.own s hA hlt).2.1).1;omega
 ·intro b' i hi
  obtain⟨⟨v,hv⟩,_⟩:=h.I b' i hi;exact .inl ⟨hi,kF (lt_of_cell hv)⟩
 ·intro b' hi
  obtain⟨⟨_,hv,_⟩,_⟩:=h.IM b' hi;exact .inl ⟨hi,kF (lt_of_heap hv)⟩
 ·intro l r hl
  refine .inl ⟨hl,?_⟩;have:=(h.rb _ _ (h.loop l r hl).2.2.1).1;omega
 ·intro b' hd
  exact .inl ⟨hd,kF (lt_of_heap (h.D b' hd))⟩
theorem wI {w:World}{a b:Nat}{x y:Obj}(h:w.heap[a]? =some x)(g:w.heap[b]? =some y)(hxy:x≠y):a≠b:=by rintro rfl;exact hxy (jP (h.symm.trans g))
theorem bE.bQ {E B0 σ K w}(h:bE E B0 σ K w){loc s cs}(hc:σ.bQ loc s=some cs):σ.obj loc=some (s,.cells cs)/\K.A s/\cs.length<=K.sz s\/cs=[]/\σ.obj loc=some (s,.cells cs)/\K.A s:=by
 unfold ak.bQ at hc;split at hc
 ·rename_i s' cs' ho
  split at hc
  ·rename_i hs
   subst hs;simp only[iE] at hc;subst hc;obtain⟨a1,a2,a3⟩:=h.obj _ _ _ ho;by_cases hne:cs'=[]
   ·exact .inr ⟨hne,ho,a1⟩
   ·obtain⟨_,vals,t,g1,g2,g3,g4⟩:=a2.2 hne
    exact .inl ⟨ho,a1,ah⟩
  ·simp at hc
 ·simp at hc
theorem bE.xY {E B0 σ K w}(h:bE E B0 σ K w){loc s cs}(hc:σ.bQ loc s=some cs):σ.obj loc=some (s,.cells cs)/\K.A s/\cs.length<=K.sz s:=by
 rcases h.bQ hc with h| ⟨rfl,h1,h2⟩
 ·exact h
 ·exact⟨h1,h2,aD⟩
theorem bE.ad7 {E B0 σ K w}(h:bE E B0 σ K w){l r}(hl:σ.loops l=some r){b:Nat}{vals t f}(hb:w.heap[b]? =some (.cells vals t f)):K.lp l≠b:=by obtain⟨_,_,_,fn,tmps,D,hh,_⟩:=h.loop l r hl;exact wI hh hb aD
theorem bE.Np {E B0 σ K w}(h:bE E B0 σ K w){loc s ob loc' s' GX}(h1:σ.obj loc=some (s,ob))(h2:σ.obj loc'=some (s',GX))(hne:loc≠loc')(hr:ob.real)(hr':GX.real):
 K.blk s≠K.blk s':=by
 intro e;have a:=(h.obj _ _ _ h1).2.2 hr;have b:=(h.obj _ _ _ h2).2.2 hr';rw[e,b] at a;exact hne (by injection a with a;injection a with a;exact a.symm)
theorem bE.Yr {E B0 σ K w w'}(h:bE E B0 σ K w){loc s ob}(hs:σ.obj loc=some (s,ob))(hr:ob.real)(ho:Only (K.blk s) w w')(T':Nat->Nat)(hT:T'=σ.top):Ext K σ.top w K T' w':=by
 subst hT;have hρ:=(h.obj _ _ _ hs).2.2 hr;refine⟨fun _ h=>⟨h,rfl,rfl,rfl⟩,fun _ _=>.inl ⟨rfl,rfl,rfl,rfl⟩,fun b i hi=>⟨hi,?_⟩,fun b hb=>⟨hb,?_⟩⟩
 ·obtain⟨⟨v,hv⟩,hn⟩:=h.I b i hi
  exact cell_of_heap (ho.block b (fun e=>hn loc (e▸hρ)) (lt_of_cell hv))
 ·obtain⟨⟨_,hv,_⟩,hn⟩:=h.IM b hb
  exact ho.block b (fun e=>hn loc (e▸hρ)) (lt_of_heap hv)
theorem Step.setCells {E B0 new σ K w w'}(h:bE E B0 σ K w)(hB:B0<=w.heap.size){loc:Loc}{s:Nat}{cs cs':List V}{vals vals':Array Value}{t t':TypeId}(hs:σ.obj loc=some (s,.cells cs))(hne:cs≠[])(hv:w.heap[K.blk s]? =some (.cells vals t (0,0)))(ho:Only (K.blk s) w w')(hv':w'.heap[K.blk s]? =some (.cells vals' t' (0,0)))(hsz:vals'.size=vals.size)(hne':cs'≠[])(hl:cs'.length<=vals'.size)(hr:Ext K σ.top w K σ.top w'->∀i,i<cs'.length->Rel K σ.top w' (cs'.getD i aL) (vals'.getD i undef)):
 Step E B0 new σ K w (σ.setObj loc s (.cells cs')) K w':=by
 have lS:(iN.cells cs).real:=by cases cs with|nil=>exact absurd rfl hne|cons _ _=>trivial
 obtain⟨hA,gU,hρ⟩:=h.obj _ _ _ hs;obtain⟨hb0,ad8,t0,g1,g2,g3,g4⟩:=gU.2 hne;have hvv:vals=ad8:=by rw[hv] at g1;simpa using And.left (by simpa using g1)
 have e:=h.Yr hs lS ho σ.top rfl;refine⟨?_,e,ho.below hb0 hB,fun _ h=>h,fun _ h=>.inl h,fun _ _ h=>.inl h,fun _ h=>.inl h⟩;refine h.upd (σ':=σ.setObj loc s (.cells cs')) ho e (fun _ _=>rfl) (fun r hr'=>⟨gM (h.rb _ r hr').1 ho.size,hb0⟩) ?_ ?_ ?_ ?_ ?_ ?_
 ·intro loc' s' GX hs'
  by_cases hl':loc'=loc
  ·subst hl'
   right;simp only[ak.setObj,upd_same,iE,mF] at hs';obtain⟨rfl,rfl⟩:=hs';exact⟨hA,⟨fun h0=>absurd h0 hne',fun _=>⟨hb0,vals',t',hv',by rw[hsz,hvv,g2],hl,hr e⟩⟩,fun _=>hρ lS⟩
  ·left
   simp only[ak.setObj,upd_ne _ _ hl'] at hs';exact⟨hs',fun hr'=>h.Np hs' hs hl' hr' lS⟩
 ·intro s' hs' hlt
  have ⟨a1,a2,a3⟩:=h.own s' hs' hlt;refine .inl ⟨hs',rfl,rfl,rfl,fun e'=>?_⟩;rw[e',hρ lS] at a2;cases a2
 ·intro b' i hi
  exact .inl ⟨hi,fun e'=>(h.I b' i hi).2 loc (e'▸hρ lS)⟩
 ·intro b' hi
  exact .inl ⟨hi,fun e'=>(h.IM b' hi).2 loc (e'▸hρ lS)⟩
 ·intro l r hl'
  exact .inl ⟨hl',h.ad7 hl' hv⟩
 ·intro b' hd
  exact .inl ⟨hd,wI (h.D b' hd) hv aD⟩
def aU.GY (K:aU)(b n:Nat):aU:={K with I:=fun b' o=>K.I b' o\/(b'=b/\o<n)}
theorem bE.ad9 {E B0 σ K w}(h:bE E B0 σ K w):K.ρ w.heap.size=none:=by
 cases hr:K.ρ w.heap.size with
 |none=>rfl|some r=>have:=(h.rb _ _ hr).1;omega
theorem Nq {w:World}{vals:Array Value}{t:TypeId}{fz:Nat×Nat}{i:Nat}(hi:i<vals.size):(w.alloc (.cells vals t fz)).cell? (at_ w.heap.size i)=some (vals.getD i undef):=by
 have hh:(w.alloc (.cells vals t fz)).heap[w.heap.size]? =some (.cells vals t fz):=heap_alloc_new w _;unfold World.cell?;simp only[hh];simp[hi]
theorem Step.aoS {E B0 new σ K w w'}(h:bE E B0 σ K w)(hB:B0<=w.heap.size)(ho:Only w.heap.size w w'){vals:Array Value}{t:TypeId}{fz:Nat×Nat}(hh:w'.heap[w.heap.size]? =some (.cells vals t fz)):Step E B0 new σ K w σ (K.GY w.heap.size vals.size) w':=by
 have hcn:∀i,i<vals.size->w'.cell? (at_ w.heap.size i)=some (vals.getD i undef):=fun i hi=>by simp[World.cell?,hh,hi]
 have e:Ext K σ.top w (K.GY w.heap.size vals.size) σ.top w':=by
  refine⟨fun _ h=>⟨h,rfl,rfl,rfl⟩,fun _ _=>.inl ⟨rfl,rfl,rfl,rfl⟩,fun b i hi=>⟨.inl hi,?_⟩,fun b hb=>⟨hb,?_⟩⟩
  ·obtain⟨⟨v,hv⟩,_⟩:=h.I b i hi
   exact cell_of_heap (ho.block b (kF (lt_of_cell hv)) (lt_of_cell hv))
  ·obtain⟨⟨_,hv,_⟩,_⟩:=h.IM b hb
   exact ho.block b (kF (lt_of_heap hv)) (lt_of_heap hv)
 refine⟨?_,e,ho.below hB hB,fun b hb=>hb,fun _ h=>.inl h,fun b o hi=>?_,fun _ h=>.inl h⟩
 ·refine h.upd ho e (fun _ _=>rfl) (fun r hr=>?_) ?_ ?_ ?_ ?_ ?_ ?_
  ·have:=h.ad9
   exact absurd (hr.symm.trans this) aD
  ·intro loc s ob hs
   exact .inl ⟨hs,fun hr=>by have:=(h.rb _ _ ((h.obj _ _ _ hs).2.2 hr)).1;omega⟩
  ·intro s hs hlt
   exact .inl ⟨hs,rfl,rfl,rfl,by have:=(h.rb _ _ (h.own s hs hlt).2.1).1;omega⟩
  ·intro b' i hi
   rcases hi with hi| ⟨rfl,hi⟩
   ·obtain⟨⟨v,hv⟩,_⟩:=h.I b' i hi
    exact .inl ⟨hi,kF (lt_of_cell hv)⟩
   ·exact .inr ⟨rfl,⟨_,hcn _ hi⟩,fun loc hr=>absurd (hr.symm.trans h.ad9) aD⟩
  ·intro b' hi
   obtain⟨⟨_,hv,_⟩,_⟩:=h.IM b' hi;exact .inl ⟨hi,kF (lt_of_heap hv)⟩
  ·intro l r hl
   exact .inl ⟨hl,by have:=(h.rb _ _ (h.loop l r hl).2.2.1).1;omega⟩
  ·intro b' hd
   exact .inl ⟨hd,kF (lt_of_heap (h.D b' hd))⟩
 ·rcases hi with hi| ⟨rfl,_⟩
  ·exact .inl hi
  ·exact .inr hB
theorem Step.aea {E B0 new σ K w}(h:bE E B0 σ K w)(hB:B0<=w.heap.size)(vals:Array Value)(t:TypeId)(fz:Nat×Nat):
 Step E B0 new σ K w σ (K.GY w.heap.size vals.size) (w.alloc (.cells vals t fz)):=
 Step.aoS h hB (CX w _) (heap_alloc_new w _)
def aU.CY (K:aU)(s b lo hi:Nat):aU:=
 {K with A:=fun x=>K.A x\/x=s,ob:=upd K.ob s b,lo:=upd K.lo s lo,hi:=upd K.hi s hi,I:=fun b' o=>K.I b' o\/(b'=b/\o<lo),ρ:=upd K.ρ b (some (.own s))}
theorem Step.aeb {E B0 σ K w}(h:bE E B0 σ K w)(hB:B0<=w.heap.size)(s T':Nat)(hs:¬K.A s\/σ.top s<T')(vals:Array Value)(t:TypeId)(lo:Nat)(hlo:lo<=vals.size):
 Step E B0 (· =s) σ K w (σ.dR s T') (K.CY s w.heap.size lo vals.size) (w.alloc (.cells vals t)):=by
 have e:Ext K σ.top w (K.CY s w.heap.size lo vals.size) (σ.dR s T').top (w.alloc (.cells vals t)):=by
  refine⟨fun _ h=>⟨.inl h,rfl,rfl,rfl⟩,fun x hx=>?_,fun b i hi=>⟨.inl hi,?_⟩,fun b hb=>⟨hb,?_⟩⟩
  ·by_cases hxs:x=s
   ·subst hxs
    right;show _<upd σ.top x T' x;rw[upd_same];exact hs.resolve_left (fun hn=>hn hx)
   ·exact .inl ⟨upd_ne _ _ hxs,upd_ne _ _ hxs,upd_ne _ _ hxs,upd_ne _ _ hxs⟩
  ·obtain⟨⟨v,hv⟩,_⟩:=h.I b i hi
   rw[hv];exact Nl hv
  ·obtain⟨⟨_,hv,_⟩,_⟩:=h.IM b hb
   exact heap_alloc_old (lt_of_heap hv)
 refine⟨?_,e,(CX w _).below hB hB,fun b hb=>hb,fun _ h=>h,fun b o hi=>?_,fun _ h=>.inl h⟩
 ·refine h.upd (σ':=σ.dR s T') (CX w _) e (fun k hk=>upd_ne _ _ hk) (fun r _=>⟨aD,hB⟩) ?_ ?_ ?_ ?_ ?_ ?_
  ·intro loc s ob hs
   exact .inl ⟨hs,fun hr=>by have:=(h.rb _ _ ((h.obj _ _ _ hs).2.2 hr)).1;omega⟩
  ·intro x hx hlt
   by_cases hxs:x=s
   ·subst hxs
    right;have q1:(K.CY x w.heap.size lo vals.size).ob x=w.heap.size:=upd_same _ _ _;have q2:(K.CY x w.heap.size lo vals.size).lo x=lo:=upd_same _ _ _;have q3:(K.CY x w.heap.size lo vals.size).hi x=vals.size:=upd_same _ _ _;refine⟨by rw[q1];exact hB,by rw[q1];exact upd_same _ _ _,fun o hl hh=>?_⟩;rw[q2] at hl;rw[q3] at hh;rw[q1];refine⟨?_,⟨_,Nq hh⟩,?_⟩
    ·rintro (hi| ⟨_,hi⟩)
     ·obtain⟨⟨v,hv⟩,_⟩:=h.I _ o hi
      have:=lt_of_cell hv;omega
     ·omega
    ·have hh':(w.alloc (.cells vals t)).heap[w.heap.size]? =some (.cells vals t):=heap_alloc_new w _
     unfold World.frozen?;simp only[hh'];simp
   ·left
    have hA:K.A x:=hx.resolve_right hxs;simp only[aU.CY,upd_ne _ _ hxs] at hlt;refine⟨hA,upd_ne _ _ hxs,upd_ne _ _ hxs,upd_ne _ _ hxs,?_⟩;have:=(h.rb _ _ (h.own x hA hlt).2.1).1;omega
  ·intro b' i hi
   rcases hi with hi| ⟨rfl,hi⟩
   ·obtain⟨⟨v,hv⟩,_⟩:=h.I b' i hi
    exact .inl ⟨hi,kF (lt_of_cell hv)⟩
   ·refine .inr ⟨rfl,⟨_,Nq ah⟩,fun loc hr=>?_⟩
    simp only[aU.CY,upd_same] at hr;cases hr
  ·intro b' hi
   obtain⟨⟨_,hv,_⟩,_⟩:=h.IM b' hi;exact .inl ⟨hi,kF (lt_of_heap hv)⟩
  ·intro l r hl
   exact .inl ⟨hl,by have:=(h.rb _ _ (h.loop l r hl).2.2.1).1;omega⟩
  ·intro b' hd
   exact .inl ⟨hd,kF (lt_of_heap (h.D b' hd))⟩
 ·rcases hi with hi| ⟨rfl,_⟩
  ·exact .inl hi
  ·exact .inr hB
def aU.EC (K:aU)(s n:Nat):aU:=
 {K with lo:=upd K.lo s (K.lo s+n),I:=fun b' o=>K.I b' o\/(b'=K.ob s/\K.lo s<=o/\o<K.lo s+n)}
theorem Step.EC {E B0 new σ K w w'}(h:bE E B0 σ K w)(hB:B0<=w.heap.size){s n T':Nat}(hs:K.A s)(hT:σ.top s<T')(hn:0<n)(hroom:K.lo s+n<=K.hi s)(ho:Only (K.ob s) w w')(hnew:∀o,K.lo s<=o->o<K.lo s+n->∃v,w'.cell? (at_ (K.ob s) o)=some v)(hold:∀o,o<K.lo s\/K.lo s+n<=o->w'.cell? (at_ (K.ob s) o)=w.cell? (at_ (K.ob s) o))(hfz:∀o,w'.frozen? (at_ (K.ob s) o)=w.frozen? (at_ (K.ob s) o)):
 Step E B0 new σ K w (σ.dR s T') (K.EC s n) w':=by
 obtain⟨o1,o2,o3⟩:=h.own s hs ah;have Yt:=(o3 (K.lo s) (iP _) ah).2.1;have Uy:∀o,K.I (K.ob s) o->o<K.lo s\/K.lo s+n<=o:=fun o hi=>by
  rcases Nat.lt_or_ge o (K.lo s) with h1|h1
  ·exact .inl h1
  ·rcases Nat.lt_or_ge o (K.hi s) with h2|h2
   ·exact absurd hi (o3 o h1 h2).1
   ·exact .inr ah
 have e:Ext K σ.top w (K.EC s n) (σ.dR s T').top w':=by
  refine⟨fun _ h=>⟨h,rfl,rfl,rfl⟩,fun x hx=>?_,fun b i hi=>⟨.inl hi,?_⟩,fun b hb=>⟨hb,?_⟩⟩
  ·by_cases hxs:x=s
   ·subst hxs
    right;show _<upd σ.top x T' x;rw[upd_same];exact hT
   ·exact .inl ⟨upd_ne _ _ hxs,rfl,upd_ne _ _ hxs,rfl⟩
  ·by_cases hb:b=K.ob s
   ·subst hb;exact hold i (Uy i hi)
   ·obtain⟨⟨v,hv⟩,_⟩:=h.I b i hi
    exact cell_of_heap (ho.block b hb (lt_of_cell hv))
  ·obtain⟨⟨_,hv,hm⟩,_⟩:=h.IM b hb
   refine ho.block b ?_ (lt_of_heap hv);rintro rfl;obtain⟨v,hc⟩:=Yt;exact Yq hv hm hc
 refine⟨?_,e,ho.below o1 hB,fun b hb=>hb,fun _ h=>.inl h,fun b o hi=>?_,fun _ h=>.inl h⟩
 ·refine h.upd (σ':=σ.dR s T') ho e (fun k _=>rfl) (fun r hr=>⟨gM (h.rb _ r hr).1 ho.size,o1⟩) ?_ ?_ ?_ ?_ ?_ ?_
  ·intro loc x ob hx
   refine .inl ⟨hx,fun hr e'=>?_⟩;have a:=(h.obj _ _ _ hx).2.2 hr;rw[e',o2] at a;cases a
  ·intro x hx hlt
   by_cases hxs:x=s
   ·subst hxs
    right;simp only[Yp,aU.EC,upd_same] at hlt⊢;refine⟨o1,o2,fun o hl hh=>⟨?_,?_,?_⟩⟩
    ·rintro (hi| ⟨_,_,hi⟩)
     ·exact(o3 o ah hh).1 hi
     ·omega
    ·rw[hold o (.inr hl)];exact(o3 o ah hh).2.1
    ·rw[hfz o];exact(o3 o ah hh).2.2
   ·left
    simp only[aU.EC,upd_ne _ _ hxs] at hlt;refine⟨hx,upd_ne _ _ hxs,rfl,rfl,fun e'=>?_⟩;have a:=(h.own x hx hlt).2.1;rw[e',o2] at a;injection a with a
    injection a with a
    exact hxs a.symm
  ·intro b' i hi
   rcases hi with hi| ⟨rfl,hi1,hi2⟩
   ·by_cases hb:b'=K.ob s
    ·subst hb
     obtain⟨⟨v,hv⟩,hr⟩:=h.I _ i hi;exact .inr ⟨rfl,⟨v,by rw[hold i (Uy i hi)];exact hv⟩,hr⟩
    ·exact .inl ⟨hi,hb⟩
   ·exact .inr ⟨rfl,hnew i hi1 hi2,fun loc hr=>by have:K.ρ (K.ob s)=some (.obj loc):=hr;rw[o2] at this;cases this⟩
  ·intro b' hi
   obtain⟨⟨_,hv,hm⟩,_⟩:=h.IM b' hi;refine .inl ⟨hi,?_⟩;rintro rfl;obtain⟨v,hc⟩:=Yt;exact Yq hv hm hc
  ·intro l r hl
   refine .inl ⟨hl,fun e'=>?_⟩;have a:=(h.loop l r hl).2.2.1;rw[e',o2] at a;cases a
  ·intro b' hd
   refine .inl ⟨hd,?_⟩;rintro rfl;obtain⟨v,hc⟩:=Yt;simp[World.cell?,h.D _ hd] at hc
 ·rcases hi with hi| ⟨rfl,_⟩
  ·exact .inl hi
  ·exact .inr o1
theorem Step.aoT {E B0 σ K w w'}(h:bE E B0 σ K w)(hB:B0<=w.heap.size){jH loc:Loc}{s0 st:Nat}{cs0 cs:List V}{vals vals':Array Value}{t:TypeId}(hst:¬K.A st)(hs:σ.obj jH=some (s0,.cells cs0))(hne:cs0≠[])(hv:w.heap[K.blk s0]? =some (.cells vals t (0,0)))(ho:Only (K.blk s0) w w')(hv':w'.heap[K.blk s0]? =some (.cells vals' t (0,0)))(hne':cs≠[])(hl:cs.length<=vals'.size)(hr:∀K',Ext K σ.top w K' σ.top w'->∀i,i<cs.length->Rel K' σ.top w' (cs.getD i aL) (vals'.getD i undef)):
 Step E B0 (· =st) σ K w ((σ.eu jH).setObj loc st (.cells cs)) (K.lC st (K.blk s0) vals'.size loc) w':=by
 have lS:(iN.cells cs0).real:=by cases cs0 with|nil=>exact absurd rfl hne|cons _ _=>trivial
 obtain⟨hA,gU,hρ⟩:=h.obj _ _ _ hs;obtain⟨hb0,ad8,t0,g1,g2,g3,g4⟩:=gU.2 hne;have Uz:∀s,K.A s->s≠st:=fun s hs e=>hst (e▸hs);have e0:=h.Yr hs lS ho σ.top rfl;have e:Ext K σ.top w (K.lC st (K.blk s0) vals'.size loc) σ.top w':=
  ⟨fun s hs=>⟨.inl hs,upd_ne _ _ (Uz s hs),rfl,upd_ne _ _ (Uz s hs)⟩,fun s hs=>.inl ⟨rfl,rfl,upd_ne _ _ (Uz s hs),upd_ne _ _ (Uz s hs)⟩,e0.I,e0.IM⟩
 refine⟨?_,e,ho.below hb0 hB,fun _ h=>h,fun _ h=>h,fun _ _ h=>.inl h,fun _ h=>.inl h⟩;refine h.upd (σ':=(σ.eu jH).setObj loc st (.cells cs)) ho e (fun k hk=>upd_ne _ _ hk) (fun r _=>⟨gM (lt_of_heap hv) ho.size,hb0⟩) ?_ ?_ ?_ ?_ ?_ ?_
 ·intro loc' s' GX hs'
  by_cases hl':loc'=loc
  ·subst hl'
   right;simp only[ak.setObj,upd_same,iE,mF] at hs';obtain⟨rfl,rfl⟩:=hs';refine⟨.inr rfl,⟨fun h0=>absurd h0 hne',fun _=>⟨?_,vals',t,?_,?_,hl,hr _ e⟩⟩,fun _=>?_⟩
   ·show B0<=upd K.blk st (K.blk s0) st
    rw[upd_same];exact hb0
   ·show w'.heap[upd K.blk st (K.blk s0) st]? =_
    rw[upd_same];exact hv'
   ·show _=upd K.sz st _ st
    rw[upd_same]
   ·show upd K.ρ (K.blk s0) _ (upd K.blk st (K.blk s0) st)=_
    rw[upd_same,upd_same]
  ·left
   simp only[ak.setObj,ak.eu,upd_ne _ _ hl'] at hs';by_cases hl0:loc'=jH
   ·subst hl0;rw[upd_same] at hs';cases hs'
   ·rw[upd_ne _ _ hl0] at hs'
    exact⟨hs',fun hr'=>h.Np hs' hs hl0 hr' lS⟩
 ·intro s' hs' hlt
  have GZ:s'≠st:=by rintro rfl;simp only[aU.lC,upd_same] at hlt;omega
  have hA':K.A s':=hs'.resolve_right GZ;simp only[aU.lC,upd_ne _ _ GZ] at hlt;have ⟨a1,a2,a3⟩:=h.own s' hA' hlt;refine .inl ⟨hA',upd_ne _ _ GZ,upd_ne _ _ GZ,rfl,fun e'=>?_⟩;rw[e',hρ lS] at a2;cases a2
 ·intro b' i hi
  exact .inl ⟨hi,fun e'=>(h.I b' i hi).2 jH (e'▸hρ lS)⟩
 ·intro b' hi
  exact .inl ⟨hi,fun e'=>(h.IM b' hi).2 jH (e'▸hρ lS)⟩
 ·intro l r hl'
  exact .inl ⟨hl',h.ad7 hl' hv⟩
 ·intro b' hd
  exact .inl ⟨hd,wI (h.D b' hd) hv aD⟩
theorem Step.aec {E B0 new σ K w w'}(h:bE E B0 σ K w)(hB:B0<=w.heap.size){loc:Loc}{s:Nat}{ks vs ks' vs':List V}{es es':Array MapEntry}{bX Nr:Nat}(hs:σ.obj loc=some (s,.map ks vs))(hv:w.heap[K.blk s]? =some (.map es bX))(ho:Only (K.blk s) w w')(hv':w'.heap[K.blk s]? =some (.map es' Nr))(hbn:iV es' Nr)(hk:ks'.length=es'.size)(hvl:vs'.length=es'.size)(hr:Ext K σ.top w K σ.top w'->(∀i,i<es'.size->Rel K σ.top w' (ks'.getD i aL) (es'.getD i default).key)/\(∀i,i<es'.size->Rel K σ.top w' (vs'.getD i aL) (es'.getD i default).val)):
 Step E B0 new σ K w (σ.setObj loc s (.map ks' vs')) K w':=by
 have lS:(iN.map ks vs).real:=trivial;obtain⟨hA,gU,hρ⟩:=h.obj _ _ _ hs;obtain⟨hb0,_⟩:=gU;have e:=h.Yr hs lS ho σ.top rfl;refine⟨?_,e,ho.below hb0 hB,fun _ h=>h,fun _ h=>.inl h,fun _ _ h=>.inl h,fun _ h=>.inl h⟩;refine h.upd (σ':=σ.setObj loc s (.map ks' vs')) ho e (fun _ _=>rfl) (fun r hr'=>⟨gM (h.rb _ r hr').1 ho.size,hb0⟩) ?_ ?_ ?_ ?_ ?_ ?_
 ·intro loc' s' GX hs'
  by_cases hl':loc'=loc
  ·subst hl'
   right;simp only[ak.setObj,upd_same,iE,mF] at hs';obtain⟨rfl,rfl⟩:=hs';exact⟨hA,⟨hb0,es',Nr,hv',hbn,hk,hvl,hr e⟩,fun _=>hρ lS⟩
  ·left
   simp only[ak.setObj,upd_ne _ _ hl'] at hs';exact⟨hs',fun hr'=>h.Np hs' hs hl' hr' lS⟩
 ·intro s' hs' hlt
  have ⟨a1,a2,a3⟩:=h.own s' hs' hlt;refine .inl ⟨hs',rfl,rfl,rfl,fun e'=>?_⟩;rw[e',hρ lS] at a2;cases a2
 ·intro b' i hi
  exact .inl ⟨hi,fun e'=>(h.I b' i hi).2 loc (e'▸hρ lS)⟩
 ·intro b' hi
  exact .inl ⟨hi,fun e'=>(h.IM b' hi).2 loc (e'▸hρ lS)⟩
 ·intro l r hl'
  obtain⟨_,_,_,fn,tmps,D,hh,_⟩:=h.loop l r hl';exact .inl ⟨hl',wI hh hv aD⟩
 ·intro b' hd
  exact .inl ⟨hd,wI (h.D b' hd) hv aD⟩
end aR
end
