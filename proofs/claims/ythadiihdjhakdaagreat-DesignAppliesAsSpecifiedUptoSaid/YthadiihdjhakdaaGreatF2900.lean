import Derived.Below
import Derived.WalkKit
import Derived.KernelRfl
import GoSem.Dispatch
theorem ah {P:Prop}(h:P:=by omega):P:=h
theorem aA {P:Prop}(h:P:=by kernel_rfl):P:=h
theorem aC {P:Prop}(h:P:=by simp):P:=h
theorem oq {P:Prop}(h:P:=by simp only[bE,List.length_cons,List.length_nil];omega):P:=h
theorem bC {P:Prop}(h:P:=by cases h):P:=h
theorem rT {P:Prop}(h:P:=by simp only[List.length_cons,List.length_nil];omega):P:=h
theorem zX {P:Prop}(h:P:=by simp only[go_sem,Nat.reduceBEq,Nat.reduceAdd, *];with_reducible exact Is.rfl):P:=h
theorem ou {P:Prop}(h:P:=by simp[Go.Op.equalIn,run_underlying hu]):P:=h
theorem yL {P:Prop}(h:P:=by simp only[go_sem,Nat.reduceBEq,Nat.reduceAdd, *];exact Is.rfl):P:=h
theorem K3 {P:Prop}(h:P:=by obtain⟨s,h1,h2⟩:=h;unfold nR at hm;exact⟨s,((ho p (fun e=>by rw[e,xA] at hm;cases hm)).1.trans h1),by rw[hx];exact h2⟩):P:=h
theorem K4 {P:Prop}(h:P:=by obtain⟨s,h1,h2⟩:=h;unfold aY.solid at hs;exact⟨s,by rw[(ho o (by simpa using hs)).1];exact h1,by rw[hx];exact h2⟩):P:=h
theorem jI {P:Prop}(h:P:=by simpa using hi):P:=h
theorem eO {P:Prop}(h:P:=by decide):P:=h
theorem mV {P:Prop}(h:P:=by unfold av at h;exact h):P:=h
theorem jJ {P:Prop}(h:P:=by unfold av;rfl):P:=h
theorem K5 {P:Prop}(h:P:=by intro S;simp only[go_sem,Nat.reduceBEq,Nat.reduceAdd, *];with_reducible exact Is.rfl):P:=h
theorem tH {P:Prop}(h:P:=by rw[List.length_cons];omega):P:=h
theorem jR {P:Prop}(h:P:=by simp;omega):P:=h
theorem p8 {P:Prop}(h:P:=by simp only[bE];omega):P:=h
theorem K6 {P:Prop}(h:P:=by obtain⟨s,h1,h2⟩:=h;exact⟨s,by rw[ho.1];exact h1,by rw[ho.2.2];exact h2⟩):P:=h
theorem ko {P:Prop}(h:P:=by rw[hk];rfl):P:=h
theorem K7 {P:Prop}(h:P:=by simp only[bE,List.length_cons,List.length_nil] at hb'⊢;omega):P:=h
theorem Cw {P:Prop}(h:P:=by simp only[bE,List.length_cons];omega):P:=h
theorem ow {P:Prop}(h:P:=by cases op<;>rfl):P:=h
theorem Cx {P:Prop}(h:P:=by simp only[eP,hop,hz,Option.map_some]):P:=h
theorem K8 {P:Prop}(h:P:=by rw[bE];simp only[List.length_cons,List.length_nil];omega):P:=h
theorem qN {P:Prop}(h:P:=by simpa using h2):P:=h
theorem Bp {P:Prop}(h:P:=by rw[IntKind.wrap_i64];omega):P:=h
theorem K9 {P:Prop}(h:P:=by rw[hx];exact h2):P:=h
theorem yM {P:Prop}(h:P:=by first|exact Bq|rfl):P:=h
theorem vO {P:Prop}(h:P:=by simpa using hj):P:=h
theorem GL {P:Prop}(h:P:=by unfold au.dB at h2⊢;rw[hp];exact h2):P:=h
theorem Q9 {P:Prop}(h:P:=by rw[<-decide_not];exact decide_eq_decide.2 (by omega)):P:=h
theorem aBb {P:Prop}(h:P:=by rw[(ho o (by simpa using hs)).1];exact h1):P:=h
theorem La {P:Prop}(h:P:=by rw[wr (by omega) (by omega)];simp;omega):P:=h
theorem vP {P:Prop}(h:P:=by simpa using hk):P:=h
theorem vQ {P:Prop}(h:P:=by simp[oU] at hs):P:=h
theorem Ra {P:Prop}(h:P:=by show 0+_<=upd K.sz st _ st;rw[upd_same];omega):P:=h
theorem yN {P:Prop}(h:P:=by simpa using hl):P:=h
theorem Cy {P:Prop}(h:P:=by simpa [aU] using hp):P:=h
theorem adE {P:Prop}(h:P:=by rw[e,xA] at hm;cases hm):P:=h
theorem xB {P:Prop}(h:P:=by simp[uM] at h):P:=h
theorem Rb {P:Prop}(h:P:=by simp only[eP,hop,p9,hz,Option.map_some]):P:=h
theorem GN {P:Prop}(h:P:=by rw[hlc,hlen];exact RS _):P:=h
theorem Lb {P:Prop}(h:P:=by rw[<-hy];exact(lD _ _ _).symm):P:=h
theorem Lc {P:Prop}(h:P:=by rw[<-hy];exact(je _ _ e).symm):P:=h
theorem Rc {P:Prop}(h:P:=by simpa [Function.comp_def] using e2):P:=h
theorem Br {P:Prop}(h:P:=by simpa using h1):P:=h
theorem Rf {P:Prop}(h:P:=by unfold au.jw at h2⊢;rw[hp];exact h2):P:=h
theorem Rh {P:Prop}(h:P:=by simp only[List.length_cons];omega):P:=h
theorem Ri {P:Prop}(h:P:=by rw[wr (by omega) (by omega)];omega):P:=h
theorem zY {P:Prop}(h:P:=by rw[h];exact k):P:=h
theorem Rj {P:Prop}(h:P:=by simp only[List.length_nil];omega):P:=h
theorem Bt {P:Prop}(h:P:=by simpa using h):P:=h
theorem GQ {P:Prop}(h:P:=by rw[htk t] at h;cases h):P:=h
theorem Rk {P:Prop}(h:P:=by simp only[fB,h1,Option.bind_some]):P:=h
theorem uN {P:Prop}(h:P:=by simp[aU]):P:=h
theorem Rl {P:Prop}(h:P:=by rw[h.iJ];exact⟨[],rfl,fun _=>rfl⟩):P:=h
theorem Cz {P:Prop}(h:P:=by simpa using hb):P:=h
theorem Rm {P:Prop}(h:P:=by rw[hb'];exact heap_alloc_new w _):P:=h
theorem Rn {P:Prop}(h:P:=by unfold aY.solid at hs;exact hs):P:=h
theorem Ro {P:Prop}(h:P:=by rw[e1];simp[Function.comp_def]):P:=h
theorem xC {P:Prop}(h:P:=by cases hr):P:=h
theorem Rp {P:Prop}(h:P:=by unfold av at h;subst h;simp[aU]):P:=h
theorem adF {P:Prop}(h:P:=by rw[ho.1];exact h1):P:=h
theorem Ld {P:Prop}(h:P:=by rw[(ho o hm).1];exact h1):P:=h
theorem Le {P:Prop}(h:P:=by have:=hi.lt u _ hu;omega):P:=h
theorem xD {P:Prop}(h:P:=by simp at h):P:=h
theorem Rq {P:Prop}(h:P:=by rw[hx,GR _ _ _ _ hp];exact h2):P:=h
theorem GU {P:Prop}(h:P:=by have:3<=n:=hn;omega):P:=h
theorem adG {P:Prop}(h:P:=by simpa using hs):P:=h
theorem vR {P:Prop}(h:P:=by cases hd):P:=h
theorem zZ {P:Prop}(h:P:=by simp[hx]):P:=h
theorem Rs {P:Prop}(h:P:=by unfold av;exact⟨aH,uO,rfl⟩):P:=h
theorem GV {P:Prop}(h:P:=by simp at hi;omega):P:=h
theorem Ew {P:Prop}(h:P:=by rw[b];exact h1):P:=h
theorem Lf {P:Prop}(h:P:=by unfold Bu;kernel_rfl):P:=h
theorem Lg {P:Prop}(h:P:=by simp[List.getD,hi']):P:=h
theorem Rt {P:Prop}(h:P:=by simp[lW,Fence.wide] at hd):P:=h
theorem CB {P:Prop}(h:P:=by rw[hf];rfl):P:=h
theorem Ey {P:Prop}(h:P:=by rw[bE];omega):P:=h
theorem Ru {P:Prop}(h:P:=by simp[Array.range_zero']):P:=h
theorem aBd {P:Prop}(h:P:=by rw[ho.2.2];exact h2):P:=h
theorem z8 {P:Prop}(h:P:=by simp[e]):P:=h
theorem Rv {P:Prop}(h:P:=by simpa [er,aU] using hp):P:=h
theorem Rw {P:Prop}(h:P:=by simp only[eP,hop,h2]):P:=h
theorem CF {P:Prop}(h:P:=by simp[jf]):P:=h
theorem Rx {P:Prop}(h:P:=by simpa using k2.symm):P:=h
theorem Lh {P:Prop}(h:P:=by rw[hb'];exact hB):P:=h
theorem GX {P:Prop}(h:P:=by cases d<;>rfl):P:=h
theorem Aa {P:Prop}(h:P:=by rw[hh]):P:=h
theorem Li {P:Prop}(h:P:=by rw[hb];exact h1):P:=h
theorem Lj {P:Prop}(h:P:=by rw[hl];exact h2):P:=h
theorem CG {P:Prop}(h:P:=by simp[c]):P:=h
theorem Ez {P:Prop}(h:P:=by simp[hj]):P:=h
theorem CJ {P:Prop}(h:P:=by cases hx):P:=h
theorem Ll {P:Prop}(h:P:=by rw[a];exact h2):P:=h
theorem Ry {P:Prop}(h:P:=by simp at h2;omega):P:=h
theorem Rz {P:Prop}(h:P:=by cases hi;exact adH):P:=h
theorem RA {P:Prop}(h:P:=by rw[hL];exact w1):P:=h
theorem CK {P:Prop}(h:P:=by rw[<-q3]):P:=h
theorem Lm {P:Prop}(h:P:=by rw[oz];omega):P:=h
theorem Lp {P:Prop}(h:P:=by rw[<-hfr];rfl):P:=h
theorem EA {P:Prop}(h:P:=by simp[h]):P:=h
theorem RB {P:Prop}(h:P:=by rw[f];simp[dD,e]):P:=h
theorem RD {P:Prop}(h:P:=by simpa using hc):P:=h
theorem RF {P:Prop}(h:P:=by simpa using k2):P:=h
theorem Lr {P:Prop}(h:P:=by rw[h];simp):P:=h
theorem Ls {P:Prop}(h:P:=by rw[h.iJ];rfl):P:=h
theorem EB {P:Prop}(h:P:=by cases hk):P:=h
theorem EC {P:Prop}(h:P:=by cases hv):P:=h
set_option linter.all false
section
namespace aY
def iE:=@Option.some.injEq
def iP:=@Bool.and_eq_true
def iR:=@Option.bind_eq_some_iff
def RS:=@Nat.le_refl
def aP:=@Prod.mk.injEq
def bE:=@List.length_append
def aZ:=@Option.map_eq_some_iff
def bZ:=@Nat.le_trans
def dO:=@Bool.false_eq_true
def fE:=@List.mem_cons_self
def fG:=@List.map_cons
def gD:=@Nat.le_add_right
def gK:=@Nat.not_lt_zero
def iq:=@Nat.lt_of_lt_of_le
def iC:=@List.mem_cons
def iK:=@List.mem_cons_of_mem
def iX:=@List.mem_singleton
def jD:=@List.append_assoc
def jK:=@Nat.ne_of_lt
def jL:=@List.mapM_cons
def jM:=@List.getElem?_eq_getElem
def jS:=@List.length_map
def kD:=@Nat.le_succ
def kM:=@List.all_eq_true
def kN:=@Nat.zero_le
def kP:=@Bool.or_eq_false_iff
def kQ:=@Nat.le_of_ble_eq_true
def lF:=@List.append_nil
def lX:=@Option.some.inj
def lY:=@List.getElem_mem
def lZ:=@List.eq_nil_of_length_eq_zero
def oz:=@List.length_take
def ny:=@List.flatMap_cons
def nS:=@Nat.zero_add
def nT:=@List.filter_cons_of_neg
def oC:=@List.getElem?_eq_some_iff
def oD:=@List.filter_cons_of_pos
def oV:=@List.map_append
def oW:=@List.mem_append
def qb:=@List.cons.injEq
def qc:=@List.filter_append
def qO:=@Nat.succ_mul
def qP:=@Bool.or_eq_true
def qQ:=@List.mem_append_right
def xA:=@Nat.beq_refl
def rU:=@Bool.not_eq_true'
def tJ:=@Nat.add_mul
def tK:=@Nat.mul_le_mul_right
def tL:=@List.take_append_drop
def tN:=@List.mem_filter
def uP:=@Nat.add_assoc
def uQ:=@List.drop_eq_getElem_cons
def uR:=@List.mem_append_left
def xE:=@Nat.eq_of_beq_eq_true
def xG:=@Nat.le_of_eq
def yO:=@List.length_drop
def yP:=@List.getD_eq_getElem?_getD
def yQ:=@Nat.le_max_right
def Ab:=@Nat.mul_comm
def Ac:=@Array.getD_eq_getD_getElem?
def Ad:=@List.nodup_cons
def Ae:=@Nat.le_max_left
def Af:=@Int.le_refl
def Ag:=@List.drop_zero
def Bv:=@List.mem_of_getElem?
def CO:=@Nat.lt_succ_self
def CP:=@List.length_pos_iff
def CQ:=@Nat.add_sub_cancel_left
def ED:=@List.map_congr_left
def EF:=@List.mem_map
def GY:=@List.mem_iff_getElem
def GZ:=@List.getElem?_append_left
def G5:=@List.map_map
def G6:=@List.drop_append
def G7:=@List.drop_of_length_le
def Lu:=@List.getElem_range
def Lv:=@List.drop_eq_nil_of_le
def Lx:=@Nat.min_eq_left
def RG:=@List.take_of_length_le
open Go
abbrev Loc:=Nat×Nat
inductive Cap where
 |sh
 |full
 |nil
 |own (n s:Nat)
inductive V where
 |int (k:IntKind) (n:Int)
 |bool (b:Bool)
 |str (s:List UInt8)
 |cB
 |dF
 |gL
 |iD
 |agg (cs:List V)
 |bq (vs:List V)
 |ay (c:Cap) (l:List V)
 |aJ (loc:Loc) (s off len cap bS:Nat) (ag:Bool)
 |aI (cs:List V) (off:Nat)
 |ref (loc:Loc) (s off:Nat)
 |fn (f:Fn) (first cap:List V)
 |dJ (loc:Loc) (s:Nat)
 |eU (ks vs:List V)
 |iface (t:TypeId) (v:V)
 |raw (v:Value)
instance:Inhabited V:=⟨.bq []⟩
def aK:V:=.bq []
def V.cells:V->List V
 |.agg cs=>cs|v=>[v]
def kV:Value->Option V
 |.bool b=>some (.bool b)|.int k n=>some (.int k n)|.string s=>some (.str s.data.toList)|.pointer none=>some .cB|.slice none 0 0=>some (.ay .nil [])|.map none=>some .gL|.nilFunc=>some .dF|.nilIface=>some .iD|_=>none
def ofValue:Value->Option V
 |.agg cs=>(cs.toList.mapM kV).map .agg|.tuple cs=>(cs.toList.mapM kV).map .bq|v=>kV v
mutual
def aU:V->Bool
 |.int _ _|.bool _|.str _|.cB|.dF|.gL|.iD=>true|.agg cs=>bN cs|.bq vs=>bN vs|.ay .sh l=>bN l|.ay _ _=>false|.aJ .. |.ref .. |.dJ .. =>false|.aI cs _=>bN cs|.fn (.func _) a b=>bN a&& bN b|.fn _ _ _=>false|.eU ks vs=>bN ks&& bN vs|.iface _ v=>aU v|.raw _=>false
def bN:List V->Bool
 | []=>true|v::l=>aU v&& bN l
end
mutual
def flat:V->Bool
 |.int _ _|.bool _|.str _|.cB|.dF|.gL|.iD=>true|.agg cs=>kW cs|.bq vs=>kW vs|_=>false
def kW:List V->Bool
 | []=>true|v::l=>flat v&& kW l
end
def eD:V->V
 |.ay _ l=>.ay .sh l|v=>v
def er:V->V
 |.ay _ l=>.ay .sh l|.agg cs=>.agg (cs.map eD)|v=>v
inductive jo where
 |cells (cs:List V)
 |map (ks vs:List V)
inductive Ex where
 |normal
 |exit (id:Nat)
 |ret
structure Fr where
 d:Nat
 aj:Bool
 tm:Nat->V
structure rV where
 st:Nat
 pend:Option Ex
 fr:Fr
 ps:List Nat
 fQ:Code
 body:Code
structure au where
 next:Nat
 top:Nat->Nat
 obj:Loc->Option (Nat×jo)
 loops:Nat->Option rV
def au.init:au:=⟨0,fun _=>0,fun _=>none,fun _=>none⟩
def upd {κ α:Type}[DecidableEq κ](f:κ->α)(k:κ)(v:α):κ->α:=fun j=>if j=k then v else f j
def Fr.set (fr:Fr)(i:Nat)(v:V):Fr:={fr with tm:=upd fr.tm i v}
def Fr.put (fr:Fr)(d:Option Nat)(v:V):Fr:=match d with
 |some i=>fr.set i v|none=>fr
def au.setObj (σ:au)(loc:Loc)(s:Nat)(o:jo):au:={σ with obj:=upd σ.obj loc (some (s,o))}
def au.eG (σ:au)(loc:Loc):au:={σ with obj:=upd σ.obj loc none}
def au.dZ (σ:au)(s n:Nat):au:={σ with top:=upd σ.top s n}
def au.iY (σ:au)(l:Nat)(r:rV):au:={σ with loops:=upd σ.loops l (some r)}
def au.qd (σ:au)(l:Nat):au:={σ with loops:=upd σ.loops l none}
def lG:Code->Bool
 |.seq a b=>lG a&& lG b|.cond _ a b=>lG a&& lG b|.block _ c=>lG c|.loop c=>lG c|.scope c=>lG c|.rangeFunc .. =>false|_=>true
def au.dB (σ:au)(loc:Loc)(s:Nat):Option (List V):=
 match σ.obj loc with
 |some (s',.cells cs)=>if s'=s then some cs else none|_=>none
def au.jw (σ:au)(loc:Loc)(s:Nat):Option (List V×List V):=
 match σ.obj loc with
 |some (s',.map ks vs)=>if s'=s then some (ks,vs) else none|_=>none
def chunks (agg:Bool)(n:Nat):Nat->List V->List V
 |0,_=>[]|k+1,cs=>(if agg then V.agg (cs.take n) else cs.headD aK)::chunks agg n k (cs.drop n)
def oneCell:V->Bool
 |.agg _|.bq _|.raw _=>false|_=>true
def dD (l:List V):Bool:=l.all oneCell
def bn:Nat->au->V->Option V
 |0,_,_=>none|n+1,σ,v=>if aU v then some v else match v with
  |.ay _ l=>(l.mapM (bn n σ)).map (.ay .sh)|.agg cs=>(cs.mapM (bn n σ)).map .agg|.bq cs=>(cs.mapM (bn n σ)).map .bq|.aI cs off=>(cs.mapM (bn n σ)).map (.aI · off)|.fn (.func f) a b=>(a.mapM (bn n σ)).bind fun a=>(b.mapM (bn n σ)).map fun b=>.fn (.func f) a b
  |.ref loc s off=>(σ.dB loc s).bind fun cs=>(cs.mapM (bn n σ)).map (.aI · off)
  |.aJ loc s off len _ bS ag=>(σ.dB loc s).bind fun cs=>
     if off+len*bS<=cs.length then (((cs.drop off).take (len*bS)).mapM (bn n σ)).bind fun cs=>if ag||bS==1&& dD cs then some (.ay .sh (chunks ag bS len cs)) else none else none
  |.dJ loc s=>(σ.jw loc s).bind fun (ks,vs)=>(ks.mapM (bn n σ)).bind fun ks=>(vs.mapM (bn n σ)).map fun vs=>.eU ks vs
  |.eU ks vs=>(ks.mapM (bn n σ)).bind fun ks=>(vs.mapM (bn n σ)).map fun vs=>.eU ks vs
  |.iface t v=>(bn n σ v).map (.iface t)|_=>none
section ops
variable (P:Program)
def eX (t:TypeId):Option Nat:=(P.info? t).map (·.size)
def Ah (t:TypeId):Option Nat:=(P.info? t).map (·.bytes)
def nU (t:TypeId):Option Bool:=(P.underlying t).map fun
 |.struct _|.array .. =>true|_=>false
def kR (t:TypeId):Option V:=((P.info? t).bind (·.zero)).bind ofValue
def xH (t:TypeId)(f:Nat):Option (Nat×TypeId):=
 match P.underlying t with
 |some (.struct fs)=>(fs[f]?).bind fun f=>match eX P f.type with
  |some (_+1)=>some (f.offset,f.type)|_=>none
 |_=>none
def mW (t:TypeId):Option TypeId:=
 match P.underlying t with
 |some (.slice e)=>some e|_=>none
def RH (t:TypeId):Option (Nat×TypeId):=
 match P.underlying t with
 |some (.array n e)=>some (n,e)|_=>none
def G8 (t:TypeId):Option (TypeId×TypeId):=
 match P.underlying t with
 |some (.map k e)=>some (k,e)|_=>none
def Bw (agg:Bool)(n:Nat)(cs:List V)(off:Nat):Option V:=
 if agg then (if off+n<=cs.length then some (.agg ((cs.drop off).take n)) else none) else cs[off]?
def iN (t:TypeId)(cs:List V)(off:Nat):Option V:=
 (nU P t).bind fun a=>(eX P t).bind fun n=>Bw a n cs off
def jN (cs:List V)(off:Nat)(vs:List V):List V:=cs.take off++vs++cs.drop (off+vs.length)
def fV:V->Bool
 |.raw _=>false|_=>true
def rW (place:Nat->Option (Nat×Nat))(cells:List V):List (Nat×V)->Option (List V)
 | []=>some cells| (i,v)::rest=>
   match place i with
   |none=>none|some (off,size)=>
    if v.cells.length=size/\off+size<=cells.length/\fV v then rW place (jN cells off v.cells) rest else none
def vS:V->V->Option Bool
 |.int k a,.int k' b=>if k=k' then some (a==b) else none|.bool a,.bool b=>some (a==b)|.str a,.str b=>some (a==b)|_,_=>none
def EG (eq:TypeId->V->V->Option Bool)(xs ys:List V):List Field->Option Bool
 | []=>some true|f::fs=>
  if f.name= "_" then EG eq xs ys fs else (iN P f.type xs f.offset).bind fun a=>(iN P f.type ys f.offset).bind fun b=>(eq f.type a b).bind fun r=>(EG eq xs ys fs).map (r&& ·)
def G9 (eq:TypeId->V->V->Option Bool)(e:TypeId)(sz:Nat)(xs ys:List V):List Nat->Option Bool
 | []=>some true|i::is=>(iN P e xs (i*sz)).bind fun a=>(iN P e ys (i*sz)).bind fun b=>(eq e a b).bind fun r=>(G9 eq e sz xs ys is).map (r&& ·)
def CS:Nat->TypeId->V->V->Option Bool
 |0,_,_,_=>none|d+1,t,x,y=>
  match P.underlying t,x,y with
  |some .bool,.bool a,.bool b=>some (a==b)|some (.int _),.int k a,.int k' b=>if k=k' then some (a==b) else none|some .string,.str a,.str b=>some (a==b)|some (.struct fs),.agg xs,.agg ys=>if P.stoodInHeld t then none else EG P (CS d) xs ys fs.toList|some (.array n e),.agg xs,.agg ys=>(eX P e).bind fun sz=>G9 P (CS d) e sz xs ys (List.range n)
  |_,_,_=>none
def rX (t:TypeId)(x y:V):Option Bool:=
 match P.underlying t,x,y with
 |some (.func ..),.dF,.dF=>some true|some (.func ..),.dF,.fn _ _ _|some (.func ..),.fn _ _ _,.dF=>some false|some (.pointer _),.cB,.cB=>some true|some (.pointer _),.cB,.ref .. |some (.pointer _),.ref ..,.cB|some (.pointer _),.cB,.aI .. |some (.pointer _),.aI ..,.cB=>some false|some (.slice _),.ay .nil [],.ay .nil []=>some true|some (.slice _),.ay .nil [],.ay _ (_::_)|some (.slice _),.ay _ (_::_),.ay .nil []=>some false
 |some (.map ..),.gL,.gL=>some true|some (.map ..),.gL,.dJ .. |some (.map ..),.dJ ..,.gL|some (.map ..),.gL,.eU .. |some (.map ..),.eU ..,.gL=>some false|some (.struct _),.agg a,.agg b|some (.array ..),.agg a,.agg b=>if P.eqGuardType P.depth t then none else CS P 8 t (.agg a) (.agg b)|some .bool,.bool a,.bool b=>some (a==b)|some (.interface ms),.iD,.iD=>if ms.isEmpty then some true else none|some (.interface _),.iD,.iface _ _|some (.interface _),.iface _ _,.iD=>some false
 |_,_,_=>none
def mH (op:BinOp)(k:IntKind)(x y:Int):Option V:=
 match op with
 |.add=>some (.int k (k.wrap (x+y)))|.sub=>some (.int k (k.wrap (x-y)))|.mul=>some (.int k (k.wrap (x*y)))|.quo=>if y=0 then none else some (.int k (k.wrap (x.tdiv y)))|.rem=>if y=0 then none else some (.int k (x.tmod y))|.and=>some (.int k (k.wrap (BitVec.ofInt k.bits x&&& BitVec.ofInt k.bits y).toNat))|.or=>some (.int k (k.wrap (BitVec.ofInt k.bits x|||BitVec.ofInt k.bits y).toNat))|.xor=>some (.int k (k.wrap (BitVec.ofInt k.bits x^^^BitVec.ofInt k.bits y).toNat))
 |.andNot=>some (.int k (k.wrap (BitVec.ofInt k.bits x&&& ~~~BitVec.ofInt k.bits y).toNat))|.eql=>some (.bool (x==y))|.neq=>some (.bool (x !=y))|.lss=>some (.bool (x<y))|.leq=>some (.bool (x<=y))|.gtr=>some (.bool (x>y))|.geq=>some (.bool (x>=y))|_=>none
def LA (op:BinOp)(k:IntKind)(x y:Int):Option V:=
 if y<0 then none else match op with
 |.shl=>some (.int k (k.wrap (x*2^min y.toNat k.bits)))|.shr=>some (.int k (x.fdiv (2^min y.toNat k.bits)))|_=>none
def CU (op:BinOp)(x y:List UInt8):Option V:=
 match op with
 |.add=>if ((x.length+y.length:Nat):Int)>IntKind.i64.max then none else some (.str (x++y))|.eql=>some (.bool (x==y))|.neq=>some (.bool !(x==y))|.lss=>some (.bool (Op.bytesLess x y))|.leq=>some (.bool (Op.bytesLess x y||x==y))|.gtr=>some (.bool !(Op.bytesLess x y||x==y))|.geq=>some (.bool !(Op.bytesLess x y))|_=>none
def uS (op:BinOp)(t:TypeId)(x y:V):Option V:=
 match op,x,y with
 |.shl,.int k a,.int _ b|.shr,.int k a,.int _ b=>LA op k a b|_,.int k a,.int k' b=>if k=k' then mH op k a b else none|_,.str a,.str b=>CU op a b|.eql,x,y=>(rX P t x y).map .bool|.neq,x,y=>(rX P t x y).map fun b=>.bool !b
 |_,_,_=>none
def EH (op:UnOp)(x:V):Option V:=
 match op,x with
 |.neg,.int k n=>some (.int k (k.wrap (0-n)))|.xor,.int k n=>mH .xor k (if k.signed then-1 else k.max) n|.not,.bool b=>some (.bool !b)|_,_=>none
def Ai (b:UInt8):V:=.int .u8 b.toNat
def EI:V->Option UInt8
 |.int .u8 n=>some (UInt8.ofNat n.toNat)|_=>none
def CV (σ:au)(src dst:TypeId)(x:V):Option V:=
 match P.underlying src,P.underlying dst,x with
 |some _,some (.int k),.int _ n=>some (.int k (k.wrap n))|some _,some .string,.str s=>some (.str s)|some (.slice e),some .string,.ay _ l=>
  match P.underlying e with
  |some (.int .u8)=>(l.mapM EI).map .str|_=>none
 |some (.slice e),some .string,.aJ loc s off len _ _ _=>
  match P.underlying e with
  |some (.int .u8)=>(σ.dB loc s).bind fun cs=>if off+len<=cs.length then (((cs.drop off).take len).mapM EI).map .str else none
  |_=>none
 |_,_,_=>none
def oF:V->Option Int
 |.int _ n=>some n|_=>none
def bnd (x:V)(y:Nat):Option Nat:=(oF x).bind fun i=>if 0<=i/\i<=y then some i.toNat else none
def uT (len cap:Nat)(lo hi mx:Option V):Option (Nat×Nat×Nat):=
 (match mx with|some v=>bnd v cap|none=>some cap).bind fun m=>(match hi,mx with
   |some v,some _=>bnd v m|some v,none=>bnd v m|none,none=>some len|none,some _=>none).bind fun h=>(match lo with|some v=>bnd v h|none=>some 0).bind fun l=>some (l,h,m)
def qR (sz:Nat):List V->Bool
 | []=>true|v::_=>v.cells.length==sz
def xI (σ:au)(t:TypeId)(x:V)(lo hi mx:Option V):Option V:=
 match P.underlying t,x with
 |some (.slice e),.ay c s=>
  (eX P e).bind fun sz=>(uT s.length s.length lo hi mx).bind fun (l,h,m)=>if qR sz s then some<|
    if l=0/\h=s.length/\mx.isNone then .ay c s else .ay (match mx with|some _=>if m=h then .full else .sh|none=>match c with|.full=>if h=s.length then .full else .sh|_=>.sh) ((s.take h).drop l)else none
 |some (.slice e),.aJ loc st off len cap bS ag=>
  (eX P e).bind fun sz=>(uT len cap lo hi mx).bind fun (l,h,m)=>if sz=bS then some<|
    if l=h/\0<l then .ay (match mx with|some _=>if m=h then .full else .sh|none=>.sh) [] else .aJ loc st (off+l*bS) (h-l) (m-l) bS ag else none
 |_,_=>none
def idx (i:V)(n:Nat):Option Nat:=(oF i).bind fun i=>if 0<=i/\i<n then some i.toNat else none
def qU (t:TypeId)(x i:V):Option V:=
 match P.underlying t,x with
 |some (.slice e),.ay _ l=>(eX P e).bind fun sz=>(idx i l.length).bind fun k=>(l[k]?).bind fun e=>if e.cells.length=sz then some (.aI e.cells 0) else none
 |some (.slice e),.aJ loc st off len _ bS _=>(eX P e).bind fun sz=>(idx i len).bind fun k=>if sz=bS then some (.ref loc st (off+k*bS)) else none
 |some (.array n e),.ref loc st off=>(eX P e).bind fun sz=>(idx i n).map fun k=>.ref loc st (off+k*sz)
 |some (.array n e),.aI cs off=>(eX P e).bind fun sz=>(idx i n).map fun k=>.aI cs (off+k*sz)
 |_,_=>none
def He (t:TypeId)(x i:V):Option V:=
 match P.underlying t,x with
 |some (.array n e),.agg cs=>(idx i n).bind fun k=>(eX P e).bind fun sz=>iN P e cs (k*sz)
 |some .string,.str s=>(idx i s.length).bind fun k=>(s[k]?).map Ai
 |_,_=>none
def Aj (k:V):List V->List V->Option (Option V)
 |a::bQ,v::vs=>(vS k a).bind fun b=>if b then some (some v) else Aj k bQ vs
 | [],[]=>some none|_,_=>none
def Hf (k v:V):List V->List V->Option (List V×List V)
 |a::bQ,w::ws=>(vS k a).bind fun b=>if b then some (k::bQ,v::ws) else (Hf k v bQ ws).map fun (x,y)=>(a::x,w::y)
 | [],[]=>some ([k],[v])|_,_=>none
def vT (t:TypeId)(k:V):Bool:=
 match P.underlying t,k with
 |some (.int _),.int _ _|some .string,.str _|some .bool,.bool _=>true|_,_=>false
def EJ (σ:au)(t:TypeId)(m k:V)(ok:Bool):Option V:=
 (G8 P t).bind fun (kt,et)=>
 if vT P kt k then (match m with
    |.gL=>some ([],[])|.dJ loc s=>σ.jw loc s|.eU ks vs=>some (ks,vs)|_=>none).bind fun (ks,vs)=>(Aj k ks vs).bind fun r=>(match r with|some v=>some (v,true)|none=>(kR P et).map fun z=>(z,false)).map fun (v,b)=>
  if ok then .bq [v,.bool b] else v else none
def Bz (σ:au)(t:TypeId)(m k v:V):Option au:=
 (G8 P t).bind fun (kt,_)=>
 if vT P kt k then match m with
  |.dJ loc s=>(σ.jw loc s).bind fun (ks,vs)=>(Hf k v ks vs).map fun (ks,vs)=>σ.setObj loc s (.map ks vs)
  |_=>none else none
def dG (n b:Nat):Bool:=n*b<=2^47&& n<=2^47
def tO (σ:au)(ag:Bool)(sz:Nat)(z:V):V->Option (List V)
 |.int _ n=>if 0<=n/\n<=2^47 then some (List.replicate n.toNat z) else none|.ay _ l=>if qR sz l then some l else none|.str s=>if sz=1 then some (s.map Ai) else none|.aJ loc s off len _ bS _=>if bS≠sz then none else (σ.dB loc s).bind fun cs=>
  if off+len*sz<=cs.length/\(dD cs=true\/ag=true) then some ((chunks ag sz len (cs.drop off)).map er) else none
 |_=>none
def EK:V->Bool
 |.int _ _=>true|_=>false
def mI (aj zeros:Bool)(σ:au)(st:Nat)(loc:Option Loc)(t:TypeId)(x y:V):Option (V×au):=
 (mW P t).bind fun e=>(eX P e).bind fun sz=>(Ah P e).bind fun iF=>(nU P e).bind fun ag=>(kR P e).bind fun z=>
 if zeros=EK y/\z.cells.length=sz/\0<sz/\(ag||sz==1)=true then (tO σ ag sz z y).bind fun ys=>
 if ys.all (fun v=>dD v.cells)=true then match x with
 |.ay c l=>
  if dG (l.length+ys.length) iF=true/\qR sz l=true then match aj,c with
   |true,.nil=>loc.map fun loc=>(.aJ loc st 0 (l.length+ys.length) (l.length+ys.length) sz ag,σ.setObj loc st (.cells ((l++ys).flatMap V.cells)))
   |true,.full=>if ys.isEmpty then some (.ay .full l,σ) else loc.map fun loc=>(.aJ loc st 0 (l.length+ys.length) (l.length+ys.length) sz ag,σ.setObj loc st (.cells ((l++ys).flatMap V.cells)))
   |false,.own n s=>if n=sz/\σ.top s=l.length then some (.ay (.own n s) (l++ys),σ.dZ s (l.length+ys.length)) else none|false,.nil|false,.full=>some (.ay (.own sz st) (l++ys),σ.dZ st (l.length+ys.length))|_,_=>none else none
 |.aJ jO s off len cap bS _=>
  if dG (len+ys.length) iF=true/\aj=true/\off=0/\bS=sz then loc.bind fun loc=>(σ.dB jO s).bind fun cs=>
    if len+ys.length<=cap then if (len+ys.length)*sz<=cs.length then some (.aJ jO s 0 (len+ys.length) cap sz ag,σ.setObj jO s (.cells (jN cs (len*sz) (ys.flatMap V.cells))))else none else if len*sz<=cs.length then some (.aJ loc st 0 (len+ys.length) (len+ys.length) sz ag,(σ.eG jO).setObj loc st (.cells (cs.take (len*sz)++ys.flatMap V.cells)))else none else none
 |_=>none else none else none
def copyV (σ:au)(t:TypeId)(x y:V):Option (V×au):=
 (fun (_:Program) (_:au) (_:TypeId) (_ _:V)=>none) P σ t x y
def XF (t:TypeId)(ok:Bool)(x:V):Option V:=
 match P.underlying t with
 |none|some (.interface _)=>none|some _=>match x with
  |.iface u v=>if u=t then some (if ok then .bq [v,.bool true] else v) else if ok then (kR P t).map fun z=>.bq [z,.bool false] else none
  |.iD=>if ok then (kR P t).map fun z=>.bq [z,.bool false] else none
  |_=>none
def Hg (σ:au)(t:TypeId)(x:V):Option (V×au):=
 (fun (_:Program) (_:au) (_:TypeId) (_:V)=>none) P σ t x
def yR (mx:Bool):V->List V->Option V
 |x,[]=>some x|.int k a,.int k' b::l=>if k=k' then yR mx (.int k (if mx then (if b>a then b else a) else (if b<a then b else a))) l else none|_,_=>none
def BA (aj:Bool)(σ:au)(st:Nat)(loc:Option Loc)(t:TypeId)(l c:V):Option (V×au):=
 (mW P t).bind fun e=>(eX P e).bind fun sz=>(Ah P e).bind fun iF=>(kR P e).bind fun z=>(oF l).bind fun n=>(oF c).bind fun m=>
 if 0<=n/\n<=m/\dG m.toNat iF/\m<=2^47/\z.cells.length=sz then if n=0/\aj=false then some (.ay (.own sz st) [],σ.dZ st 0)else loc.bind fun loc=>(nU P e).map fun ag=>(.aJ loc st 0 n.toNat m.toNat sz ag,σ.setObj loc st (.cells (List.replicate m.toNat z.cells).flatten))else none
end ops
end aY
end
section
namespace aY
open Go
structure Env where
 P:Program
 glob:Nat->Option (List V)
 imp:FuncId->Bool
 aj:FuncId->Bool
 qV:FuncId->Option (List V->Option V)
 own:FuncId->Nat->Bool:=fun _ _=>false
 vU:FuncId->Bool:=fun _=>false
 cl:FuncId->Option (List V->Option V):=fun _=>none
 LB:TypeId->Bool:=fun _=>false
 alS:Nat->Bool:=fun _=>false
 cn:Nat->Nat:=fun d=>d
 alT:Nat->Bool:=fun _=>false
 LC:Nat->Bool:=fun _=>true
section
variable (E:Env)
def Fr.ev (fr:Fr):Operand->V
 |.tmp t=>fr.tm t|.const v=>(ofValue v).getD (.raw v)|.global g=>match E.glob g with|some cs=>.aI cs 0|none=>.raw (.pointer (some ⟨g,0,none⟩))
 |.func f=>.fn (.func f) [] []
def p9 (fr:Fr):Option Operand->Option V
 |none=>none|some x=>some (fr.ev E x)
def xJ:V->Option Bool
 |.bool b=>some b|_=>none
def RI (t:TypeId):Option (Nat->Option (Nat×Nat)):=
 match E.P.underlying t with
 |some (.struct fs)=>if fs.toList.all (fun f=>(eX E.P f.type).isSome) then some fun i=>(fs[i]?).bind fun f=>(eX E.P f.type).map fun n=>(f.offset,n)else none
 |some (.array _ e)=>(eX E.P e).map fun n=>fun i=>some (i*n,n)
 |_=>none
def CW (t:TypeId)(len:Nat)(parts:List (Nat×V)):Option V:=
 (mW E.P t).bind fun e=>(eX E.P e).bind fun sz=>(nU E.P e).bind fun ag=>(kR E.P e).bind fun z=>
 if len*sz<=2^24/\z.cells.length=sz/\0<sz/\(ag||sz==1)=true then (rW (fun i=>if i<len then some (i*sz,sz) else none) (List.replicate len z.cells).flatten parts).bind fun cs=>
    if dD cs then some (.ay .full ((chunks ag sz len cs).map er)) else none else none
def LD (t:TypeId)(d:Option Nat):Bool:=E.LB t&& (match d with
 |some d=>E.LC (1000*t+d)|none=>true)
def EL (d:Option Nat):Bool:=match d with
 |some d=>E.alT d|none=>false
def CX (σ:au)(st:Nat)(loc:Option Loc)(t:TypeId)(len:Nat)(parts:List (Nat×V)):Option (V×au):=
 (mW E.P t).bind fun e=>(eX E.P e).bind fun sz=>(nU E.P e).bind fun ag=>(kR E.P e).bind fun z=>
 if len*sz<=2^24/\z.cells.length=sz/\0<sz then (rW (fun i=>if i<len then some (i*sz,sz) else none) (List.replicate len z.cells).flatten parts).bind fun cs=>
    loc.map fun loc=>(.aJ loc st 0 len len sz ag,σ.setObj loc st (.cells cs))else none
def Ak (d:Option Nat):Bool:=match d with
 |some d=>E.alS d|none=>false
def yS (σ:au)(x:V):Option (V×au):=match x with
 |.aJ loc s off len _ bS ag=>(σ.dB loc s).bind fun cs=>
  if off+len*bS<=cs.length/\(ag||bS==1&& dD (((cs.drop off).take (len*bS)).map eD))=true then some (.ay .sh (chunks ag bS len (((cs.drop off).take (len*bS)).map eD)),σ.eG loc) else none
 |.ay _ l=>some (.ay .sh l,σ)|v=>some (v,σ)
def eP (fr:Fr)(σ:au)(st:Nat)(o:Oper):Option (V×au):=
 let loc:Option Loc:=o.dst.map fun t=>(fr.d,t)
 match o.op with
 |.move x=>if Ak E o.dst=true then yS σ (fr.ev E x) else some (fr.ev E x,σ)|.assign x=>some (fr.ev E x,σ)|.pick c a b=>(xJ (fr.ev E c)).map fun t=>(if t then fr.ev E a else fr.ev E b,σ)
 |.alloc t=>loc.bind fun loc=>(kR E.P t).bind fun z=>if dD z.cells then some (.ref loc st 0,σ.setObj loc st (.cells z.cells)) else none
 |.box t x=>if LD E t o.dst=true then (if aU (er (fr.ev E x))=true/\fV (fr.ev E x) then some (.aI (er (fr.ev E x)).cells 0,σ) else none) else loc.bind fun loc=>if dD (fr.ev E x).cells/\fV (fr.ev E x) then some (.ref loc st 0,σ.setObj loc st (.cells (fr.ev E x).cells)) else none
 |.build t parts=>(RI E t).bind fun pl=>(kR E.P t).bind fun z=>(rW pl z.cells (parts.toList.map fun (i,x)=>(i,fr.ev E x))).map fun cs=>(.agg cs,σ)
 |.buildSlice t len parts=>if EL E o.dst=true then CX E σ st (o.dst.map fun t=>(fr.d,E.cn t)) t len (parts.toList.map fun (i,x)=>(i,fr.ev E x)) else (CW E t len (parts.toList.map fun (i,x)=>(i,fr.ev E x))).map fun v=>(v,σ)
 |.load t a=>match fr.ev E a with
  |.ref loc s off=>(σ.dB loc s).bind fun cs=>(iN E.P t cs off).map fun v=>(v,σ)
  |.aI cs off=>(iN E.P t cs off).map fun v=>(v,σ)
  |_=>none
 |.store t a x=>match fr.ev E a with
  |.ref loc s off=>(σ.dB loc s).bind fun cs=>
   if some (fr.ev E x).cells.length=eX E.P t/\off+(fr.ev E x).cells.length<=cs.length/\dD (fr.ev E x).cells then some (aK,σ.setObj loc s (.cells (jN cs off (fr.ev E x).cells))) else none
  |_=>none
 |.nilCheck x=>match fr.ev E x with
  |.ref loc s off=>some (.ref loc s off,σ)|.aI cs off=>some (.aI cs off,σ)|.fn (.func f) a b=>some (.fn (.func f) a b,σ)|_=>none
 |.binOp op t x y _=>(uS E.P op t (fr.ev E x) (fr.ev E y)).map fun v=>(v,σ)
 |.unOp op _ x=>(EH op (fr.ev E x)).map fun v=>(v,σ)
 |.convert a b x=>(CV E.P σ a b (fr.ev E x)).map fun v=>(v,σ)
 |.sliceToArrayPointer t x=>(RH E.P t).bind fun (n,_)=>match fr.ev E x with
  |.aJ loc s off len _ _ _=>if 0<n/\n<=len then some (.ref loc s off,σ) else none|.ay _ l=>if 0<n/\n<=l.length/\dD l=true then some (.aI (l.take n) 0,σ) else none|_=>none
 |.makeInterface t x=>match E.P.underlying t with
  |some (.interface _)=>none|some _=>some (.iface t (fr.ev E x),σ)|none=>none
 |.makeFunc (.func f) a b=>some (.fn (.func f) (a.toList.map (fr.ev E)) (b.toList.map (fr.ev E)),σ)|.makeMap _ none=>loc.map fun loc=>(.dJ loc st,σ.setObj loc st (.map [] []))
 |.makeSlice t l c=>BA E.P fr.aj σ st loc t (fr.ev E l) (fr.ev E c)|.slice t x lo hi mx=>(xI E.P σ t (fr.ev E x) (p9 E fr lo) (p9 E fr hi) (p9 E fr mx)).map fun v=>(v,σ)
 |.fieldAddr t x f=>(xH E.P t f).bind fun (o,_)=>match fr.ev E x with
  |.ref loc s off=>some (.ref loc s (off+o),σ)|.aI cs off=>some (.aI cs (off+o),σ)|_=>none
 |.field t x f=>(xH E.P t f).bind fun (o,u)=>match fr.ev E x with
  |.agg cs=>(iN E.P u cs o).map fun v=>(v,σ)
  |_=>none
 |.indexAddr t x i=>(qU E.P t (fr.ev E x) (fr.ev E i)).map fun v=>(v,σ)
 |.index t x i=>(He E.P t (fr.ev E x) (fr.ev E i)).map fun v=>(v,σ)
 |.lookup t x i ok=>(EJ E.P σ t (fr.ev E x) (fr.ev E i) ok).map fun v=>(v,σ)
 |.mapUpdate t m k v|.insert t m k v=>(Bz E.P σ t (fr.ev E m) (fr.ev E k) (fr.ev E v)).map fun σ=>(aK,σ)
 |.extract x i=>match fr.ev E x with
  |.bq vs=>(vs[i]?).map fun v=>(v,σ)
  |_=>none
 |.typeAssert x _ t ok=>(XF E.P t ok (fr.ev E x)).map fun v=>(v,σ)
 |_=>none
def vV (σ:au)(t:TypeId)(x:V):Option Nat:=
 match E.P.underlying t,x with
 |some (.array n _),_=>some n|some (.map _ _),.dJ loc s=>(σ.jw loc s).map fun (ks,_)=>ks.length
 |some (.map _ _),.eU ks _=>some ks.length|some (.map _ _),.gL=>some 0|some (.pointer a),_=>(RH E.P a).map fun (n,_)=>n
 |some (.slice _),.ay _ l=>some l.length|some (.slice _),.aJ _ _ _ len _ _ _=>some len|some .string,.str s=>some s.length|_,_=>none
def qg (aj:Bool)(loc:Option Loc)(σ:au)(st:Nat)(b:Builtin)(tys:Array TypeId)(args:List V):Option (V×au):=
 match b,args with
 |.len,[x]=>(tys[0]?).bind fun t=>(vV E σ t x).map fun n=>(.int .i64 (n:Nat),σ)
 |.cap,[x]=>(tys[0]?).bind fun t=>(mW E.P t).bind fun _=>match x with
  |.ay .nil l|.ay .full l=>some (.int .i64 l.length,σ)|_=>none
 |.append,[x,y]=>(tys[0]?).bind fun t=>((tys[1]?).bind E.P.underlying).bind fun u=>match u with
  |.int _=>mI E.P aj true σ st loc t x y|.slice _|.string=>mI E.P aj false σ st loc t x y|_=>none
 |.copy,[x,y]=>(tys[0]?).bind fun t=>copyV E.P σ t x y
 |.clear,[x]=>(tys[0]?).bind fun t=>Hg E.P σ t x
 |.min,x::l=>(yR false x l).map fun v=>(v,σ)
 |.max,x::l=>(yR true x l).map fun v=>(v,σ)
 |_,_=>none
structure l5 where
 code:Code->Fr->au->Option (Ex×Fr×au)
 call:FuncId->List V->Nat->au->Option (V×au)
variable (S:l5)
def xK (f:FuncId)(args:List V):Option V:=
 match E.qV f with
 |some g=>g args|none=>(S.call f args 1 au.init).bind fun (v,σ)=>bn 20 σ v
def yT (l:Nat)(args:List V)(σ:au):Option (V×au):=
 (σ.loops l).bind fun r=>
 if r.st=0/\r.ps.length=args.length then (S.code r.fQ {r.fr with tm:=(r.ps.zip args).foldl (fun tm (p,a)=>upd tm p a) r.fr.tm} σ).bind fun (e,fr,σ1)=>
  match e with
  |.normal=>(σ1.loops l).bind fun r1=>
   if r1.st=0 then (S.code r.body fr (σ1.iY l {r1 with st:=1})).bind fun (e,_,σ2)=>(σ2.loops l).bind fun r2=>
    if r2.st=1 then match e with
     |.normal=>some (.bool true,σ2.iY l {r2 with st:=0,pend:=none})
     |e=>some (.bool false,σ2.iY l {r2 with st:=2,pend:=some e})else none else none
  |_=>none else none
def xL (L' L:Loc)(s:Nat)(σ:au)(v v':V):V×au:=if L'.1<L.1 then (match σ.obj L with
 |some (s',ob)=>if s'=s then (v',(σ.eG L).setObj L' s ob) else (v,σ)|none=>(v,σ)) else (v,σ)
def jP (L':Option Loc)(σ:au)(v:V):V×au:=match v with
 |.aJ L s off len cap bS ag=>(match L' with
  |none=>(.aJ L s off len cap bS ag,σ)|some L'=>xL L' L s σ (.aJ L s off len cap bS ag) (.aJ L' s off len cap bS ag))
 |.fn (.func f) a (.ref L s off::b)=>(match L' with
  |none=>(.fn (.func f) a (.ref L s off::b),σ)|some L'=>xL L' L s σ (.fn (.func f) a (.ref L s off::b)) (.fn (.func f) a (.ref L' s off::b)))
 |v=>(v,σ)
def lH (d:Nat)(dst:Option Nat)(σ:au)(fv:V)(args:List V):Option (V×au):=
 match fv with
 |.fn (.func f) first cap=>
  if E.imp f then (S.call f (first++args++cap) (d+1) σ).map fun (v,σ1)=>jP (dst.map fun t=>(d,t)) σ1 v else ((first++args++cap).mapM (bn 20 σ)).bind fun bQ=>(xK E S f bQ).bind fun v=>
   if (first++args++cap).all (fun a=>aU (er a))||flat v then some (v,σ) else none
 |.fn (.yield l) [] []=>yT S l args σ|_=>none
def lI (fr:Fr)(o:Oper)(f:Operand):Bool:=match fr.ev E f,o.dst with
 |.fn (.func g) _ _,some d=>E.own g d|_,_=>false
def tQ (σ:au)(st:Nat)(σ1:au):V->Option (V×au)
 |.ay c l=>if bN l=true then (match c with
  |.nil=>some (.ay .nil l,σ)|.full=>some (.ay .full l,σ)|.own n s=>if σ1.top s=l.length then some (.ay (.own n st) l,σ.dZ st l.length) else none|.sh=>none) else none
 |.aJ loc s off len _ bS _=>if off=0/\len=0 then (σ1.dB loc s).bind fun _=>some (.ay (.own bS st) [],σ.dZ st 0) else none
 |_=>none
def qW (b:Bool)(σ:au)(l:List V):Option (List V):=if b=true then (match l with
 |.ay .nil []::l=>(l.mapM (bn 20 σ)).map (.ay .nil []:: ·)|_=>none) else l.mapM (bn 20 σ)
def vW (σ:au)(st:Nat)(loc:Option Loc)(σ1:au):V->Option (V×au)
 |.ay c l=>if l.isEmpty=true then (match c with
  |.nil=>some (.ay .nil [],σ)|.full=>some (.ay .full [],σ)|_=>none) else none
 |.aJ L s off len cap bS ag=>loc.bind fun loc=>(σ1.dB L s).bind fun cs=>if bN (cs.map eD)=true then some (.aJ loc st off len cap bS ag,σ.setObj loc st (.cells (cs.map eD))) else none
 |_=>none
def qX (σ:au)(st:Nat)(loc:Option Loc)(fv:V)(args:List V):Option (V×au):=
 match fv with
 |.fn (.func f) first cap=>if (first++args++cap).all (fun a=>aU (er a))=true then (qW (E.vU f) σ (first++args++cap)).bind fun bQ=>(S.call f bQ 1 au.init).bind fun (v0,σ1)=>if E.imp f=true then vW σ st loc σ1 v0 else tQ σ st σ1 v0 else none
 |_=>none
def opC (fr:Fr)(σ:au)(st:Nat)(o:Oper):Option (V×Fr×au):=
 match o.op with
 |.call c=>
  match c.callee with
  |.builtin b=>(qg E fr.aj (o.dst.map fun t=>(fr.d,E.cn t)) σ st b c.argTypes (c.args.toList.map (fr.ev E))).map fun (v,σ)=>(v,fr,σ)
  |.value f=>if lI E fr o f=true then (qX E S σ st (o.dst.map fun t=>(fr.d,E.cn t)) (fr.ev E f) (c.args.toList.map (fr.ev E))).map fun (v,σ)=>(v,fr,σ) else (lH E S fr.d (o.dst.map E.cn) σ (fr.ev E f) (c.args.toList.map (fr.ev E))).map fun (v,σ)=>(v,fr,σ)
  |.invoke .. =>none
 |.defer _=>none|_=>(eP E fr σ st o).map fun (v,σ)=>(v,fr,σ)
def iw (ops:List Oper)(fr:Fr)(o:Oper):Option Bool:=
 match o.guard with
 |none=>some true|some (j,want)=>match (ops[j]?).bind (·.dst) with
  |some t=>match fr.tm t with
   |.bool b=>some (b==want)|.raw _=>none|_=>some false
  |none=>some false
def opsE (all:List Oper):Nat->List Oper->Fr->au->Option (Fr×au)
 |_,[],fr,σ=>some (fr,σ)|st,o::os,fr,σ=>
  (iw all fr o).bind fun t=>if t then (opC E S fr σ st o).bind fun (v,fr,σ)=>opsE all (st+1) os (fr.put o.dst v) σ else opsE all (st+1) os (fr.put o.dst aK) σ
inductive Key where
 |slot (t:Nat)
 |obj (l:Loc)
 |top
 |rest
 |nx
def vX (a b:Loc):Bool:=a.2==b.2&& a.1==b.1
def Key.eq:Key->Key->Bool
 |.slot a,.slot b=>a==b|.obj a,.obj b=>vX a b|.top,.top=>true|.rest,.rest=>true|.nx,.nx=>true|_,_=>false
def Key.state:Key->Bool
 |.obj _|.top|.nx=>true|_=>false
structure dS where
 tT:Bool
 oZ:Bool
 t:List Key
 w:List Key
def jf:V->List Key
 |.ref loc _ _|.aJ loc _ _ _ _ _ _|.dJ loc _=>[.obj loc]|_=>[]
def vY (fr:Fr)(o:Oper):List Key:=match o.dst with
 |some t=>[.obj (fr.d,t)]|none=>[]
def nV (t:List Key):dS:=⟨false,false,t,[]⟩
def mX (w:List Key):dS:=⟨false,false,[],w⟩
def gP:dS:=⟨true,true,[],[]⟩
def yU (fr:Fr)(o:Oper):List Key:=match o.dst with
 |some t=>[.obj (fr.d,E.cn t)]|none=>[]
def jq (fr:Fr)(o:Oper):dS:=
 match o.op with
 |.buildSlice .. =>if EL E o.dst=true then gP else nV []
 |.assign _|.pick .. |.build .. |.nilCheck _|.binOp .. |.unOp .. |.makeInterface .. |.typeAssert .. |.makeFunc .. |.fieldAddr .. |.field .. |.indexAddr .. |.index .. |.extract ..
 |.sliceToArrayPointer .. =>nV []|.move x=>if Ak E o.dst=true then mX (jf (fr.ev E x)) else nV []|.convert _ _ x|.slice _ x _ _ _|.load _ x|.lookup _ x _ _=>nV (jf (fr.ev E x))|.alloc _|.box .. |.makeMap .. =>mX (vY fr o)|.makeSlice .. =>mX (.top::vY fr o)|.store _ a _=>mX (jf (fr.ev E a))|.mapUpdate _ m _ _|.insert _ m _ _=>mX (jf (fr.ev E m))|.call c=>match c.callee with
  |.builtin b=>match b with
   |.len|.cap|.min|.max=>nV (c.args.toList.flatMap fun x=>jf (fr.ev E x))
   |.append=>if fr.aj then ⟨false,false,c.args.toList.flatMap fun x=>jf (fr.ev E x),.top::(yU E fr o++c.args.toList.flatMap fun x=>jf (fr.ev E x))⟩ else ⟨false,false,c.args.toList.flatMap fun x=>jf (fr.ev E x),[.top]⟩
   |_=>gP
  |.value f=>if lI E fr o f=true then mX (.top::yU E fr o) else match fr.ev E f with
   |.fn (.func g) a b=>if E.imp g then gP else if (a++c.args.toList.map (fr.ev E)++b).all (fun v=>aU (er v)) then nV [] else ⟨true,false,[],[]⟩
   |_=>gP
  |_=>gP
 |_=>gP
def xM (ops:List Oper)(o:Oper):List Key:=
 (o.op.operands.toList.filterMap fun|.tmp t=>some (.slot t)|_=>none)++
 match o.guard with
 |some (j,_)=>match (ops[j]?).bind (·.dst) with
  |some t=>[.slot t]|none=>[]
 |none=>[]
def oG (o:Oper):List Key:=match o.dst with
 |some t=>[.slot t]|none=>[]
def iy (ops:List Oper)(fr:Fr)(o:Oper)(wanted:Bool):dS:=
 if wanted then let f:=jq E fr o;⟨f.tT,f.oZ,xM ops o++f.t,oG o++f.w⟩else ⟨false,false,xM ops o,oG o⟩
def clash (f g:dS):Bool:=
 (f.oZ&& (g.tT||g.oZ||g.t.any Key.state||g.w.any Key.state))||f.w.any fun k=>k.eq .rest||g.t.any (·.eq k)||g.w.any (·.eq k)||(g.tT||g.oZ)&& k.state
def RJ (f g:dS):Bool:= !clash f g&& !clash g f
def uU (ops:List Oper):List Nat:=
 ops.foldl (fun acc o=>acc++[o.after.toList.foldl (fun s e=>if Region.binds .any e then s|||2^e.on|||acc.getD e.on 0 else s) 0]) []
def xO (ms:List Nat)(fs:List dS):Bool:=
 (List.range fs.length).all fun i=>(List.range i).all fun j=>(ms.getD i 0).testBit j||RJ (fs.getD i gP) (fs.getD j gP)
def tV (ops:List Oper):Bool:=
 (List.range ops.length).all fun i=>match ops[i]? with
   |some o=>o.after.toList.all fun e=>!Region.binds .any e||decide (e.on<i)
   |none=>true
def o7 (all:List Oper):Nat->List Oper->Fr->au->Option (List dS×Fr×au)
 |_,[],fr,σ=>some ([],fr,σ)|st,o::os,fr,σ=>
  (iw all fr o).bind fun t=>if t then (opC E S fr σ st o).bind fun (v,bT,σ)=>(o7 all (st+1) os (bT.put o.dst v) σ).map fun (fs,r)=>(iy E all fr o true::fs,r)else (o7 all (st+1) os (fr.put o.dst aK) σ).map fun (fs,r)=>(iy E all fr o false::fs,r)
def fF (k:Key)(x y:Fr×au):Prop:=
 match k with
 |.slot t=>x.1.tm t=y.1.tm t|.obj l=>x.2.obj l=y.2.obj l|.top=>x.2.top=y.2.top|.rest=>x.1.d=y.1.d/\x.1.aj=y.1.aj|.nx=>x.2.next=y.2.next/\x.2.loops=y.2.loops
def nA (ops:List Oper)(base i:Nat)(fr:Fr)(σ:au):Option (Fr×au):=
 match ops[i]? with
 |none=>some (fr,σ)|some o=>
  (iw ops fr o).bind fun t=>if t then (opC E S fr σ (base+i) o).map fun (v,fr,σ)=>(fr.put o.dst v,σ)else some (fr.put o.dst aK,σ)
def Free (ms:List Nat)(ops:List Oper)(base:Nat)(x y:Fr×au):Prop:=
 ∃(s:Nat->Fr×au) (T W:Nat->Key->Prop),s 0=x/\s ops.length=y/\(∀i k,W i k->T i k)/\
  (∀i,i<ops.length->∀x,(∀k,T i k->fF k (s i) x)->∃y,nA E S ops base i x.1 x.2=some y/\(∀k,W i k->fF k (s (i+1)) y)/\∀k,¬W i k->fF k x y)/\
  (∀i,i<ops.length->∀k,¬W i k->fF k (s i) (s (i+1)))/\
  ∀i j,i<ops.length->j<i->(ms.getD i 0).testBit j=true\/((∀k,¬(W i k/\T j k))/\∀k,¬(W j k/\T i k))
noncomputable def XG {α:Type}(p:Prop)(x:Option α):Option α:= @ite _ p (Classical.propDecidable p) x none
def XH:V->Bool
 |.fn (.func _) _ _=>true|_=>false
noncomputable def fB:Code->Fr->au->Option (Ex×Fr×au)
 |.skip,fr,σ=>some (.normal,fr,σ)|.region _ ops dr,fr,σ=>
  if dr then (o7 E S ops.toList σ.next ops.toList fr {σ with next:=σ.next+ops.toList.length}).bind fun (fs,fr',σ')=>if tV ops.toList&& xO (uU ops.toList) fs then some (.normal,fr',σ') else XG (tV ops.toList=true/\Free E S (uU ops.toList) ops.toList σ.next (fr,{σ with next:=σ.next+ops.toList.length}) (fr',σ')) (some (.normal,fr',σ'))else (opsE E S ops.toList σ.next ops.toList fr {σ with next:=σ.next+ops.toList.length}).map fun (fr,σ)=>(.normal,fr,σ)
 |.seq a b,fr,σ=>(fB a fr σ).bind fun (e,fr,σ)=>match e with
  |.normal=>fB b fr σ|e=>some (e,fr,σ)
 |.cond c a b,fr,σ=>(xJ (fr.ev E c)).bind fun t=>if t then fB a fr σ else fB b fr σ
 |.block id c,fr,σ=>(fB c fr σ).map fun (e,fr,σ)=>match e with
  |.exit i=>if i=id then (.normal,fr,σ) else (.exit i,fr,σ)|e=>(e,fr,σ)
 |.loop c,fr,σ=>(fB c fr σ).bind fun (e,fr,σ)=>match e with
  |.normal=>S.code (.loop c) fr σ|e=>some (e,fr,σ)
 |.scope c,fr,σ=>fB c fr σ|.label _,fr,σ=>some (.normal,fr,σ)|.exit id,fr,σ=>some (.exit id,fr,σ)|.ret,fr,σ=>some (.ret,fr,σ)|.rangeFunc f ps fQ body,fr,σ=>
  if XH (fr.ev E f) then (lH E S fr.d none ({σ with next:=σ.next+1}.iY σ.next {st:=0,pend:=none,fr:=fr,ps:=ps.toList,fQ:=fQ,body:=body}) (fr.ev E f) [.fn (.yield σ.next) [] []]).bind fun (_,σ2)=>(σ2.loops σ.next).bind fun r=>
  if r.st=1 then none else some ((match r.pend with|none=>.normal|some e=>e),fr,σ2.qd σ.next)else none
 |_,_,_=>none
def lJ (fr:Fr)(σ:au):ResultVar->Option V
 |.tmp t=>some (fr.tm t)|.cell a t=>match fr.tm a with
  |.ref loc s off=>(σ.dB loc s).bind fun cs=>iN E.P t cs off
  |_=>none
def xP (n:Nat)(ops:List Oper):Bool:=ops.all fun o=>match o.dst with
 |some d=>d<n|none=>true
def jg (n:Nat):Code->Bool
 |.region _ ops _=>xP n ops.toList|.seq a b=>jg n a&& jg n b|.cond _ a b=>jg n a&& jg n b|.block _ c=>jg n c|.loop c=>jg n c|.scope c=>jg n c|.rangeFunc _ ps a b=>ps.toList.all (· <n)&& jg n a&& jg n b&& lG a&& lG b|_=>true
noncomputable def CY (f:FuncId)(args:List V)(d:Nat)(σ:au):Option (V×au):=
 (E.P.funcs[f]?).bind fun fn=>fn.body.bind fun c=>
 if args.length<=fn.ntmps/\jg fn.ntmps c then (S.code c {d:=d,aj:=E.aj f,tm:=fun i=>args.getD i aK} σ).bind fun (e,fr,σ)=>
 match e with
 |.normal|.ret=>
  (fn.results.toList.mapM (lJ E fr σ)).map fun vs=>(match vs with| [v]=>v|vs=>.bq vs,σ)
 |.exit _=>none else none
def yV (f:FuncId)(args:List V):Option V:=(E.cl f).bind fun g=>g args
noncomputable def Al (f:FuncId)(args:List V)(d:Nat)(σ:au):Option (V×au):=match yV E f args with
 |some v=>some (v,σ)|none=>CY E S f args d σ
noncomputable def dX:Nat->l5
 |0=>⟨fun _ _ _=>none,fun _ _ _ _=>none⟩
 |n+1=>⟨fB E (dX n),Al E (dX n)⟩
end
end aY
end
section
namespace aY
open Go Go.RowKit
inductive yX where
 |obj (loc:Loc)
 |own (s:Nat)
 |loop (l:Nat)
structure aV where
 A:Nat->Prop
 blk:Nat->Nat
 sz:Nat->Nat
 ob:Nat->Nat
 lo:Nat->Nat
 hi:Nat->Nat
 lp:Nat->Nat
 I:Nat->Nat->Prop
 IM:Nat->Prop
 D:Nat->Prop
 ρ:Nat->Option yX
abbrev at_ (b o:Nat):Addr:=⟨b,o,none⟩
def Hl:Obj->Prop
 |.map _ _=>True|.mapIter _ _ _ _=>True|.stringIter _ _=>True|_=>False
def tX (w:World)(b:Nat):Prop:=∃o,w.heap[b]? =some o/\Hl o
def dH (es:Array MapEntry)(bR:Nat):Prop:=(∀y∈es.toList.map MapEntry.born,y<bR)/\(es.toList.map MapEntry.born).Nodup
theorem dH.empty:dH #[] 0:=⟨fun _ h=>bC,List.nodup_nil⟩
theorem dH.push {es:Array MapEntry}{bR:Nat}(h:dH es bR){e:MapEntry}(he:e.born=bR):dH (es.push e) (bR+1):=by
 have e1:(es.push e).toList.map MapEntry.born=es.toList.map MapEntry.born++[bR]:=by rw[Array.toList_push,oV,List.map_singleton,he]
 refine⟨fun y hy=>?_,?_⟩
 ·rw[e1] at hy
  rcases oW.1 hy with hy|hy
  ·exact Nat.lt_succ_of_lt (h.1 y hy)
  ·rw[iX.1 hy];exact CO _
 ·rw[e1]
  refine List.nodup_append.2 ⟨h.2,List.pairwise_singleton _ _,fun a ha b hb=>?_⟩;rw[iX.1 hb];exact jK (h.1 a ha)
theorem dH.modify {es:Array MapEntry}{bR:Nat}(h:dH es bR){j:Nat}{f:MapEntry->MapEntry}(hf:∀e,(f e).born=e.born):dH (es.modify j f) bR:=by
 have e1:(es.modify j f).toList.map MapEntry.born=es.toList.map MapEntry.born:=by
  apply List.ext_getElem?;intro i;rw[List.getElem?_map,List.getElem?_map,Array.getElem?_toList,Array.getElem?_toList,Array.getElem?_modify];by_cases hji:j=i
  ·rw[if_pos hji]
   cases es[i]? with
   |none=>rfl|some e=>exact congrArg some (hf e)
  ·rw[if_neg hji]
 unfold dH;rw[e1];exact h
def vZ (K:aV)(T:Nat->Nat)(c:Cap)(n b o len cap:Nat):Prop:=
 match c with
 |.sh=>True|.full=>cap=len|.nil=>False|.own n' s=>n'=n/\K.A s/\len<=T s/\(len=T s->K.ob s=b/\K.lo s=o+len*n/\K.hi s=o+cap*n)
def LG (K:aV)(T:Nat->Nat)(c:Cap):Prop:=
 match c with
 |.own _ s=>K.A s/\(T s=0->K.hi s=K.lo s)|_=>True
inductive Rel (K:aV)(T:Nat->Nat)(w:World):V->Value->Prop
 |int (k:IntKind) (n:Int):Rel K T w (.int k n) (.int k n)
 |bool (b:Bool):Rel K T w (.bool b) (.bool b)
 |str (s:List UInt8) (b:ByteArray) (h:b.data.toList=s):Rel K T w (.str s) (.string b)
 |cB:Rel K T w .cB (.pointer none)
 |dF:Rel K T w .dF .nilFunc
 |gL:Rel K T w .gL (.map none)
 |iD:Rel K T w .iD .nilIface
 |agg (cs:List V) (vs:Array Value) (hl:cs.length=vs.size) (h:∀i,i<cs.length->Rel K T w (cs.getD i aK) (vs.getD i undef)):Rel K T w (.agg cs) (.agg vs)
 |bq (cs:List V) (vs:Array Value) (hl:cs.length=vs.size) (h:∀i,i<cs.length->Rel K T w (cs.getD i aK) (vs.getD i undef)):Rel K T w (.bq cs) (.tuple vs)
 |fu (c:Cap) (a:Option Addr) (ha:c= .nil->a=none) (hc:LG K T c):Rel K T w (.ay c []) (.slice a 0 0)
 |ay (c:Cap) (l:List V) (b o n cap:Nat) (val:Nat->Nat->Value) (hle:l.length<=cap)
   (hn:∀i,i<l.length->(l.getD i aK).cells.length=n)
   (hcell:∀i j,i<l.length->j<n->w.cell? (at_ b (o+i*n+j))=some (val i j)/\K.I b (o+i*n+j))
   (hrel:∀i j,i<l.length->j<n->Rel K T w ((l.getD i aK).cells.getD j aK) (val i j))
   (hc:vZ K T c n b o l.length cap):Rel K T w (.ay c l) (.slice (some (at_ b o)) l.length cap)
 |aJ (loc:Loc) (s off len cap bS:Nat) (ag:Bool) (eH:Nat) (hA:K.A s) (hc:cap<=eH) (hle:len<=cap) (hsz:off+eH*bS<=K.sz s):
   Rel K T w (.aJ loc s off len cap bS ag) (.slice (some (at_ (K.blk s) off)) len eH)
 |l6 (loc:Loc) (s bS:Nat) (ag:Bool) (hA:K.A s):Rel K T w (.aJ loc s 0 0 0 bS ag) (.slice none 0 0)
 |aI (cs:List V) (off b o:Nat) (val:Nat->Value)
   (hcell:∀j,j<cs.length->w.cell? (at_ b (o+j))=some (val j)/\K.I b (o+j))
   (hrel:∀j,j<cs.length->Rel K T w (cs.getD j aK) (val j)):Rel K T w (.aI cs off) (.pointer (some (at_ b (o+off))))
 |ref (loc:Loc) (s off:Nat) (hA:K.A s):Rel K T w (.ref loc s off) (.pointer (some (at_ (K.blk s) off)))
 |fn (f:FuncId) (a b:List V) (kE bv:Array Value) (ha:a.length=kE.size) (hb:b.length=bv.size)
   (ra:∀i,i<a.length->Rel K T w (a.getD i aK) (kE.getD i undef)) (rb:∀i,i<b.length->Rel K T w (b.getD i aK) (bv.getD i undef)):
   Rel K T w (.fn (.func f) a b) (.func (.func f) kE bv)
 |yield (l:Nat) (hA:K.A l):Rel K T w (.fn (.yield l) [] []) (.func (.yield (K.lp l)) #[] #[])
 |dJ (loc:Loc) (s:Nat) (hA:K.A s):Rel K T w (.dJ loc s) (.map (some (K.blk s)))
 |eU (ks vs:List V) (b:Nat) (es:Array MapEntry) (bR:Nat) (hM:K.IM b) (hb:w.heap[b]? =some (.map es bR))
   (hk:ks.length=es.size) (hv:vs.length=es.size)
   (rk:∀i,i<es.size->Rel K T w (ks.getD i aK) (es.getD i default).key) (rv:∀i,i<es.size->Rel K T w (vs.getD i aK) (es.getD i default).val):
   Rel K T w (.eU ks vs) (.map (some b))
 |iface (t:TypeId) (v:V) (c:Value) (h:Rel K T w v c):Rel K T w (.iface t v) (.iface t c)
 |raw (v:Value):Rel K T w (.raw v) v
structure Ext (K:aV)(T:Nat->Nat)(w:World)(K':aV)(T':Nat->Nat)(w':World):Prop where
 A:∀s,K.A s->K'.A s/\K'.blk s=K.blk s/\K'.lp s=K.lp s/\K'.sz s=K.sz s
 own:∀s,K.A s->(T' s=T s/\K'.ob s=K.ob s/\K'.lo s=K.lo s/\K'.hi s=K.hi s)\/T s<T' s
 I:∀b o,K.I b o->K'.I b o/\w'.cell? (at_ b o)=w.cell? (at_ b o)
 IM:∀b,K.IM b->K'.IM b/\w'.heap[b]? =w.heap[b]?
theorem Ext.refl (K:aV)(T:Nat->Nat)(w:World):Ext K T w K T w:=
 ⟨fun _ h=>⟨h,rfl,rfl,rfl⟩,fun _ _=>.inl ⟨rfl,rfl,rfl,rfl⟩,fun _ _ h=>⟨h,rfl⟩,fun _ h=>⟨h,rfl⟩⟩
theorem Ext.trans {K T w K1 T1 w1 K2 T2 w2}(h:Ext K T w K1 T1 w1)(g:Ext K1 T1 w1 K2 T2 w2):Ext K T w K2 T2 w2 where
 A s hs:=by obtain⟨a,b,c,d⟩:=h.A s hs;obtain⟨a',b',c',d'⟩:=g.A s a;exact⟨a',b'.trans b,c'.trans c,d'.trans d⟩
 own s hs:=by
  obtain⟨a,_,_,_⟩:=h.A s hs;rcases h.own s hs with ⟨h1,h2,h3,h4⟩|h1
  ·rcases g.own s a with ⟨g1,g2,g3,g4⟩|g1
   ·exact .inl ⟨g1.trans h1,g2.trans h2,g3.trans h3,g4.trans h4⟩
   ·exact .inr ah
  ·rcases g.own s a with ⟨g1,_⟩|g1
   ·exact .inr ah
   ·exact .inr ah
 I b o hb:=by obtain⟨a,e⟩:=h.I b o hb;obtain⟨a',e'⟩:=g.I b o a;exact⟨a',e'.trans e⟩
 IM b hb:=by obtain⟨a,e⟩:=h.IM b hb;obtain⟨a',e'⟩:=g.IM b a;exact⟨a',e'.trans e⟩
theorem vZ.ext {K T w K' T' w'}(e:Ext K T w K' T' w'){c:Cap}{n b o len cap:Nat}(h:vZ K T c n b o len cap):vZ K' T' c n b o len cap:=by
 cases c with
 |sh=>trivial|full=>exact h|nil=>exact h|own n' s=>
  obtain⟨h1,h2,h3,h4⟩:=h;refine⟨h1,(e.A s h2).1,?_,?_⟩
  ·rcases e.own s h2 with ⟨e1,_⟩|e1<;>omega
  ·intro hl
   rcases e.own s h2 with ⟨e1,e2,e3,e4⟩|e1
   ·rw[e2,e3,e4];exact h4 ah
   ·omega
theorem LG.ext {K T w K' T' w'}(e:Ext K T w K' T' w'){c:Cap}(h:LG K T c):LG K' T' c:=by
 cases c with
 |own n' s=>
  refine⟨(e.A s h.1).1,fun h0=>?_⟩;rcases e.own s h.1 with ⟨e1,_,e3,e4⟩|e1
  ·rw[e3,e4];exact h.2 ah
  ·omega
 |_=>trivial
theorem Rel.ext {K T w K' T' w'}(e:Ext K T w K' T' w'){v:V}{c:Value}(h:Rel K T w v c):Rel K' T' w' v c:=by
 induction h with
 |int k n=>exact .int k n|bool b=>exact .bool b|str s b h=>exact .str s b h|cB=>exact .cB|dF=>exact .dF|gL=>exact .gL|iD=>exact .iD|agg cs vs hl _ ih=>exact .agg cs vs hl ih|bq cs vs hl _ ih=>exact .bq cs vs hl ih|fu c a ha hc=>exact .fu c a ha (hc.ext e)|ay c l b o n cap val hle hn hcell _ hc ih=>refine .ay c l b o n cap val hle hn (fun i j hi hj=>?_) ih (hc.ext e);obtain⟨h1,h2⟩:=hcell i j hi hj;obtain⟨g1,g2⟩:=e.I _ _ h2;exact⟨g2.trans h1,g1⟩
 |aJ loc s off len cap bS ag eH hA hc hle hsz=>have:=(e.A s hA);rw[<-this.2.1];exact .aJ loc s off len cap bS ag eH this.1 hc hle (by rw[this.2.2.2];exact hsz)|l6 loc s bS ag hA=>exact .l6 loc s bS ag (e.A s hA).1|aI cs off b o val hcell _ ih=>refine .aI cs off b o val (fun j hj=>?_) ih;obtain⟨h1,h2⟩:=hcell j hj;obtain⟨g1,g2⟩:=e.I _ _ h2;exact⟨g2.trans h1,g1⟩
 |ref loc s off hA=>have:=(e.A s hA);rw[<-this.2.1];exact .ref loc s off this.1|fn f a b kE bv ha hb _ _ iha ihb=>exact .fn f a b kE bv ha hb iha ihb|yield l hA=>have:=(e.A l hA);rw[<-this.2.2.1];exact .yield l this.1|dJ loc s hA=>have:=(e.A s hA);rw[<-this.2.1];exact .dJ loc s this.1|eU ks vs b es bR hM hb hk hv _ _ ihk EM=>obtain⟨g1,g2⟩:=e.IM b hM;exact .eU ks vs b es bR g1 (g2.trans hb) hk hv ihk EM
 |iface t v c _ ih=>exact .iface t v c ih|raw v=>exact .raw v
theorem Rel.undef (K T w):Rel K T w aK undef:=.bq [] #[] rfl (fun i hi=>absurd hi (gK i))
def jo.real:jo->Prop
 |.cells []=>False|_=>True
def EN (K:aV)(T:Nat->Nat)(w:World)(B0 s:Nat):jo->Prop
 |.cells cs=>(cs=[]->K.sz s=0)/\(cs≠[]->B0<=K.blk s/\∃vals t,w.heap[K.blk s]? =some (.cells vals t (0,0))/\vals.size=K.sz s/\cs.length<=vals.size/\
    ∀i,i<cs.length->Rel K T w (cs.getD i aK) (vals.getD i undef))
 |.map ks vs=>B0<=K.blk s/\∃es bR,w.heap[K.blk s]? =some (.map es bR)/\dH es bR/\ks.length=es.size/\vs.length=es.size/\
    (∀i,i<es.size->Rel K T w (ks.getD i aK) (es.getD i default).key)/\(∀i,i<es.size->Rel K T w (vs.getD i aK) (es.getD i default).val)
def kF (K:aV)(T:Nat->Nat)(w:World)(fr:Fr)(tmps:Array Value):Prop:=∀t,Rel K T w (fr.tm t) (tmps.getD t undef)
def wh:Ex->Option Code
 |.normal=>none|.exit i=>some (.exit i)|.ret=>some .ret
def uV (n:Nat):LoopState:=if n=0 then .ready else if n=1 then .busy else .done
def LH (K:aV)(T:Nat->Nat)(w:World)(B0 l:Nat)(r:rV):Prop:=
 B0<=K.lp l/\K.ρ (K.lp l)=some (.loop l)/\∃(fn:FuncId) (tmps:Array Value) (D:Nat),
  w.heap[K.lp l]? =some (.loop {state:=uV r.st,pending:=r.pend.bind wh,fn:=fn,tmps:=tmps,params:=r.ps.toArray,assign:=r.fQ,body:=r.body,defers:=D})/\
  kF K T w r.fr tmps/\jg tmps.size r.fQ=true/\jg tmps.size r.body=true/\(∀p∈r.ps,p<tmps.size)/\lG r.fQ=true/\lG r.body=true
def XI (K:aV)(w:World)(B0 s:Nat):Prop:=
 B0<=K.ob s/\K.ρ (K.ob s)=some (.own s)/\∀o,K.lo s<=o->o<K.hi s->¬K.I (K.ob s) o/\(∃v,w.cell? (at_ (K.ob s) o)=some v)/\w.frozen? (at_ (K.ob s) o)=false
structure bA (E:Env)(B0:Nat)(σ:au)(K:aV)(w:World):Prop where
 obj:∀loc s ob,σ.obj loc=some (s,ob)->K.A s/\EN K σ.top w B0 s ob/\(ob.real->K.ρ (K.blk s)=some (.obj loc))
 own:∀s,K.A s->K.lo s<K.hi s->XI K w B0 s
 I:∀b o,K.I b o->(∃v,w.cell? (at_ b o)=some v)/\∀loc,K.ρ b≠some (.obj loc)
 IM:∀b,K.IM b->tX w b/\∀loc,K.ρ b≠some (.obj loc)
 loop:∀l r,σ.loops l=some r->K.A l/\LH K σ.top w B0 l r
 glob:∀g cs,E.glob g=some cs->Rel K σ.top w (.aI cs 0) (.pointer (some (at_ g 0)))
 rb:∀b r,K.ρ b=some r->b<w.heap.size/\B0<=b
 D:∀b,K.D b->w.heap[b]? =some (.deferred (some []))
structure Only (b:Nat)(w w':World):Prop where
 os:w'.os=w.os
 tape:w'.tape=w.tape
 output:w'.output=w.output
 size:w.heap.size<=w'.heap.size
 block:∀k,k≠b->k<w.heap.size->w'.heap[k]? =w.heap[k]?
 dr:w.drawn<=w'.drawn
structure Below (B:Nat)(w w':World):Prop where
 kit:Go.RowKit.Below B w w'
 dr:w.drawn<=w'.drawn
theorem Below.refl (B:Nat)(w:World):Below B w w:=⟨.refl _ _,RS _⟩
theorem Below.trans {B:Nat}{a b c:World}(h:Below B a b)(k:Below B b c):Below B a c:=⟨h.kit.trans k.kit,bZ h.dr k.dr⟩
theorem Below.size {B:Nat}{w w':World}(h:Below B w w'):w.heap.size<=w'.heap.size:=h.kit.size
theorem Below.block {B:Nat}{w w':World}(h:Below B w w'):∀k,k<B->w'.heap[k]? =w.heap[k]? :=h.kit.block
theorem Only.below {b B0:Nat}{w w':World}(h:Only b w w')(hb:B0<=b)(hB:B0<=w.heap.size):Below B0 w w':=
 ⟨⟨h.os,h.tape,h.output,h.size,fun k hk=>h.block k ah ah⟩,h.dr⟩
theorem cell_of_heap {w w':World}{b o:Nat}(h:w'.heap[b]? =w.heap[b]?):w'.cell? (at_ b o)=w.cell? (at_ b o):=by simp[World.cell?,h]
theorem frozen_of_heap {w w':World}{b o:Nat}(h:w'.heap[b]? =w.heap[b]?):w'.frozen? (at_ b o)=w.frozen? (at_ b o):=by simp[World.frozen?,h]
theorem lt_of_cell {w:World}{b o:Nat}{v:Value}(h:w.cell? (at_ b o)=some v):b<w.heap.size:=World.block_lt_of_cell? w (at_ b o) h
theorem lt_of_heap {w:World}{b:Nat}{o:Obj}(h:w.heap[b]? =some o):b<w.heap.size:=(Array.getElem?_eq_some_iff.1 h).1
theorem XJ {w:World}{b i:Nat}{o:Obj}{v:Value}(h:w.heap[b]? =some o)(hm:Hl o)(hc:w.cell? (at_ b i)=some v):False:=by
 cases o<;>first|exact hm| (simp[World.cell?,h] at hc)
theorem RL {w:World}{b c:Nat}{o o':Obj}(h:w.heap[b]? =some o)(hm:Hl o)(h':w.heap[c]? =some o')(hn:¬Hl o'):b≠c:=by rintro rfl;rw[h] at h';cases h';exact hn hm
theorem kF.ext {K T w K' T' w'}(e:Ext K T w K' T' w'){fr:Fr}{tmps:Array Value}(h:kF K T w fr tmps):kF K' T' w' fr tmps:=fun t=>(h t).ext e
theorem EN.ext {K T w K' T' w'}(e:Ext K T w K' T' w'){B0 s:Nat}(hA:K.A s){ob:jo}(h:EN K T w B0 s ob)(hb:ob.real->w'.heap[K.blk s]? =w.heap[K.blk s]?):
 EN K' T' w' B0 s ob:=by
 obtain⟨_,e2,_,e4⟩:=e.A s hA;cases ob with
 |cells cs=>refine⟨fun h0=>by rw[e4];exact h.1 h0,fun hne=>?_⟩;obtain⟨h1,vals,t,h2,h3,h4,h5⟩:=h.2 hne;have hb':=hb (by cases cs with|nil=>exact absurd rfl hne|cons _ _=>trivial);refine⟨by rw[e2];exact h1,vals,t,by rw[e2,hb',h2],by rw[e4];exact h3,h4,fun i hi=>(h5 i hi).ext e⟩
 |map ks vs=>obtain⟨h1,es,bR,h2,hbn,h3,h4,h5,h6⟩:=h;exact⟨by rw[e2];exact h1,es,bR,by rw[e2,hb trivial,h2],hbn,h3,h4,fun i hi=>(h5 i hi).ext e,fun i hi=>(h6 i hi).ext e⟩
theorem LH.ext {K T w K' T' w'}(e:Ext K T w K' T' w'){B0 l:Nat}(hA:K.A l){r:rV}(h:LH K T w B0 l r)(hb:w'.heap[K.lp l]? =w.heap[K.lp l]?)(hρ:K'.ρ (K.lp l)=K.ρ (K.lp l)):
 LH K' T' w' B0 l r:=by
 obtain⟨_,_,e3,_⟩:=e.A l hA;obtain⟨h1,hr,fn,tmps,D,h2,h3,h4⟩:=h;exact⟨by rw[e3];exact h1,by rw[e3,hρ];exact hr,fn,tmps,D,by rw[e3,hb,h2],h3.ext e,h4⟩
theorem bA.upd {E:Env}{B0 b:Nat}{σ σ':au}{K K':aV}{w w':World}(h:bA E B0 σ K w)(ho:Only b w w')(e:Ext K σ.top w K' σ'.top w')(hρ:∀k,k≠b->K'.ρ k=K.ρ k)(alU:∀r,K'.ρ b=some r->b<w'.heap.size/\B0<=b)(RN:∀loc s ob,σ'.obj loc=some (s,ob)->(σ.obj loc=some (s,ob)/\(ob.real->K.blk s≠b))\/ (K'.A s/\EN K' σ'.top w' B0 s ob/\(ob.real->K'.ρ (K'.blk s)=some (.obj loc))))(hown:∀s,K'.A s->K'.lo s<K'.hi s->(K.A s/\K'.lo s=K.lo s/\K'.hi s=K.hi s/\K'.ob s=K.ob s/\K.ob s≠b)\/XI K' w' B0 s)(hI:∀b' o,K'.I b' o->(K.I b' o/\b'≠b)\/(b'=b/\(∃v,w'.cell? (at_ b o)=some v)/\∀loc,K'.ρ b≠some (.obj loc)))(LJ:∀b',K'.IM b'->(K.IM b'/\b'≠b)\/(b'=b/\tX w' b/\∀loc,K'.ρ b≠some (.obj loc)))(hloop:∀l r,σ'.loops l=some r->(σ.loops l=some r/\K.lp l≠b)\/(K'.A l/\LH K' σ'.top w' B0 l r))(hD:∀b',K'.D b'->(K.D b'/\b'≠b)\/(b'=b/\w'.heap[b]? =some (.deferred (some [])))):bA E B0 σ' K' w' where
 obj loc s ob hs:=by
  rcases RN loc s ob hs with ⟨h1,h2⟩|h1
  ·obtain⟨a1,a2,a3⟩:=h.obj loc s ob h1
   obtain⟨e1,e2,_,_⟩:=e.A s a1;refine⟨e1,a2.ext e a1 (fun hr=>ho.block _ (h2 hr) (h.rb _ _ (a3 hr)).1),fun hr=>?_⟩;rw[e2,hρ _ (h2 hr)];exact a3 hr
  ·exact h1
 own s hs hlt:=by
  rcases hown s hs hlt with ⟨h1,h2,h3,h4,h5⟩|h1
  ·obtain⟨a1,a2,a3⟩:=h.own s h1 ah
   refine⟨by rw[h4];exact a1,by rw[h4,hρ _ h5];exact a2,fun o hl hh=>?_⟩;obtain⟨c1,⟨v,c2⟩,c3⟩:=a3 o ah ah;have hb:=ho.block _ h5 (lt_of_cell c2);rw[h4];refine⟨fun hi=>?_,⟨v,by rw[cell_of_heap hb];exact c2⟩,by rw[frozen_of_heap hb];exact c3⟩;rcases hI _ _ hi with ⟨g,_⟩| ⟨g,_⟩
   ·exact c1 g
   ·exact h5 g
  ·exact h1
 I b' o hi:=by
   rcases hI b' o hi with ⟨h1,h2⟩| ⟨h1,h2,h3⟩
   ·obtain⟨⟨v,c⟩,r⟩:=h.I b' o h1
    exact⟨⟨v,by rw[cell_of_heap (ho.block _ h2 (lt_of_cell c))];exact c⟩,by rw[hρ _ h2];exact r⟩
   ·subst h1;exact⟨h2,h3⟩
 IM b' hi:=by
  rcases LJ b' hi with ⟨h1,h2⟩| ⟨h1,h2,h3⟩
  ·obtain⟨⟨o,c,c'⟩,r⟩:=h.IM b' h1
   exact⟨⟨o,by rw[ho.block _ h2 (lt_of_heap c)];exact c,c'⟩,by rw[hρ _ h2];exact r⟩
  ·subst h1;exact⟨h2,h3⟩
 loop l r hl:=by
  rcases hloop l r hl with ⟨h1,h2⟩|h1
  ·obtain⟨a1,a2⟩:=h.loop l r h1
   refine⟨(e.A l a1).1,a2.ext e a1 (ho.block _ h2 (h.rb _ _ a2.2.1).1) (hρ _ h2)⟩
  ·exact h1
 glob g cs hg:=(h.glob g cs hg).ext e
 rb b' r hr:=by
  by_cases hb:b'=b
  ·subst hb;exact alU r hr
  ·rw[hρ _ hb] at hr
   have:=h.rb b' r hr;exact⟨iq this.1 ho.size,this.2⟩
 D b' hd:=by
   rcases hD b' hd with ⟨h1,h2⟩| ⟨h1,h2⟩
   ·have:=h.D b' h1
    rw[ho.block _ h2 (lt_of_heap this)];exact this
   ·rw[h1];exact h2
theorem bA.same {E:Env}{B0:Nat}{σ:au}{K:aV}{w w':World}(h:bA E B0 σ K w)(hh:w'.heap=w.heap):bA E B0 σ K w':=by
 have e:Ext K σ.top w K σ.top w':=⟨fun _ h=>⟨h,rfl,rfl,rfl⟩,fun _ _=>.inl ⟨rfl,rfl,rfl,rfl⟩,fun b o h=>⟨h,cell_of_heap Aa⟩,fun b h=>⟨h,Aa⟩⟩;refine⟨fun loc s ob hs=>?_,fun s hs hl=>?_,fun b o hi=>?_,fun b hi=>?_,fun l r hl=>?_,fun g cs hg=>(h.glob g cs hg).ext e,fun b r hr=>by rw[hh];exact h.rb b r hr,fun b hb=>by rw[hh];exact h.D b hb⟩
 ·obtain⟨a1,a2,a3⟩:=h.obj loc s ob hs
  exact⟨a1,a2.ext e a1 (fun _=>Aa),a3⟩
 ·obtain⟨a1,a2,a3⟩:=h.own s hs hl
  exact⟨a1,a2,fun o p q=>⟨(a3 o p q).1,by rw[cell_of_heap (w:=w) Aa];exact(a3 o p q).2.1,by rw[frozen_of_heap (w:=w) Aa];exact(a3 o p q).2.2⟩⟩
 ·obtain⟨a1,a2⟩:=h.I b o hi
  exact⟨by rw[cell_of_heap (w:=w) Aa];exact a1,a2⟩
 ·obtain⟨a1,a2⟩:=h.IM b hi
  exact⟨by unfold tX;rw[hh];exact a1,a2⟩
 ·obtain⟨a1,a2⟩:=h.loop l r hl
  exact⟨a1,a2.ext e a1 Aa rfl⟩
structure Step (E:Env)(B0:Nat)(new:Nat->Prop)(σ:au)(K:aV)(w:World)(σ':au)(K':aV)(w':World):Prop where
 ok:bA E B0 σ' K' w'
 ext:Ext K σ.top w K' σ'.top w'
 below:Below B0 w w'
 D:∀b,K.D b->K'.D b
 A:∀s,K'.A s->K.A s\/new s
 qh:∀b o,K'.I b o->K.I b o\/B0<=b
 qj:∀b,K'.IM b->K.IM b\/B0<=b
theorem Step.refl {E B0 new σ K w}(h:bA E B0 σ K w):Step E B0 new σ K w σ K w:=
 ⟨h,.refl _ _ _,.refl _ _,fun _ h=>h,fun _ h=>.inl h,fun _ _ h=>.inl h,fun _ h=>.inl h⟩
theorem Step.trans {E B0 new σ K w σ1 K1 w1 σ2 K2 w2}(h:Step E B0 new σ K w σ1 K1 w1)(g:Step E B0 new σ1 K1 w1 σ2 K2 w2):Step E B0 new σ K w σ2 K2 w2:=
 ⟨g.ok,h.ext.trans g.ext,h.below.trans g.below,fun b hb=>g.D b (h.D b hb),
   fun s hs=>(g.A s hs).elim (h.A s) .inr,fun b o hi=>(g.qh b o hi).elim (h.qh b o) .inr,fun b hi=>(g.qj b hi).elim (h.qj b) .inr⟩
theorem Step.mono {E B0 new new' σ K w σ1 K1 w1}(h:Step E B0 new σ K w σ1 K1 w1)(hn:∀s,new s->new' s):Step E B0 new' σ K w σ1 K1 w1:=
 ⟨h.ok,h.ext,h.below,h.D,fun s hs=>(h.A s hs).imp id (hn s),h.qh,h.qj⟩
theorem Step.same {E B0 new σ K w w'}(h:bA E B0 σ K w)(hh:w'.heap=w.heap)(h1:w'.os=w.os)(h2:w'.tape=w.tape)(h3:w'.output=w.output)(h4:w.drawn<=w'.drawn:=by first|exact RS _|exact kD _):Step E B0 new σ K w σ K w':=
 ⟨h.same hh,⟨fun _ h=>⟨h,rfl,rfl,rfl⟩,fun _ _=>.inl ⟨rfl,rfl,rfl,rfl⟩,fun b o h=>⟨h,cell_of_heap Aa⟩,fun b h=>⟨h,Aa⟩⟩,
   ⟨⟨h1,h2,h3,by rw[hh];exact RS _,fun k _=>Aa⟩,h4⟩,fun b h=>h,fun _ h=>.inl h,fun _ _ h=>.inl h,fun _ h=>.inl h⟩
theorem BD (w:World)(o:Obj):Only w.heap.size w (w.alloc o):=
 ⟨rfl,rfl,rfl,aC,fun k hk hl=>by show (w.heap.push o)[k]? =_;rw[Array.getElem?_push,if_neg hk],RS _⟩
theorem heap_alloc_new (w:World)(o:Obj):(w.alloc o).heap[w.heap.size]? =some o:=by show (w.heap.push o)[w.heap.size]? =_;simp
theorem heap_alloc_old {w:World}{o:Obj}{k:Nat}(h:k<w.heap.size):(w.alloc o).heap[k]? =w.heap[k]? :=by show (w.heap.push o)[k]? =_;rw[Array.getElem?_push,if_neg ah]
theorem Ho {w:World}{o:Obj}{b i:Nat}{v:Value}(h:w.cell? (at_ b i)=some v):(w.alloc o).cell? (at_ b i)=some v:=by rw[cell_of_heap (heap_alloc_old (lt_of_cell h))];exact h
def aV.lK (K:aV)(st b n:Nat)(loc:Loc):aV:=
 {K with A:=fun s=>K.A s\/s=st,blk:=upd K.blk st b,sz:=upd K.sz st n,lo:=upd K.lo st 0,hi:=upd K.hi st 0,ρ:=upd K.ρ b (some (.obj loc))}
theorem upd_same {κ α:Type}[DecidableEq κ](f:κ->α)(k:κ)(v:α):upd f k v k=v:=by simp[upd]
theorem upd_ne {κ α:Type}[DecidableEq κ](f:κ->α){k j:κ}(v:α)(h:j≠k):upd f k v j=f j:=by simp[upd,h]
theorem Step.LK {E B0 σ K w}(h:bA E B0 σ K w)(hB:B0<=w.heap.size){st:Nat}(hst:¬K.A st)(loc:Loc)(ob:jo)(o:Obj)(n:Nat)(gX:∀K',Ext K σ.top w K' σ.top (w.alloc o)->K'.A st->K'.blk st=w.heap.size->K'.sz st=n->EN K' σ.top (w.alloc o) B0 st ob):
 Step E B0 (· =st) σ K w (σ.setObj loc st ob) (K.lK st w.heap.size n loc) (w.alloc o):=by
 have hne:∀s,K.A s->s≠st:=fun s hs e=>hst (e▸hs);have e:Ext K σ.top w (K.lK st w.heap.size n loc) σ.top (w.alloc o):=by
  refine⟨fun s hs=>⟨.inl hs,upd_ne _ _ (hne s hs),rfl,upd_ne _ _ (hne s hs)⟩,fun s hs=>.inl ⟨rfl,rfl,upd_ne _ _ (hne s hs),upd_ne _ _ (hne s hs)⟩,fun b i hi=>⟨hi,?_⟩,fun b hb=>⟨hb,?_⟩⟩
  ·obtain⟨⟨v,hv⟩,_⟩:=h.I b i hi
   rw[hv];exact Ho hv
  ·obtain⟨⟨_,hv,_⟩,_⟩:=h.IM b hb
   exact heap_alloc_old (lt_of_heap hv)
 refine⟨?_,e,(BD w o).below hB hB,fun b hb=>hb,fun s hs=>hs,fun _ _ hi=>.inl hi,fun _ hi=>.inl hi⟩;refine h.upd (σ':=σ.setObj loc st ob) (BD w o) e (fun k hk=>upd_ne _ _ hk) (fun r _=>⟨aC,hB⟩) ?_ ?_ ?_ ?_ ?_ ?_
 ·intro loc' s' Hq hs
  by_cases hl:loc'=loc
  ·subst hl
   right;simp only[au.setObj,upd_same,iE,aP] at hs;obtain⟨rfl,rfl⟩:=hs;exact⟨.inr rfl,gX _ e (.inr rfl) (upd_same _ _ _) (upd_same _ _ _),fun _=>by show upd K.ρ w.heap.size _ (upd K.blk st w.heap.size st)=_;rw[upd_same,upd_same]⟩
  ·left
   simp only[au.setObj,upd_ne _ _ hl] at hs;refine⟨hs,fun hr=>?_⟩;have:=(h.rb _ _ ((h.obj _ _ _ hs).2.2 hr)).1;omega
 ·intro s hs hlt
  left;have hs':s≠st:=by rintro rfl;simp only[aV.lK,upd_same] at hlt;omega
  have hA:K.A s:=hs.resolve_right hs';simp only[aV.lK,upd_ne _ _ hs'] at hlt;refine⟨hA,upd_ne _ _ hs',upd_ne _ _ hs',rfl,?_⟩;have:=(h.rb _ _ (h.own s hA hlt).2.1).1;omega
 ·intro b' i hi
  obtain⟨⟨v,hv⟩,_⟩:=h.I b' i hi;exact .inl ⟨hi,jK (lt_of_cell hv)⟩
 ·intro b' hi
  obtain⟨⟨_,hv,_⟩,_⟩:=h.IM b' hi;exact .inl ⟨hi,jK (lt_of_heap hv)⟩
 ·intro l r hl
  refine .inl ⟨hl,?_⟩;have:=(h.rb _ _ (h.loop l r hl).2.2.1).1;omega
 ·intro b' hd
  exact .inl ⟨hd,jK (lt_of_heap (h.D b' hd))⟩
theorem xQ {w:World}{a b:Nat}{x y:Obj}(h:w.heap[a]? =some x)(g:w.heap[b]? =some y)(hxy:x≠y):a≠b:=by rintro rfl;exact hxy (lX (h.symm.trans g))
theorem bA.dB {E B0 σ K w}(h:bA E B0 σ K w){loc s cs}(hc:σ.dB loc s=some cs):σ.obj loc=some (s,.cells cs)/\K.A s/\cs.length<=K.sz s\/cs=[]/\σ.obj loc=some (s,.cells cs)/\K.A s:=by
 unfold au.dB at hc;split at hc
 ·rename_i s' cs' ho
  split at hc
  ·rename_i hs
   subst hs;simp only[iE] at hc;subst hc;obtain⟨a1,a2,a3⟩:=h.obj _ _ _ ho;by_cases hne:cs'=[]
   ·exact .inr ⟨hne,ho,a1⟩
   ·obtain⟨_,vals,t,g1,g2,g3,g4⟩:=a2.2 hne
    exact .inl ⟨ho,a1,ah⟩
  ·simp at hc
 ·simp at hc
theorem bA.yY {E B0 σ K w}(h:bA E B0 σ K w){loc s cs}(hc:σ.dB loc s=some cs):σ.obj loc=some (s,.cells cs)/\K.A s/\cs.length<=K.sz s:=by
 rcases h.dB hc with h| ⟨rfl,h1,h2⟩
 ·exact h
 ·exact⟨h1,h2,aC⟩
theorem bA.adI {E B0 σ K w}(h:bA E B0 σ K w){l r}(hl:σ.loops l=some r){b:Nat}{vals t f}(hb:w.heap[b]? =some (.cells vals t f)):K.lp l≠b:=by obtain⟨_,_,_,fn,tmps,D,hh,_⟩:=h.loop l r hl;exact xQ hh hb aC
theorem bA.LM {E B0 σ K w}(h:bA E B0 σ K w){loc s ob loc' s' Hq}(h1:σ.obj loc=some (s,ob))(h2:σ.obj loc'=some (s',Hq))(hne:loc≠loc')(hr:ob.real)(hr':Hq.real):
 K.blk s≠K.blk s':=by
 intro e;have a:=(h.obj _ _ _ h1).2.2 hr;have b:=(h.obj _ _ _ h2).2.2 hr';rw[e,b] at a;exact hne (by injection a with a;injection a with a;exact a.symm)
theorem bA.XK {E B0 σ K w w'}(h:bA E B0 σ K w){loc s ob}(hs:σ.obj loc=some (s,ob))(hr:ob.real)(ho:Only (K.blk s) w w')(T':Nat->Nat)(hT:T'=σ.top):Ext K σ.top w K T' w':=by
 subst hT;have hρ:=(h.obj _ _ _ hs).2.2 hr;refine⟨fun _ h=>⟨h,rfl,rfl,rfl⟩,fun _ _=>.inl ⟨rfl,rfl,rfl,rfl⟩,fun b i hi=>⟨hi,?_⟩,fun b hb=>⟨hb,?_⟩⟩
 ·obtain⟨⟨v,hv⟩,hn⟩:=h.I b i hi
  exact cell_of_heap (ho.block b (fun e=>hn loc (e▸hρ)) (lt_of_cell hv))
 ·obtain⟨⟨_,hv,_⟩,hn⟩:=h.IM b hb
  exact ho.block b (fun e=>hn loc (e▸hρ)) (lt_of_heap hv)
theorem Step.setCells {E B0 new σ K w w'}(h:bA E B0 σ K w)(hB:B0<=w.heap.size){loc:Loc}{s:Nat}{cs cs':List V}{vals vals':Array Value}{t t':TypeId}(hs:σ.obj loc=some (s,.cells cs))(hne:cs≠[])(hv:w.heap[K.blk s]? =some (.cells vals t (0,0)))(ho:Only (K.blk s) w w')(hv':w'.heap[K.blk s]? =some (.cells vals' t' (0,0)))(hsz:vals'.size=vals.size)(hne':cs'≠[])(hl:cs'.length<=vals'.size)(hr:Ext K σ.top w K σ.top w'->∀i,i<cs'.length->Rel K σ.top w' (cs'.getD i aK) (vals'.getD i undef)):
 Step E B0 new σ K w (σ.setObj loc s (.cells cs')) K w':=by
 have l7:(jo.cells cs).real:=by cases cs with|nil=>exact absurd rfl hne|cons _ _=>trivial
 obtain⟨hA,gX,hρ⟩:=h.obj _ _ _ hs;obtain⟨hb0,adJ,t0,g1,g2,g3,g4⟩:=gX.2 hne;have hvv:vals=adJ:=by rw[hv] at g1;simpa using And.left (by simpa using g1)
 have e:=h.XK hs l7 ho σ.top rfl;refine⟨?_,e,ho.below hb0 hB,fun _ h=>h,fun _ h=>.inl h,fun _ _ h=>.inl h,fun _ h=>.inl h⟩;refine h.upd (σ':=σ.setObj loc s (.cells cs')) ho e (fun _ _=>rfl) (fun r hr'=>⟨iq (h.rb _ r hr').1 ho.size,hb0⟩) ?_ ?_ ?_ ?_ ?_ ?_
 ·intro loc' s' Hq hs'
  by_cases hl':loc'=loc
  ·subst hl'
   right;simp only[au.setObj,upd_same,iE,aP] at hs';obtain⟨rfl,rfl⟩:=hs';exact⟨hA,⟨fun h0=>absurd h0 hne',fun _=>⟨hb0,vals',t',hv',by rw[hsz,hvv,g2],hl,hr e⟩⟩,fun _=>hρ l7⟩
  ·left
   simp only[au.setObj,upd_ne _ _ hl'] at hs';exact⟨hs',fun hr'=>h.LM hs' hs hl' hr' l7⟩
 ·intro s' hs' hlt
  have ⟨a1,a2,a3⟩:=h.own s' hs' hlt;refine .inl ⟨hs',rfl,rfl,rfl,fun e'=>?_⟩;rw[e',hρ l7] at a2;cases a2
 ·intro b' i hi
  exact .inl ⟨hi,fun e'=>(h.I b' i hi).2 loc (e'▸hρ l7)⟩
 ·intro b' hi
  exact .inl ⟨hi,fun e'=>(h.IM b' hi).2 loc (e'▸hρ l7)⟩
 ·intro l r hl'
  exact .inl ⟨hl',h.adI hl' hv⟩
 ·intro b' hd
  exact .inl ⟨hd,xQ (h.D b' hd) hv aC⟩
def aV.Hr (K:aV)(b n:Nat):aV:={K with I:=fun b' o=>K.I b' o\/(b'=b/\o<n)}
theorem bA.adK {E B0 σ K w}(h:bA E B0 σ K w):K.ρ w.heap.size=none:=by
 cases hr:K.ρ w.heap.size with
 |none=>rfl|some r=>have:=(h.rb _ _ hr).1;omega
theorem LP {w:World}{vals:Array Value}{t:TypeId}{fz:Nat×Nat}{i:Nat}(hi:i<vals.size):(w.alloc (.cells vals t fz)).cell? (at_ w.heap.size i)=some (vals.getD i undef):=by
 have hh:(w.alloc (.cells vals t fz)).heap[w.heap.size]? =some (.cells vals t fz):=heap_alloc_new w _;unfold World.cell?;simp only[hh];simp[hi]
theorem Step.alV {E B0 new σ K w w'}(h:bA E B0 σ K w)(hB:B0<=w.heap.size)(ho:Only w.heap.size w w'){vals:Array Value}{t:TypeId}{fz:Nat×Nat}(hh:w'.heap[w.heap.size]? =some (.cells vals t fz)):Step E B0 new σ K w σ (K.Hr w.heap.size vals.size) w':=by
 have hcn:∀i,i<vals.size->w'.cell? (at_ w.heap.size i)=some (vals.getD i undef):=fun i hi=>by simp[World.cell?,hh,hi]
 have e:Ext K σ.top w (K.Hr w.heap.size vals.size) σ.top w':=by
  refine⟨fun _ h=>⟨h,rfl,rfl,rfl⟩,fun _ _=>.inl ⟨rfl,rfl,rfl,rfl⟩,fun b i hi=>⟨.inl hi,?_⟩,fun b hb=>⟨hb,?_⟩⟩
  ·obtain⟨⟨v,hv⟩,_⟩:=h.I b i hi
   exact cell_of_heap (ho.block b (jK (lt_of_cell hv)) (lt_of_cell hv))
  ·obtain⟨⟨_,hv,_⟩,_⟩:=h.IM b hb
   exact ho.block b (jK (lt_of_heap hv)) (lt_of_heap hv)
 refine⟨?_,e,ho.below hB hB,fun b hb=>hb,fun _ h=>.inl h,fun b o hi=>?_,fun _ h=>.inl h⟩
 ·refine h.upd ho e (fun _ _=>rfl) (fun r hr=>?_) ?_ ?_ ?_ ?_ ?_ ?_
  ·have:=h.adK
   exact absurd (hr.symm.trans this) aC
  ·intro loc s ob hs
   exact .inl ⟨hs,fun hr=>by have:=(h.rb _ _ ((h.obj _ _ _ hs).2.2 hr)).1;omega⟩
  ·intro s hs hlt
   exact .inl ⟨hs,rfl,rfl,rfl,by have:=(h.rb _ _ (h.own s hs hlt).2.1).1;omega⟩
  ·intro b' i hi
   rcases hi with hi| ⟨rfl,hi⟩
   ·obtain⟨⟨v,hv⟩,_⟩:=h.I b' i hi
    exact .inl ⟨hi,jK (lt_of_cell hv)⟩
   ·exact .inr ⟨rfl,⟨_,hcn _ hi⟩,fun loc hr=>absurd (hr.symm.trans h.adK) aC⟩
  ·intro b' hi
   obtain⟨⟨_,hv,_⟩,_⟩:=h.IM b' hi;exact .inl ⟨hi,jK (lt_of_heap hv)⟩
  ·intro l r hl
   exact .inl ⟨hl,by have:=(h.rb _ _ (h.loop l r hl).2.2.1).1;omega⟩
  ·intro b' hd
   exact .inl ⟨hd,jK (lt_of_heap (h.D b' hd))⟩
 ·rcases hi with hi| ⟨rfl,_⟩
  ·exact .inl hi
  ·exact .inr hB
theorem Step.adL {E B0 new σ K w}(h:bA E B0 σ K w)(hB:B0<=w.heap.size)(vals:Array Value)(t:TypeId)(fz:Nat×Nat):
 Step E B0 new σ K w σ (K.Hr w.heap.size vals.size) (w.alloc (.cells vals t fz)):=
 Step.alV h hB (BD w _) (heap_alloc_new w _)
def aV.CZ (K:aV)(s b lo hi:Nat):aV:=
 {K with A:=fun x=>K.A x\/x=s,ob:=upd K.ob s b,lo:=upd K.lo s lo,hi:=upd K.hi s hi,I:=fun b' o=>K.I b' o\/(b'=b/\o<lo),ρ:=upd K.ρ b (some (.own s))}
theorem Step.adM {E B0 σ K w}(h:bA E B0 σ K w)(hB:B0<=w.heap.size)(s T':Nat)(hs:¬K.A s\/σ.top s<T')(vals:Array Value)(t:TypeId)(lo:Nat)(hlo:lo<=vals.size):
 Step E B0 (· =s) σ K w (σ.dZ s T') (K.CZ s w.heap.size lo vals.size) (w.alloc (.cells vals t)):=by
 have e:Ext K σ.top w (K.CZ s w.heap.size lo vals.size) (σ.dZ s T').top (w.alloc (.cells vals t)):=by
  refine⟨fun _ h=>⟨.inl h,rfl,rfl,rfl⟩,fun x hx=>?_,fun b i hi=>⟨.inl hi,?_⟩,fun b hb=>⟨hb,?_⟩⟩
  ·by_cases hxs:x=s
   ·subst hxs
    right;show _<upd σ.top x T' x;rw[upd_same];exact hs.resolve_left (fun hn=>hn hx)
   ·exact .inl ⟨upd_ne _ _ hxs,upd_ne _ _ hxs,upd_ne _ _ hxs,upd_ne _ _ hxs⟩
  ·obtain⟨⟨v,hv⟩,_⟩:=h.I b i hi
   rw[hv];exact Ho hv
  ·obtain⟨⟨_,hv,_⟩,_⟩:=h.IM b hb
   exact heap_alloc_old (lt_of_heap hv)
 refine⟨?_,e,(BD w _).below hB hB,fun b hb=>hb,fun _ h=>h,fun b o hi=>?_,fun _ h=>.inl h⟩
 ·refine h.upd (σ':=σ.dZ s T') (BD w _) e (fun k hk=>upd_ne _ _ hk) (fun r _=>⟨aC,hB⟩) ?_ ?_ ?_ ?_ ?_ ?_
  ·intro loc s ob hs
   exact .inl ⟨hs,fun hr=>by have:=(h.rb _ _ ((h.obj _ _ _ hs).2.2 hr)).1;omega⟩
  ·intro x hx hlt
   by_cases hxs:x=s
   ·subst hxs
    right;have q1:(K.CZ x w.heap.size lo vals.size).ob x=w.heap.size:=upd_same _ _ _;have q2:(K.CZ x w.heap.size lo vals.size).lo x=lo:=upd_same _ _ _;have q3:(K.CZ x w.heap.size lo vals.size).hi x=vals.size:=upd_same _ _ _;refine⟨by rw[q1];exact hB,by rw[q1];exact upd_same _ _ _,fun o hl hh=>?_⟩;rw[q2] at hl;rw[q3] at hh;rw[q1];refine⟨?_,⟨_,LP hh⟩,?_⟩
    ·rintro (hi| ⟨_,hi⟩)
     ·obtain⟨⟨v,hv⟩,_⟩:=h.I _ o hi
      have:=lt_of_cell hv;omega
     ·omega
    ·have hh':(w.alloc (.cells vals t)).heap[w.heap.size]? =some (.cells vals t):=heap_alloc_new w _
     unfold World.frozen?;simp only[hh'];simp
   ·left
    have hA:K.A x:=hx.resolve_right hxs;simp only[aV.CZ,upd_ne _ _ hxs] at hlt;refine⟨hA,upd_ne _ _ hxs,upd_ne _ _ hxs,upd_ne _ _ hxs,?_⟩;have:=(h.rb _ _ (h.own x hA hlt).2.1).1;omega
  ·intro b' i hi
   rcases hi with hi| ⟨rfl,hi⟩
   ·obtain⟨⟨v,hv⟩,_⟩:=h.I b' i hi
    exact .inl ⟨hi,jK (lt_of_cell hv)⟩
   ·refine .inr ⟨rfl,⟨_,LP ah⟩,fun loc hr=>?_⟩
    simp only[aV.CZ,upd_same] at hr;cases hr
  ·intro b' hi
   obtain⟨⟨_,hv,_⟩,_⟩:=h.IM b' hi;exact .inl ⟨hi,jK (lt_of_heap hv)⟩
  ·intro l r hl
   exact .inl ⟨hl,by have:=(h.rb _ _ (h.loop l r hl).2.2.1).1;omega⟩
  ·intro b' hd
   exact .inl ⟨hd,jK (lt_of_heap (h.D b' hd))⟩
 ·rcases hi with hi| ⟨rfl,_⟩
  ·exact .inl hi
  ·exact .inr hB
def aV.EO (K:aV)(s n:Nat):aV:=
 {K with lo:=upd K.lo s (K.lo s+n),I:=fun b' o=>K.I b' o\/(b'=K.ob s/\K.lo s<=o/\o<K.lo s+n)}
theorem Step.EO {E B0 new σ K w w'}(h:bA E B0 σ K w)(hB:B0<=w.heap.size){s n T':Nat}(hs:K.A s)(hT:σ.top s<T')(hn:0<n)(hroom:K.lo s+n<=K.hi s)(ho:Only (K.ob s) w w')(hnew:∀o,K.lo s<=o->o<K.lo s+n->∃v,w'.cell? (at_ (K.ob s) o)=some v)(hold:∀o,o<K.lo s\/K.lo s+n<=o->w'.cell? (at_ (K.ob s) o)=w.cell? (at_ (K.ob s) o))(hfz:∀o,w'.frozen? (at_ (K.ob s) o)=w.frozen? (at_ (K.ob s) o)):
 Step E B0 new σ K w (σ.dZ s T') (K.EO s n) w':=by
 obtain⟨o1,o2,o3⟩:=h.own s hs ah;have XL:=(o3 (K.lo s) (RS _) ah).2.1;have RO:∀o,K.I (K.ob s) o->o<K.lo s\/K.lo s+n<=o:=fun o hi=>by
  rcases Nat.lt_or_ge o (K.lo s) with h1|h1
  ·exact .inl h1
  ·rcases Nat.lt_or_ge o (K.hi s) with h2|h2
   ·exact absurd hi (o3 o h1 h2).1
   ·exact .inr ah
 have e:Ext K σ.top w (K.EO s n) (σ.dZ s T').top w':=by
  refine⟨fun _ h=>⟨h,rfl,rfl,rfl⟩,fun x hx=>?_,fun b i hi=>⟨.inl hi,?_⟩,fun b hb=>⟨hb,?_⟩⟩
  ·by_cases hxs:x=s
   ·subst hxs
    right;show _<upd σ.top x T' x;rw[upd_same];exact hT
   ·exact .inl ⟨upd_ne _ _ hxs,rfl,upd_ne _ _ hxs,rfl⟩
  ·by_cases hb:b=K.ob s
   ·subst hb;exact hold i (RO i hi)
   ·obtain⟨⟨v,hv⟩,_⟩:=h.I b i hi
    exact cell_of_heap (ho.block b hb (lt_of_cell hv))
  ·obtain⟨⟨_,hv,hm⟩,_⟩:=h.IM b hb
   refine ho.block b ?_ (lt_of_heap hv);rintro rfl;obtain⟨v,hc⟩:=XL;exact XJ hv hm hc
 refine⟨?_,e,ho.below o1 hB,fun b hb=>hb,fun _ h=>.inl h,fun b o hi=>?_,fun _ h=>.inl h⟩
 ·refine h.upd (σ':=σ.dZ s T') ho e (fun k _=>rfl) (fun r hr=>⟨iq (h.rb _ r hr).1 ho.size,o1⟩) ?_ ?_ ?_ ?_ ?_ ?_
  ·intro loc x ob hx
   refine .inl ⟨hx,fun hr e'=>?_⟩;have a:=(h.obj _ _ _ hx).2.2 hr;rw[e',o2] at a;cases a
  ·intro x hx hlt
   by_cases hxs:x=s
   ·subst hxs
    right;simp only[XI,aV.EO,upd_same] at hlt⊢;refine⟨o1,o2,fun o hl hh=>⟨?_,?_,?_⟩⟩
    ·rintro (hi| ⟨_,_,hi⟩)
     ·exact(o3 o ah hh).1 hi
     ·omega
    ·rw[hold o (.inr hl)];exact(o3 o ah hh).2.1
    ·rw[hfz o];exact(o3 o ah hh).2.2
   ·left
    simp only[aV.EO,upd_ne _ _ hxs] at hlt;refine⟨hx,upd_ne _ _ hxs,rfl,rfl,fun e'=>?_⟩;have a:=(h.own x hx hlt).2.1;rw[e',o2] at a;injection a with a
    injection a with a
    exact hxs a.symm
  ·intro b' i hi
   rcases hi with hi| ⟨rfl,hi1,hi2⟩
   ·by_cases hb:b'=K.ob s
    ·subst hb
     obtain⟨⟨v,hv⟩,hr⟩:=h.I _ i hi;exact .inr ⟨rfl,⟨v,by rw[hold i (RO i hi)];exact hv⟩,hr⟩
    ·exact .inl ⟨hi,hb⟩
   ·exact .inr ⟨rfl,hnew i hi1 hi2,fun loc hr=>by have:K.ρ (K.ob s)=some (.obj loc):=hr;rw[o2] at this;cases this⟩
  ·intro b' hi
   obtain⟨⟨_,hv,hm⟩,_⟩:=h.IM b' hi;refine .inl ⟨hi,?_⟩;rintro rfl;obtain⟨v,hc⟩:=XL;exact XJ hv hm hc
  ·intro l r hl
   refine .inl ⟨hl,fun e'=>?_⟩;have a:=(h.loop l r hl).2.2.1;rw[e',o2] at a;cases a
  ·intro b' hd
   refine .inl ⟨hd,?_⟩;rintro rfl;obtain⟨v,hc⟩:=XL;simp[World.cell?,h.D _ hd] at hc
 ·rcases hi with hi| ⟨rfl,_⟩
  ·exact .inl hi
  ·exact .inr o1
theorem Step.alW {E B0 σ K w w'}(h:bA E B0 σ K w)(hB:B0<=w.heap.size){jO loc:Loc}{s0 st:Nat}{cs0 cs:List V}{vals vals':Array Value}{t:TypeId}(hst:¬K.A st)(hs:σ.obj jO=some (s0,.cells cs0))(hne:cs0≠[])(hv:w.heap[K.blk s0]? =some (.cells vals t (0,0)))(ho:Only (K.blk s0) w w')(hv':w'.heap[K.blk s0]? =some (.cells vals' t (0,0)))(hne':cs≠[])(hl:cs.length<=vals'.size)(hr:∀K',Ext K σ.top w K' σ.top w'->∀i,i<cs.length->Rel K' σ.top w' (cs.getD i aK) (vals'.getD i undef)):
 Step E B0 (· =st) σ K w ((σ.eG jO).setObj loc st (.cells cs)) (K.lK st (K.blk s0) vals'.size loc) w':=by
 have l7:(jo.cells cs0).real:=by cases cs0 with|nil=>exact absurd rfl hne|cons _ _=>trivial
 obtain⟨hA,gX,hρ⟩:=h.obj _ _ _ hs;obtain⟨hb0,adJ,t0,g1,g2,g3,g4⟩:=gX.2 hne;have RP:∀s,K.A s->s≠st:=fun s hs e=>hst (e▸hs);have e0:=h.XK hs l7 ho σ.top rfl;have e:Ext K σ.top w (K.lK st (K.blk s0) vals'.size loc) σ.top w':=
  ⟨fun s hs=>⟨.inl hs,upd_ne _ _ (RP s hs),rfl,upd_ne _ _ (RP s hs)⟩,fun s hs=>.inl ⟨rfl,rfl,upd_ne _ _ (RP s hs),upd_ne _ _ (RP s hs)⟩,e0.I,e0.IM⟩
 refine⟨?_,e,ho.below hb0 hB,fun _ h=>h,fun _ h=>h,fun _ _ h=>.inl h,fun _ h=>.inl h⟩;refine h.upd (σ':=(σ.eG jO).setObj loc st (.cells cs)) ho e (fun k hk=>upd_ne _ _ hk) (fun r _=>⟨iq (lt_of_heap hv) ho.size,hb0⟩) ?_ ?_ ?_ ?_ ?_ ?_
 ·intro loc' s' Hq hs'
  by_cases hl':loc'=loc
  ·subst hl'
   right;simp only[au.setObj,upd_same,iE,aP] at hs';obtain⟨rfl,rfl⟩:=hs';refine⟨.inr rfl,⟨fun h0=>absurd h0 hne',fun _=>⟨?_,vals',t,?_,?_,hl,hr _ e⟩⟩,fun _=>?_⟩
   ·show B0<=upd K.blk st (K.blk s0) st
    rw[upd_same];exact hb0
   ·show w'.heap[upd K.blk st (K.blk s0) st]? =_
    rw[upd_same];exact hv'
   ·show _=upd K.sz st _ st
    rw[upd_same]
   ·show upd K.ρ (K.blk s0) _ (upd K.blk st (K.blk s0) st)=_
    rw[upd_same,upd_same]
  ·left
   simp only[au.setObj,au.eG,upd_ne _ _ hl'] at hs';by_cases hl0:loc'=jO
   ·subst hl0;rw[upd_same] at hs';cases hs'
   ·rw[upd_ne _ _ hl0] at hs'
    exact⟨hs',fun hr'=>h.LM hs' hs hl0 hr' l7⟩
 ·intro s' hs' hlt
  have RQ:s'≠st:=by rintro rfl;simp only[aV.lK,upd_same] at hlt;omega
  have hA':K.A s':=hs'.resolve_right RQ;simp only[aV.lK,upd_ne _ _ RQ] at hlt;have ⟨a1,a2,a3⟩:=h.own s' hA' hlt;refine .inl ⟨hA',upd_ne _ _ RQ,upd_ne _ _ RQ,rfl,fun e'=>?_⟩;rw[e',hρ l7] at a2;cases a2
 ·intro b' i hi
  exact .inl ⟨hi,fun e'=>(h.I b' i hi).2 jO (e'▸hρ l7)⟩
 ·intro b' hi
  exact .inl ⟨hi,fun e'=>(h.IM b' hi).2 jO (e'▸hρ l7)⟩
 ·intro l r hl'
  exact .inl ⟨hl',h.adI hl' hv⟩
 ·intro b' hd
  exact .inl ⟨hd,xQ (h.D b' hd) hv aC⟩
theorem Step.adN {E B0 new σ K w w'}(h:bA E B0 σ K w)(hB:B0<=w.heap.size){loc:Loc}{s:Nat}{ks vs ks' vs':List V}{es es':Array MapEntry}{bR LQ:Nat}(hs:σ.obj loc=some (s,.map ks vs))(hv:w.heap[K.blk s]? =some (.map es bR))(ho:Only (K.blk s) w w')(hv':w'.heap[K.blk s]? =some (.map es' LQ))(hbn:dH es' LQ)(hk:ks'.length=es'.size)(hvl:vs'.length=es'.size)(hr:Ext K σ.top w K σ.top w'->(∀i,i<es'.size->Rel K σ.top w' (ks'.getD i aK) (es'.getD i default).key)/\(∀i,i<es'.size->Rel K σ.top w' (vs'.getD i aK) (es'.getD i default).val)):
 Step E B0 new σ K w (σ.setObj loc s (.map ks' vs')) K w':=by
 have l7:(jo.map ks vs).real:=trivial;obtain⟨hA,gX,hρ⟩:=h.obj _ _ _ hs;obtain⟨hb0,_⟩:=gX;have e:=h.XK hs l7 ho σ.top rfl;refine⟨?_,e,ho.below hb0 hB,fun _ h=>h,fun _ h=>.inl h,fun _ _ h=>.inl h,fun _ h=>.inl h⟩;refine h.upd (σ':=σ.setObj loc s (.map ks' vs')) ho e (fun _ _=>rfl) (fun r hr'=>⟨iq (h.rb _ r hr').1 ho.size,hb0⟩) ?_ ?_ ?_ ?_ ?_ ?_
 ·intro loc' s' Hq hs'
  by_cases hl':loc'=loc
  ·subst hl'
   right;simp only[au.setObj,upd_same,iE,aP] at hs';obtain⟨rfl,rfl⟩:=hs';exact⟨hA,⟨hb0,es',LQ,hv',hbn,hk,hvl,hr e⟩,fun _=>hρ l7⟩
  ·left
   simp only[au.setObj,upd_ne _ _ hl'] at hs';exact⟨hs',fun hr'=>h.LM hs' hs hl' hr' l7⟩
 ·intro s' hs' hlt
  have ⟨a1,a2,a3⟩:=h.own s' hs' hlt;refine .inl ⟨hs',rfl,rfl,rfl,fun e'=>?_⟩;rw[e',hρ l7] at a2;cases a2
 ·intro b' i hi
  exact .inl ⟨hi,fun e'=>(h.I b' i hi).2 loc (e'▸hρ l7)⟩
 ·intro b' hi
  exact .inl ⟨hi,fun e'=>(h.IM b' hi).2 loc (e'▸hρ l7)⟩
 ·intro l r hl'
  obtain⟨_,_,_,fn,tmps,D,hh,_⟩:=h.loop l r hl';exact .inl ⟨hl',xQ hh hv aC⟩
 ·intro b' hd
  exact .inl ⟨hd,xQ (h.D b' hd) hv aC⟩
end aY
end
