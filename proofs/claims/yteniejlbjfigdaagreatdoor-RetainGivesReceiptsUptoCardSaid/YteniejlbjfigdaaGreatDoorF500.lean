import Derived.Below
import Derived.WalkKit
import Derived.KernelRfl
import GoSem.Dispatch
theorem RS {P:Prop}(h:P:=by omega):P:=h
theorem dS {P:Prop}(h:P:=by intro S;simp only[go_sem,Nat.reduceBEq,Nat.reduceAdd, *];with_reducible exact Is.rfl):P:=h
theorem dV {P:Prop}(h:P:=by simp only[go_sem,Nat.reduceBEq,Nat.reduceAdd, *];with_reducible exact Is.rfl):P:=h
theorem ay {P:Prop}(h:P:=by kernel_rfl):P:=h
theorem o9 {P:Prop}(h:P:=by intro S;simp only[go_sem,Nat.reduceBEq,Nat.reduceAdd, *];first|exact if_pos (mF _)| (rw[if_pos (by first| (simp;done)|rfl|exact⟨rfl,rfl⟩|exact⟨mF _,rfl⟩)];exact Is.rfl)):P:=h
theorem kN {P:Prop}(h:P:=by simp only[go_sem,Nat.reduceBEq,Nat.reduceAdd,dW,fT,rU,nG,vZ,mE,mG,jN, *];with_reducible exact Is.rfl):P:=h
theorem jG {P:Prop}(h:P:=by simp only[go_sem,Nat.reduceBEq, *]):P:=h
theorem aB {P:Prop}(h:P:=by simp):P:=h
theorem jU {P:Prop}(h:P:=by simp only[go_sem,Nat.reduceBEq,Nat.reduceAdd, *];exact Is.rfl):P:=h
theorem aL {P:Prop}(h:P:=by decide):P:=h
theorem uQ {P:Prop}(h:P:=by intro S;rw[adF _ _ _ (by simp only[go_sem,Nat.reduceBEq, *])];simp only[go_sem,Nat.reduceBEq,Nat.reduceAdd, *];with_reducible exact Is.rfl):P:=h
theorem yN {P:Prop}(h:P:=by intro S;rw[adG _ _ _ (by simp only[go_sem,Nat.reduceBEq, *])];simp only[go_sem,Nat.reduceBEq,Nat.reduceAdd, *];with_reducible exact Is.rfl):P:=h
theorem aAE {P:Prop}(h:P:=by first| (simp;done)|rfl|exact⟨rfl,rfl⟩|exact⟨mF _,rfl⟩):P:=h
theorem pW {P:Prop}(h:P:=by simp only[iP,List.length_cons,List.length_nil];omega):P:=h
theorem dP {P:Prop}(h:P:=by simp;omega):P:=h
theorem bU {P:Prop}(h:P:=by cases h):P:=h
theorem oz {P:Prop}(h:P:=by simp[Go.Op.equalIn,run_underlying hu]):P:=h
theorem fV {P:Prop}(h:P:=by unfold aA;rfl):P:=h
theorem bC {P:Prop}(h:P:=by rfl):P:=h
theorem KC {P:Prop}(h:P:=by obtain⟨s,h1,h2⟩:=h;unfold nU at hm;exact⟨s,((ho p (fun e=>by rw[e,yO] at hm;cases hm)).1.trans h1),by rw[hx];exact h2⟩):P:=h
theorem KD {P:Prop}(h:P:=by obtain⟨s,h1,h2⟩:=h;unfold aR.solid at hs;exact⟨s,by rw[(ho o (by simpa using hs)).1];exact h1,by rw[hx];exact h2⟩):P:=h
theorem xE {P:Prop}(h:P:=by simp only[go_sem,Nat.reduceBEq,Nat.reduceAdd, *]):P:=h
theorem jH {P:Prop}(h:P:=by simpa using hi):P:=h
theorem iU {P:Prop}(h:P:=by rw[<-hfr];rfl):P:=h
theorem nH {P:Prop}(h:P:=by unfold aA at h;exact h):P:=h
theorem Ab {P:Prop}(h:P:=by simp only[jo,go_sem,Nat.reduceBEq, *];exact Is.rfl):P:=h
theorem wh {P:Prop}(h:P:=by rw[iP,List.length_singleton];omega):P:=h
theorem pX {P:Prop}(h:P:=by simp only[iP];omega):P:=h
theorem PD {P:Prop}(h:P:=by intro S;simp only[go_sem,Nat.reduceBEq,Nat.reduceAdd, *];rw[if_pos (by decide)];exact Is.rfl):P:=h
theorem KE {P:Prop}(h:P:=by obtain⟨s,h1,h2⟩:=h;exact⟨s,by rw[ho.1];exact h1,by rw[ho.2.2];exact h2⟩):P:=h
theorem KF {P:Prop}(h:P:=by simp only[iP,List.length_cons,List.length_nil] at hb'⊢;omega):P:=h
theorem Bu {P:Prop}(h:P:=by simp only[iP,List.length_cons];omega):P:=h
theorem oC {P:Prop}(h:P:=by cases op<;>rfl):P:=h
theorem oD {P:Prop}(h:P:=by rw[jV];omega):P:=h
theorem Bv {P:Prop}(h:P:=by simp only[dh,hop,hz,Option.map_some]):P:=h
theorem pq {P:Prop}(h:P:=by rw[nV];omega):P:=h
theorem rV {P:Prop}(h:P:=by simpa using h2):P:=h
theorem Ac {P:Prop}(h:P:=by rw[IntKind.wrap_i64];omega):P:=h
theorem KG {P:Prop}(h:P:=by rw[hx];exact h2):P:=h
theorem wm {P:Prop}(h:P:=by intro i h;cases h):P:=h
theorem F9 {P:Prop}(h:P:=by intro e;injection e with e1 e2;cases e2):P:=h
theorem tC {P:Prop}(h:P:=by simpa using hj):P:=h
theorem xG {P:Prop}(h:P:=by first|exact Ad|rfl):P:=h
theorem rW {P:Prop}(h:P:=by rw[iP];omega):P:=h
theorem Ga {P:Prop}(h:P:=by unfold ah.dK at h2⊢;rw[hp];exact h2):P:=h
theorem aAF {P:Prop}(h:P:=by rw[(ho o (by simpa using hs)).1];exact h1):P:=h
theorem KH {P:Prop}(h:P:=by rw[wr (by omega) (by omega)];simp;omega):P:=h
theorem PE {P:Prop}(h:P:=by simp only[List.length_cons,List.length_nil];omega):P:=h
theorem xH {P:Prop}(h:P:=by simpa using hl):P:=h
theorem wo {P:Prop}(h:P:=by simp[pz] at hs):P:=h
theorem Bw {P:Prop}(h:P:=by simpa [aQ] using hp):P:=h
theorem D6 {P:Prop}(h:P:=by unfold Sh.Event.c;simp):P:=h
theorem adH {P:Prop}(h:P:=by rw[e,yO] at hm;cases hm):P:=h
theorem wu {P:Prop}(h:P:=by simp[xI] at h):P:=h
theorem Gb {P:Prop}(h:P:=by unfold aA;exact⟨aI,Ae,rfl⟩):P:=h
theorem PG {P:Prop}(h:P:=by simp only[dh,hop,kP,hz,Option.map_some]):P:=h
theorem PI {P:Prop}(h:P:=by simp only[go_sem,Nat.reduceBEq, *];rfl):P:=h
theorem Gc {P:Prop}(h:P:=by rw[hlc,hlen];exact mF _):P:=h
theorem yP {P:Prop}(h:P:=by simpa using h):P:=h
theorem KI {P:Prop}(h:P:=by rw[<-hy];exact(nI _ _ _).symm):P:=h
theorem KJ {P:Prop}(h:P:=by rw[<-hy];exact(kH _ _ e).symm):P:=h
theorem PK {P:Prop}(h:P:=by unfold ah.jh at h2⊢;rw[hp];exact h2):P:=h
theorem PL {P:Prop}(h:P:=by simp only[List.length_cons];omega):P:=h
theorem PN {P:Prop}(h:P:=by simp only[List.length_nil];omega):P:=h
theorem PO {P:Prop}(h:P:=by simp only[dX,h1,Option.bind_some]):P:=h
theorem Bz {P:Prop}(h:P:=by simpa using h1):P:=h
theorem tF {P:Prop}(h:P:=by simp[aQ]):P:=h
theorem PS {P:Prop}(h:P:=by unfold aA at h;subst h;simp[aQ]):P:=h
theorem adI {P:Prop}(h:P:=by rw[ho.1];exact h1):P:=h
theorem KL {P:Prop}(h:P:=by rw[(ho o hm).1];exact h1):P:=h
theorem KM {P:Prop}(h:P:=by have:=hi.lt u _ hu;omega):P:=h
theorem wz {P:Prop}(h:P:=by simp at h):P:=h
theorem PU {P:Prop}(h:P:=by rw[hx,Gd _ _ _ _ hp];exact h2):P:=h
theorem adJ {P:Prop}(h:P:=by simpa using hs):P:=h
theorem uR {P:Prop}(h:P:=by cases hd):P:=h
theorem BA {P:Prop}(h:P:=by rw[h];exact k):P:=h
theorem D7 {P:Prop}(h:P:=by rw[b];exact h1):P:=h
theorem KN {P:Prop}(h:P:=by simp[List.getD,hi']):P:=h
theorem PV {P:Prop}(h:P:=by simp[oF,Fence.wide] at hd):P:=h
theorem Gf {P:Prop}(h:P:=by unfold rI;decide):P:=h
theorem PW {P:Prop}(h:P:=by simp[Array.range_zero']):P:=h
theorem Gg {P:Prop}(h:P:=by simpa using hb):P:=h
theorem aAG {P:Prop}(h:P:=by rw[ho.2.2];exact h2):P:=h
theorem PX {P:Prop}(h:P:=by simpa [er,aQ] using hp):P:=h
theorem PY {P:Prop}(h:P:=by simp only[dh,hop,h2]):P:=h
theorem KO {P:Prop}(h:P:=by simp at hi;omega):P:=h
theorem KP {P:Prop}(h:P:=by simp at h2;omega):P:=h
theorem PZ {P:Prop}(h:P:=by intro y hy;cases hy):P:=h
theorem P5 {P:Prop}(h:P:=by simpa using k2.symm):P:=h
theorem Gh {P:Prop}(h:P:=by cases d<;>rfl):P:=h
theorem KQ {P:Prop}(h:P:=by unfold rI;omega):P:=h
theorem yQ {P:Prop}(h:P:=by rw[hh]):P:=h
theorem P6 {P:Prop}(h:P:=by rw[hcc];simp;omega):P:=h
theorem P7 {P:Prop}(h:P:=by have:3<=n:=hn;omega):P:=h
theorem P8 {P:Prop}(h:P:=by intro hy;cases hy):P:=h
theorem KR {P:Prop}(h:P:=by rw[hb];exact h1):P:=h
theorem KS {P:Prop}(h:P:=by rw[hl];exact h2):P:=h
theorem BD {P:Prop}(h:P:=by rw[<-hfr]):P:=h
theorem P9 {P:Prop}(h:P:=by rw[hmap];exact k1):P:=h
theorem Qa {P:Prop}(h:P:=by rw[iP];simp;omega):P:=h
theorem Qb {P:Prop}(h:P:=by rw[d1,d4 rfl];rfl):P:=h
theorem D8 {P:Prop}(h:P:=by simp[hj]):P:=h
theorem D9 {P:Prop}(h:P:=by simp[jN]):P:=h
theorem KT {P:Prop}(h:P:=by rw[a];exact h2):P:=h
theorem KU {P:Prop}(h:P:=by decide+kernel):P:=h
theorem BF {P:Prop}(h:P:=by rw[<-q3]):P:=h
theorem Qc {P:Prop}(h:P:=by rw[eU];exact hl):P:=h
theorem Qd {P:Prop}(h:P:=by rw[hb'];exact hB):P:=h
theorem Ea {P:Prop}(h:P:=by simp[h]):P:=h
theorem Eb {P:Prop}(h:P:=by simp[e]):P:=h
theorem Qe {P:Prop}(h:P:=by rw[f];simp[bY,e]):P:=h
theorem Qf {P:Prop}(h:P:=by simpa using h0):P:=h
theorem Gi {P:Prop}(h:P:=by rw[hd,e]):P:=h
theorem KV {P:Prop}(h:P:=by rw[h.iL];rfl):P:=h
theorem Ec {P:Prop}(h:P:=by cases hv):P:=h
theorem Ed {P:Prop}(h:P:=by cases hx):P:=h
set_option linter.all false
section
namespace aR
def iE:=@Option.some.injEq
def iP:=@List.length_append
def iR:=@Option.bind_eq_some_iff
def mF:=@Nat.le_refl
def aS:=@Prod.mk.injEq
def aW:=@Option.map_eq_some_iff
def aZ:=@Bool.and_eq_true
def bZ:=@Bool.false_eq_true
def eU:=@List.length_map
def eO:=@Nat.le_trans
def eZ:=@List.append_assoc
def fZ:=@Nat.not_lt_zero
def jV:=@List.length_take
def gG:=@List.getElem?_eq_getElem
def iA:=@List.map_cons
def iC:=@List.mem_cons
def iG:=@List.mapM_cons
def nV:=@List.length_drop
def iV:=@List.append_nil
def iZ:=@List.mem_singleton
def ji:=@List.mem_cons_self
def jW:=@Option.some.inj
def jX:=@List.mem_cons_of_mem
def jY:=@Nat.le_succ
def kU:=@List.all_eq_true
def lD:=@Nat.le_add_right
def lF:=@List.eq_nil_of_length_eq_zero
def lW:=@Nat.lt_of_lt_of_le
def lX:=@List.getElem_mem
def lY:=@List.flatMap_cons
def mH:=@List.getD_eq_getElem?_getD
def nJ:=@Nat.mul_le_mul_right
def nW:=@List.drop_eq_getElem_cons
def nX:=@Nat.zero_add
def nY:=@Nat.le_of_ble_eq_true
def nZ:=@List.drop_eq_nil_of_le
def oG:=@Nat.add_assoc
def pE:=@Nat.ne_of_lt
def pF:=@List.map_append
def pY:=@Nat.le_max_right
def qx:=@List.getElem?_eq_some_iff
def qy:=@Nat.add_mul
def qz:=@List.take_append_drop
def qA:=@Nat.zero_le
def qB:=@List.mem_append
def qC:=@List.drop_zero
def qX:=@Nat.succ_mul
def qY:=@Nat.le_max_left
def qZ:=@List.take_of_length_le
def rX:=@List.cons.injEq
def yO:=@Nat.beq_refl
def tH:=@List.mem_map
def tJ:=@Bool.or_eq_false_iff
def uS:=@List.length_pos_iff
def uT:=@List.mem_filter
def uU:=@List.mem_of_getElem?
def wB:=@Nat.mul_comm
def wC:=@Nat.min_eq_left
def xJ:=@Bool.or_eq_true
def xK:=@Bool.not_eq_true'
def yR:=@Array.getD_eq_getD_getElem?
def yS:=@Nat.eq_of_beq_eq_true
def yT:=@List.map_map
def yU:=@Nat.le_of_eq
def yV:=@Int.le_refl
def Af:=@List.nodup_cons
def Ag:=@Nat.add_sub_cancel_left
def BG:=@List.getElem_map
def BH:=@List.getElem_range
def BI:=@List.map_congr_left
def BJ:=@List.mem_append_right
def BK:=@List.filter_append
def Ee:=@Nat.mod_eq_of_lt
def Ef:=@List.mem_append_left
def Eh:=@Nat.lt_succ_self
def Ei:=@List.drop_append
def Ej:=@List.take_append_of_le_length
def El:=@List.length_range
def Gj:=@List.mem_iff_getElem
def Gl:=@Int.toNat_of_nonneg
def Gm:=@List.drop_of_length_le
def KW:=@List.getElem?_append_left
def KX:=@List.drop_append_of_le_length
open Go
abbrev Loc:=Nat×Nat
inductive Cap where
 |sh
 |full
 |nil
 |own (n s:Nat)
inductive V where
 |int (k:IntKind) (n:Int)
 |bool (b:Bool)
 |str (s:List UInt8)
 |gU
 |gH
 |gP
 |iH
 |agg (cs:List V)
 |bK (vs:List V)
 |ak (c:Cap) (l:List V)
 |aU (loc:Loc) (s off len cap bD:Nat) (ag:Bool)
 |aX (cs:List V) (off:Nat)
 |ref (loc:Loc) (s off:Nat)
 |fn (f:Fn) (first cap:List V)
 |dQ (loc:Loc) (s:Nat)
 |eF (ks vs:List V)
 |iface (t:TypeId) (v:V)
 |raw (v:Value)
instance:Inhabited V:=⟨.bK []⟩
def aJ:V:=.bK []
def V.cells:V->List V
 |.agg cs=>cs|v=>[v]
def kV:Value->Option V
 |.bool b=>some (.bool b)|.int k n=>some (.int k n)|.string s=>some (.str s.data.toList)|.pointer none=>some .gU|.slice none 0 0=>some (.ak .nil [])|.map none=>some .gP|.nilFunc=>some .gH|.nilIface=>some .iH|_=>none
def ofValue:Value->Option V
 |.agg cs=>(cs.toList.mapM kV).map .agg|.tuple cs=>(cs.toList.mapM kV).map .bK|v=>kV v
mutual
def aQ:V->Bool
 |.int _ _|.bool _|.str _|.gU|.gH|.gP|.iH=>true|.agg cs=>bQ cs|.bK vs=>bQ vs|.ak .sh l=>bQ l|.ak _ _=>false|.aU .. |.ref .. |.dQ .. =>false|.aX cs _=>bQ cs|.fn (.func _) a b=>bQ a&& bQ b|.fn _ _ _=>false|.eF ks vs=>bQ ks&& bQ vs|.iface _ v=>aQ v|.raw _=>false
def bQ:List V->Bool
 | []=>true|v::l=>aQ v&& bQ l
end
mutual
def flat:V->Bool
 |.int _ _|.bool _|.str _|.gU|.gH|.gP|.iH=>true|.agg cs=>kW cs|.bK vs=>kW vs|_=>false
def kW:List V->Bool
 | []=>true|v::l=>flat v&& kW l
end
def gu:V->V
 |.ak _ l=>.ak .sh l|v=>v
def er:V->V
 |.ak _ l=>.ak .sh l|.agg cs=>.agg (cs.map gu)|v=>v
inductive jZ where
 |cells (cs:List V)
 |map (ks vs:List V)
inductive Ex where
 |normal
 |exit (id:Nat)
 |ret
structure Fr where
 d:Nat
 aj:Bool
 tm:Nat->V
structure Em where
 st:Nat
 pend:Option Ex
 fr:Fr
 ps:List Nat
 gq:Code
 body:Code
structure ah where
 next:Nat
 top:Nat->Nat
 obj:Loc->Option (Nat×jZ)
 loops:Nat->Option Em
def ah.init:ah:=⟨0,fun _=>0,fun _=>none,fun _=>none⟩
def upd {κ J:Type}[DecidableEq κ](f:κ->J)(k:κ)(v:J):κ->J:=fun j=>if j=k then v else f j
def Fr.set (fr:Fr)(i:Nat)(v:V):Fr:={fr with tm:=upd fr.tm i v}
def Fr.put (fr:Fr)(d:Option Nat)(v:V):Fr:=match d with
 |some i=>fr.set i v|none=>fr
def ah.setObj (Z:ah)(loc:Loc)(s:Nat)(o:jZ):ah:={Z with obj:=upd Z.obj loc (some (s,o))}
def ah.j3 (Z:ah)(loc:Loc):ah:={Z with obj:=upd Z.obj loc none}
def ah.dY (Z:ah)(s n:Nat):ah:={Z with top:=upd Z.top s n}
def ah.mR (Z:ah)(l:Nat)(r:Em):ah:={Z with loops:=upd Z.loops l (some r)}
def ah.uV (Z:ah)(l:Nat):ah:={Z with loops:=upd Z.loops l none}
def j4:Code->Bool
 |.seq a b=>j4 a&& j4 b|.cond _ a b=>j4 a&& j4 b|.block _ c=>j4 c|.loop c=>j4 c|.scope c=>j4 c|.rangeFunc .. =>false|_=>true
def ah.dK (Z:ah)(loc:Loc)(s:Nat):Option (List V):=
 match Z.obj loc with
 |some (s',.cells cs)=>if s'=s then some cs else none|_=>none
def ah.jh (Z:ah)(loc:Loc)(s:Nat):Option (List V×List V):=
 match Z.obj loc with
 |some (s',.map ks vs)=>if s'=s then some (ks,vs) else none|_=>none
def chunks (agg:Bool)(n:Nat):Nat->List V->List V
 |0,_=>[]|k+1,cs=>(if agg then V.agg (cs.take n) else cs.headD aJ)::chunks agg n k (cs.drop n)
def oneCell:V->Bool
 |.agg _|.bK _|.raw _=>false|_=>true
def bY (l:List V):Bool:=l.all oneCell
def bg:Nat->ah->V->Option V
 |0,_,_=>none|n+1,Z,v=>if aQ v then some v else match v with
  |.ak _ l=>(l.mapM (bg n Z)).map (.ak .sh)|.agg cs=>(cs.mapM (bg n Z)).map .agg|.bK cs=>(cs.mapM (bg n Z)).map .bK|.aX cs off=>(cs.mapM (bg n Z)).map (.aX · off)|.fn (.func f) a b=>(a.mapM (bg n Z)).bind fun a=>(b.mapM (bg n Z)).map fun b=>.fn (.func f) a b
  |.ref loc s off=>(Z.dK loc s).bind fun cs=>(cs.mapM (bg n Z)).map (.aX · off)
  |.aU loc s off len _ bD ag=>(Z.dK loc s).bind fun cs=>
     if off+len*bD<=cs.length then (((cs.drop off).take (len*bD)).mapM (bg n Z)).bind fun cs=>if ag||bD==1&& bY cs then some (.ak .sh (chunks ag bD len cs)) else none else none
  |.dQ loc s=>(Z.jh loc s).bind fun (ks,vs)=>(ks.mapM (bg n Z)).bind fun ks=>(vs.mapM (bg n Z)).map fun vs=>.eF ks vs
  |.eF ks vs=>(ks.mapM (bg n Z)).bind fun ks=>(vs.mapM (bg n Z)).map fun vs=>.eF ks vs
  |.iface t v=>(bg n Z v).map (.iface t)|_=>none
section ops
variable (P:Program)
def dF (t:TypeId):Option Nat:=(P.info? t).map (·.size)
def wD (t:TypeId):Option Nat:=(P.info? t).map (·.bytes)
def j5 (t:TypeId):Option Bool:=(P.underlying t).map fun
 |.struct _|.array .. =>true|_=>false
def iM (t:TypeId):Option V:=((P.info? t).bind (·.zero)).bind ofValue
def xL (t:TypeId)(f:Nat):Option (Nat×TypeId):=
 match P.underlying t with
 |some (.struct fs)=>(fs[f]?).bind fun f=>match dF P f.type with
  |some (_+1)=>some (f.offset,f.type)|_=>none
 |_=>none
def lG (t:TypeId):Option TypeId:=
 match P.underlying t with
 |some (.slice e)=>some e|_=>none
def uW (t:TypeId):Option (Nat×TypeId):=
 match P.underlying t with
 |some (.array n e)=>some (n,e)|_=>none
def wE (t:TypeId):Option (TypeId×TypeId):=
 match P.underlying t with
 |some (.map k e)=>some (k,e)|_=>none
def q8 (agg:Bool)(n:Nat)(cs:List V)(off:Nat):Option V:=
 if agg then (if off+n<=cs.length then some (.agg ((cs.drop off).take n)) else none) else cs[off]?
def gV (t:TypeId)(cs:List V)(off:Nat):Option V:=
 (j5 P t).bind fun a=>(dF P t).bind fun n=>q8 a n cs off
def gI (cs:List V)(off:Nat)(vs:List V):List V:=cs.take off++vs++cs.drop (off+vs.length)
def fC:V->Bool
 |.raw _=>false|_=>true
def rY (place:Nat->Option (Nat×Nat))(cells:List V):List (Nat×V)->Option (List V)
 | []=>some cells| (i,v)::rest=>
   match place i with
   |none=>none|some (off,size)=>
    if v.cells.length=size/\off+size<=cells.length/\fC v then rY place (gI cells off v.cells) rest else none
def p8:V->V->Option Bool
 |.int k a,.int k' b=>if k=k' then some (a==b) else none|.bool a,.bool b=>some (a==b)|.str a,.str b=>some (a==b)|_,_=>none
def En (eq:TypeId->V->V->Option Bool)(xs ys:List V):List Field->Option Bool
 | []=>some true|f::fs=>
  if f.name= "_" then En eq xs ys fs else (gV P f.type xs f.offset).bind fun a=>(gV P f.type ys f.offset).bind fun b=>(eq f.type a b).bind fun r=>(En eq xs ys fs).map (r&& ·)
def Gn (eq:TypeId->V->V->Option Bool)(e:TypeId)(sz:Nat)(xs ys:List V):List Nat->Option Bool
 | []=>some true|i::is=>(gV P e xs (i*sz)).bind fun a=>(gV P e ys (i*sz)).bind fun b=>(eq e a b).bind fun r=>(Gn eq e sz xs ys is).map (r&& ·)
def BL:Nat->TypeId->V->V->Option Bool
 |0,_,_,_=>none|d+1,t,x,y=>
  match P.underlying t,x,y with
  |some .bool,.bool a,.bool b=>some (a==b)|some (.int _),.int k a,.int k' b=>if k=k' then some (a==b) else none|some .string,.str a,.str b=>some (a==b)|some (.struct fs),.agg xs,.agg ys=>if P.stoodInHeld t then none else En P (BL d) xs ys fs.toList|some (.array n e),.agg xs,.agg ys=>(dF P e).bind fun sz=>Gn P (BL d) e sz xs ys (List.range n)
  |_,_,_=>none
def uX (t:TypeId)(x y:V):Option Bool:=
 match P.underlying t,x,y with
 |some (.func ..),.gH,.gH=>some true|some (.func ..),.gH,.fn _ _ _|some (.func ..),.fn _ _ _,.gH=>some false|some (.pointer _),.gU,.gU=>some true|some (.pointer _),.gU,.ref .. |some (.pointer _),.ref ..,.gU|some (.pointer _),.gU,.aX .. |some (.pointer _),.aX ..,.gU=>some false|some (.slice _),.ak .nil _,.ak .nil _=>some true|some (.slice _),.ak .nil _,.ak _ (_::_)|some (.slice _),.ak _ (_::_),.ak .nil _=>some false
 |some (.map ..),.gP,.gP=>some true|some (.map ..),.gP,.dQ .. |some (.map ..),.dQ ..,.gP|some (.map ..),.gP,.eF .. |some (.map ..),.eF ..,.gP=>some false|some (.struct _),.agg a,.agg b|some (.array ..),.agg a,.agg b=>if P.eqGuardType P.depth t then none else BL P 8 t (.agg a) (.agg b)|some .bool,.bool a,.bool b=>some (a==b)|some (.interface ms),.iH,.iH=>if ms.isEmpty then some true else none|some (.interface _),.iH,.iface _ _|some (.interface _),.iface _ _,.iH=>some false
 |_,_,_=>none
def mI (op:BinOp)(k:IntKind)(x y:Int):Option V:=
 match op with
 |.add=>some (.int k (k.wrap (x+y)))|.sub=>some (.int k (k.wrap (x-y)))|.mul=>some (.int k (k.wrap (x*y)))|.quo=>if y=0 then none else some (.int k (k.wrap (x.tdiv y)))|.rem=>if y=0 then none else some (.int k (x.tmod y))|.and=>some (.int k (k.wrap (BitVec.ofInt k.bits x&&& BitVec.ofInt k.bits y).toNat))|.or=>some (.int k (k.wrap (BitVec.ofInt k.bits x|||BitVec.ofInt k.bits y).toNat))|.xor=>some (.int k (k.wrap (BitVec.ofInt k.bits x^^^BitVec.ofInt k.bits y).toNat))
 |.andNot=>some (.int k (k.wrap (BitVec.ofInt k.bits x&&& ~~~BitVec.ofInt k.bits y).toNat))|.eql=>some (.bool (x==y))|.neq=>some (.bool (x !=y))|.lss=>some (.bool (x<y))|.leq=>some (.bool (x<=y))|.gtr=>some (.bool (x>y))|.geq=>some (.bool (x>=y))|_=>none
def KY (op:BinOp)(k:IntKind)(x y:Int):Option V:=
 if y<0 then none else match op with
 |.shl=>some (.int k (k.wrap (x*2^min y.toNat k.bits)))|.shr=>some (.int k (x.fdiv (2^min y.toNat k.bits)))|_=>none
def BM (op:BinOp)(x y:List UInt8):Option V:=
 match op with
 |.add=>if ((x.length+y.length:Nat):Int)>IntKind.i64.max then none else some (.str (x++y))|.eql=>some (.bool (x==y))|.neq=>some (.bool !(x==y))|.lss=>some (.bool (Op.bytesLess x y))|.leq=>some (.bool (Op.bytesLess x y||x==y))|.gtr=>some (.bool !(Op.bytesLess x y||x==y))|.geq=>some (.bool !(Op.bytesLess x y))|_=>none
def rZ (op:BinOp)(t:TypeId)(x y:V):Option V:=
 match op,x,y with
 |.shl,.int k a,.int _ b|.shr,.int k a,.int _ b=>KY op k a b|_,.int k a,.int k' b=>if k=k' then mI op k a b else none|_,.str a,.str b=>BM op a b|.eql,x,y=>(uX P t x y).map .bool|.neq,x,y=>(uX P t x y).map fun b=>.bool !b
 |_,_,_=>none
def Eo (op:UnOp)(x:V):Option V:=
 match op,x with
 |.neg,.int k n=>some (.int k (k.wrap (0-n)))|.xor,.int k n=>mI .xor k (if k.signed then-1 else k.max) n|.not,.bool b=>some (.bool !b)|_,_=>none
def wF (b:UInt8):V:=.int .u8 b.toNat
def Ep:V->Option UInt8
 |.int .u8 n=>some (UInt8.ofNat n.toNat)|_=>none
def Ah (Z:ah)(src dst:TypeId)(x:V):Option V:=
 match P.underlying src,P.underlying dst,x with
 |some _,some (.int k),.int _ n=>some (.int k (k.wrap n))|some _,some .string,.str s=>some (.str s)|some (.slice e),some .string,.ak _ l=>
  match P.underlying e with
  |some (.int .u8)=>(l.mapM Ep).map .str|_=>none
 |some (.slice e),some .string,.aU loc s off len _ _ _=>
  match P.underlying e with
  |some (.int .u8)=>(Z.dK loc s).bind fun cs=>if off+len<=cs.length then (((cs.drop off).take len).mapM Ep).map .str else none
  |_=>none
 |_,_,_=>none
def pG:V->Option Int
 |.int _ n=>some n|_=>none
def bnd (x:V)(y:Nat):Option Nat:=(pG x).bind fun i=>if 0<=i/\i<=y then some i.toNat else none
def jq (len cap:Nat)(lo hi mx:Option V):Option (Nat×Nat×Nat):=
 (match mx with|some v=>bnd v cap|none=>some cap).bind fun m=>(match hi,mx with
   |some v,some _=>bnd v m|some v,none=>bnd v m|none,none=>some len|none,some _=>none).bind fun h=>(match lo with|some v=>bnd v h|none=>some 0).bind fun l=>some (l,h,m)
def og (sz:Nat):List V->Bool
 | []=>true|v::_=>v.cells.length==sz
def kQ (Z:ah)(t:TypeId)(x:V)(lo hi mx:Option V):Option V:=
 match P.underlying t,x with
 |some .string,.str s=>
  match mx with
  |some _=>none|none=>(jq s.length s.length lo hi none).map fun (l,h,_)=>.str ((s.take h).drop l)
 |some (.slice e),.ak c s=>
  (dF P e).bind fun sz=>(jq s.length s.length lo hi mx).bind fun (l,h,m)=>if og sz s then some<|
    if l=0/\h=s.length/\mx.isNone then .ak c s else .ak (match mx with|some _=>if m=h then .full else .sh|none=>match c with|.full=>if h=s.length then .full else .sh|_=>.sh) ((s.take h).drop l)else none
 |some (.slice e),.aU loc st off len cap bD ag=>
  (dF P e).bind fun sz=>(jq len cap lo hi mx).bind fun (l,h,m)=>if sz=bD then some<|
    if l=h/\0<l then .ak (match mx with|some _=>if m=h then .full else .sh|none=>.sh) [] else .aU loc st (off+l*bD) (h-l) (m-l) bD ag else none
 |some (.array n e),.ref loc st off=>
  (dF P e).bind fun sz=>(j5 P e).bind fun ag=>(jq n n lo hi mx).bind fun (l,h,m)=>(Z.dK loc st).bind fun cs=>if off+n*sz<=cs.length then some<|
    if l=h/\0<l then .ak (match mx with|some _=>if m=h then .full else .sh|none=>.sh) [] else .aU loc st (off+l*sz) (h-l) (m-l) sz ag else none
 |some (.array n e),.aX cs off=>
  (dF P e).bind fun sz=>(j5 P e).bind fun ag=>(jq n n lo hi mx).bind fun (l,h,_)=>
    if off+n*sz<=cs.length/\(ag=false->sz=1/\bY cs=true) then some (.ak .sh (chunks ag sz (h-l) (cs.drop (off+l*sz)))) else none
 |_,_=>none
def idx (i:V)(n:Nat):Option Nat:=(pG i).bind fun i=>if 0<=i/\i<n then some i.toNat else none
def p9 (t:TypeId)(x i:V):Option V:=
 match P.underlying t,x with
 |some (.slice e),.ak _ l=>(dF P e).bind fun sz=>(idx i l.length).bind fun k=>(l[k]?).bind fun e=>if e.cells.length=sz then some (.aX e.cells 0) else none
 |some (.slice e),.aU loc st off len _ bD _=>(dF P e).bind fun sz=>(idx i len).bind fun k=>if sz=bD then some (.ref loc st (off+k*bD)) else none
 |some (.array n e),.ref loc st off=>(dF P e).bind fun sz=>(idx i n).map fun k=>.ref loc st (off+k*sz)
 |some (.array n e),.aX cs off=>(dF P e).bind fun sz=>(idx i n).map fun k=>.aX cs (off+k*sz)
 |_,_=>none
def Er (t:TypeId)(x i:V):Option V:=
 match P.underlying t,x with
 |some (.array n e),.agg cs=>(idx i n).bind fun k=>(dF P e).bind fun sz=>gV P e cs (k*sz)
 |some .string,.str s=>(idx i s.length).bind fun k=>(s[k]?).map wF
 |_,_=>none
def r9 (k:V):List V->List V->Option (Option V)
 |a::cB,v::vs=>(p8 k a).bind fun b=>if b then some (some v) else r9 k cB vs
 | [],[]=>some none|_,_=>none
def yX (k v:V):List V->List V->Option (List V×List V)
 |a::cB,w::ws=>(p8 k a).bind fun b=>if b then some (k::cB,v::ws) else (yX k v cB ws).map fun (x,y)=>(a::x,w::y)
 | [],[]=>some ([k],[v])|_,_=>none
def oh (t:TypeId)(k:V):Bool:=
 match P.underlying t,k with
 |some (.int _),.int _ _|some .string,.str _|some .bool,.bool _=>true|_,_=>false
def yY (Z:ah)(t:TypeId)(m k:V)(ok:Bool):Option V:=
 (wE P t).bind fun (kt,et)=>
 if oh P kt k then (match m with
    |.gP=>some ([],[])|.dQ loc s=>Z.jh loc s|.eF ks vs=>some (ks,vs)|_=>none).bind fun (ks,vs)=>(r9 k ks vs).bind fun r=>(match r with|some v=>some (v,true)|none=>(iM P et).map fun z=>(z,false)).map fun (v,b)=>
  if ok then .bK [v,.bool b] else v else none
def uY (Z:ah)(t:TypeId)(m k v:V):Option ah:=
 (wE P t).bind fun (kt,_)=>
 if oh P kt k then match m with
  |.dQ loc s=>(Z.jh loc s).bind fun (ks,vs)=>(yX k v ks vs).map fun (ks,vs)=>Z.setObj loc s (.map ks vs)
  |_=>none else none
def cK (n b:Nat):Bool:=n*b<=2^47&& n<=2^47
def mU (Z:ah)(ag:Bool)(sz:Nat)(z:V):V->Option (List V)
 |.int _ n=>if 0<=n/\n<=2^47 then some (List.replicate n.toNat z) else none|.ak _ l=>if og sz l then some l else none|.str s=>if sz=1 then some (s.map wF) else none|.aU loc s off len _ bD _=>if bD≠sz then none else (Z.dK loc s).bind fun cs=>
  if off+len*sz<=cs.length/\(bY cs=true\/ag=true) then some ((chunks ag sz len (cs.drop off)).map er) else none
 |_=>none
def yZ:V->Bool
 |.int _ _=>true|_=>false
def ku (aj zeros:Bool)(Z:ah)(st:Nat)(loc:Option Loc)(t:TypeId)(x y:V):Option (V×ah):=
 (lG P t).bind fun e=>(dF P e).bind fun sz=>(wD P e).bind fun gy=>(j5 P e).bind fun ag=>(iM P e).bind fun z=>
 if zeros=yZ y/\z.cells.length=sz/\0<sz/\(ag||sz==1)=true then (mU Z ag sz z y).bind fun ys=>
 if ys.all (fun v=>bY v.cells)=true then match x with
 |.ak c l=>
  if cK (l.length+ys.length) gy=true/\og sz l=true then match aj,c with
   |true,.nil=>loc.map fun loc=>(.aU loc st 0 (l.length+ys.length) (l.length+ys.length) sz ag,Z.setObj loc st (.cells ((l++ys).flatMap V.cells)))
   |true,.full=>if ys.isEmpty then some (.ak .full l,Z) else loc.map fun loc=>(.aU loc st 0 (l.length+ys.length) (l.length+ys.length) sz ag,Z.setObj loc st (.cells ((l++ys).flatMap V.cells)))
   |false,.own n s=>if n=sz/\Z.top s=l.length then some (.ak (.own n s) (l++ys),Z.dY s (l.length+ys.length)) else none|false,.nil|false,.full=>some (.ak (.own sz st) (l++ys),Z.dY st (l.length+ys.length))|_,_=>none else none
 |.aU kC s off len cap bD _=>
  if cK (len+ys.length) gy=true/\aj=true/\off=0/\bD=sz then loc.bind fun loc=>(Z.dK kC s).bind fun cs=>
    if len+ys.length<=cap then if (len+ys.length)*sz<=cs.length then some (.aU kC s 0 (len+ys.length) cap sz ag,Z.setObj kC s (.cells (gI cs (len*sz) (ys.flatMap V.cells))))else none else if len*sz<=cs.length then some (.aU loc st 0 (len+ys.length) (len+ys.length) sz ag,(Z.j3 kC).setObj loc st (.cells (cs.take (len*sz)++ys.flatMap V.cells)))else none else none
 |_=>none else none else none
def copyV (Z:ah)(t:TypeId)(x y:V):Option (V×ah):=
 (lG P t).bind fun e=>(dF P e).bind fun sz=>(j5 P e).bind fun ag=>
 if yZ y=false/\(ag||sz==1)=true then (mU Z ag sz aJ y).bind fun ys=>
  if ys.all (fun v=>bY v.cells)=true then match x with
  |.aU loc s off len _ bD _=>
   (Z.dK loc s).bind fun cs=>
     if bD=sz/\off+min ys.length len*sz<=cs.length then some (.int .i64 (min ys.length len:Nat),Z.setObj loc s (.cells (gI cs off ((ys.take (min ys.length len)).flatMap V.cells))))else none
  |.ak _ []=>some (.int .i64 (0:Nat),Z)|_=>none else none else none
def UN (t:TypeId)(ok:Bool)(x:V):Option V:=
 match P.underlying t with
 |none|some (.interface _)=>none|some _=>match x with
  |.iface u v=>if u=t then some (if ok then .bK [v,.bool true] else v) else if ok then (iM P t).map fun z=>.bK [z,.bool false] else none
  |.iH=>if ok then (iM P t).map fun z=>.bK [z,.bool false] else none
  |_=>none
def Gp (Z:ah)(t:TypeId)(x:V):Option (V×ah):=
 (fun (_:Program) (_:ah) (_:TypeId) (_:V)=>none) P Z t x
def xM (mx:Bool):V->List V->Option V
 |x,[]=>some x|.int k a,.int k' b::l=>if k=k' then xM mx (.int k (if mx then (if b>a then b else a) else (if b<a then b else a))) l else none|_,_=>none
def Ai (aj:Bool)(Z:ah)(st:Nat)(loc:Option Loc)(t:TypeId)(l c:V):Option (V×ah):=
 (fun (_:Program) (_:Bool) (_:ah) (_:Nat) (_:Option Loc) (_:TypeId) (_ _:V)=>none) P aj Z st loc t l c
end ops
end aR
end
section
namespace aR
open Go
structure Env where
 P:Program
 glob:Nat->Option (List V)
 imp:FuncId->Bool
 aj:FuncId->Bool
 mV:FuncId->Option (List V->Option V)
 own:FuncId->Nat->Bool:=fun _ _=>false
 y5:FuncId->Bool:=fun _=>false
 adK:TypeId->Bool:=fun _=>false
 al8:Nat->Bool:=fun _=>false
 cn:Nat->Nat:=fun d=>d
 al9:Nat->Bool:=fun _=>false
 ama:Nat->Bool:=fun _=>true
section
variable (E:Env)
def Fr.ev (fr:Fr):Operand->V
 |.tmp t=>fr.tm t|.const v=>(ofValue v).getD (.raw v)|.global g=>match E.glob g with|some cs=>.aX cs 0|none=>.raw (.pointer (some ⟨g,0,none⟩))
 |.func f=>.fn (.func f) [] []
def kP (fr:Fr):Option Operand->Option V
 |none=>none|some x=>some (fr.ev E x)
def xO:V->Option Bool
 |.bool b=>some b|_=>none
def Gq (t:TypeId):Option (Nat->Option (Nat×Nat)):=
 match E.P.underlying t with
 |some (.struct fs)=>if fs.toList.all (fun f=>(dF E.P f.type).isSome) then some fun i=>(fs[i]?).bind fun f=>(dF E.P f.type).map fun n=>(f.offset,n)else none
 |some (.array _ e)=>(dF E.P e).map fun n=>fun i=>some (i*n,n)
 |_=>none
def BN (t:TypeId)(len:Nat)(parts:List (Nat×V)):Option V:=
 (lG E.P t).bind fun e=>(dF E.P e).bind fun sz=>(j5 E.P e).bind fun ag=>(iM E.P e).bind fun z=>
 if len*sz<=2^24/\z.cells.length=sz/\0<sz/\(ag||sz==1)=true then (rY (fun i=>if i<len then some (i*sz,sz) else none) (List.replicate len z.cells).flatten parts).bind fun cs=>
    if bY cs then some (.ak .full ((chunks ag sz len cs).map er)) else none else none
def tK (t:TypeId)(d:Option Nat):Bool:=E.adK t&& (match d with
 |some d=>E.ama (1000*t+d)|none=>true)
def Aj (d:Option Nat):Bool:=match d with
 |some d=>E.al9 d|none=>false
def BO (Z:ah)(st:Nat)(loc:Option Loc)(t:TypeId)(len:Nat)(parts:List (Nat×V)):Option (V×ah):=
 (lG E.P t).bind fun e=>(dF E.P e).bind fun sz=>(j5 E.P e).bind fun ag=>(iM E.P e).bind fun z=>
 if len*sz<=2^24/\z.cells.length=sz/\0<sz then (rY (fun i=>if i<len then some (i*sz,sz) else none) (List.replicate len z.cells).flatten parts).bind fun cs=>
    loc.map fun loc=>(.aU loc st 0 len len sz ag,Z.setObj loc st (.cells cs))else none
def y7 (d:Option Nat):Bool:=match d with
 |some d=>E.al8 d|none=>false
def xP (Z:ah)(x:V):Option (V×ah):=match x with
 |.aU loc s off len _ bD ag=>(Z.dK loc s).bind fun cs=>
  if off+len*bD<=cs.length/\(ag||bD==1&& bY (((cs.drop off).take (len*bD)).map gu))=true then some (.ak .sh (chunks ag bD len (((cs.drop off).take (len*bD)).map gu)),Z.j3 loc) else none
 |.ak _ l=>some (.ak .sh l,Z)|v=>some (v,Z)
def dh (fr:Fr)(Z:ah)(st:Nat)(o:Oper):Option (V×ah):=
 let loc:Option Loc:=o.dst.map fun t=>(fr.d,t)
 match o.op with
 |.move x=>if y7 E o.dst=true then xP Z (fr.ev E x) else some (fr.ev E x,Z)|.assign x=>some (fr.ev E x,Z)|.pick c a b=>(xO (fr.ev E c)).map fun t=>(if t then fr.ev E a else fr.ev E b,Z)
 |.alloc t=>loc.bind fun loc=>(iM E.P t).bind fun z=>if bY z.cells then some (.ref loc st 0,Z.setObj loc st (.cells z.cells)) else none
 |.box t x=>if tK E t o.dst=true then (if aQ (er (fr.ev E x))=true/\fC (fr.ev E x) then some (.aX (er (fr.ev E x)).cells 0,Z) else none) else loc.bind fun loc=>if bY (fr.ev E x).cells/\fC (fr.ev E x) then some (.ref loc st 0,Z.setObj loc st (.cells (fr.ev E x).cells)) else none
 |.build t parts=>(Gq E t).bind fun pl=>(iM E.P t).bind fun z=>(rY pl z.cells (parts.toList.map fun (i,x)=>(i,fr.ev E x))).map fun cs=>(.agg cs,Z)
 |.buildSlice t len parts=>if Aj E o.dst=true then BO E Z st (o.dst.map fun t=>(fr.d,E.cn t)) t len (parts.toList.map fun (i,x)=>(i,fr.ev E x)) else (BN E t len (parts.toList.map fun (i,x)=>(i,fr.ev E x))).map fun v=>(v,Z)
 |.load t a=>match fr.ev E a with
  |.ref loc s off=>(Z.dK loc s).bind fun cs=>(gV E.P t cs off).map fun v=>(v,Z)
  |.aX cs off=>(gV E.P t cs off).map fun v=>(v,Z)
  |_=>none
 |.store t a x=>match fr.ev E a with
  |.ref loc s off=>(Z.dK loc s).bind fun cs=>
   if some (fr.ev E x).cells.length=dF E.P t/\off+(fr.ev E x).cells.length<=cs.length/\bY (fr.ev E x).cells then some (aJ,Z.setObj loc s (.cells (gI cs off (fr.ev E x).cells))) else none
  |_=>none
 |.nilCheck x=>match fr.ev E x with
  |.ref loc s off=>some (.ref loc s off,Z)|.aX cs off=>some (.aX cs off,Z)|.fn (.func f) a b=>some (.fn (.func f) a b,Z)|_=>none
 |.binOp op t x y _=>(rZ E.P op t (fr.ev E x) (fr.ev E y)).map fun v=>(v,Z)
 |.unOp op _ x=>(Eo op (fr.ev E x)).map fun v=>(v,Z)
 |.convert a b x=>(Ah E.P Z a b (fr.ev E x)).map fun v=>(v,Z)
 |.sliceToArrayPointer t x=>(uW E.P t).bind fun (n,_)=>match fr.ev E x with
  |.aU loc s off len _ _ _=>if 0<n/\n<=len then some (.ref loc s off,Z) else none|.ak _ l=>if 0<n/\n<=l.length/\bY l=true then some (.aX (l.take n) 0,Z) else none|_=>none
 |.makeInterface t x=>match E.P.underlying t with
  |some (.interface _)=>none|some _=>some (.iface t (fr.ev E x),Z)|none=>none
 |.makeFunc (.func f) a b=>some (.fn (.func f) (a.toList.map (fr.ev E)) (b.toList.map (fr.ev E)),Z)|.makeMap _ none=>loc.map fun loc=>(.dQ loc st,Z.setObj loc st (.map [] []))
 |.makeSlice t l c=>Ai E.P fr.aj Z st loc t (fr.ev E l) (fr.ev E c)|.slice t x lo hi mx=>(kQ E.P Z t (fr.ev E x) (kP E fr lo) (kP E fr hi) (kP E fr mx)).map fun v=>(v,Z)
 |.fieldAddr t x f=>(xL E.P t f).bind fun (o,_)=>match fr.ev E x with
  |.ref loc s off=>some (.ref loc s (off+o),Z)|.aX cs off=>some (.aX cs (off+o),Z)|_=>none
 |.field t x f=>(xL E.P t f).bind fun (o,u)=>match fr.ev E x with
  |.agg cs=>(gV E.P u cs o).map fun v=>(v,Z)
  |_=>none
 |.indexAddr t x i=>(p9 E.P t (fr.ev E x) (fr.ev E i)).map fun v=>(v,Z)
 |.index t x i=>(Er E.P t (fr.ev E x) (fr.ev E i)).map fun v=>(v,Z)
 |.lookup t x i ok=>(yY E.P Z t (fr.ev E x) (fr.ev E i) ok).map fun v=>(v,Z)
 |.mapUpdate t m k v|.insert t m k v=>(uY E.P Z t (fr.ev E m) (fr.ev E k) (fr.ev E v)).map fun Z=>(aJ,Z)
 |.extract x i=>match fr.ev E x with
  |.bK vs=>(vs[i]?).map fun v=>(v,Z)
  |_=>none
 |.typeAssert x _ t ok=>(UN E.P t ok (fr.ev E x)).map fun v=>(v,Z)
 |_=>none
def uZ (Z:ah)(t:TypeId)(x:V):Option Nat:=
 match E.P.underlying t,x with
 |some (.array n _),_=>some n|some (.map _ _),.dQ loc s=>(Z.jh loc s).map fun (ks,_)=>ks.length
 |some (.map _ _),.eF ks _=>some ks.length|some (.map _ _),.gP=>some 0|some (.pointer a),_=>(uW E.P a).map fun (n,_)=>n
 |some (.slice _),.ak _ l=>some l.length|some (.slice _),.aU _ _ _ len _ _ _=>some len|some .string,.str s=>some s.length|_,_=>none
def qD (aj:Bool)(loc:Option Loc)(Z:ah)(st:Nat)(b:Builtin)(tys:Array TypeId)(args:List V):Option (V×ah):=
 match b,args with
 |.len,[x]=>(tys[0]?).bind fun t=>(uZ E Z t x).map fun n=>(.int .i64 (n:Nat),Z)
 |.cap,[x]=>(tys[0]?).bind fun t=>(lG E.P t).bind fun _=>match x with
  |.ak .nil l|.ak .full l=>some (.int .i64 l.length,Z)|_=>none
 |.append,[x,y]=>(tys[0]?).bind fun t=>((tys[1]?).bind E.P.underlying).bind fun u=>match u with
  |.int _=>ku E.P aj true Z st loc t x y|.slice _|.string=>ku E.P aj false Z st loc t x y|_=>none
 |.copy,[x,y]=>(tys[0]?).bind fun t=>copyV E.P Z t x y
 |.clear,[x]=>(tys[0]?).bind fun t=>Gp E.P Z t x
 |.min,x::l=>(xM false x l).map fun v=>(v,Z)
 |.max,x::l=>(xM true x l).map fun v=>(v,Z)
 |_,_=>none
structure iN where
 code:Code->Fr->ah->Option (Ex×Fr×ah)
 call:FuncId->List V->Nat->ah->Option (V×ah)
variable (S:iN)
def lZ (f:FuncId)(args:List V):Option V:=
 match E.mV f with
 |some g=>g args|none=>(S.call f args 1 ah.init).bind fun (v,Z)=>bg 20 Z v
def xQ (l:Nat)(args:List V)(Z:ah):Option (V×ah):=
 (Z.loops l).bind fun r=>
 if r.st=0/\r.ps.length=args.length then (S.code r.gq {r.fr with tm:=(r.ps.zip args).foldl (fun tm (p,a)=>upd tm p a) r.fr.tm} Z).bind fun (e,fr,Z1)=>
  match e with
  |.normal=>(Z1.loops l).bind fun r1=>
   if r1.st=0 then (S.code r.body fr (Z1.mR l {r1 with st:=1})).bind fun (e,_,Z2)=>(Z2.loops l).bind fun r2=>
    if r2.st=1 then match e with
     |.normal=>some (.bool true,Z2.mR l {r2 with st:=0,pend:=none})
     |e=>some (.bool false,Z2.mR l {r2 with st:=2,pend:=some e})else none else none
  |_=>none else none
def jI (d:Nat)(Z:ah)(fv:V)(args:List V):Option (V×ah):=
 match fv with
 |.fn (.func f) first cap=>
  if E.imp f then S.call f (first++args++cap) (d+1) Z else ((first++args++cap).mapM (bg 20 Z)).bind fun cB=>(lZ E S f cB).bind fun v=>
   if (first++args++cap).all (fun a=>aQ (er a))||flat v then some (v,Z) else none
 |.fn (.yield l) [] []=>xQ S l args Z|_=>none
def kX (fr:Fr)(o:Oper)(f:Operand):Bool:=match fr.ev E f,o.dst with
 |.fn (.func g) _ _,some d=>E.own g d|_,_=>false
def q9 (Z:ah)(st:Nat)(Z1:ah):V->Option (V×ah)
 |.ak c l=>if bQ l=true then (match c with
  |.nil=>some (.ak .nil l,Z)|.full=>some (.ak .full l,Z)|.own n s=>if Z1.top s=l.length then some (.ak (.own n st) l,Z.dY st l.length) else none|.sh=>none) else none
 |.aU loc s off len _ bD _=>if off=0/\len=0 then (Z1.dK loc s).bind fun _=>some (.ak (.own bD st) [],Z.dY st 0) else none
 |_=>none
def u6 (b:Bool)(Z:ah)(l:List V):Option (List V):=if b=true then (match l with
 |.ak .nil []::l=>(l.mapM (bg 20 Z)).map (.ak .nil []:: ·)|_=>none) else l.mapM (bg 20 Z)
def qE (Z:ah)(st:Nat)(fv:V)(args:List V):Option (V×ah):=
 match fv with
 |.fn (.func f) first cap=>if (first++args++cap).all (fun a=>aQ (er a))=true then (u6 (E.y5 f) Z (first++args++cap)).bind fun cB=>(S.call f cB 1 ah.init).bind fun (v0,Z1)=>q9 Z st Z1 v0 else none
 |_=>none
def opC (fr:Fr)(Z:ah)(st:Nat)(o:Oper):Option (V×Fr×ah):=
 match o.op with
 |.call c=>
  match c.callee with
  |.builtin b=>(qD E fr.aj (o.dst.map fun t=>(fr.d,E.cn t)) Z st b c.argTypes (c.args.toList.map (fr.ev E))).map fun (v,Z)=>(v,fr,Z)
  |.value f=>if kX E fr o f=true then (qE E S Z st (fr.ev E f) (c.args.toList.map (fr.ev E))).map fun (v,Z)=>(v,fr,Z) else (jI E S fr.d Z (fr.ev E f) (c.args.toList.map (fr.ev E))).map fun (v,Z)=>(v,fr,Z)
  |.invoke .. =>none
 |.defer _=>none|_=>(dh E fr Z st o).map fun (v,Z)=>(v,fr,Z)
def fD (ops:List Oper)(fr:Fr)(o:Oper):Option Bool:=
 match o.guard with
 |none=>some true|some (j,want)=>match (ops[j]?).bind (·.dst) with
  |some t=>match fr.tm t with
   |.bool b=>some (b==want)|.raw _=>none|_=>some false
  |none=>some false
def opsE (all:List Oper):Nat->List Oper->Fr->ah->Option (Fr×ah)
 |_,[],fr,Z=>some (fr,Z)|st,o::os,fr,Z=>
  (fD all fr o).bind fun t=>if t then (opC E S fr Z st o).bind fun (v,fr,Z)=>opsE all (st+1) os (fr.put o.dst v) Z else opsE all (st+1) os (fr.put o.dst aJ) Z
inductive Key where
 |slot (t:Nat)
 |obj (l:Loc)
 |top
 |rest
 |nx
def ru (a b:Loc):Bool:=a.2==b.2&& a.1==b.1
def Key.eq:Key->Key->Bool
 |.slot a,.slot b=>a==b|.obj a,.obj b=>ru a b|.top,.top=>true|.rest,.rest=>true|.nx,.nx=>true|_,_=>false
def Key.state:Key->Bool
 |.obj _|.top|.nx=>true|_=>false
structure dJ where
 qb:Bool
 lH:Bool
 t:List Key
 w:List Key
def jN:V->List Key
 |.ref loc _ _|.aU loc _ _ _ _ _ _|.dQ loc _=>[.obj loc]|_=>[]
def vZ (fr:Fr)(o:Oper):List Key:=match o.dst with
 |some t=>[.obj (fr.d,t)]|none=>[]
def mE (t:List Key):dJ:=⟨false,false,t,[]⟩
def mG (w:List Key):dJ:=⟨false,false,[],w⟩
def gB:dJ:=⟨true,true,[],[]⟩
def fT (fr:Fr)(o:Oper):dJ:=
 match o.op with
 |.buildSlice .. =>if Aj E o.dst=true then gB else mE []
 |.assign _|.pick .. |.build .. |.nilCheck _|.binOp .. |.unOp .. |.makeInterface .. |.typeAssert .. |.makeFunc .. |.fieldAddr .. |.field .. |.indexAddr .. |.index .. |.extract ..
 |.sliceToArrayPointer .. =>mE []|.move x=>if y7 E o.dst=true then mG (jN (fr.ev E x)) else mE []|.convert _ _ x|.slice _ x _ _ _|.load _ x|.lookup _ x _ _=>mE (jN (fr.ev E x))|.alloc _|.box .. |.makeMap .. =>mG (vZ fr o)|.makeSlice .. =>mG (.top::vZ fr o)|.store _ a _=>mG (jN (fr.ev E a))|.mapUpdate _ m _ _|.insert _ m _ _=>mG (jN (fr.ev E m))|.call c=>match c.callee with
  |.builtin b=>match b with
   |.len|.cap|.min|.max=>mE (c.args.toList.flatMap fun x=>jN (fr.ev E x))
   |.append=>if fr.aj then gB else ⟨false,false,c.args.toList.flatMap fun x=>jN (fr.ev E x),[.top]⟩
   |_=>gB
  |.value f=>if kX E fr o f=true then mG [.top] else match fr.ev E f with
   |.fn (.func g) a b=>if E.imp g then gB else if (a++c.args.toList.map (fr.ev E)++b).all (fun v=>aQ (er v)) then mE [] else ⟨true,false,[],[]⟩
   |_=>gB
  |_=>gB
 |_=>gB
def rU (ops:List Oper)(o:Oper):List Key:=
 (o.op.operands.toList.filterMap fun|.tmp t=>some (.slot t)|_=>none)++
 match o.guard with
 |some (j,_)=>match (ops[j]?).bind (·.dst) with
  |some t=>[.slot t]|none=>[]
 |none=>[]
def nG (o:Oper):List Key:=match o.dst with
 |some t=>[.slot t]|none=>[]
def dW (ops:List Oper)(fr:Fr)(o:Oper)(wanted:Bool):dJ:=
 if wanted then let f:=fT E fr o;⟨f.qb,f.lH,rU ops o++f.t,nG o++f.w⟩else ⟨false,false,rU ops o,nG o⟩
def clash (f g:dJ):Bool:=
 (f.lH&& (g.qb||g.lH||g.t.any Key.state||g.w.any Key.state))||f.w.any fun k=>k.eq .rest||g.t.any (·.eq k)||g.w.any (·.eq k)||(g.qb||g.lH)&& k.state
def UO (f g:dJ):Bool:= !clash f g&& !clash g f
def nK (ops:List Oper):List Nat:=
 ops.foldl (fun acc o=>acc++[o.after.toList.foldl (fun s e=>if Region.binds .any e then s|||2^e.on|||acc.getD e.on 0 else s) 0]) []
def Ak (ms:List Nat)(fs:List dJ):Bool:=
 (List.range fs.length).all fun i=>(List.range i).all fun j=>(ms.getD i 0).testBit j||UO (fs.getD i gB) (fs.getD j gB)
def qc (ops:List Oper):Bool:=
 (List.range ops.length).all fun i=>match ops[i]? with
   |some o=>o.after.toList.all fun e=>!Region.binds .any e||decide (e.on<i)
   |none=>true
def l5 (all:List Oper):Nat->List Oper->Fr->ah->Option (List dJ×Fr×ah)
 |_,[],fr,Z=>some ([],fr,Z)|st,o::os,fr,Z=>
  (fD all fr o).bind fun t=>if t then (opC E S fr Z st o).bind fun (v,bJ,Z)=>(l5 all (st+1) os (bJ.put o.dst v) Z).map fun (fs,r)=>(dW E all fr o true::fs,r)else (l5 all (st+1) os (fr.put o.dst aJ) Z).map fun (fs,r)=>(dW E all fr o false::fs,r)
def dZ (k:Key)(x y:Fr×ah):Prop:=
 match k with
 |.slot t=>x.1.tm t=y.1.tm t|.obj l=>x.2.obj l=y.2.obj l|.top=>x.2.top=y.2.top|.rest=>x.1.d=y.1.d/\x.1.aj=y.1.aj|.nx=>x.2.next=y.2.next/\x.2.loops=y.2.loops
def jc (ops:List Oper)(base i:Nat)(fr:Fr)(Z:ah):Option (Fr×ah):=
 match ops[i]? with
 |none=>some (fr,Z)|some o=>
  (fD ops fr o).bind fun t=>if t then (opC E S fr Z (base+i) o).map fun (v,fr,Z)=>(fr.put o.dst v,Z)else some (fr.put o.dst aJ,Z)
def Free (ms:List Nat)(ops:List Oper)(base:Nat)(x y:Fr×ah):Prop:=
 ∃(s:Nat->Fr×ah) (T W:Nat->Key->Prop),s 0=x/\s ops.length=y/\(∀i k,W i k->T i k)/\
  (∀i,i<ops.length->∀x,(∀k,T i k->dZ k (s i) x)->∃y,jc E S ops base i x.1 x.2=some y/\(∀k,W i k->dZ k (s (i+1)) y)/\∀k,¬W i k->dZ k x y)/\
  (∀i,i<ops.length->∀k,¬W i k->dZ k (s i) (s (i+1)))/\
  ∀i j,i<ops.length->j<i->(ms.getD i 0).testBit j=true\/((∀k,¬(W i k/\T j k))/\∀k,¬(W j k/\T i k))
noncomputable def KZ {J:Type}(p:Prop)(x:Option J):Option J:= @ite _ p (Classical.propDecidable p) x none
def UQ:V->Bool
 |.fn (.func _) _ _=>true|_=>false
noncomputable def dX:Code->Fr->ah->Option (Ex×Fr×ah)
 |.skip,fr,Z=>some (.normal,fr,Z)|.region _ ops dr,fr,Z=>
  if dr then (l5 E S ops.toList Z.next ops.toList fr {Z with next:=Z.next+ops.toList.length}).bind fun (fs,fr',Z')=>if qc ops.toList&& Ak (nK ops.toList) fs then some (.normal,fr',Z') else KZ (qc ops.toList=true/\Free E S (nK ops.toList) ops.toList Z.next (fr,{Z with next:=Z.next+ops.toList.length}) (fr',Z')) (some (.normal,fr',Z'))else (opsE E S ops.toList Z.next ops.toList fr {Z with next:=Z.next+ops.toList.length}).map fun (fr,Z)=>(.normal,fr,Z)
 |.seq a b,fr,Z=>(dX a fr Z).bind fun (e,fr,Z)=>match e with
  |.normal=>dX b fr Z|e=>some (e,fr,Z)
 |.cond c a b,fr,Z=>(xO (fr.ev E c)).bind fun t=>if t then dX a fr Z else dX b fr Z
 |.block id c,fr,Z=>(dX c fr Z).map fun (e,fr,Z)=>match e with
  |.exit i=>if i=id then (.normal,fr,Z) else (.exit i,fr,Z)|e=>(e,fr,Z)
 |.loop c,fr,Z=>(dX c fr Z).bind fun (e,fr,Z)=>match e with
  |.normal=>S.code (.loop c) fr Z|e=>some (e,fr,Z)
 |.scope c,fr,Z=>dX c fr Z|.label _,fr,Z=>some (.normal,fr,Z)|.exit id,fr,Z=>some (.exit id,fr,Z)|.ret,fr,Z=>some (.ret,fr,Z)|.rangeFunc f ps gq body,fr,Z=>
  if UQ (fr.ev E f) then (jI E S fr.d ({Z with next:=Z.next+1}.mR Z.next {st:=0,pend:=none,fr:=fr,ps:=ps.toList,gq:=gq,body:=body}) (fr.ev E f) [.fn (.yield Z.next) [] []]).bind fun (_,Z2)=>(Z2.loops Z.next).bind fun r=>
  if r.st=1 then none else some ((match r.pend with|none=>.normal|some e=>e),fr,Z2.uV Z.next)else none
 |_,_,_=>none
def jo (fr:Fr)(Z:ah):ResultVar->Option V
 |.tmp t=>some (fr.tm t)|.cell a t=>match fr.tm a with
  |.ref loc s off=>(Z.dK loc s).bind fun cs=>gV E.P t cs off
  |_=>none
def Gr (n:Nat)(ops:List Oper):Bool:=ops.all fun o=>match o.dst with
 |some d=>d<n|none=>true
def iD (n:Nat):Code->Bool
 |.region _ ops _=>Gr n ops.toList|.seq a b=>iD n a&& iD n b|.cond _ a b=>iD n a&& iD n b|.block _ c=>iD n c|.loop c=>iD n c|.scope c=>iD n c|.rangeFunc _ ps a b=>ps.toList.all (· <n)&& iD n a&& iD n b&& j4 a&& j4 b|_=>true
noncomputable def qF (f:FuncId)(args:List V)(d:Nat)(Z:ah):Option (V×ah):=
 (E.P.funcs[f]?).bind fun fn=>fn.body.bind fun c=>
 if args.length<=fn.ntmps/\iD fn.ntmps c then (S.code c {d:=d,aj:=E.aj f,tm:=fun i=>args.getD i aJ} Z).bind fun (e,fr,Z)=>
 match e with
 |.normal|.ret=>
  (fn.results.toList.mapM (jo E fr Z)).map fun vs=>(match vs with| [v]=>v|vs=>.bK vs,Z)
 |.exit _=>none else none
noncomputable def bH:Nat->iN
 |0=>⟨fun _ _ _=>none,fun _ _ _ _=>none⟩
 |n+1=>⟨dX E (bH n),qF E (bH n)⟩
end
end aR
end
section
namespace aR
open Go Go.RowKit
inductive Gs where
 |obj (loc:Loc)
 |own (s:Nat)
 |loop (l:Nat)
structure bq where
 A:Nat->Prop
 blk:Nat->Nat
 sz:Nat->Nat
 ob:Nat->Nat
 lo:Nat->Nat
 hi:Nat->Nat
 lp:Nat->Nat
 I:Nat->Nat->Prop
 IM:Nat->Prop
 D:Nat->Prop
 C:Nat->Option Gs
abbrev at_ (b o:Nat):Addr:=⟨b,o,none⟩
def tL (K:bq)(T:Nat->Nat)(c:Cap)(n b o len cap:Nat):Prop:=
 match c with
 |.sh=>True|.full=>cap=len|.nil=>False|.own n' s=>n'=n/\K.A s/\len<=T s/\(len=T s->K.ob s=b/\K.lo s=o+len*n/\K.hi s=o+cap*n)
def K3 (K:bq)(T:Nat->Nat)(c:Cap):Prop:=
 match c with
 |.own _ s=>K.A s/\(T s=0->K.hi s=K.lo s)|_=>True
inductive Rel (K:bq)(T:Nat->Nat)(w:World):V->Value->Prop
 |int (k:IntKind) (n:Int):Rel K T w (.int k n) (.int k n)
 |bool (b:Bool):Rel K T w (.bool b) (.bool b)
 |str (s:List UInt8) (b:ByteArray) (h:b.data.toList=s):Rel K T w (.str s) (.string b)
 |gU:Rel K T w .gU (.pointer none)
 |gH:Rel K T w .gH .nilFunc
 |gP:Rel K T w .gP (.map none)
 |iH:Rel K T w .iH .nilIface
 |agg (cs:List V) (vs:Array Value) (hl:cs.length=vs.size) (h:∀i,i<cs.length->Rel K T w (cs.getD i aJ) (vs.getD i undef)):Rel K T w (.agg cs) (.agg vs)
 |bK (cs:List V) (vs:Array Value) (hl:cs.length=vs.size) (h:∀i,i<cs.length->Rel K T w (cs.getD i aJ) (vs.getD i undef)):Rel K T w (.bK cs) (.tuple vs)
 |gD (c:Cap) (a:Option Addr) (ha:c= .nil->a=none) (hc:K3 K T c):Rel K T w (.ak c []) (.slice a 0 0)
 |ak (c:Cap) (l:List V) (b o n cap:Nat) (val:Nat->Nat->Value) (hle:l.length<=cap)
   (hn:∀i,i<l.length->(l.getD i aJ).cells.length=n)
   (hcell:∀i j,i<l.length->j<n->w.cell? (at_ b (o+i*n+j))=some (val i j)/\K.I b (o+i*n+j))
   (hrel:∀i j,i<l.length->j<n->Rel K T w ((l.getD i aJ).cells.getD j aJ) (val i j))
   (hc:tL K T c n b o l.length cap):Rel K T w (.ak c l) (.slice (some (at_ b o)) l.length cap)
 |aU (loc:Loc) (s off len cap bD:Nat) (ag:Bool) (fq:Nat) (hA:K.A s) (hc:cap<=fq) (hle:len<=cap) (hsz:off+fq*bD<=K.sz s):
   Rel K T w (.aU loc s off len cap bD ag) (.slice (some (at_ (K.blk s) off)) len fq)
 |om (loc:Loc) (s bD:Nat) (ag:Bool) (hA:K.A s):Rel K T w (.aU loc s 0 0 0 bD ag) (.slice none 0 0)
 |aX (cs:List V) (off b o:Nat) (val:Nat->Value)
   (hcell:∀j,j<cs.length->w.cell? (at_ b (o+j))=some (val j)/\K.I b (o+j))
   (hrel:∀j,j<cs.length->Rel K T w (cs.getD j aJ) (val j)):Rel K T w (.aX cs off) (.pointer (some (at_ b (o+off))))
 |ref (loc:Loc) (s off:Nat) (hA:K.A s):Rel K T w (.ref loc s off) (.pointer (some (at_ (K.blk s) off)))
 |fn (f:FuncId) (a b:List V) (kI bv:Array Value) (ha:a.length=kI.size) (hb:b.length=bv.size)
   (ra:∀i,i<a.length->Rel K T w (a.getD i aJ) (kI.getD i undef)) (rb:∀i,i<b.length->Rel K T w (b.getD i aJ) (bv.getD i undef)):
   Rel K T w (.fn (.func f) a b) (.func (.func f) kI bv)
 |yield (l:Nat) (hA:K.A l):Rel K T w (.fn (.yield l) [] []) (.func (.yield (K.lp l)) #[] #[])
 |dQ (loc:Loc) (s:Nat) (hA:K.A s):Rel K T w (.dQ loc s) (.map (some (K.blk s)))
 |eF (ks vs:List V) (b:Nat) (es:Array MapEntry) (dL:Nat) (hM:K.IM b) (hb:w.heap[b]? =some (.map es dL))
   (hk:ks.length=es.size) (hv:vs.length=es.size)
   (rk:∀i,i<es.size->Rel K T w (ks.getD i aJ) (es.getD i default).key) (rv:∀i,i<es.size->Rel K T w (vs.getD i aJ) (es.getD i default).val):
   Rel K T w (.eF ks vs) (.map (some b))
 |iface (t:TypeId) (v:V) (c:Value) (h:Rel K T w v c):Rel K T w (.iface t v) (.iface t c)
 |raw (v:Value):Rel K T w (.raw v) v
structure Ext (K:bq)(T:Nat->Nat)(w:World)(K':bq)(T':Nat->Nat)(w':World):Prop where
 A:∀s,K.A s->K'.A s/\K'.blk s=K.blk s/\K'.lp s=K.lp s/\K'.sz s=K.sz s
 own:∀s,K.A s->(T' s=T s/\K'.ob s=K.ob s/\K'.lo s=K.lo s/\K'.hi s=K.hi s)\/T s<T' s
 I:∀b o,K.I b o->K'.I b o/\w'.cell? (at_ b o)=w.cell? (at_ b o)
 IM:∀b,K.IM b->K'.IM b/\w'.heap[b]? =w.heap[b]?
theorem Ext.refl (K:bq)(T:Nat->Nat)(w:World):Ext K T w K T w:=
 ⟨fun _ h=>⟨h,rfl,rfl,rfl⟩,fun _ _=>.inl ⟨rfl,rfl,rfl,rfl⟩,fun _ _ h=>⟨h,rfl⟩,fun _ h=>⟨h,rfl⟩⟩
theorem Ext.trans {K T w K1 T1 w1 K2 T2 w2}(h:Ext K T w K1 T1 w1)(g:Ext K1 T1 w1 K2 T2 w2):Ext K T w K2 T2 w2 where
 A s hs:=by obtain⟨a,b,c,d⟩:=h.A s hs;obtain⟨a',b',c',d'⟩:=g.A s a;exact⟨a',b'.trans b,c'.trans c,d'.trans d⟩
 own s hs:=by
  obtain⟨a,_,_,_⟩:=h.A s hs;rcases h.own s hs with ⟨h1,h2,h3,h4⟩|h1
  .rcases g.own s a with ⟨g1,g2,g3,g4⟩|g1
   .exact .inl ⟨g1.trans h1,g2.trans h2,g3.trans h3,g4.trans h4⟩
   .exact .inr RS
  .rcases g.own s a with ⟨g1,_⟩|g1
   .exact .inr RS
   .exact .inr RS
 I b o hb:=by obtain⟨a,e⟩:=h.I b o hb;obtain⟨a',e'⟩:=g.I b o a;exact⟨a',e'.trans e⟩
 IM b hb:=by obtain⟨a,e⟩:=h.IM b hb;obtain⟨a',e'⟩:=g.IM b a;exact⟨a',e'.trans e⟩
theorem tL.ext {K T w K' T' w'}(e:Ext K T w K' T' w'){c:Cap}{n b o len cap:Nat}(h:tL K T c n b o len cap):tL K' T' c n b o len cap:=by
 cases c with
 |sh=>trivial|full=>exact h|nil=>exact h|own n' s=>
  obtain⟨h1,h2,h3,h4⟩:=h;refine⟨h1,(e.A s h2).1,?_,?_⟩
  .rcases e.own s h2 with ⟨e1,_⟩|e1<;>omega
  .intro hl;rcases e.own s h2 with ⟨e1,e2,e3,e4⟩|e1
   .rw[e2,e3,e4];exact h4 RS
   .omega
theorem K3.ext {K T w K' T' w'}(e:Ext K T w K' T' w'){c:Cap}(h:K3 K T c):K3 K' T' c:=by
 cases c with
 |own n' s=>
  refine⟨(e.A s h.1).1,fun h0=>?_⟩;rcases e.own s h.1 with ⟨e1,_,e3,e4⟩|e1
  .rw[e3,e4];exact h.2 RS
  .omega
 |_=>trivial
theorem Rel.ext {K T w K' T' w'}(e:Ext K T w K' T' w'){v:V}{c:Value}(h:Rel K T w v c):Rel K' T' w' v c:=by
 induction h with
 |int k n=>exact .int k n|bool b=>exact .bool b|str s b h=>exact .str s b h|gU=>exact .gU|gH=>exact .gH|gP=>exact .gP|iH=>exact .iH|agg cs vs hl _ ih=>exact .agg cs vs hl ih|bK cs vs hl _ ih=>exact .bK cs vs hl ih|gD c a ha hc=>exact .gD c a ha (hc.ext e)|ak c l b o n cap val hle hn hcell _ hc ih=>refine .ak c l b o n cap val hle hn (fun i j hi hj=>?_) ih (hc.ext e);obtain⟨h1,h2⟩:=hcell i j hi hj;obtain⟨g1,g2⟩:=e.I _ _ h2;exact⟨g2.trans h1,g1⟩
 |aU loc s off len cap bD ag fq hA hc hle hsz=>have:=(e.A s hA);rw[<-this.2.1];exact .aU loc s off len cap bD ag fq this.1 hc hle (by rw[this.2.2.2];exact hsz)|om loc s bD ag hA=>exact .om loc s bD ag (e.A s hA).1|aX cs off b o val hcell _ ih=>refine .aX cs off b o val (fun j hj=>?_) ih;obtain⟨h1,h2⟩:=hcell j hj;obtain⟨g1,g2⟩:=e.I _ _ h2;exact⟨g2.trans h1,g1⟩
 |ref loc s off hA=>have:=(e.A s hA);rw[<-this.2.1];exact .ref loc s off this.1|fn f a b kI bv ha hb _ _ iha ihb=>exact .fn f a b kI bv ha hb iha ihb|yield l hA=>have:=(e.A l hA);rw[<-this.2.2.1];exact .yield l this.1|dQ loc s hA=>have:=(e.A s hA);rw[<-this.2.1];exact .dQ loc s this.1|eF ks vs b es dL hM hb hk hv _ _ ihk K4=>obtain⟨g1,g2⟩:=e.IM b hM;exact .eF ks vs b es dL g1 (g2.trans hb) hk hv ihk K4
 |iface t v c _ ih=>exact .iface t v c ih|raw v=>exact .raw v
theorem Rel.undef (K T w):Rel K T w aJ undef:=.bK [] #[] rfl (fun i hi=>absurd hi (fZ i))
def jZ.real:jZ->Prop
 |.cells []=>False|_=>True
def Gt (K:bq)(T:Nat->Nat)(w:World)(B0 s:Nat):jZ->Prop
 |.cells cs=>(cs=[]->K.sz s=0)/\(cs≠[]->B0<=K.blk s/\∃vals t,w.heap[K.blk s]? =some (.cells vals t (0,0))/\vals.size=K.sz s/\cs.length<=vals.size/\
    ∀i,i<cs.length->Rel K T w (cs.getD i aJ) (vals.getD i undef))
 |.map ks vs=>B0<=K.blk s/\∃es dL,w.heap[K.blk s]? =some (.map es dL)/\ks.length=es.size/\vs.length=es.size/\
    (∀i,i<es.size->Rel K T w (ks.getD i aJ) (es.getD i default).key)/\(∀i,i<es.size->Rel K T w (vs.getD i aJ) (es.getD i default).val)
def l6 (K:bq)(T:Nat->Nat)(w:World)(fr:Fr)(tmps:Array Value):Prop:=∀t,Rel K T w (fr.tm t) (tmps.getD t undef)
def u7:Ex->Option Code
 |.normal=>none|.exit i=>some (.exit i)|.ret=>some .ret
def tN (n:Nat):LoopState:=if n=0 then .ready else if n=1 then .busy else .done
def K5 (K:bq)(T:Nat->Nat)(w:World)(B0 l:Nat)(r:Em):Prop:=
 B0<=K.lp l/\K.C (K.lp l)=some (.loop l)/\∃(fn:FuncId) (tmps:Array Value) (D:Nat),
  w.heap[K.lp l]? =some (.loop {state:=tN r.st,pending:=r.pend.bind u7,fn:=fn,tmps:=tmps,params:=r.ps.toArray,assign:=r.gq,body:=r.body,defers:=D})/\
  l6 K T w r.fr tmps/\iD tmps.size r.gq=true/\iD tmps.size r.body=true/\(∀p∈r.ps,p<tmps.size)/\j4 r.gq=true/\j4 r.body=true
def UR (K:bq)(w:World)(B0 s:Nat):Prop:=
 B0<=K.ob s/\K.C (K.ob s)=some (.own s)/\∀o,K.lo s<=o->o<K.hi s->¬K.I (K.ob s) o/\(∃v,w.cell? (at_ (K.ob s) o)=some v)/\w.frozen? (at_ (K.ob s) o)=false
structure bG (E:Env)(B0:Nat)(Z:ah)(K:bq)(w:World):Prop where
 obj:∀loc s ob,Z.obj loc=some (s,ob)->K.A s/\Gt K Z.top w B0 s ob/\(ob.real->K.C (K.blk s)=some (.obj loc))
 own:∀s,K.A s->K.lo s<K.hi s->UR K w B0 s
 I:∀b o,K.I b o->(∃v,w.cell? (at_ b o)=some v)/\∀loc,K.C b≠some (.obj loc)
 IM:∀b,K.IM b->(∃es dL,w.heap[b]? =some (.map es dL))/\∀loc,K.C b≠some (.obj loc)
 loop:∀l r,Z.loops l=some r->K.A l/\K5 K Z.top w B0 l r
 glob:∀g cs,E.glob g=some cs->Rel K Z.top w (.aX cs 0) (.pointer (some (at_ g 0)))
 rb:∀b r,K.C b=some r->b<w.heap.size/\B0<=b
 D:∀b,K.D b->w.heap[b]? =some (.deferred (some []))
structure Only (b:Nat)(w w':World):Prop where
 os:w'.os=w.os
 tape:w'.tape=w.tape
 output:w'.output=w.output
 size:w.heap.size<=w'.heap.size
 block:∀k,k≠b->k<w.heap.size->w'.heap[k]? =w.heap[k]?
theorem Only.below {b B0:Nat}{w w':World}(h:Only b w w')(hb:B0<=b)(hB:B0<=w.heap.size):Below B0 w w':=
 ⟨h.os,h.tape,h.output,h.size,fun k hk=>h.block k RS RS⟩
theorem cell_of_heap {w w':World}{b o:Nat}(h:w'.heap[b]? =w.heap[b]?):w'.cell? (at_ b o)=w.cell? (at_ b o):=by simp[World.cell?,h]
theorem frozen_of_heap {w w':World}{b o:Nat}(h:w'.heap[b]? =w.heap[b]?):w'.frozen? (at_ b o)=w.frozen? (at_ b o):=by simp[World.frozen?,h]
theorem lt_of_cell {w:World}{b o:Nat}{v:Value}(h:w.cell? (at_ b o)=some v):b<w.heap.size:=World.block_lt_of_cell? w (at_ b o) h
theorem lt_of_heap {w:World}{b:Nat}{o:Obj}(h:w.heap[b]? =some o):b<w.heap.size:=(Array.getElem?_eq_some_iff.1 h).1
theorem l6.ext {K T w K' T' w'}(e:Ext K T w K' T' w'){fr:Fr}{tmps:Array Value}(h:l6 K T w fr tmps):l6 K' T' w' fr tmps:=fun t=>(h t).ext e
theorem Gt.ext {K T w K' T' w'}(e:Ext K T w K' T' w'){B0 s:Nat}(hA:K.A s){ob:jZ}(h:Gt K T w B0 s ob)(hb:ob.real->w'.heap[K.blk s]? =w.heap[K.blk s]?):
 Gt K' T' w' B0 s ob:=by
 obtain⟨_,e2,_,e4⟩:=e.A s hA;cases ob with
 |cells cs=>refine⟨fun h0=>by rw[e4];exact h.1 h0,fun hne=>?_⟩;obtain⟨h1,vals,t,h2,h3,h4,h5⟩:=h.2 hne;have hb':=hb (by cases cs with|nil=>exact absurd rfl hne|cons _ _=>trivial);refine⟨by rw[e2];exact h1,vals,t,by rw[e2,hb',h2],by rw[e4];exact h3,h4,fun i hi=>(h5 i hi).ext e⟩
 |map ks vs=>obtain⟨h1,es,dL,h2,h3,h4,h5,h6⟩:=h;exact⟨by rw[e2];exact h1,es,dL,by rw[e2,hb trivial,h2],h3,h4,fun i hi=>(h5 i hi).ext e,fun i hi=>(h6 i hi).ext e⟩
theorem K5.ext {K T w K' T' w'}(e:Ext K T w K' T' w'){B0 l:Nat}(hA:K.A l){r:Em}(h:K5 K T w B0 l r)(hb:w'.heap[K.lp l]? =w.heap[K.lp l]?)(gJ:K'.C (K.lp l)=K.C (K.lp l)):
 K5 K' T' w' B0 l r:=by
 obtain⟨_,_,e3,_⟩:=e.A l hA;obtain⟨h1,hr,fn,tmps,D,h2,h3,h4⟩:=h;exact⟨by rw[e3];exact h1,by rw[e3,gJ];exact hr,fn,tmps,D,by rw[e3,hb,h2],h3.ext e,h4⟩
theorem bG.upd {E:Env}{B0 b:Nat}{Z Z':ah}{K K':bq}{w w':World}(h:bG E B0 Z K w)(ho:Only b w w')(e:Ext K Z.top w K' Z'.top w')(gJ:∀k,k≠b->K'.C k=K.C k)(amb:∀r,K'.C b=some r->b<w'.heap.size/\B0<=b)(Qg:∀loc s ob,Z'.obj loc=some (s,ob)->(Z.obj loc=some (s,ob)/\(ob.real->K.blk s≠b))\/ (K'.A s/\Gt K' Z'.top w' B0 s ob/\(ob.real->K'.C (K'.blk s)=some (.obj loc))))(hown:∀s,K'.A s->K'.lo s<K'.hi s->(K.A s/\K'.lo s=K.lo s/\K'.hi s=K.hi s/\K'.ob s=K.ob s/\K.ob s≠b)\/UR K' w' B0 s)(hI:∀b' o,K'.I b' o->(K.I b' o/\b'≠b)\/(b'=b/\(∃v,w'.cell? (at_ b o)=some v)/\∀loc,K'.C b≠some (.obj loc)))(UU:∀b',K'.IM b'->(K.IM b'/\b'≠b)\/(b'=b/\(∃es dL,w'.heap[b]? =some (.map es dL))/\∀loc,K'.C b≠some (.obj loc)))(hloop:∀l r,Z'.loops l=some r->(Z.loops l=some r/\K.lp l≠b)\/(K'.A l/\K5 K' Z'.top w' B0 l r))(hD:∀b',K'.D b'->(K.D b'/\b'≠b)\/(b'=b/\w'.heap[b]? =some (.deferred (some [])))):bG E B0 Z' K' w' where
 obj loc s ob hs:=by
  rcases Qg loc s ob hs with ⟨h1,h2⟩|h1
  .obtain⟨a1,a2,a3⟩:=h.obj loc s ob h1;obtain⟨e1,e2,_,_⟩:=e.A s a1;refine⟨e1,a2.ext e a1 (fun hr=>ho.block _ (h2 hr) (h.rb _ _ (a3 hr)).1),fun hr=>?_⟩;rw[e2,gJ _ (h2 hr)];exact a3 hr
  .exact h1
 own s hs hlt:=by
  rcases hown s hs hlt with ⟨h1,h2,h3,h4,h5⟩|h1
  .obtain⟨a1,a2,a3⟩:=h.own s h1 RS;refine⟨by rw[h4];exact a1,by rw[h4,gJ _ h5];exact a2,fun o hl hh=>?_⟩;obtain⟨c1,⟨v,c2⟩,c3⟩:=a3 o RS RS;have hb:=ho.block _ h5 (lt_of_cell c2);rw[h4];refine⟨fun hi=>?_,⟨v,by rw[cell_of_heap hb];exact c2⟩,by rw[frozen_of_heap hb];exact c3⟩;rcases hI _ _ hi with ⟨g,_⟩| ⟨g,_⟩
   .exact c1 g
   .exact h5 g
  .exact h1
 I b' o hi:=by
   rcases hI b' o hi with ⟨h1,h2⟩| ⟨h1,h2,h3⟩
   .obtain⟨⟨v,c⟩,r⟩:=h.I b' o h1;exact⟨⟨v,by rw[cell_of_heap (ho.block _ h2 (lt_of_cell c))];exact c⟩,by rw[gJ _ h2];exact r⟩
   .subst h1;exact⟨h2,h3⟩
 IM b' hi:=by
  rcases UU b' hi with ⟨h1,h2⟩| ⟨h1,h2,h3⟩
  .obtain⟨⟨es,dL,c⟩,r⟩:=h.IM b' h1;exact⟨⟨es,dL,by rw[ho.block _ h2 (lt_of_heap c)];exact c⟩,by rw[gJ _ h2];exact r⟩
  .subst h1;exact⟨h2,h3⟩
 loop l r hl:=by
  rcases hloop l r hl with ⟨h1,h2⟩|h1
  .obtain⟨a1,a2⟩:=h.loop l r h1;refine⟨(e.A l a1).1,a2.ext e a1 (ho.block _ h2 (h.rb _ _ a2.2.1).1) (gJ _ h2)⟩
  .exact h1
 glob g cs hg:=(h.glob g cs hg).ext e
 rb b' r hr:=by
  by_cases hb:b'=b
  .subst hb;exact amb r hr
  .rw[gJ _ hb] at hr;have:=h.rb b' r hr;exact⟨lW this.1 ho.size,this.2⟩
 D b' hd:=by
   rcases hD b' hd with ⟨h1,h2⟩| ⟨h1,h2⟩
   .have:=h.D b' h1;rw[ho.block _ h2 (lt_of_heap this)];exact this
   .rw[h1];exact h2
theorem bG.same {E:Env}{B0:Nat}{Z:ah}{K:bq}{w w':World}(h:bG E B0 Z K w)(hh:w'.heap=w.heap):bG E B0 Z K w':=by
 have e:Ext K Z.top w K Z.top w':=⟨fun _ h=>⟨h,rfl,rfl,rfl⟩,fun _ _=>.inl ⟨rfl,rfl,rfl,rfl⟩,fun b o h=>⟨h,cell_of_heap yQ⟩,fun b h=>⟨h,yQ⟩⟩;refine⟨fun loc s ob hs=>?_,fun s hs hl=>?_,fun b o hi=>?_,fun b hi=>?_,fun l r hl=>?_,fun g cs hg=>(h.glob g cs hg).ext e,fun b r hr=>by rw[hh];exact h.rb b r hr,fun b hb=>by rw[hh];exact h.D b hb⟩
 .obtain⟨a1,a2,a3⟩:=h.obj loc s ob hs;exact⟨a1,a2.ext e a1 (fun _=>yQ),a3⟩
 .obtain⟨a1,a2,a3⟩:=h.own s hs hl;exact⟨a1,a2,fun o p q=>⟨(a3 o p q).1,by rw[cell_of_heap (w:=w) yQ];exact(a3 o p q).2.1,by rw[frozen_of_heap (w:=w) yQ];exact(a3 o p q).2.2⟩⟩
 .obtain⟨a1,a2⟩:=h.I b o hi;exact⟨by rw[cell_of_heap (w:=w) yQ];exact a1,a2⟩
 .obtain⟨a1,a2⟩:=h.IM b hi;exact⟨by rw[hh];exact a1,a2⟩
 .obtain⟨a1,a2⟩:=h.loop l r hl;exact⟨a1,a2.ext e a1 yQ rfl⟩
structure Step (E:Env)(B0:Nat)(new:Nat->Prop)(Z:ah)(K:bq)(w:World)(Z':ah)(K':bq)(w':World):Prop where
 ok:bG E B0 Z' K' w'
 ext:Ext K Z.top w K' Z'.top w'
 below:Below B0 w w'
 D:∀b,K.D b->K'.D b
 A:∀s,K'.A s->K.A s\/new s
 y8:∀b o,K'.I b o->K.I b o\/B0<=b
 y9:∀b,K'.IM b->K.IM b\/B0<=b
theorem Step.refl {E B0 new Z K w}(h:bG E B0 Z K w):Step E B0 new Z K w Z K w:=
 ⟨h,.refl _ _ _,.refl _ _,fun _ h=>h,fun _ h=>.inl h,fun _ _ h=>.inl h,fun _ h=>.inl h⟩
theorem Step.trans {E B0 new Z K w Z1 K1 w1 Z2 K2 w2}(h:Step E B0 new Z K w Z1 K1 w1)(g:Step E B0 new Z1 K1 w1 Z2 K2 w2):Step E B0 new Z K w Z2 K2 w2:=
 ⟨g.ok,h.ext.trans g.ext,h.below.trans g.below,fun b hb=>g.D b (h.D b hb),
   fun s hs=>(g.A s hs).elim (h.A s) .inr,fun b o hi=>(g.y8 b o hi).elim (h.y8 b o) .inr,fun b hi=>(g.y9 b hi).elim (h.y9 b) .inr⟩
theorem Step.mono {E B0 new new' Z K w Z1 K1 w1}(h:Step E B0 new Z K w Z1 K1 w1)(hn:∀s,new s->new' s):Step E B0 new' Z K w Z1 K1 w1:=
 ⟨h.ok,h.ext,h.below,h.D,fun s hs=>(h.A s hs).imp id (hn s),h.y8,h.y9⟩
theorem Step.same {E B0 new Z K w w'}(h:bG E B0 Z K w)(hh:w'.heap=w.heap)(h1:w'.os=w.os)(h2:w'.tape=w.tape)(h3:w'.output=w.output):Step E B0 new Z K w Z K w':=
 ⟨h.same hh,⟨fun _ h=>⟨h,rfl,rfl,rfl⟩,fun _ _=>.inl ⟨rfl,rfl,rfl,rfl⟩,fun b o h=>⟨h,cell_of_heap yQ⟩,fun b h=>⟨h,yQ⟩⟩,
   ⟨h1,h2,h3,by rw[hh];exact mF _,fun k _=>yQ⟩,fun b h=>h,fun _ h=>.inl h,fun _ _ h=>.inl h,fun _ h=>.inl h⟩
theorem Es (w:World)(o:Obj):Only w.heap.size w (w.alloc o):=
 ⟨rfl,rfl,rfl,aB,fun k hk hl=>by show (w.heap.push o)[k]? =_;rw[Array.getElem?_push,if_neg hk]⟩
theorem heap_alloc_new (w:World)(o:Obj):(w.alloc o).heap[w.heap.size]? =some o:=by show (w.heap.push o)[w.heap.size]? =_;simp
theorem heap_alloc_old {w:World}{o:Obj}{k:Nat}(h:k<w.heap.size):(w.alloc o).heap[k]? =w.heap[k]? :=by show (w.heap.push o)[k]? =_;rw[Array.getElem?_push,if_neg RS]
theorem Qh {w:World}{o:Obj}{b i:Nat}{v:Value}(h:w.cell? (at_ b i)=some v):(w.alloc o).cell? (at_ b i)=some v:=by rw[cell_of_heap (heap_alloc_old (lt_of_cell h))];exact h
def bq.mW (K:bq)(st b n:Nat)(loc:Loc):bq:=
 {K with A:=fun s=>K.A s\/s=st,blk:=upd K.blk st b,sz:=upd K.sz st n,lo:=upd K.lo st 0,hi:=upd K.hi st 0,C:=upd K.C b (some (.obj loc))}
theorem upd_same {κ J:Type}[DecidableEq κ](f:κ->J)(k:κ)(v:J):upd f k v k=v:=by simp[upd]
theorem upd_ne {κ J:Type}[DecidableEq κ](f:κ->J){k j:κ}(v:J)(h:j≠k):upd f k v j=f j:=by simp[upd,h]
theorem Step.Qi {E B0 Z K w}(h:bG E B0 Z K w)(hB:B0<=w.heap.size){st:Nat}(hst:¬K.A st)(loc:Loc)(ob:jZ)(o:Obj)(n:Nat)(kJ:∀K',Ext K Z.top w K' Z.top (w.alloc o)->K'.A st->K'.blk st=w.heap.size->K'.sz st=n->Gt K' Z.top (w.alloc o) B0 st ob):
 Step E B0 (· =st) Z K w (Z.setObj loc st ob) (K.mW st w.heap.size n loc) (w.alloc o):=by
 have hne:∀s,K.A s->s≠st:=fun s hs e=>hst (e▸hs);have e:Ext K Z.top w (K.mW st w.heap.size n loc) Z.top (w.alloc o):=by
  refine⟨fun s hs=>⟨.inl hs,upd_ne _ _ (hne s hs),rfl,upd_ne _ _ (hne s hs)⟩,fun s hs=>.inl ⟨rfl,rfl,upd_ne _ _ (hne s hs),upd_ne _ _ (hne s hs)⟩,fun b i hi=>⟨hi,?_⟩,fun b hb=>⟨hb,?_⟩⟩
  .obtain⟨⟨v,hv⟩,_⟩:=h.I b i hi;rw[hv];exact Qh hv
  .obtain⟨⟨es,dL,hv⟩,_⟩:=h.IM b hb;exact heap_alloc_old (lt_of_heap hv)
 refine⟨?_,e,(Es w o).below hB hB,fun b hb=>hb,fun s hs=>hs,fun _ _ hi=>.inl hi,fun _ hi=>.inl hi⟩;refine h.upd (Z':=Z.setObj loc st ob) (Es w o) e (fun k hk=>upd_ne _ _ hk) (fun r _=>⟨aB,hB⟩) ?_ ?_ ?_ ?_ ?_ ?_
 .intro loc' s' Gu hs;by_cases hl:loc'=loc
  .subst hl;right;simp only[ah.setObj,upd_same,iE,aS] at hs;obtain⟨rfl,rfl⟩:=hs;exact⟨.inr rfl,kJ _ e (.inr rfl) (upd_same _ _ _) (upd_same _ _ _),fun _=>by show upd K.C w.heap.size _ (upd K.blk st w.heap.size st)=_;rw[upd_same,upd_same]⟩
  .left;simp only[ah.setObj,upd_ne _ _ hl] at hs;refine⟨hs,fun hr=>?_⟩;have:=(h.rb _ _ ((h.obj _ _ _ hs).2.2 hr)).1;omega
 .intro s hs hlt;left;have hs':s≠st:=by rintro rfl;simp only[bq.mW,upd_same] at hlt;omega
  have hA:K.A s:=hs.resolve_right hs';simp only[bq.mW,upd_ne _ _ hs'] at hlt;refine⟨hA,upd_ne _ _ hs',upd_ne _ _ hs',rfl,?_⟩;have:=(h.rb _ _ (h.own s hA hlt).2.1).1;omega
 .intro b' i hi;obtain⟨⟨v,hv⟩,_⟩:=h.I b' i hi;exact .inl ⟨hi,pE (lt_of_cell hv)⟩
 .intro b' hi;obtain⟨⟨es,dL,hv⟩,_⟩:=h.IM b' hi;exact .inl ⟨hi,pE (lt_of_heap hv)⟩
 .intro l r hl;refine .inl ⟨hl,?_⟩;have:=(h.rb _ _ (h.loop l r hl).2.2.1).1;omega
 .intro b' hd;exact .inl ⟨hd,pE (lt_of_heap (h.D b' hd))⟩
theorem tO {w:World}{a b:Nat}{x y:Obj}(h:w.heap[a]? =some x)(g:w.heap[b]? =some y)(hxy:x≠y):a≠b:=by rintro rfl;exact hxy (jW (h.symm.trans g))
theorem bG.dK {E B0 Z K w}(h:bG E B0 Z K w){loc s cs}(hc:Z.dK loc s=some cs):Z.obj loc=some (s,.cells cs)/\K.A s/\cs.length<=K.sz s\/cs=[]/\Z.obj loc=some (s,.cells cs)/\K.A s:=by
 unfold ah.dK at hc;split at hc
 .rename_i s' cs' ho;split at hc
  .rename_i hs;subst hs;simp only[iE] at hc;subst hc;obtain⟨a1,a2,a3⟩:=h.obj _ _ _ ho;by_cases hne:cs'=[]
   .exact .inr ⟨hne,ho,a1⟩
   .obtain⟨_,vals,t,g1,g2,g3,g4⟩:=a2.2 hne;exact .inl ⟨ho,a1,RS⟩
  .simp at hc
 .simp at hc
theorem bG.wG {E B0 Z K w}(h:bG E B0 Z K w){loc s cs}(hc:Z.dK loc s=some cs):Z.obj loc=some (s,.cells cs)/\K.A s/\cs.length<=K.sz s:=by
 rcases h.dK hc with h| ⟨rfl,h1,h2⟩
 .exact h
 .exact⟨h1,h2,aB⟩
theorem bG.adL {E B0 Z K w}(h:bG E B0 Z K w){l r}(hl:Z.loops l=some r){b:Nat}{vals t f}(hb:w.heap[b]? =some (.cells vals t f)):K.lp l≠b:=by obtain⟨_,_,_,fn,tmps,D,hh,_⟩:=h.loop l r hl;exact tO hh hb aB
theorem bG.UW {E B0 Z K w}(h:bG E B0 Z K w){loc s ob loc' s' Gu}(h1:Z.obj loc=some (s,ob))(h2:Z.obj loc'=some (s',Gu))(hne:loc≠loc')(hr:ob.real)(hr':Gu.real):
 K.blk s≠K.blk s':=by
 intro e;have a:=(h.obj _ _ _ h1).2.2 hr;have b:=(h.obj _ _ _ h2).2.2 hr';rw[e,b] at a;exact hne (by injection a with a;injection a with a;exact a.symm)
theorem bG.UY {E B0 Z K w w'}(h:bG E B0 Z K w){loc s ob}(hs:Z.obj loc=some (s,ob))(hr:ob.real)(ho:Only (K.blk s) w w')(T':Nat->Nat)(hT:T'=Z.top):Ext K Z.top w K T' w':=by
 subst hT;have gJ:=(h.obj _ _ _ hs).2.2 hr;refine⟨fun _ h=>⟨h,rfl,rfl,rfl⟩,fun _ _=>.inl ⟨rfl,rfl,rfl,rfl⟩,fun b i hi=>⟨hi,?_⟩,fun b hb=>⟨hb,?_⟩⟩
 .obtain⟨⟨v,hv⟩,hn⟩:=h.I b i hi;exact cell_of_heap (ho.block b (fun e=>hn loc (e▸gJ)) (lt_of_cell hv))
 .obtain⟨⟨es,dL,hv⟩,hn⟩:=h.IM b hb;exact ho.block b (fun e=>hn loc (e▸gJ)) (lt_of_heap hv)
theorem Step.setCells {E B0 new Z K w w'}(h:bG E B0 Z K w)(hB:B0<=w.heap.size){loc:Loc}{s:Nat}{cs cs':List V}{vals vals':Array Value}{t t':TypeId}(hs:Z.obj loc=some (s,.cells cs))(hne:cs≠[])(hv:w.heap[K.blk s]? =some (.cells vals t (0,0)))(ho:Only (K.blk s) w w')(hv':w'.heap[K.blk s]? =some (.cells vals' t' (0,0)))(hsz:vals'.size=vals.size)(hne':cs'≠[])(hl:cs'.length<=vals'.size)(hr:Ext K Z.top w K Z.top w'->∀i,i<cs'.length->Rel K Z.top w' (cs'.getD i aJ) (vals'.getD i undef)):
 Step E B0 new Z K w (Z.setObj loc s (.cells cs')) K w':=by
 have mX:(jZ.cells cs).real:=by cases cs with|nil=>exact absurd rfl hne|cons _ _=>trivial
 obtain⟨hA,kJ,gJ⟩:=h.obj _ _ _ hs;obtain⟨hb0,adM,t0,g1,g2,g3,g4⟩:=kJ.2 hne;have hvv:vals=adM:=by rw[hv] at g1;simpa using And.left (by simpa using g1)
 have e:=h.UY hs mX ho Z.top rfl;refine⟨?_,e,ho.below hb0 hB,fun _ h=>h,fun _ h=>.inl h,fun _ _ h=>.inl h,fun _ h=>.inl h⟩;refine h.upd (Z':=Z.setObj loc s (.cells cs')) ho e (fun _ _=>rfl) (fun r hr'=>⟨lW (h.rb _ r hr').1 ho.size,hb0⟩) ?_ ?_ ?_ ?_ ?_ ?_
 .intro loc' s' Gu hs';by_cases hl':loc'=loc
  .subst hl';right;simp only[ah.setObj,upd_same,iE,aS] at hs';obtain⟨rfl,rfl⟩:=hs';exact⟨hA,⟨fun h0=>absurd h0 hne',fun _=>⟨hb0,vals',t',hv',by rw[hsz,hvv,g2],hl,hr e⟩⟩,fun _=>gJ mX⟩
  .left;simp only[ah.setObj,upd_ne _ _ hl'] at hs';exact⟨hs',fun hr'=>h.UW hs' hs hl' hr' mX⟩
 .intro s' hs' hlt;have ⟨a1,a2,a3⟩:=h.own s' hs' hlt;refine .inl ⟨hs',rfl,rfl,rfl,fun e'=>?_⟩;rw[e',gJ mX] at a2;cases a2
 .intro b' i hi;exact .inl ⟨hi,fun e'=>(h.I b' i hi).2 loc (e'▸gJ mX)⟩
 .intro b' hi;exact .inl ⟨hi,fun e'=>(h.IM b' hi).2 loc (e'▸gJ mX)⟩
 .intro l r hl';exact .inl ⟨hl',h.adL hl' hv⟩
 .intro b' hd;exact .inl ⟨hd,tO (h.D b' hd) hv aB⟩
def bq.UZ (K:bq)(b n:Nat):bq:={K with I:=fun b' o=>K.I b' o\/(b'=b/\o<n)}
theorem bG.adN {E B0 Z K w}(h:bG E B0 Z K w):K.C w.heap.size=none:=by
 cases hr:K.C w.heap.size with
 |none=>rfl|some r=>have:=(h.rb _ _ hr).1;omega
theorem K6 {w:World}{vals:Array Value}{t:TypeId}{fz:Nat×Nat}{i:Nat}(hi:i<vals.size):(w.alloc (.cells vals t fz)).cell? (at_ w.heap.size i)=some (vals.getD i undef):=by
 have hh:(w.alloc (.cells vals t fz)).heap[w.heap.size]? =some (.cells vals t fz):=heap_alloc_new w _;unfold World.cell?;simp only[hh];simp[hi]
theorem Step.amc {E B0 new Z K w w'}(h:bG E B0 Z K w)(hB:B0<=w.heap.size)(ho:Only w.heap.size w w'){vals:Array Value}{t:TypeId}{fz:Nat×Nat}(hh:w'.heap[w.heap.size]? =some (.cells vals t fz)):Step E B0 new Z K w Z (K.UZ w.heap.size vals.size) w':=by
 have hcn:∀i,i<vals.size->w'.cell? (at_ w.heap.size i)=some (vals.getD i undef):=fun i hi=>by simp[World.cell?,hh,hi]
 have e:Ext K Z.top w (K.UZ w.heap.size vals.size) Z.top w':=by
  refine⟨fun _ h=>⟨h,rfl,rfl,rfl⟩,fun _ _=>.inl ⟨rfl,rfl,rfl,rfl⟩,fun b i hi=>⟨.inl hi,?_⟩,fun b hb=>⟨hb,?_⟩⟩
  .obtain⟨⟨v,hv⟩,_⟩:=h.I b i hi;exact cell_of_heap (ho.block b (pE (lt_of_cell hv)) (lt_of_cell hv))
  .obtain⟨⟨es,dL,hv⟩,_⟩:=h.IM b hb;exact ho.block b (pE (lt_of_heap hv)) (lt_of_heap hv)
 refine⟨?_,e,ho.below hB hB,fun b hb=>hb,fun _ h=>.inl h,fun b o hi=>?_,fun _ h=>.inl h⟩
 .refine h.upd ho e (fun _ _=>rfl) (fun r hr=>?_) ?_ ?_ ?_ ?_ ?_ ?_
  .have:=h.adN;exact absurd (hr.symm.trans this) aB
  .intro loc s ob hs;exact .inl ⟨hs,fun hr=>by have:=(h.rb _ _ ((h.obj _ _ _ hs).2.2 hr)).1;omega⟩
  .intro s hs hlt;exact .inl ⟨hs,rfl,rfl,rfl,by have:=(h.rb _ _ (h.own s hs hlt).2.1).1;omega⟩
  .intro b' i hi;rcases hi with hi| ⟨rfl,hi⟩
   .obtain⟨⟨v,hv⟩,_⟩:=h.I b' i hi;exact .inl ⟨hi,pE (lt_of_cell hv)⟩
   .exact .inr ⟨rfl,⟨_,hcn _ hi⟩,fun loc hr=>absurd (hr.symm.trans h.adN) aB⟩
  .intro b' hi;obtain⟨⟨es,dL,hv⟩,_⟩:=h.IM b' hi;exact .inl ⟨hi,pE (lt_of_heap hv)⟩
  .intro l r hl;exact .inl ⟨hl,by have:=(h.rb _ _ (h.loop l r hl).2.2.1).1;omega⟩
  .intro b' hd;exact .inl ⟨hd,pE (lt_of_heap (h.D b' hd))⟩
 .rcases hi with hi| ⟨rfl,_⟩
  .exact .inl hi
  .exact .inr hB
theorem Step.adO {E B0 new Z K w}(h:bG E B0 Z K w)(hB:B0<=w.heap.size)(vals:Array Value)(t:TypeId)(fz:Nat×Nat):
 Step E B0 new Z K w Z (K.UZ w.heap.size vals.size) (w.alloc (.cells vals t fz)):=
 Step.amc h hB (Es w _) (heap_alloc_new w _)
def bq.BP (K:bq)(s b lo hi:Nat):bq:=
 {K with A:=fun x=>K.A x\/x=s,ob:=upd K.ob s b,lo:=upd K.lo s lo,hi:=upd K.hi s hi,I:=fun b' o=>K.I b' o\/(b'=b/\o<lo),C:=upd K.C b (some (.own s))}
theorem Step.amd {E B0 Z K w}(h:bG E B0 Z K w)(hB:B0<=w.heap.size)(s T':Nat)(hs:¬K.A s\/Z.top s<T')(vals:Array Value)(t:TypeId)(lo:Nat)(hlo:lo<=vals.size):
 Step E B0 (· =s) Z K w (Z.dY s T') (K.BP s w.heap.size lo vals.size) (w.alloc (.cells vals t)):=by
 have e:Ext K Z.top w (K.BP s w.heap.size lo vals.size) (Z.dY s T').top (w.alloc (.cells vals t)):=by
  refine⟨fun _ h=>⟨.inl h,rfl,rfl,rfl⟩,fun x hx=>?_,fun b i hi=>⟨.inl hi,?_⟩,fun b hb=>⟨hb,?_⟩⟩
  .by_cases hxs:x=s
   .subst hxs;right;show _<upd Z.top x T' x;rw[upd_same];exact hs.resolve_left (fun hn=>hn hx)
   .exact .inl ⟨upd_ne _ _ hxs,upd_ne _ _ hxs,upd_ne _ _ hxs,upd_ne _ _ hxs⟩
  .obtain⟨⟨v,hv⟩,_⟩:=h.I b i hi;rw[hv];exact Qh hv
  .obtain⟨⟨es,dL,hv⟩,_⟩:=h.IM b hb;exact heap_alloc_old (lt_of_heap hv)
 refine⟨?_,e,(Es w _).below hB hB,fun b hb=>hb,fun _ h=>h,fun b o hi=>?_,fun _ h=>.inl h⟩
 .refine h.upd (Z':=Z.dY s T') (Es w _) e (fun k hk=>upd_ne _ _ hk) (fun r _=>⟨aB,hB⟩) ?_ ?_ ?_ ?_ ?_ ?_
  .intro loc s ob hs;exact .inl ⟨hs,fun hr=>by have:=(h.rb _ _ ((h.obj _ _ _ hs).2.2 hr)).1;omega⟩
  .intro x hx hlt;by_cases hxs:x=s
   .subst hxs;right;have q1:(K.BP x w.heap.size lo vals.size).ob x=w.heap.size:=upd_same _ _ _;have q2:(K.BP x w.heap.size lo vals.size).lo x=lo:=upd_same _ _ _;have q3:(K.BP x w.heap.size lo vals.size).hi x=vals.size:=upd_same _ _ _;refine⟨by rw[q1];exact hB,by rw[q1];exact upd_same _ _ _,fun o hl hh=>?_⟩;rw[q2] at hl;rw[q3] at hh;rw[q1];refine⟨?_,⟨_,K6 hh⟩,?_⟩
    .rintro (hi| ⟨_,hi⟩)
     .obtain⟨⟨v,hv⟩,_⟩:=h.I _ o hi;have:=lt_of_cell hv;omega
     .omega
    .have hh':(w.alloc (.cells vals t)).heap[w.heap.size]? =some (.cells vals t):=heap_alloc_new w _;unfold World.frozen?;simp only[hh'];simp
   .left;have hA:K.A x:=hx.resolve_right hxs;simp only[bq.BP,upd_ne _ _ hxs] at hlt;refine⟨hA,upd_ne _ _ hxs,upd_ne _ _ hxs,upd_ne _ _ hxs,?_⟩;have:=(h.rb _ _ (h.own x hA hlt).2.1).1;omega
  .intro b' i hi;rcases hi with hi| ⟨rfl,hi⟩
   .obtain⟨⟨v,hv⟩,_⟩:=h.I b' i hi;exact .inl ⟨hi,pE (lt_of_cell hv)⟩
   .refine .inr ⟨rfl,⟨_,K6 RS⟩,fun loc hr=>?_⟩;simp only[bq.BP,upd_same] at hr;cases hr
  .intro b' hi;obtain⟨⟨es,dL,hv⟩,_⟩:=h.IM b' hi;exact .inl ⟨hi,pE (lt_of_heap hv)⟩
  .intro l r hl;exact .inl ⟨hl,by have:=(h.rb _ _ (h.loop l r hl).2.2.1).1;omega⟩
  .intro b' hd;exact .inl ⟨hd,pE (lt_of_heap (h.D b' hd))⟩
 .rcases hi with hi| ⟨rfl,_⟩
  .exact .inl hi
  .exact .inr hB
def bq.Et (K:bq)(s n:Nat):bq:=
 {K with lo:=upd K.lo s (K.lo s+n),I:=fun b' o=>K.I b' o\/(b'=K.ob s/\K.lo s<=o/\o<K.lo s+n)}
theorem Step.Et {E B0 new Z K w w'}(h:bG E B0 Z K w)(hB:B0<=w.heap.size){s n T':Nat}(hs:K.A s)(hT:Z.top s<T')(hn:0<n)(hroom:K.lo s+n<=K.hi s)(ho:Only (K.ob s) w w')(hnew:∀o,K.lo s<=o->o<K.lo s+n->∃v,w'.cell? (at_ (K.ob s) o)=some v)(hold:∀o,o<K.lo s\/K.lo s+n<=o->w'.cell? (at_ (K.ob s) o)=w.cell? (at_ (K.ob s) o))(hfz:∀o,w'.frozen? (at_ (K.ob s) o)=w.frozen? (at_ (K.ob s) o)):
 Step E B0 new Z K w (Z.dY s T') (K.Et s n) w':=by
 obtain⟨o1,o2,o3⟩:=h.own s hs RS;have U0:=(o3 (K.lo s) (mF _) RS).2.1;have adP:∀o,K.I (K.ob s) o->o<K.lo s\/K.lo s+n<=o:=fun o hi=>by
  rcases Nat.lt_or_ge o (K.lo s) with h1|h1
  .exact .inl h1
  .rcases Nat.lt_or_ge o (K.hi s) with h2|h2
   .exact absurd hi (o3 o h1 h2).1
   .exact .inr RS
 have e:Ext K Z.top w (K.Et s n) (Z.dY s T').top w':=by
  refine⟨fun _ h=>⟨h,rfl,rfl,rfl⟩,fun x hx=>?_,fun b i hi=>⟨.inl hi,?_⟩,fun b hb=>⟨hb,?_⟩⟩
  .by_cases hxs:x=s
   .subst hxs;right;show _<upd Z.top x T' x;rw[upd_same];exact hT
   .exact .inl ⟨upd_ne _ _ hxs,rfl,upd_ne _ _ hxs,rfl⟩
  .by_cases hb:b=K.ob s
   .subst hb;exact hold i (adP i hi)
   .obtain⟨⟨v,hv⟩,_⟩:=h.I b i hi;exact cell_of_heap (ho.block b hb (lt_of_cell hv))
  .obtain⟨⟨es,dL,hv⟩,_⟩:=h.IM b hb;refine ho.block b ?_ (lt_of_heap hv);rintro rfl;obtain⟨v,hc⟩:=U0;simp[World.cell?,hv] at hc
 refine⟨?_,e,ho.below o1 hB,fun b hb=>hb,fun _ h=>.inl h,fun b o hi=>?_,fun _ h=>.inl h⟩
 .refine h.upd (Z':=Z.dY s T') ho e (fun k _=>rfl) (fun r hr=>⟨lW (h.rb _ r hr).1 ho.size,o1⟩) ?_ ?_ ?_ ?_ ?_ ?_
  .intro loc x ob hx;refine .inl ⟨hx,fun hr e'=>?_⟩;have a:=(h.obj _ _ _ hx).2.2 hr;rw[e',o2] at a;cases a
  .intro x hx hlt;by_cases hxs:x=s
   .subst hxs;right;simp only[UR,bq.Et,upd_same] at hlt⊢;refine⟨o1,o2,fun o hl hh=>⟨?_,?_,?_⟩⟩
    .rintro (hi| ⟨_,_,hi⟩)
     .exact(o3 o RS hh).1 hi
     .omega
    .rw[hold o (.inr hl)];exact(o3 o RS hh).2.1
    .rw[hfz o];exact(o3 o RS hh).2.2
   .left;simp only[bq.Et,upd_ne _ _ hxs] at hlt;refine⟨hx,upd_ne _ _ hxs,rfl,rfl,fun e'=>?_⟩;have a:=(h.own x hx hlt).2.1;rw[e',o2] at a;injection a with a
    injection a with a
    exact hxs a.symm
  .intro b' i hi;rcases hi with hi| ⟨rfl,hi1,hi2⟩
   .by_cases hb:b'=K.ob s
    .subst hb;obtain⟨⟨v,hv⟩,hr⟩:=h.I _ i hi;exact .inr ⟨rfl,⟨v,by rw[hold i (adP i hi)];exact hv⟩,hr⟩
    .exact .inl ⟨hi,hb⟩
   .exact .inr ⟨rfl,hnew i hi1 hi2,fun loc hr=>by have:K.C (K.ob s)=some (.obj loc):=hr;rw[o2] at this;cases this⟩
  .intro b' hi;obtain⟨⟨es,dL,hv⟩,_⟩:=h.IM b' hi;refine .inl ⟨hi,?_⟩;rintro rfl;obtain⟨v,hc⟩:=U0;simp[World.cell?,hv] at hc
  .intro l r hl;refine .inl ⟨hl,fun e'=>?_⟩;have a:=(h.loop l r hl).2.2.1;rw[e',o2] at a;cases a
  .intro b' hd;refine .inl ⟨hd,?_⟩;rintro rfl;obtain⟨v,hc⟩:=U0;simp[World.cell?,h.D _ hd] at hc
 .rcases hi with hi| ⟨rfl,_⟩
  .exact .inl hi
  .exact .inr o1
theorem Step.ame {E B0 Z K w w'}(h:bG E B0 Z K w)(hB:B0<=w.heap.size){kC loc:Loc}{s0 st:Nat}{cs0 cs:List V}{vals vals':Array Value}{t:TypeId}(hst:¬K.A st)(hs:Z.obj kC=some (s0,.cells cs0))(hne:cs0≠[])(hv:w.heap[K.blk s0]? =some (.cells vals t (0,0)))(ho:Only (K.blk s0) w w')(hv':w'.heap[K.blk s0]? =some (.cells vals' t (0,0)))(hne':cs≠[])(hl:cs.length<=vals'.size)(hr:∀K',Ext K Z.top w K' Z.top w'->∀i,i<cs.length->Rel K' Z.top w' (cs.getD i aJ) (vals'.getD i undef)):
 Step E B0 (· =st) Z K w ((Z.j3 kC).setObj loc st (.cells cs)) (K.mW st (K.blk s0) vals'.size loc) w':=by
 have mX:(jZ.cells cs0).real:=by cases cs0 with|nil=>exact absurd rfl hne|cons _ _=>trivial
 obtain⟨hA,kJ,gJ⟩:=h.obj _ _ _ hs;obtain⟨hb0,adM,t0,g1,g2,g3,g4⟩:=kJ.2 hne;have Qj:∀s,K.A s->s≠st:=fun s hs e=>hst (e▸hs);have e0:=h.UY hs mX ho Z.top rfl;have e:Ext K Z.top w (K.mW st (K.blk s0) vals'.size loc) Z.top w':=
  ⟨fun s hs=>⟨.inl hs,upd_ne _ _ (Qj s hs),rfl,upd_ne _ _ (Qj s hs)⟩,fun s hs=>.inl ⟨rfl,rfl,upd_ne _ _ (Qj s hs),upd_ne _ _ (Qj s hs)⟩,e0.I,e0.IM⟩
 refine⟨?_,e,ho.below hb0 hB,fun _ h=>h,fun _ h=>h,fun _ _ h=>.inl h,fun _ h=>.inl h⟩;refine h.upd (Z':=(Z.j3 kC).setObj loc st (.cells cs)) ho e (fun k hk=>upd_ne _ _ hk) (fun r _=>⟨lW (lt_of_heap hv) ho.size,hb0⟩) ?_ ?_ ?_ ?_ ?_ ?_
 .intro loc' s' Gu hs';by_cases hl':loc'=loc
  .subst hl';right;simp only[ah.setObj,upd_same,iE,aS] at hs';obtain⟨rfl,rfl⟩:=hs';refine⟨.inr rfl,⟨fun h0=>absurd h0 hne',fun _=>⟨?_,vals',t,?_,?_,hl,hr _ e⟩⟩,fun _=>?_⟩
   .show B0<=upd K.blk st (K.blk s0) st;rw[upd_same];exact hb0
   .show w'.heap[upd K.blk st (K.blk s0) st]? =_;rw[upd_same];exact hv'
   .show _=upd K.sz st _ st;rw[upd_same]
   .show upd K.C (K.blk s0) _ (upd K.blk st (K.blk s0) st)=_;rw[upd_same,upd_same]
  .left;simp only[ah.setObj,ah.j3,upd_ne _ _ hl'] at hs';by_cases hl0:loc'=kC
   .subst hl0;rw[upd_same] at hs';cases hs'
   .rw[upd_ne _ _ hl0] at hs';exact⟨hs',fun hr'=>h.UW hs' hs hl0 hr' mX⟩
 .intro s' hs' hlt;have Qk:s'≠st:=by rintro rfl;simp only[bq.mW,upd_same] at hlt;omega
  have hA':K.A s':=hs'.resolve_right Qk;simp only[bq.mW,upd_ne _ _ Qk] at hlt;have ⟨a1,a2,a3⟩:=h.own s' hA' hlt;refine .inl ⟨hA',upd_ne _ _ Qk,upd_ne _ _ Qk,rfl,fun e'=>?_⟩;rw[e',gJ mX] at a2;cases a2
 .intro b' i hi;exact .inl ⟨hi,fun e'=>(h.I b' i hi).2 kC (e'▸gJ mX)⟩
 .intro b' hi;exact .inl ⟨hi,fun e'=>(h.IM b' hi).2 kC (e'▸gJ mX)⟩
 .intro l r hl';exact .inl ⟨hl',h.adL hl' hv⟩
 .intro b' hd;exact .inl ⟨hd,tO (h.D b' hd) hv aB⟩
theorem Step.adQ {E B0 new Z K w w'}(h:bG E B0 Z K w)(hB:B0<=w.heap.size){loc:Loc}{s:Nat}{ks vs ks' vs':List V}{es es':Array MapEntry}{dL Ql:Nat}(hs:Z.obj loc=some (s,.map ks vs))(hv:w.heap[K.blk s]? =some (.map es dL))(ho:Only (K.blk s) w w')(hv':w'.heap[K.blk s]? =some (.map es' Ql))(hk:ks'.length=es'.size)(hvl:vs'.length=es'.size)(hr:Ext K Z.top w K Z.top w'->(∀i,i<es'.size->Rel K Z.top w' (ks'.getD i aJ) (es'.getD i default).key)/\(∀i,i<es'.size->Rel K Z.top w' (vs'.getD i aJ) (es'.getD i default).val)):
 Step E B0 new Z K w (Z.setObj loc s (.map ks' vs')) K w':=by
 have mX:(jZ.map ks vs).real:=trivial;obtain⟨hA,kJ,gJ⟩:=h.obj _ _ _ hs;obtain⟨hb0,_⟩:=kJ;have e:=h.UY hs mX ho Z.top rfl;refine⟨?_,e,ho.below hb0 hB,fun _ h=>h,fun _ h=>.inl h,fun _ _ h=>.inl h,fun _ h=>.inl h⟩;refine h.upd (Z':=Z.setObj loc s (.map ks' vs')) ho e (fun _ _=>rfl) (fun r hr'=>⟨lW (h.rb _ r hr').1 ho.size,hb0⟩) ?_ ?_ ?_ ?_ ?_ ?_
 .intro loc' s' Gu hs';by_cases hl':loc'=loc
  .subst hl';right;simp only[ah.setObj,upd_same,iE,aS] at hs';obtain⟨rfl,rfl⟩:=hs';exact⟨hA,⟨hb0,es',Ql,hv',hk,hvl,hr e⟩,fun _=>gJ mX⟩
  .left;simp only[ah.setObj,upd_ne _ _ hl'] at hs';exact⟨hs',fun hr'=>h.UW hs' hs hl' hr' mX⟩
 .intro s' hs' hlt;have ⟨a1,a2,a3⟩:=h.own s' hs' hlt;refine .inl ⟨hs',rfl,rfl,rfl,fun e'=>?_⟩;rw[e',gJ mX] at a2;cases a2
 .intro b' i hi;exact .inl ⟨hi,fun e'=>(h.I b' i hi).2 loc (e'▸gJ mX)⟩
 .intro b' hi;exact .inl ⟨hi,fun e'=>(h.IM b' hi).2 loc (e'▸gJ mX)⟩
 .intro l r hl';obtain⟨_,_,_,fn,tmps,D,hh,_⟩:=h.loop l r hl';exact .inl ⟨hl',tO hh hv aB⟩
 .intro b' hd;exact .inl ⟨hd,tO (h.D b' hd) hv aB⟩
theorem adR {K T w}{v:Value}{z:V}(h:kV v=some z):Rel K T w z v:=by
 cases v with
 |bool b=>simp only[kV,iE] at h;subst h;exact .bool b|int k n=>simp only[kV,iE] at h;subst h;exact .int k n|string s=>simp only[kV,iE] at h;subst h;exact .str _ s rfl|pointer a=>
  cases a with
  |none=>simp only[kV,iE] at h;subst h;exact .gU|some a=>simp[kV] at h
 |slice a n c=>
  cases a with
  |none=>
   cases n with
   |zero=>
    cases c with
    |zero=>simp only[kV,iE] at h;subst h;exact .gD .nil none (fun _=>rfl) trivial
    |succ c=>simp[kV] at h
   |succ n=>simp[kV] at h
  |some a=>simp[kV] at h
 |map r=>
  cases r with
  |none=>simp only[kV,iE] at h;subst h;exact .gP|some a=>simp[kV] at h
 |nilFunc=>simp only[kV,iE] at h;subst h;exact .gH|nilIface=>simp only[kV,iE] at h;subst h;exact .iH|_=>simp[kV] at h
theorem amf {v:Value}{z:V}(h:kV v=some z):fC z=true:=by
 cases z with
 |raw x=>cases v with
  |slice a n c=>cases a<;>cases n<;>cases c<;>simp[kV] at h|pointer a=>cases a<;>simp[kV] at h|map a=>cases a<;>simp[kV] at h|_=>simp[kV] at h
 |_=>rfl
theorem amg {v:Value}{z:V}(h:ofValue v=some z):fC z=true:=by
 cases v with
 |agg cs=>simp only[ofValue,aW] at h;obtain⟨r,_,rfl⟩:=h;rfl
 |tuple cs=>simp only[ofValue,aW] at h;obtain⟨r,_,rfl⟩:=h;rfl
 |_=>exact amf (v:=_) (by unfold ofValue at h;exact h)
theorem mapM_some {J β:Type}{f:J->Option β}:∀{l:List J}{r:List β},l.mapM f=some r->l.length=r.length/\∀i (h:i<l.length),∃(h':i<r.length),f l[i]=some r[i]
 | [],r,h=>by simp at h;subst h;exact⟨rfl,fun i hi=>absurd hi (fZ i)⟩
 |a::l,r,h=>by
  simp only[iG,Option.pure_def,Option.bind_eq_bind] at h;cases ha:f a with
  |none=>simp[ha] at h|some x=>
   cases hl:l.mapM f with
   |none=>simp[ha,hl] at h|some r'=>
    simp only[ha,hl,Option.bind_some,iE] at h;subst h;obtain⟨h1,h2⟩:=mapM_some hl;refine⟨by simp[h1],fun i hi=>?_⟩;cases i with
    |zero=>exact⟨aB,ha⟩|succ i=>obtain⟨h3,h4⟩:=h2 i jH;exact⟨by simpa using h3,by simpa using h4⟩
theorem kD {J:Type}{l:List J}{i:Nat}(h:i<l.length)(d:J):l.getD i d=l[i]:=by simp[List.getD,h]
theorem Gv {J:Type}{l:Array J}{i:Nat}(h:i<l.size)(d:J):l.getD i d=l[i]:=by simp[Array.getD,h]
theorem U1 {K T w}{v:Value}{z:V}(h:ofValue v=some z):Rel K T w z v:=by
 have hsc:∀(cs:Array Value)(r:List V),cs.toList.mapM kV=some r->r.length=cs.size/\∀i,i<r.length->Rel K T w (r.getD i aJ) (cs.getD i undef):=by
  intro cs r hr;obtain⟨h1,h2⟩:=mapM_some hr;have h1':r.length=cs.size:=by rw[<-h1];simp
  refine⟨h1',fun i hi=>?_⟩;obtain⟨h3,h4⟩:=h2 i RS;rw[kD h3,Gv RS];exact adR (by simpa using h4)
 cases v with
 |agg cs=>simp only[ofValue,aW] at h;obtain⟨r,hr,rfl⟩:=h;obtain⟨h1,h2⟩:=hsc cs r hr;exact .agg r cs h1 h2
 |tuple cs=>simp only[ofValue,aW] at h;obtain⟨r,hr,rfl⟩:=h;obtain⟨h1,h2⟩:=hsc cs r hr;exact .bK r cs h1 h2
 |_=>exact adR h
theorem Al {E B0 Z K w}(h:bG E B0 Z K w){fr:Fr}{a:Act}(hf:l6 K Z.top w fr a.tmps)(x:Operand):Rel K Z.top w (fr.ev E x) (a.eval x):=by
 cases x with
 |tmp t=>exact hf t|const v=>
  simp only[Fr.ev,Act.eval];cases hv:ofValue v with
  |none=>exact .raw v|some z=>exact U1 hv
 |global g=>
  simp only[Fr.ev,Act.eval];cases hg:E.glob g with
  |none=>exact .raw _|some cs=>exact h.glob g cs hg
 |func f=>exact .fn f [] [] #[] #[] rfl rfl (fun i hi=>absurd hi (fZ i)) (fun i hi=>absurd hi (fZ i))
theorem BQ {K T w}{v:V}{c:Value}(h:Rel K T w v c)(hr:fC v=true):
 v.cells.length=c.cells.size/\∀i,i<v.cells.length->Rel K T w (v.cells.getD i aJ) (c.cells.getD i undef):=by
 have one:∀{v:V}{c:Value},Rel K T w v c->v.cells=[v]->c.cells= #[c]->v.cells.length=c.cells.size/\∀i,i<v.cells.length->Rel K T w (v.cells.getD i aJ) (c.cells.getD i undef):=by
  intro v c h h1 h2;rw[h1,h2];refine⟨rfl,fun i hi=>?_⟩;obtain rfl:i=0:=KO
  exact h
 cases h with
 |agg cs vs hl h=>exact⟨hl,h⟩|raw v=>simp[fC] at hr|bK cs vs hl h=>exact one (.bK cs vs hl h) rfl rfl|int k n=>exact one (.int k n) rfl rfl|bool b=>exact one (.bool b) rfl rfl|str s b h=>exact one (.str s b h) rfl rfl|gU=>exact one .gU rfl rfl|gH=>exact one .gH rfl rfl|gP=>exact one .gP rfl rfl|iH=>exact one .iH rfl rfl|gD c a ha hc=>exact one (.gD c a ha hc) rfl rfl|ak c l b o n cap val h1 h2 h3 h4 h5=>exact one (.ak c l b o n cap val h1 h2 h3 h4 h5) rfl rfl
 |aU loc s off len cap bD ag fq h1 h2 h3 h4=>exact one (.aU loc s off len cap bD ag fq h1 h2 h3 h4) rfl rfl|om loc s bD ag h1=>exact one (.om loc s bD ag h1) rfl rfl|aX cs off b o val h1 h2=>exact one (.aX cs off b o val h1 h2) rfl rfl|ref loc s off h1=>exact one (.ref loc s off h1) rfl rfl|fn f a b kI bv h1 h2 h3 h4=>exact one (.fn f a b kI bv h1 h2 h3 h4) rfl rfl|yield l h1=>exact one (.yield l h1) rfl rfl
 |dQ loc s h1=>exact one (.dQ loc s h1) rfl rfl|eF ks vs b es dL h1 h2 h3 h4 h5 h6=>exact one (.eF ks vs b es dL h1 h2 h3 h4 h5 h6) rfl rfl|iface t v c h=>exact one (.iface t v c h) rfl rfl
theorem adS {K T w}{v:V}{c:Value}(h:Rel K T w v c)(ho:oneCell v=true):c.oneCell'=true/\c.cells= #[c]/\v.cells=[v]:=by
 cases h<;>first| (simp[oneCell] at ho;done)|exact⟨rfl,rfl,rfl⟩
section types
variable {P:Program}{t:TypeId}(w:World)
theorem adT {i:TypeInfo}(h:P.info? t=some i):(typeInfo t).run P w= .ok i w:=by simp[typeInfo,h]
theorem lI {n:Nat}(h:dF P t=some n):(Go.sizeOf t).run P w= .ok n w:=by simp only[dF,aW] at h;obtain⟨i,hi,rfl⟩:=h;simp[Go.sizeOf,adT w hi]
theorem adU {b:Bool}(h:j5 P t=some b):(isAgg t).run P w= .ok b w:=by simp only[j5,aW] at h;obtain⟨d,hd,rfl⟩:=h;simp only[isAgg,Sem.run_bind,run_underlying hd,Result.andThen_ok];cases d<;>rfl
theorem BR {z:V}(h:iM P t=some z):∃c,(zeroValue t).run P w= .ok c w/\∀K T,Rel K T w z c:=by simp only[iM,iR] at h;obtain⟨v,⟨i,hi,hz⟩,hv⟩:=h;exact⟨v,by simp[zeroValue,adT w hi,hz],fun K T=>U1 hv⟩
theorem K7 {z:V}(h:iM P t=some z):fC z=true:=by simp only[iM,iR] at h;obtain⟨v,_,hv⟩:=h;exact amg hv
theorem K8 {e:TypeId}(h:lG P t=some e):P.underlying t=some (.slice e):=by unfold lG at h;split at h<;>simp_all
theorem adV {n:Nat}{e:TypeId}(h:uW P t=some (n,e)):P.underlying t=some (.array n e):=by unfold uW at h;split at h<;>simp_all
theorem adW {k e:TypeId}(h:wE P t=some (k,e)):P.underlying t=some (.map k e):=by unfold wE at h;split at h<;>simp_all
theorem adX {f o:Nat}{u:TypeId}(h:xL P t f=some (o,u)):∃fs g n,P.underlying t=some (.struct fs)/\fs[f]? =some g/\g.offset=o/\g.type=u/\dF P u=some (n+1):=by
 unfold xL at h;split at h
 .rename_i fs hu;simp only[iR] at h;obtain⟨g,hg,h⟩:=h;split at h
  .rename_i n hn;simp only[iE,aS] at h;exact⟨fs,g,n,hu,hg,h.1,h.2,by rw[<-h.2];exact hn⟩
  .simp at h
 .simp at h
end types
theorem addr_add (b o n:Nat):(at_ b o).add n=at_ b (o+n):=by
 unfold Addr.add;split
 .subst_vars;rfl
 .rfl
theorem U2 {P:Program}{K T}{w:World}{t:TypeId}{cs:List V}{off:Nat}{v:V}{b o:Nat}(val:Nat->Value)(hc:∀i,i<cs.length->w.cell? (at_ b (o+i))=some (val i))(hr:∀i,i<cs.length->Rel K T w (cs.getD i aJ) (val i))(h:gV P t cs off=some v):
 ∃c,(loadVar t (at_ b (o+off))).run P w= .ok c w/\Rel K T w v c:=by
 simp only[gV,iR] at h;obtain⟨ag,hag,n,hn,h⟩:=h;simp only[loadVar,Sem.run_bind,adU w hag,Result.andThen_ok];cases ag with
 |true=>
  simp only[q8,if_true] at h;split at h
  .rename_i hle;simp only[iE] at h;subst h;have hl:=run_loadCells (P:=P) w (at_ b (o+off)) n (fun j=>val (off+j)) (fun j hj=>by rw[addr_add,oG];exact hc _ RS);refine⟨.agg ((List.range n).map fun j=>val (off+j)).toArray,by simp[lI w hn,hl],?_⟩;refine .agg _ _ dP (fun i hi=>?_);simp only[jV,nV] at hi;have hi':i<n:=RS
   have e1:((cs.drop off).take n).getD i aJ=cs.getD (off+i) aJ:=by simp[List.getD,hi',List.getElem?_drop]
   have e2:(((List.range n).map fun j=>val (off+j)).toArray).getD i undef=val (off+i):=by simp[Array.getD,hi']
   rw[e1,e2];exact hr _ RS
  .simp at h
 |false=>
  simp only[q8,bZ,if_false] at h;have hlt:off<cs.length:=(qx.1 h).1;have hv:cs[off]=v:=(qx.1 h).2;refine⟨val off,by simp[hc off hlt],?_⟩;have:=hr off hlt
  rwa[kD hlt,hv] at this
theorem Gw {P:Program}{K T}{w:World}{t:TypeId}{cs:List V}{vs:Array Value}{off:Nat}{v:V}(hl:cs.length=vs.size)(hr:∀i,i<cs.length->Rel K T w (cs.getD i aJ) (vs.getD i undef))(h:gV P t cs off=some v):
 ∃c,(part t vs off).run P w= .ok c w/\Rel K T w v c:=by
 simp only[gV,iR] at h;obtain⟨ag,hag,n,hn,h⟩:=h;simp only[part,Sem.run_bind,adU w hag,Result.andThen_ok];cases ag with
 |true=>
  simp only[q8,if_true] at h;split at h
  .rename_i hle;simp only[iE] at h;subst h;refine⟨.agg (vs.extract off (off+n)),by simp[lI w hn],?_⟩;refine .agg _ _ dP (fun i hi=>?_);simp only[jV,nV] at hi;have hi':i<n:=RS
   have e1:((cs.drop off).take n).getD i aJ=cs.getD (off+i) aJ:=by simp[List.getD,hi',List.getElem?_drop]
   have e2:(vs.extract off (off+n)).getD i undef=vs.getD (off+i) undef:=by have:off+i<vs.size:=RS;simp[Array.getD,this,show i<min (off+n) vs.size-off by omega]
   rw[e1,e2];exact hr _ RS
  .simp at h
 |false=>
  simp only[q8,bZ,if_false] at h;have hlt:off<cs.length:=(qx.1 h).1;have hv:cs[off]=v:=(qx.1 h).2;have hlt':off<vs.size:=RS
  refine⟨vs.getD off undef,by simp[hlt',Array.getD],?_⟩;have:=hr off hlt
  rwa[kD hlt,hv] at this
end aR
end
