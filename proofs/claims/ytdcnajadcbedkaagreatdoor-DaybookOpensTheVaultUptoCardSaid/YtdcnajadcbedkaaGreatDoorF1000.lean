import Derived.Below
import Derived.WalkKit
import Derived.KernelRfl
import GoSem.Dispatch
theorem RS {P:Prop}(h:P:=by omega):P:=h
theorem dY {P:Prop}(h:P:=by intro S;simp only[go_sem,Nat.reduceBEq,Nat.reduceAdd, *];with_reducible exact Is.rfl):P:=h
theorem dZ {P:Prop}(h:P:=by simp only[go_sem,Nat.reduceBEq,Nat.reduceAdd, *];with_reducible exact Is.rfl):P:=h
theorem av {P:Prop}(h:P:=by kernel_rfl):P:=h
theorem pO {P:Prop}(h:P:=by intro S;simp only[go_sem,Nat.reduceBEq,Nat.reduceAdd, *];first|exact if_pos (iR _)| (rw[if_pos (by first| (simp;done)|rfl|exact⟨rfl,rfl⟩|exact⟨iR _,rfl⟩)];exact Is.rfl)):P:=h
theorem lu {P:Prop}(h:P:=by simp only[go_sem,Nat.reduceBEq,Nat.reduceAdd,d9,gB,sG,nY,wD,nA,nC,jh, *];with_reducible exact Is.rfl):P:=h
theorem iL {P:Prop}(h:P:=by simp only[go_sem,Nat.reduceBEq, *]):P:=h
theorem jB {P:Prop}(h:P:=by simp only[go_sem,Nat.reduceBEq,Nat.reduceAdd, *];exact Is.rfl):P:=h
theorem aK {P:Prop}(h:P:=by decide):P:=h
theorem uU {P:Prop}(h:P:=by intro S;rw[af4 _ _ _ (by simp only[go_sem,Nat.reduceBEq, *])];simp only[go_sem,Nat.reduceBEq,Nat.reduceAdd, *];with_reducible exact Is.rfl):P:=h
theorem aD {P:Prop}(h:P:=by simp):P:=h
theorem ig {P:Prop}(h:P:=by first|omega| (simp only[xR,Qq];omega)):P:=h
theorem dz {P:Prop}(h:P:=by dsimp only;omega):P:=h
theorem y8 {P:Prop}(h:P:=by intro S;rw[af5 _ _ _ (by simp only[go_sem,Nat.reduceBEq, *])];simp only[go_sem,Nat.reduceBEq,Nat.reduceAdd, *];with_reducible exact Is.rfl):P:=h
theorem ji {P:Prop}(h:P:=by first|omega| (simp only[xR];omega)):P:=h
theorem dw {P:Prop}(h:P:=by simp;omega):P:=h
theorem aFi {P:Prop}(h:P:=by first| (simp;done)|rfl|exact⟨rfl,rfl⟩|exact⟨iR _,rfl⟩):P:=h
theorem oU {P:Prop}(h:P:=by simp[Go.Op.equalIn,run_underlying hu]):P:=h
theorem cZ {P:Prop}(h:P:=by cases h):P:=h
theorem bD {P:Prop}(h:P:=by rfl):P:=h
theorem gY {P:Prop}(h:P:=by unfold aC;rfl):P:=h
theorem j6 {P:Prop}(h:P:=by intros;kernel_rfl):P:=h
theorem K6 {P:Prop}(h:P:=by obtain⟨s,h1,h2⟩:=h;unfold oH at hm;exact⟨s,((ho p (fun e=>by rw[e,y9] at hm;cases hm)).1.trans h1),by rw[hx];exact h2⟩):P:=h
theorem xS {P:Prop}(h:P:=by simp only[jC,go_sem,Nat.reduceBEq, *];exact Is.rfl):P:=h
theorem K7 {P:Prop}(h:P:=by obtain⟨s,h1,h2⟩:=h;unfold aQ.solid at hs;exact⟨s,by rw[(ho o (by simpa using hs)).1];exact h1,by rw[hx];exact h2⟩):P:=h
theorem xU {P:Prop}(h:P:=by simp only[go_sem,Nat.reduceBEq,Nat.reduceAdd, *]):P:=h
theorem iM {P:Prop}(h:P:=by rw[<-hfr];rfl):P:=h
theorem kg {P:Prop}(h:P:=by simpa using hi):P:=h
theorem nZ {P:Prop}(h:P:=by unfold aC at h;exact h):P:=h
theorem xV {P:Prop}(h:P:=by rw[fG,List.length_singleton];omega):P:=h
theorem Qr {P:Prop}(h:P:=by intro S;simp only[go_sem,Nat.reduceBEq,Nat.reduceAdd, *];rw[if_pos (by decide)];exact Is.rfl):P:=h
theorem K8 {P:Prop}(h:P:=by obtain⟨s,h1,h2⟩:=h;exact⟨s,by rw[ho.1];exact h1,by rw[ho.2.2];exact h2⟩):P:=h
theorem nO {P:Prop}(h:P:=by rw[qj];omega):P:=h
theorem og {P:Prop}(h:P:=by rw[mO];omega):P:=h
theorem oV {P:Prop}(h:P:=by cases op<;>rfl):P:=h
theorem BM {P:Prop}(h:P:=by simp only[dK,hop,hz,Option.map_some]):P:=h
theorem tT {P:Prop}(h:P:=by intro i h;cases h):P:=h
theorem wE {P:Prop}(h:P:=by simp only[xR];omega):P:=h
theorem Ai {P:Prop}(h:P:=by rw[IntKind.wrap_i64];omega):P:=h
theorem K9 {P:Prop}(h:P:=by rw[hx];exact h2):P:=h
theorem Gs {P:Prop}(h:P:=by intro e;injection e with e1 e2;cases e2):P:=h
theorem Gt {P:Prop}(h:P:=by unfold ah.dQ at h2⊢;rw[hp];exact h2):P:=h
theorem uV {P:Prop}(h:P:=by simpa using h2):P:=h
theorem aFj {P:Prop}(h:P:=by rw[(ho o (by simpa using hs)).1];exact h1):P:=h
theorem za {P:Prop}(h:P:=by first|exact Aj|rfl):P:=h
theorem La {P:Prop}(h:P:=by simp only[go_sem,Nat.reduceBEq, *];rfl):P:=h
theorem wF {P:Prop}(h:P:=by simp[ql] at hs):P:=h
theorem BN {P:Prop}(h:P:=by simpa [aR] using hp):P:=h
theorem Ec {P:Prop}(h:P:=by unfold Sh.Event.c;simp):P:=h
theorem af6 {P:Prop}(h:P:=by rw[e,y9] at hm;cases hm):P:=h
theorem wG {P:Prop}(h:P:=by simp[xW] at h):P:=h
theorem sH {P:Prop}(h:P:=by simp[hv]):P:=h
theorem xX {P:Prop}(h:P:=by rw[fG];omega):P:=h
theorem Gu {P:Prop}(h:P:=by unfold aC;exact⟨aN,Ak,rfl⟩):P:=h
theorem Qs {P:Prop}(h:P:=by simp only[dK,hop,lC,hz,Option.map_some]):P:=h
theorem Gv {P:Prop}(h:P:=by rw[hlc,hlen];exact iR _):P:=h
theorem ze {P:Prop}(h:P:=by simpa using h):P:=h
theorem Lb {P:Prop}(h:P:=by rw[<-hy];exact(oh _ _ _).symm):P:=h
theorem Lc {P:Prop}(h:P:=by rw[<-hy];exact(kR _ _ e).symm):P:=h
theorem Qt {P:Prop}(h:P:=by unfold ah.lD at h2⊢;rw[hp];exact h2):P:=h
theorem BO {P:Prop}(h:P:=by simpa using hl):P:=h
theorem Qu {P:Prop}(h:P:=by simp only[eu,h1,Option.bind_some]):P:=h
theorem Ld {P:Prop}(h:P:=by rw[IntKind.wrap_u64];omega):P:=h
theorem tV {P:Prop}(h:P:=by simp[aR]):P:=h
theorem Qv {P:Prop}(h:P:=by unfold aC at h;subst h;simp[aR]):P:=h
theorem af7 {P:Prop}(h:P:=by rw[ho.1];exact h1):P:=h
theorem Le {P:Prop}(h:P:=by rw[(ho o hm).1];exact h1):P:=h
theorem Lf {P:Prop}(h:P:=by have:=hi.lt u _ hu;omega):P:=h
theorem wH {P:Prop}(h:P:=by simp at h):P:=h
theorem Qw {P:Prop}(h:P:=by rw[hx,Gw _ _ _ _ hp];exact h2):P:=h
theorem BP {P:Prop}(h:P:=by rw[xR];omega):P:=h
theorem Ed {P:Prop}(h:P:=by simpa using hj):P:=h
theorem af8 {P:Prop}(h:P:=by simpa using hs):P:=h
theorem uW {P:Prop}(h:P:=by cases hd):P:=h
theorem BQ {P:Prop}(h:P:=by cases d<;>rfl):P:=h
theorem Ee {P:Prop}(h:P:=by rw[b];exact h1):P:=h
theorem Lg {P:Prop}(h:P:=by simp[List.getD,hi']):P:=h
theorem Qx {P:Prop}(h:P:=by simp[oW,Fence.wide] at hd):P:=h
theorem Gx {P:Prop}(h:P:=by unfold rI;decide):P:=h
theorem Qy {P:Prop}(h:P:=by simp[Array.range_zero']):P:=h
theorem aFk {P:Prop}(h:P:=by rw[ho.2.2];exact h2):P:=h
theorem Gy {P:Prop}(h:P:=by simpa using h1):P:=h
theorem Ef {P:Prop}(h:P:=by rw[h];exact k):P:=h
theorem Qz {P:Prop}(h:P:=by simpa [er,aR] using hp):P:=h
theorem QA {P:Prop}(h:P:=by simp only[dK,hop,h2]):P:=h
theorem Al {P:Prop}(h:P:=by rw[<-hfr]):P:=h
theorem Lh {P:Prop}(h:P:=by simp at h2;omega):P:=h
theorem QB {P:Prop}(h:P:=by intro y hy;cases hy):P:=h
theorem Gz {P:Prop}(h:P:=by decide+kernel):P:=h
theorem QC {P:Prop}(h:P:=by simpa using k2.symm):P:=h
theorem zf {P:Prop}(h:P:=by rw[hh]):P:=h
theorem QD {P:Prop}(h:P:=by rw[hcc];simp;omega):P:=h
theorem QE {P:Prop}(h:P:=by have:3<=n:=hn;omega):P:=h
theorem QF {P:Prop}(h:P:=by intro hy;cases hy):P:=h
theorem Li {P:Prop}(h:P:=by rw[hb];exact h1):P:=h
theorem Lj {P:Prop}(h:P:=by rw[hl];exact h2):P:=h
theorem QG {P:Prop}(h:P:=by rw[hmap];exact k1):P:=h
theorem QH {P:Prop}(h:P:=by rw[fG];simp;omega):P:=h
theorem QI {P:Prop}(h:P:=by rw[d1,d4 rfl];rfl):P:=h
theorem Eh {P:Prop}(h:P:=by simp[hj]):P:=h
theorem Ll {P:Prop}(h:P:=by rw[a];exact h2):P:=h
theorem Lm {P:Prop}(h:P:=by rw[qm];omega):P:=h
theorem BR {P:Prop}(h:P:=by cases hx):P:=h
theorem QJ {P:Prop}(h:P:=by rw[hb'];exact hB):P:=h
theorem Ei {P:Prop}(h:P:=by simp[h]):P:=h
theorem QK {P:Prop}(h:P:=by rw[f];simp[dx,e]):P:=h
theorem QL {P:Prop}(h:P:=by unfold rI;omega):P:=h
theorem QM {P:Prop}(h:P:=by simpa using h0):P:=h
theorem GA {P:Prop}(h:P:=by rw[hd,e]):P:=h
theorem Lp {P:Prop}(h:P:=by rw[h.jq];rfl):P:=h
theorem Ej {P:Prop}(h:P:=by cases hv):P:=h
theorem GD {P:Prop}(h:P:=by simp[e]):P:=h
set_option linter.all false
section
namespace aQ
def iE:=@Option.some.injEq
def iP:=@Option.bind_eq_some_iff
def iR:=@Nat.le_refl
def mF:=@Prod.mk.injEq
def aY:=@Option.map_eq_some_iff
def aZ:=@Bool.and_eq_true
def dG:=@Bool.false_eq_true
def fG:=@List.length_append
def eZ:=@Nat.le_trans
def fH:=@List.length_map
def fI:=@List.getElem?_eq_getElem
def fP:=@List.append_assoc
def gQ:=@Nat.not_lt_zero
def mO:=@List.length_take
def iH:=@List.map_cons
def iN:=@List.mapM_cons
def qj:=@List.length_drop
def iZ:=@List.mem_singleton
def jr:=@List.mem_cons
def jv:=@List.mem_cons_self
def jD:=@List.append_nil
def jT:=@List.mem_cons_of_mem
def kS:=@Option.some.inj
def kT:=@List.flatMap_cons
def kU:=@Nat.le_succ
def lK:=@List.all_eq_true
def lM:=@List.getElem_mem
def lN:=@Int.le_refl
def mg:=@Nat.le_add_right
def nD:=@Nat.lt_of_lt_of_le
def nE:=@List.getD_eq_getElem?_getD
def nG:=@List.drop_eq_nil_of_le
def om:=@List.drop_eq_getElem_cons
def qm:=@List.drop_zero
def oI:=@Nat.mul_le_mul_right
def oJ:=@Nat.le_of_ble_eq_true
def oZ:=@Nat.add_assoc
def o7:=@Nat.zero_add
def pQ:=@Nat.ne_of_lt
def pR:=@Nat.zero_le
def qo:=@List.eq_nil_of_length_eq_zero
def qK:=@Nat.add_mul
def qL:=@Nat.le_max_right
def qM:=@List.map_append
def rH:=@List.mem_append
def rJ:=@List.take_of_length_le
def sI:=@Nat.succ_mul
def sJ:=@List.cons.injEq
def sK:=@Nat.le_max_left
def y9:=@Nat.beq_refl
def tX:=@List.mem_of_getElem?
def tY:=@Bool.or_eq_false_iff
def uX:=@List.getElem?_eq_some_iff
def uY:=@Nat.mul_comm
def uZ:=@List.length_pos_iff
def wI:=@Bool.or_eq_true
def xY:=@Bool.not_eq_true'
def xZ:=@Nat.eq_of_beq_eq_true
def zh:=@Array.getD_eq_getD_getElem?
def zi:=@Nat.le_of_eq
def Am:=@Nat.min_eq_left
def Ao:=@List.nodup_cons
def Ap:=@List.map_map
def Aq:=@Nat.add_sub_cancel_left
def BS:=@List.getElem_map
def BU:=@List.getElem_range
def BX:=@List.mem_append_right
def El:=@Nat.mod_eq_of_lt
def Em:=@List.take_append_drop
def En:=@List.map_congr_left
def Eo:=@List.mem_map
def Ep:=@List.mem_append_left
def Er:=@Nat.lt_succ_self
def Es:=@List.drop_append
def Et:=@List.take_append_of_le_length
def Eu:=@List.length_range
def Ev:=@List.filter_cons_of_neg
def Ew:=@List.filter_cons_of_pos
def GH:=@List.mem_iff_getElem
def GI:=@Int.toNat_of_nonneg
def GJ:=@List.drop_of_length_le
def Lr:=@List.mem_filter
def Ls:=@List.drop_append_of_le_length
def VI:=@List.getElem?_append_left
open Go
abbrev Loc:=Nat×Nat
inductive Cap where
 |sh
 |full
 |nil
 |own (n s:Nat)
inductive V where
 |int (k:IntKind) (n:Int)
 |bool (b:Bool)
 |str (s:List UInt8)
 |gZ
 |gL
 |iq
 |iO
 |agg (cs:List V)
 |bV (vs:List V)
 |ak (c:Cap) (l:List V)
 |aS (loc:Loc) (s off len cap bF:Nat) (ag:Bool)
 |aW (cs:List V) (off:Nat)
 |ref (loc:Loc) (s off:Nat)
 |fn (f:Fn) (first cap:List V)
 |fq (loc:Loc) (s:Nat)
 |fD (ks vs:List V)
 |iface (t:TypeId) (v:V)
 |raw (v:Value)
instance:Inhabited V:=⟨.bV []⟩
def aP:V:=.bV []
def V.cells:V->List V
 |.agg cs=>cs|v=>[v]
def lQ:Value->Option V
 |.bool b=>some (.bool b)|.int k n=>some (.int k n)|.string s=>some (.str s.data.toList)|.pointer none=>some .gZ|.slice none 0 0=>some (.ak .nil [])|.map none=>some .iq|.nilFunc=>some .gL|.nilIface=>some .iO|_=>none
def ofValue:Value->Option V
 |.agg cs=>(cs.toList.mapM lQ).map .agg|.tuple cs=>(cs.toList.mapM lQ).map .bV|v=>lQ v
mutual
def aR:V->Bool
 |.int _ _|.bool _|.str _|.gZ|.gL|.iq|.iO=>true|.agg cs=>bY cs|.bV vs=>bY vs|.ak .sh l=>bY l|.ak _ _=>false|.aS .. |.ref .. |.fq .. =>false|.aW cs _=>bY cs|.fn (.func _) a b=>bY a&& bY b|.fn _ _ _=>false|.fD ks vs=>bY ks&& bY vs|.iface _ v=>aR v|.raw _=>false
def bY:List V->Bool
 | []=>true|v::l=>aR v&& bY l
end
mutual
def flat:V->Bool
 |.int _ _|.bool _|.str _|.gZ|.gL|.iq|.iO=>true|.agg cs=>lS cs|.bV vs=>lS vs|_=>false
def lS:List V->Bool
 | []=>true|v::l=>flat v&& lS l
end
def gH:V->V
 |.ak _ l=>.ak .sh l|v=>v
def er:V->V
 |.ak _ l=>.ak .sh l|.agg cs=>.agg (cs.map gH)|v=>v
inductive kH where
 |cells (cs:List V)
 |map (ks vs:List V)
inductive Ex where
 |normal
 |exit (id:Nat)
 |ret
structure Fr where
 d:Nat
 aj:Bool
 tm:Nat->V
structure Ey where
 st:Nat
 pend:Option Ex
 fr:Fr
 ps:List Nat
 gF:Code
 body:Code
structure ah where
 next:Nat
 top:Nat->Nat
 obj:Loc->Option (Nat×kH)
 loops:Nat->Option Ey
def ah.init:ah:=⟨0,fun _=>0,fun _=>none,fun _=>none⟩
def upd {κ U:Type}[DecidableEq κ](f:κ->U)(k:κ)(v:U):κ->U:=fun j=>if j=k then v else f j
def Fr.set (fr:Fr)(i:Nat)(v:V):Fr:={fr with tm:=upd fr.tm i v}
def Fr.put (fr:Fr)(d:Option Nat)(v:V):Fr:=match d with
 |some i=>fr.set i v|none=>fr
def ah.setObj (Y:ah)(loc:Loc)(s:Nat)(o:kH):ah:={Y with obj:=upd Y.obj loc (some (s,o))}
def ah.ko (Y:ah)(loc:Loc):ah:={Y with obj:=upd Y.obj loc none}
def ah.eB (Y:ah)(s n:Nat):ah:={Y with top:=upd Y.top s n}
def ah.nP (Y:ah)(l:Nat)(r:Ey):ah:={Y with loops:=upd Y.loops l (some r)}
def ah.u6 (Y:ah)(l:Nat):ah:={Y with loops:=upd Y.loops l none}
def kr:Code->Bool
 |.seq a b=>kr a&& kr b|.cond _ a b=>kr a&& kr b|.block _ c=>kr c|.loop c=>kr c|.scope c=>kr c|.rangeFunc .. =>false|_=>true
def ah.dQ (Y:ah)(loc:Loc)(s:Nat):Option (List V):=
 match Y.obj loc with
 |some (s',.cells cs)=>if s'=s then some cs else none|_=>none
def ah.lD (Y:ah)(loc:Loc)(s:Nat):Option (List V×List V):=
 match Y.obj loc with
 |some (s',.map ks vs)=>if s'=s then some (ks,vs) else none|_=>none
def chunks (agg:Bool)(n:Nat):Nat->List V->List V
 |0,_=>[]|k+1,cs=>(if agg then V.agg (cs.take n) else cs.headD aP)::chunks agg n k (cs.drop n)
def oneCell:V->Bool
 |.agg _|.bV _|.raw _=>false|_=>true
def dx (l:List V):Bool:=l.all oneCell
def bq:Nat->ah->V->Option V
 |0,_,_=>none|n+1,Y,v=>if aR v then some v else match v with
  |.ak _ l=>(l.mapM (bq n Y)).map (.ak .sh)|.agg cs=>(cs.mapM (bq n Y)).map .agg|.bV cs=>(cs.mapM (bq n Y)).map .bV|.aW cs off=>(cs.mapM (bq n Y)).map (.aW · off)|.fn (.func f) a b=>(a.mapM (bq n Y)).bind fun a=>(b.mapM (bq n Y)).map fun b=>.fn (.func f) a b
  |.ref loc s off=>(Y.dQ loc s).bind fun cs=>(cs.mapM (bq n Y)).map (.aW · off)
  |.aS loc s off len _ bF ag=>(Y.dQ loc s).bind fun cs=>
     if off+len*bF<=cs.length then (((cs.drop off).take (len*bF)).mapM (bq n Y)).bind fun cs=>if ag||bF==1&& dx cs then some (.ak .sh (chunks ag bF len cs)) else none else none
  |.fq loc s=>(Y.lD loc s).bind fun (ks,vs)=>(ks.mapM (bq n Y)).bind fun ks=>(vs.mapM (bq n Y)).map fun vs=>.fD ks vs
  |.fD ks vs=>(ks.mapM (bq n Y)).bind fun ks=>(vs.mapM (bq n Y)).map fun vs=>.fD ks vs
  |.iface t v=>(bq n Y v).map (.iface t)|_=>none
section ops
variable (P:Program)
def dM (t:TypeId):Option Nat:=(P.info? t).map (·.size)
def u7 (t:TypeId):Option Nat:=(P.info? t).map (·.bytes)
def jU (t:TypeId):Option Bool:=(P.underlying t).map fun
 |.struct _|.array .. =>true|_=>false
def jc (t:TypeId):Option V:=((P.info? t).bind (·.zero)).bind ofValue
def x9 (t:TypeId)(f:Nat):Option (Nat×TypeId):=
 match P.underlying t with
 |some (.struct fs)=>(fs[f]?).bind fun f=>match dM P f.type with
  |some (_+1)=>some (f.offset,f.type)|_=>none
 |_=>none
def lT (t:TypeId):Option TypeId:=
 match P.underlying t with
 |some (.slice e)=>some e|_=>none
def vg (t:TypeId):Option (Nat×TypeId):=
 match P.underlying t with
 |some (.array n e)=>some (n,e)|_=>none
def aph (t:TypeId):Option (TypeId×TypeId):=
 match P.underlying t with
 |some (.map k e)=>some (k,e)|_=>none
def rM (agg:Bool)(n:Nat)(cs:List V)(off:Nat):Option V:=
 if agg then (if off+n<=cs.length then some (.agg ((cs.drop off).take n)) else none) else cs[off]?
def gT (t:TypeId)(cs:List V)(off:Nat):Option V:=
 (jU P t).bind fun a=>(dM P t).bind fun n=>rM a n cs off
def gM (cs:List V)(off:Nat)(vs:List V):List V:=cs.take off++vs++cs.drop (off+vs.length)
def fE:V->Bool
 |.raw _=>false|_=>true
def sM (place:Nat->Option (Nat×Nat))(cells:List V):List (Nat×V)->Option (List V)
 | []=>some cells| (i,v)::rest=>
   match place i with
   |none=>none|some (off,size)=>
    if v.cells.length=size/\off+size<=cells.length/\fE v then sM place (gM cells off v.cells) rest else none
def Ez (eq:TypeId->V->V->Option Bool)(xs ys:List V):List Field->Option Bool
 | []=>some true|f::fs=>
  if f.name= "_" then Ez eq xs ys fs else (gT P f.type xs f.offset).bind fun a=>(gT P f.type ys f.offset).bind fun b=>(eq f.type a b).bind fun r=>(Ez eq xs ys fs).map (r&& ·)
def GK (eq:TypeId->V->V->Option Bool)(e:TypeId)(sz:Nat)(xs ys:List V):List Nat->Option Bool
 | []=>some true|i::is=>(gT P e xs (i*sz)).bind fun a=>(gT P e ys (i*sz)).bind fun b=>(eq e a b).bind fun r=>(GK eq e sz xs ys is).map (r&& ·)
def BZ:Nat->TypeId->V->V->Option Bool
 |0,_,_,_=>none|d+1,t,x,y=>
  match P.underlying t,x,y with
  |some .bool,.bool a,.bool b=>some (a==b)|some (.int _),.int k a,.int k' b=>if k=k' then some (a==b) else none|some .string,.str a,.str b=>some (a==b)|some (.struct fs),.agg xs,.agg ys=>if P.stoodInHeld t then none else Ez P (BZ d) xs ys fs.toList|some (.array n e),.agg xs,.agg ys=>(dM P e).bind fun sz=>GK P (BZ d) e sz xs ys (List.range n)
  |_,_,_=>none
def vk (t:TypeId)(x y:V):Option Bool:=
 match P.underlying t,x,y with
 |some (.func ..),.gL,.gL=>some true|some (.func ..),.gL,.fn _ _ _|some (.func ..),.fn _ _ _,.gL=>some false|some (.pointer _),.gZ,.gZ=>some true|some (.pointer _),.gZ,.ref .. |some (.pointer _),.ref ..,.gZ|some (.pointer _),.gZ,.aW .. |some (.pointer _),.aW ..,.gZ=>some false|some (.slice _),.ak .nil _,.ak .nil _=>some true|some (.slice _),.ak .nil _,.ak _ (_::_)|some (.slice _),.ak _ (_::_),.ak .nil _=>some false
 |some (.map ..),.iq,.iq=>some true|some (.map ..),.iq,.fq .. |some (.map ..),.fq ..,.iq|some (.map ..),.iq,.fD .. |some (.map ..),.fD ..,.iq=>some false|some (.struct _),.agg a,.agg b|some (.array ..),.agg a,.agg b=>if P.eqGuardType P.depth t then none else BZ P 8 t (.agg a) (.agg b)|some .bool,.bool a,.bool b=>some (a==b)|some (.interface ms),.iO,.iO=>if ms.isEmpty then some true else none|some (.interface _),.iO,.iface _ _|some (.interface _),.iface _ _,.iO=>some false
 |_,_,_=>none
def nH (op:BinOp)(k:IntKind)(x y:Int):Option V:=
 match op with
 |.add=>some (.int k (k.wrap (x+y)))|.sub=>some (.int k (k.wrap (x-y)))|.mul=>some (.int k (k.wrap (x*y)))|.quo=>if y=0 then none else some (.int k (k.wrap (x.tdiv y)))|.rem=>if y=0 then none else some (.int k (x.tmod y))|.and=>some (.int k (k.wrap (BitVec.ofInt k.bits x&&& BitVec.ofInt k.bits y).toNat))|.or=>some (.int k (k.wrap (BitVec.ofInt k.bits x|||BitVec.ofInt k.bits y).toNat))|.xor=>some (.int k (k.wrap (BitVec.ofInt k.bits x^^^BitVec.ofInt k.bits y).toNat))
 |.andNot=>some (.int k (k.wrap (BitVec.ofInt k.bits x&&& ~~~BitVec.ofInt k.bits y).toNat))|.eql=>some (.bool (x==y))|.neq=>some (.bool (x !=y))|.lss=>some (.bool (x<y))|.leq=>some (.bool (x<=y))|.gtr=>some (.bool (x>y))|.geq=>some (.bool (x>=y))|_=>none
def Lu (op:BinOp)(k:IntKind)(x y:Int):Option V:=
 if y<0 then none else match op with
 |.shl=>some (.int k (k.wrap (x*2^min y.toNat k.bits)))|.shr=>some (.int k (x.fdiv (2^min y.toNat k.bits)))|_=>none
def Ca (op:BinOp)(x y:List UInt8):Option V:=
 match op with
 |.add=>if ((x.length+y.length:Nat):Int)>IntKind.i64.max then none else some (.str (x++y))|.eql=>some (.bool (x==y))|.neq=>some (.bool !(x==y))|.lss=>some (.bool (Op.bytesLess x y))|.leq=>some (.bool (Op.bytesLess x y||x==y))|.gtr=>some (.bool !(Op.bytesLess x y||x==y))|.geq=>some (.bool !(Op.bytesLess x y))|_=>none
def sN (op:BinOp)(t:TypeId)(x y:V):Option V:=
 match op,x,y with
 |.shl,.int k a,.int _ b|.shr,.int k a,.int _ b=>Lu op k a b|_,.int k a,.int k' b=>if k=k' then nH op k a b else none|_,.str a,.str b=>Ca op a b|.eql,x,y=>(vk P t x y).map .bool|.neq,x,y=>(vk P t x y).map fun b=>.bool !b
 |_,_,_=>none
def EA (op:UnOp)(x:V):Option V:=
 match op,x with
 |.neg,.int k n=>some (.int k (k.wrap (0-n)))|.xor,.int k n=>nH .xor k (if k.signed then-1 else k.max) n|.not,.bool b=>some (.bool !b)|_,_=>none
def wJ (b:UInt8):V:=.int .u8 b.toNat
def EB:V->Option UInt8
 |.int .u8 n=>some (UInt8.ofNat n.toNat)|_=>none
def Ar (Y:ah)(src dst:TypeId)(x:V):Option V:=
 match P.underlying src,P.underlying dst,x with
 |some _,some (.int k),.int _ n=>some (.int k (k.wrap n))|some _,some .string,.str s=>some (.str s)|some (.slice e),some .string,.ak _ l=>
  match P.underlying e with
  |some (.int .u8)=>(l.mapM EB).map .str|_=>none
 |some (.slice e),some .string,.aS loc s off len _ _ _=>
  match P.underlying e with
  |some (.int .u8)=>(Y.dQ loc s).bind fun cs=>if off+len<=cs.length then (((cs.drop off).take len).mapM EB).map .str else none
  |_=>none
 |_,_,_=>none
def pU:V->Option Int
 |.int _ n=>some n|_=>none
def bnd (x:V)(y:Nat):Option Nat:=(pU x).bind fun i=>if 0<=i/\i<=y then some i.toNat else none
def jE (len cap:Nat)(lo hi mx:Option V):Option (Nat×Nat×Nat):=
 (match mx with|some v=>bnd v cap|none=>some cap).bind fun m=>(match hi,mx with
   |some v,some _=>bnd v m|some v,none=>bnd v m|none,none=>some len|none,some _=>none).bind fun h=>(match lo with|some v=>bnd v h|none=>some 0).bind fun l=>some (l,h,m)
def oK (sz:Nat):List V->Bool
 | []=>true|v::_=>v.cells.length==sz
def lF (Y:ah)(t:TypeId)(x:V)(lo hi mx:Option V):Option V:=
 match P.underlying t,x with
 |some .string,.str s=>
  match mx with
  |some _=>none|none=>(jE s.length s.length lo hi none).map fun (l,h,_)=>.str ((s.take h).drop l)
 |some (.slice e),.ak c s=>
  (dM P e).bind fun sz=>(jE s.length s.length lo hi mx).bind fun (l,h,m)=>if oK sz s then some<|
    if l=0/\h=s.length/\mx.isNone then .ak c s else .ak (match mx with|some _=>if m=h then .full else .sh|none=>match c with|.full=>if h=s.length then .full else .sh|_=>.sh) ((s.take h).drop l)else none
 |some (.slice e),.aS loc st off len cap bF ag=>
  (dM P e).bind fun sz=>(jE len cap lo hi mx).bind fun (l,h,m)=>if sz=bF then some<|
    if l=h/\0<l then .ak (match mx with|some _=>if m=h then .full else .sh|none=>.sh) [] else .aS loc st (off+l*bF) (h-l) (m-l) bF ag else none
 |some (.array n e),.ref loc st off=>
  (dM P e).bind fun sz=>(jU P e).bind fun ag=>(jE n n lo hi mx).bind fun (l,h,m)=>(Y.dQ loc st).bind fun cs=>if off+n*sz<=cs.length then some<|
    if l=h/\0<l then .ak (match mx with|some _=>if m=h then .full else .sh|none=>.sh) [] else .aS loc st (off+l*sz) (h-l) (m-l) sz ag else none
 |some (.array n e),.aW cs off=>
  (dM P e).bind fun sz=>(jU P e).bind fun ag=>(jE n n lo hi mx).bind fun (l,h,_)=>
    if off+n*sz<=cs.length/\(ag=false->sz=1/\dx cs=true) then some (.ak .sh (chunks ag sz (h-l) (cs.drop (off+l*sz)))) else none
 |_,_=>none
def idx (i:V)(n:Nat):Option Nat:=(pU i).bind fun i=>if 0<=i/\i<n then some i.toNat else none
def qp (t:TypeId)(x i:V):Option V:=
 match P.underlying t,x with
 |some (.slice e),.ak _ l=>(dM P e).bind fun sz=>(idx i l.length).bind fun k=>(l[k]?).bind fun e=>if e.cells.length=sz then some (.aW e.cells 0) else none
 |some (.slice e),.aS loc st off len _ bF _=>(dM P e).bind fun sz=>(idx i len).bind fun k=>if sz=bF then some (.ref loc st (off+k*bF)) else none
 |some (.array n e),.ref loc st off=>(dM P e).bind fun sz=>(idx i n).map fun k=>.ref loc st (off+k*sz)
 |some (.array n e),.aW cs off=>(dM P e).bind fun sz=>(idx i n).map fun k=>.aW cs (off+k*sz)
 |_,_=>none
def EC (t:TypeId)(x i:V):Option V:=
 match P.underlying t,x with
 |some (.array n e),.agg cs=>(idx i n).bind fun k=>(dM P e).bind fun sz=>gT P e cs (k*sz)
 |some .string,.str s=>(idx i s.length).bind fun k=>(s[k]?).map wJ
 |_,_=>none
def ED (Y:ah)(t:TypeId)(m k:V)(ok:Bool):Option V:=
 (fun (_:Program) (_:ah) (_:TypeId) (_ _:V) (_:Bool)=>none) P Y t m k ok
def Au (Y:ah)(t:TypeId)(m k v:V):Option ah:=
 (fun (_:Program) (_:ah) (_:TypeId) (_ _ _:V)=>none) P Y t m k v
def bZ (n b:Nat):Bool:=n*b<=2^47&& n<=2^47
def nQ (Y:ah)(ag:Bool)(sz:Nat)(z:V):V->Option (List V)
 |.int _ n=>if 0<=n/\n<=2^47 then some (List.replicate n.toNat z) else none|.ak _ l=>if oK sz l then some l else none|.str s=>if sz=1 then some (s.map wJ) else none|.aS loc s off len _ bF _=>if bF≠sz then none else (Y.dQ loc s).bind fun cs=>
  if off+len*sz<=cs.length/\(dx cs=true\/ag=true) then some ((chunks ag sz len (cs.drop off)).map er) else none
 |_=>none
def zk:V->Bool
 |.int _ _=>true|_=>false
def kI (aj zeros:Bool)(Y:ah)(st:Nat)(loc:Option Loc)(t:TypeId)(x y:V):Option (V×ah):=
 (lT P t).bind fun e=>(dM P e).bind fun sz=>(u7 P e).bind fun gI=>(jU P e).bind fun ag=>(jc P e).bind fun z=>
 if zeros=zk y/\z.cells.length=sz/\0<sz/\(ag||sz==1)=true then (nQ Y ag sz z y).bind fun ys=>
 if ys.all (fun v=>dx v.cells)=true then match x with
 |.ak c l=>
  if bZ (l.length+ys.length) gI=true/\oK sz l=true then match aj,c with
   |true,.nil=>loc.map fun loc=>(.aS loc st 0 (l.length+ys.length) (l.length+ys.length) sz ag,Y.setObj loc st (.cells ((l++ys).flatMap V.cells)))
   |true,.full=>if ys.isEmpty then some (.ak .full l,Y) else loc.map fun loc=>(.aS loc st 0 (l.length+ys.length) (l.length+ys.length) sz ag,Y.setObj loc st (.cells ((l++ys).flatMap V.cells)))
   |false,.own n s=>if n=sz/\Y.top s=l.length then some (.ak (.own n s) (l++ys),Y.eB s (l.length+ys.length)) else none|false,.nil|false,.full=>some (.ak (.own sz st) (l++ys),Y.eB st (l.length+ys.length))|_,_=>none else none
 |.aS kJ s off len cap bF _=>
  if bZ (len+ys.length) gI=true/\aj=true/\off=0/\bF=sz then loc.bind fun loc=>(Y.dQ kJ s).bind fun cs=>
    if len+ys.length<=cap then if (len+ys.length)*sz<=cs.length then some (.aS kJ s 0 (len+ys.length) cap sz ag,Y.setObj kJ s (.cells (gM cs (len*sz) (ys.flatMap V.cells))))else none else if len*sz<=cs.length then some (.aS loc st 0 (len+ys.length) (len+ys.length) sz ag,(Y.ko kJ).setObj loc st (.cells (cs.take (len*sz)++ys.flatMap V.cells)))else none else none
 |_=>none else none else none
def copyV (Y:ah)(t:TypeId)(x y:V):Option (V×ah):=
 (lT P t).bind fun e=>(dM P e).bind fun sz=>(jU P e).bind fun ag=>
 if zk y=false/\(ag||sz==1)=true then (nQ Y ag sz aP y).bind fun ys=>
  if ys.all (fun v=>dx v.cells)=true then match x with
  |.aS loc s off len _ bF _=>
   (Y.dQ loc s).bind fun cs=>
     if bF=sz/\off+min ys.length len*sz<=cs.length then some (.int .i64 (min ys.length len:Nat),Y.setObj loc s (.cells (gM cs off ((ys.take (min ys.length len)).flatMap V.cells))))else none
  |.ak _ []=>some (.int .i64 (0:Nat),Y)|_=>none else none else none
def VJ (t:TypeId)(ok:Bool)(x:V):Option V:=
 match P.underlying t with
 |none|some (.interface _)=>none|some _=>match x with
  |.iface u v=>if u=t then some (if ok then .bV [v,.bool true] else v) else if ok then (jc P t).map fun z=>.bV [z,.bool false] else none
  |.iO=>if ok then (jc P t).map fun z=>.bV [z,.bool false] else none
  |_=>none
def GL (Y:ah)(t:TypeId)(x:V):Option (V×ah):=
 (fun (_:Program) (_:ah) (_:TypeId) (_:V)=>none) P Y t x
def yc (mx:Bool):V->List V->Option V
 |x,[]=>some x|.int k a,.int k' b::l=>if k=k' then yc mx (.int k (if mx then (if b>a then b else a) else (if b<a then b else a))) l else none|_,_=>none
def Av (aj:Bool)(Y:ah)(st:Nat)(loc:Option Loc)(t:TypeId)(l c:V):Option (V×ah):=
 (fun (_:Program) (_:Bool) (_:ah) (_:Nat) (_:Option Loc) (_:TypeId) (_ _:V)=>none) P aj Y st loc t l c
end ops
end aQ
end
section
namespace aQ
open Go
structure Env where
 P:Program
 glob:Nat->Option (List V)
 imp:FuncId->Bool
 aj:FuncId->Bool
 mP:FuncId->Option (List V->Option V)
 own:FuncId->Nat->Bool:=fun _ _=>false
 zl:FuncId->Bool:=fun _=>false
 af9:TypeId->Bool:=fun _=>false
 apj:Nat->Bool:=fun _=>false
 cn:Nat->Nat:=fun d=>d
 apk:Nat->Bool:=fun _=>false
 apl:Nat->Bool:=fun _=>true
section
variable (E:Env)
def Fr.ev (fr:Fr):Operand->V
 |.tmp t=>fr.tm t|.const v=>(ofValue v).getD (.raw v)|.global g=>match E.glob g with|some cs=>.aW cs 0|none=>.raw (.pointer (some ⟨g,0,none⟩))
 |.func f=>.fn (.func f) [] []
def lC (fr:Fr):Option Operand->Option V
 |none=>none|some x=>some (fr.ev E x)
def yg:V->Option Bool
 |.bool b=>some b|_=>none
def GN (t:TypeId):Option (Nat->Option (Nat×Nat)):=
 match E.P.underlying t with
 |some (.struct fs)=>if fs.toList.all (fun f=>(dM E.P f.type).isSome) then some fun i=>(fs[i]?).bind fun f=>(dM E.P f.type).map fun n=>(f.offset,n)else none
 |some (.array _ e)=>(dM E.P e).map fun n=>fun i=>some (i*n,n)
 |_=>none
def Cb (t:TypeId)(len:Nat)(parts:List (Nat×V)):Option V:=
 (lT E.P t).bind fun e=>(dM E.P e).bind fun sz=>(jU E.P e).bind fun ag=>(jc E.P e).bind fun z=>
 if len*sz<=2^24/\z.cells.length=sz/\0<sz/\(ag||sz==1)=true then (sM (fun i=>if i<len then some (i*sz,sz) else none) (List.replicate len z.cells).flatten parts).bind fun cs=>
    if dx cs then some (.ak .full ((chunks ag sz len cs).map er)) else none else none
def tZ (t:TypeId)(d:Option Nat):Bool:=E.af9 t&& (match d with
 |some d=>E.apl (1000*t+d)|none=>true)
def zm (d:Option Nat):Bool:=match d with
 |some d=>E.apk d|none=>false
def Cc (Y:ah)(st:Nat)(loc:Option Loc)(t:TypeId)(len:Nat)(parts:List (Nat×V)):Option (V×ah):=
 (lT E.P t).bind fun e=>(dM E.P e).bind fun sz=>(jU E.P e).bind fun ag=>(jc E.P e).bind fun z=>
 if len*sz<=2^24/\z.cells.length=sz/\0<sz then (sM (fun i=>if i<len then some (i*sz,sz) else none) (List.replicate len z.cells).flatten parts).bind fun cs=>
    loc.map fun loc=>(.aS loc st 0 len len sz ag,Y.setObj loc st (.cells cs))else none
def yh (d:Option Nat):Bool:=match d with
 |some d=>E.apj d|none=>false
def yj (Y:ah)(x:V):Option (V×ah):=match x with
 |.aS loc s off len _ bF ag=>(Y.dQ loc s).bind fun cs=>
  if off+len*bF<=cs.length/\(ag||bF==1&& dx (((cs.drop off).take (len*bF)).map gH))=true then some (.ak .sh (chunks ag bF len (((cs.drop off).take (len*bF)).map gH)),Y.ko loc) else none
 |.ak _ l=>some (.ak .sh l,Y)|v=>some (v,Y)
def dK (fr:Fr)(Y:ah)(st:Nat)(o:Oper):Option (V×ah):=
 let loc:Option Loc:=o.dst.map fun t=>(fr.d,t)
 match o.op with
 |.move x=>if yh E o.dst=true then yj Y (fr.ev E x) else some (fr.ev E x,Y)|.assign x=>some (fr.ev E x,Y)|.pick c a b=>(yg (fr.ev E c)).map fun t=>(if t then fr.ev E a else fr.ev E b,Y)
 |.alloc t=>loc.bind fun loc=>(jc E.P t).bind fun z=>if dx z.cells then some (.ref loc st 0,Y.setObj loc st (.cells z.cells)) else none
 |.box t x=>if tZ E t o.dst=true then (if aR (er (fr.ev E x))=true/\fE (fr.ev E x) then some (.aW (er (fr.ev E x)).cells 0,Y) else none) else loc.bind fun loc=>if dx (fr.ev E x).cells/\fE (fr.ev E x) then some (.ref loc st 0,Y.setObj loc st (.cells (fr.ev E x).cells)) else none
 |.build t parts=>(GN E t).bind fun pl=>(jc E.P t).bind fun z=>(sM pl z.cells (parts.toList.map fun (i,x)=>(i,fr.ev E x))).map fun cs=>(.agg cs,Y)
 |.buildSlice t len parts=>if zm E o.dst=true then Cc E Y st (o.dst.map fun t=>(fr.d,E.cn t)) t len (parts.toList.map fun (i,x)=>(i,fr.ev E x)) else (Cb E t len (parts.toList.map fun (i,x)=>(i,fr.ev E x))).map fun v=>(v,Y)
 |.load t a=>match fr.ev E a with
  |.ref loc s off=>(Y.dQ loc s).bind fun cs=>(gT E.P t cs off).map fun v=>(v,Y)
  |.aW cs off=>(gT E.P t cs off).map fun v=>(v,Y)
  |_=>none
 |.store t a x=>match fr.ev E a with
  |.ref loc s off=>(Y.dQ loc s).bind fun cs=>
   if some (fr.ev E x).cells.length=dM E.P t/\off+(fr.ev E x).cells.length<=cs.length/\dx (fr.ev E x).cells then some (aP,Y.setObj loc s (.cells (gM cs off (fr.ev E x).cells))) else none
  |_=>none
 |.nilCheck x=>match fr.ev E x with
  |.ref loc s off=>some (.ref loc s off,Y)|.aW cs off=>some (.aW cs off,Y)|.fn (.func f) a b=>some (.fn (.func f) a b,Y)|_=>none
 |.binOp op t x y _=>(sN E.P op t (fr.ev E x) (fr.ev E y)).map fun v=>(v,Y)
 |.unOp op _ x=>(EA op (fr.ev E x)).map fun v=>(v,Y)
 |.convert a b x=>(Ar E.P Y a b (fr.ev E x)).map fun v=>(v,Y)
 |.sliceToArrayPointer t x=>(vg E.P t).bind fun (n,_)=>match fr.ev E x with
  |.aS loc s off len _ _ _=>if 0<n/\n<=len then some (.ref loc s off,Y) else none|.ak _ l=>if 0<n/\n<=l.length/\dx l=true then some (.aW (l.take n) 0,Y) else none|_=>none
 |.makeInterface t x=>match E.P.underlying t with
  |some (.interface _)=>none|some _=>some (.iface t (fr.ev E x),Y)|none=>none
 |.makeFunc (.func f) a b=>some (.fn (.func f) (a.toList.map (fr.ev E)) (b.toList.map (fr.ev E)),Y)|.makeMap _ none=>loc.map fun loc=>(.fq loc st,Y.setObj loc st (.map [] []))
 |.makeSlice t l c=>Av E.P fr.aj Y st loc t (fr.ev E l) (fr.ev E c)|.slice t x lo hi mx=>(lF E.P Y t (fr.ev E x) (lC E fr lo) (lC E fr hi) (lC E fr mx)).map fun v=>(v,Y)
 |.fieldAddr t x f=>(x9 E.P t f).bind fun (o,_)=>match fr.ev E x with
  |.ref loc s off=>some (.ref loc s (off+o),Y)|.aW cs off=>some (.aW cs (off+o),Y)|_=>none
 |.field t x f=>(x9 E.P t f).bind fun (o,u)=>match fr.ev E x with
  |.agg cs=>(gT E.P u cs o).map fun v=>(v,Y)
  |_=>none
 |.indexAddr t x i=>(qp E.P t (fr.ev E x) (fr.ev E i)).map fun v=>(v,Y)
 |.index t x i=>(EC E.P t (fr.ev E x) (fr.ev E i)).map fun v=>(v,Y)
 |.lookup t x i ok=>(ED E.P Y t (fr.ev E x) (fr.ev E i) ok).map fun v=>(v,Y)
 |.mapUpdate t m k v|.insert t m k v=>(Au E.P Y t (fr.ev E m) (fr.ev E k) (fr.ev E v)).map fun Y=>(aP,Y)
 |.extract x i=>match fr.ev E x with
  |.bV vs=>(vs[i]?).map fun v=>(v,Y)
  |_=>none
 |.typeAssert x _ t ok=>(VJ E.P t ok (fr.ev E x)).map fun v=>(v,Y)
 |_=>none
def vo (Y:ah)(t:TypeId)(x:V):Option Nat:=
 match E.P.underlying t,x with
 |some (.array n _),_=>some n|some (.map _ _),.fq loc s=>(Y.lD loc s).map fun (ks,_)=>ks.length
 |some (.map _ _),.fD ks _=>some ks.length|some (.map _ _),.iq=>some 0|some (.pointer a),_=>(vg E.P a).map fun (n,_)=>n
 |some (.slice _),.ak _ l=>some l.length|some (.slice _),.aS _ _ _ len _ _ _=>some len|some .string,.str s=>some s.length|_,_=>none
def qN (aj:Bool)(loc:Option Loc)(Y:ah)(st:Nat)(b:Builtin)(tys:Array TypeId)(args:List V):Option (V×ah):=
 match b,args with
 |.len,[x]=>(tys[0]?).bind fun t=>(vo E Y t x).map fun n=>(.int .i64 (n:Nat),Y)
 |.cap,[x]=>(tys[0]?).bind fun t=>(lT E.P t).bind fun _=>match x with
  |.ak .nil l|.ak .full l=>some (.int .i64 l.length,Y)|_=>none
 |.append,[x,y]=>(tys[0]?).bind fun t=>((tys[1]?).bind E.P.underlying).bind fun u=>match u with
  |.int _=>kI E.P aj true Y st loc t x y|.slice _|.string=>kI E.P aj false Y st loc t x y|_=>none
 |.copy,[x,y]=>(tys[0]?).bind fun t=>copyV E.P Y t x y
 |.clear,[x]=>(tys[0]?).bind fun t=>GL E.P Y t x
 |.min,x::l=>(yc false x l).map fun v=>(v,Y)
 |.max,x::l=>(yc true x l).map fun v=>(v,Y)
 |_,_=>none
structure iW where
 code:Code->Fr->ah->Option (Ex×Fr×ah)
 call:FuncId->List V->Nat->ah->Option (V×ah)
variable (S:iW)
def mQ (f:FuncId)(args:List V):Option V:=
 match E.mP f with
 |some g=>g args|none=>(S.call f args 1 ah.init).bind fun (v,Y)=>bq 20 Y v
def yt (l:Nat)(args:List V)(Y:ah):Option (V×ah):=
 (Y.loops l).bind fun r=>
 if r.st=0/\r.ps.length=args.length then (S.code r.gF {r.fr with tm:=(r.ps.zip args).foldl (fun tm (p,a)=>upd tm p a) r.fr.tm} Y).bind fun (e,fr,aB)=>
  match e with
  |.normal=>(aB.loops l).bind fun r1=>
   if r1.st=0 then (S.code r.body fr (aB.nP l {r1 with st:=1})).bind fun (e,_,cO)=>(cO.loops l).bind fun r2=>
    if r2.st=1 then match e with
     |.normal=>some (.bool true,cO.nP l {r2 with st:=0,pend:=none})
     |e=>some (.bool false,cO.nP l {r2 with st:=2,pend:=some e})else none else none
  |_=>none else none
def jL (d:Nat)(Y:ah)(fv:V)(args:List V):Option (V×ah):=
 match fv with
 |.fn (.func f) first cap=>
  if E.imp f then S.call f (first++args++cap) (d+1) Y else ((first++args++cap).mapM (bq 20 Y)).bind fun dN=>(mQ E S f dN).bind fun v=>
   if (first++args++cap).all (fun a=>aR (er a))||flat v then some (v,Y) else none
 |.fn (.yield l) [] []=>yt S l args Y|_=>none
def lU (fr:Fr)(o:Oper)(f:Operand):Bool:=match fr.ev E f,o.dst with
 |.fn (.func g) _ _,some d=>E.own g d|_,_=>false
def rO (Y:ah)(st:Nat)(aB:ah):V->Option (V×ah)
 |.ak c l=>if bY l=true then (match c with
  |.nil=>some (.ak .nil l,Y)|.full=>some (.ak .full l,Y)|.own n s=>if aB.top s=l.length then some (.ak (.own n st) l,Y.eB st l.length) else none|.sh=>none) else none
 |.aS loc s off len _ bF _=>if off=0/\len=0 then (aB.dQ loc s).bind fun _=>some (.ak (.own bF st) [],Y.eB st 0) else none
 |_=>none
def vv (b:Bool)(Y:ah)(l:List V):Option (List V):=if b=true then (match l with
 |.ak .nil []::l=>(l.mapM (bq 20 Y)).map (.ak .nil []:: ·)|_=>none) else l.mapM (bq 20 Y)
def qO (Y:ah)(st:Nat)(fv:V)(args:List V):Option (V×ah):=
 match fv with
 |.fn (.func f) first cap=>if (first++args++cap).all (fun a=>aR (er a))=true then (vv (E.zl f) Y (first++args++cap)).bind fun dN=>(S.call f dN 1 ah.init).bind fun (v0,aB)=>rO Y st aB v0 else none
 |_=>none
def opC (fr:Fr)(Y:ah)(st:Nat)(o:Oper):Option (V×Fr×ah):=
 match o.op with
 |.call c=>
  match c.callee with
  |.builtin b=>(qN E fr.aj (o.dst.map fun t=>(fr.d,E.cn t)) Y st b c.argTypes (c.args.toList.map (fr.ev E))).map fun (v,Y)=>(v,fr,Y)
  |.value f=>if lU E fr o f=true then (qO E S Y st (fr.ev E f) (c.args.toList.map (fr.ev E))).map fun (v,Y)=>(v,fr,Y) else (jL E S fr.d Y (fr.ev E f) (c.args.toList.map (fr.ev E))).map fun (v,Y)=>(v,fr,Y)
  |.invoke .. =>none
 |.defer _=>none|_=>(dK E fr Y st o).map fun (v,Y)=>(v,fr,Y)
def fJ (ops:List Oper)(fr:Fr)(o:Oper):Option Bool:=
 match o.guard with
 |none=>some true|some (j,want)=>match (ops[j]?).bind (·.dst) with
  |some t=>match fr.tm t with
   |.bool b=>some (b==want)|.raw _=>none|_=>some false
  |none=>some false
def opsE (all:List Oper):Nat->List Oper->Fr->ah->Option (Fr×ah)
 |_,[],fr,Y=>some (fr,Y)|st,o::os,fr,Y=>
  (fJ all fr o).bind fun t=>if t then (opC E S fr Y st o).bind fun (v,fr,Y)=>opsE all (st+1) os (fr.put o.dst v) Y else opsE all (st+1) os (fr.put o.dst aP) Y
inductive Key where
 |slot (t:Nat)
 |obj (l:Loc)
 |top
 |rest
 |nx
def rP (a b:Loc):Bool:=a.2==b.2&& a.1==b.1
def Key.eq:Key->Key->Bool
 |.slot a,.slot b=>a==b|.obj a,.obj b=>rP a b|.top,.top=>true|.rest,.rest=>true|.nx,.nx=>true|_,_=>false
def Key.state:Key->Bool
 |.obj _|.top|.nx=>true|_=>false
structure dP where
 qw:Bool
 mh:Bool
 t:List Key
 w:List Key
def jh:V->List Key
 |.ref loc _ _|.aS loc _ _ _ _ _ _|.fq loc _=>[.obj loc]|_=>[]
def wD (fr:Fr)(o:Oper):List Key:=match o.dst with
 |some t=>[.obj (fr.d,t)]|none=>[]
def nA (t:List Key):dP:=⟨false,false,t,[]⟩
def nC (w:List Key):dP:=⟨false,false,[],w⟩
def gJ:dP:=⟨true,true,[],[]⟩
def gB (fr:Fr)(o:Oper):dP:=
 match o.op with
 |.buildSlice .. =>if zm E o.dst=true then gJ else nA []
 |.assign _|.pick .. |.build .. |.nilCheck _|.binOp .. |.unOp .. |.makeInterface .. |.typeAssert .. |.makeFunc .. |.fieldAddr .. |.field .. |.indexAddr .. |.index .. |.extract ..
 |.sliceToArrayPointer .. =>nA []|.move x=>if yh E o.dst=true then nC (jh (fr.ev E x)) else nA []|.convert _ _ x|.slice _ x _ _ _|.load _ x|.lookup _ x _ _=>nA (jh (fr.ev E x))|.alloc _|.box .. |.makeMap .. =>nC (wD fr o)|.makeSlice .. =>nC (.top::wD fr o)|.store _ a _=>nC (jh (fr.ev E a))|.mapUpdate _ m _ _|.insert _ m _ _=>nC (jh (fr.ev E m))|.call c=>match c.callee with
  |.builtin b=>match b with
   |.len|.cap|.min|.max=>nA (c.args.toList.flatMap fun x=>jh (fr.ev E x))
   |.append=>if fr.aj then gJ else ⟨false,false,c.args.toList.flatMap fun x=>jh (fr.ev E x),[.top]⟩
   |_=>gJ
  |.value f=>if lU E fr o f=true then nC [.top] else match fr.ev E f with
   |.fn (.func g) a b=>if E.imp g then gJ else if (a++c.args.toList.map (fr.ev E)++b).all (fun v=>aR (er v)) then nA [] else ⟨true,false,[],[]⟩
   |_=>gJ
  |_=>gJ
 |_=>gJ
def sG (ops:List Oper)(o:Oper):List Key:=
 (o.op.operands.toList.filterMap fun|.tmp t=>some (.slot t)|_=>none)++
 match o.guard with
 |some (j,_)=>match (ops[j]?).bind (·.dst) with
  |some t=>[.slot t]|none=>[]
 |none=>[]
def nY (o:Oper):List Key:=match o.dst with
 |some t=>[.slot t]|none=>[]
def d9 (ops:List Oper)(fr:Fr)(o:Oper)(wanted:Bool):dP:=
 if wanted then let f:=gB E fr o;⟨f.qw,f.mh,sG ops o++f.t,nY o++f.w⟩else ⟨false,false,sG ops o,nY o⟩
def clash (f g:dP):Bool:=
 (f.mh&& (g.qw||g.mh||g.t.any Key.state||g.w.any Key.state))||f.w.any fun k=>k.eq .rest||g.t.any (·.eq k)||g.w.any (·.eq k)||(g.qw||g.mh)&& k.state
def VK (f g:dP):Bool:= !clash f g&& !clash g f
def oo (ops:List Oper):List Nat:=
 ops.foldl (fun acc o=>acc++[o.after.toList.foldl (fun s e=>if Region.binds .any e then s|||2^e.on|||acc.getD e.on 0 else s) 0]) []
def Aw (ms:List Nat)(fs:List dP):Bool:=
 (List.range fs.length).all fun i=>(List.range i).all fun j=>(ms.getD i 0).testBit j||VK (fs.getD i gJ) (fs.getD j gJ)
def qx (ops:List Oper):Bool:=
 (List.range ops.length).all fun i=>match ops[i]? with
   |some o=>o.after.toList.all fun e=>!Region.binds .any e||decide (e.on<i)
   |none=>true
def mR (all:List Oper):Nat->List Oper->Fr->ah->Option (List dP×Fr×ah)
 |_,[],fr,Y=>some ([],fr,Y)|st,o::os,fr,Y=>
  (fJ all fr o).bind fun t=>if t then (opC E S fr Y st o).bind fun (v,bJ,Y)=>(mR all (st+1) os (bJ.put o.dst v) Y).map fun (fs,r)=>(d9 E all fr o true::fs,r)else (mR all (st+1) os (fr.put o.dst aP) Y).map fun (fs,r)=>(d9 E all fr o false::fs,r)
def eD (k:Key)(x y:Fr×ah):Prop:=
 match k with
 |.slot t=>x.1.tm t=y.1.tm t|.obj l=>x.2.obj l=y.2.obj l|.top=>x.2.top=y.2.top|.rest=>x.1.d=y.1.d/\x.1.aj=y.1.aj|.nx=>x.2.next=y.2.next/\x.2.loops=y.2.loops
def jk (ops:List Oper)(base i:Nat)(fr:Fr)(Y:ah):Option (Fr×ah):=
 match ops[i]? with
 |none=>some (fr,Y)|some o=>
  (fJ ops fr o).bind fun t=>if t then (opC E S fr Y (base+i) o).map fun (v,fr,Y)=>(fr.put o.dst v,Y)else some (fr.put o.dst aP,Y)
def Free (ms:List Nat)(ops:List Oper)(base:Nat)(x y:Fr×ah):Prop:=
 ∃(s:Nat->Fr×ah) (T W:Nat->Key->Prop),s 0=x/\s ops.length=y/\(∀i k,W i k->T i k)/\
  (∀i,i<ops.length->∀x,(∀k,T i k->eD k (s i) x)->∃y,jk E S ops base i x.1 x.2=some y/\(∀k,W i k->eD k (s (i+1)) y)/\∀k,¬W i k->eD k x y)/\
  (∀i,i<ops.length->∀k,¬W i k->eD k (s i) (s (i+1)))/\
  ∀i j,i<ops.length->j<i->(ms.getD i 0).testBit j=true\/((∀k,¬(W i k/\T j k))/\∀k,¬(W j k/\T i k))
noncomputable def Lv {U:Type}(p:Prop)(x:Option U):Option U:= @ite _ p (Classical.propDecidable p) x none
def VL:V->Bool
 |.fn (.func _) _ _=>true|_=>false
noncomputable def eu:Code->Fr->ah->Option (Ex×Fr×ah)
 |.skip,fr,Y=>some (.normal,fr,Y)|.region _ ops dr,fr,Y=>
  if dr then (mR E S ops.toList Y.next ops.toList fr {Y with next:=Y.next+ops.toList.length}).bind fun (fs,fr',Y')=>if qx ops.toList&& Aw (oo ops.toList) fs then some (.normal,fr',Y') else Lv (qx ops.toList=true/\Free E S (oo ops.toList) ops.toList Y.next (fr,{Y with next:=Y.next+ops.toList.length}) (fr',Y')) (some (.normal,fr',Y'))else (opsE E S ops.toList Y.next ops.toList fr {Y with next:=Y.next+ops.toList.length}).map fun (fr,Y)=>(.normal,fr,Y)
 |.seq a b,fr,Y=>(eu a fr Y).bind fun (e,fr,Y)=>match e with
  |.normal=>eu b fr Y|e=>some (e,fr,Y)
 |.cond c a b,fr,Y=>(yg (fr.ev E c)).bind fun t=>if t then eu a fr Y else eu b fr Y
 |.block id c,fr,Y=>(eu c fr Y).map fun (e,fr,Y)=>match e with
  |.exit i=>if i=id then (.normal,fr,Y) else (.exit i,fr,Y)|e=>(e,fr,Y)
 |.loop c,fr,Y=>(eu c fr Y).bind fun (e,fr,Y)=>match e with
  |.normal=>S.code (.loop c) fr Y|e=>some (e,fr,Y)
 |.scope c,fr,Y=>eu c fr Y|.label _,fr,Y=>some (.normal,fr,Y)|.exit id,fr,Y=>some (.exit id,fr,Y)|.ret,fr,Y=>some (.ret,fr,Y)|.rangeFunc f ps gF body,fr,Y=>
  if VL (fr.ev E f) then (jL E S fr.d ({Y with next:=Y.next+1}.nP Y.next {st:=0,pend:=none,fr:=fr,ps:=ps.toList,gF:=gF,body:=body}) (fr.ev E f) [.fn (.yield Y.next) [] []]).bind fun (_,cO)=>(cO.loops Y.next).bind fun r=>
  if r.st=1 then none else some ((match r.pend with|none=>.normal|some e=>e),fr,cO.u6 Y.next)else none
 |_,_,_=>none
def jC (fr:Fr)(Y:ah):ResultVar->Option V
 |.tmp t=>some (fr.tm t)|.cell a t=>match fr.tm a with
  |.ref loc s off=>(Y.dQ loc s).bind fun cs=>gT E.P t cs off
  |_=>none
def GQ (n:Nat)(ops:List Oper):Bool:=ops.all fun o=>match o.dst with
 |some d=>d<n|none=>true
def iI (n:Nat):Code->Bool
 |.region _ ops _=>GQ n ops.toList|.seq a b=>iI n a&& iI n b|.cond _ a b=>iI n a&& iI n b|.block _ c=>iI n c|.loop c=>iI n c|.scope c=>iI n c|.rangeFunc _ ps a b=>ps.toList.all (· <n)&& iI n a&& iI n b&& kr a&& kr b|_=>true
noncomputable def qP (f:FuncId)(args:List V)(d:Nat)(Y:ah):Option (V×ah):=
 (E.P.funcs[f]?).bind fun fn=>fn.body.bind fun c=>
 if args.length<=fn.ntmps/\iI fn.ntmps c then (S.code c {d:=d,aj:=E.aj f,tm:=fun i=>args.getD i aP} Y).bind fun (e,fr,Y)=>
 match e with
 |.normal|.ret=>
  (fn.results.toList.mapM (jC E fr Y)).map fun vs=>(match vs with| [v]=>v|vs=>.bV vs,Y)
 |.exit _=>none else none
noncomputable def bI:Nat->iW
 |0=>⟨fun _ _ _=>none,fun _ _ _ _=>none⟩
 |n+1=>⟨eu E (bI n),qP E (bI n)⟩
end
end aQ
end
section
namespace aQ
open Go Go.RowKit
inductive GR where
 |obj (loc:Loc)
 |own (s:Nat)
 |loop (l:Nat)
structure bA where
 A:Nat->Prop
 blk:Nat->Nat
 sz:Nat->Nat
 ob:Nat->Nat
 lo:Nat->Nat
 hi:Nat->Nat
 lp:Nat->Nat
 I:Nat->Nat->Prop
 IM:Nat->Prop
 D:Nat->Prop
 Z:Nat->Option GR
abbrev at_ (b o:Nat):Addr:=⟨b,o,none⟩
def uf (K:bA)(T:Nat->Nat)(c:Cap)(n b o len cap:Nat):Prop:=
 match c with
 |.sh=>True|.full=>cap=len|.nil=>False|.own n' s=>n'=n/\K.A s/\len<=T s/\(len=T s->K.ob s=b/\K.lo s=o+len*n/\K.hi s=o+cap*n)
def Lx (K:bA)(T:Nat->Nat)(c:Cap):Prop:=
 match c with
 |.own _ s=>K.A s/\(T s=0->K.hi s=K.lo s)|_=>True
inductive Rel (K:bA)(T:Nat->Nat)(w:World):V->Value->Prop
 |int (k:IntKind) (n:Int):Rel K T w (.int k n) (.int k n)
 |bool (b:Bool):Rel K T w (.bool b) (.bool b)
 |str (s:List UInt8) (b:ByteArray) (h:b.data.toList=s):Rel K T w (.str s) (.string b)
 |gZ:Rel K T w .gZ (.pointer none)
 |gL:Rel K T w .gL .nilFunc
 |iq:Rel K T w .iq (.map none)
 |iO:Rel K T w .iO .nilIface
 |agg (cs:List V) (vs:Array Value) (hl:cs.length=vs.size) (h:∀i,i<cs.length->Rel K T w (cs.getD i aP) (vs.getD i undef)):Rel K T w (.agg cs) (.agg vs)
 |bV (cs:List V) (vs:Array Value) (hl:cs.length=vs.size) (h:∀i,i<cs.length->Rel K T w (cs.getD i aP) (vs.getD i undef)):Rel K T w (.bV cs) (.tuple vs)
 |gq (c:Cap) (a:Option Addr) (ha:c= .nil->a=none) (hc:Lx K T c):Rel K T w (.ak c []) (.slice a 0 0)
 |ak (c:Cap) (l:List V) (b o n cap:Nat) (val:Nat->Nat->Value) (hle:l.length<=cap)
   (hn:∀i,i<l.length->(l.getD i aP).cells.length=n)
   (hcell:∀i j,i<l.length->j<n->w.cell? (at_ b (o+i*n+j))=some (val i j)/\K.I b (o+i*n+j))
   (hrel:∀i j,i<l.length->j<n->Rel K T w ((l.getD i aP).cells.getD j aP) (val i j))
   (hc:uf K T c n b o l.length cap):Rel K T w (.ak c l) (.slice (some (at_ b o)) l.length cap)
 |aS (loc:Loc) (s off len cap bF:Nat) (ag:Bool) (fB:Nat) (hA:K.A s) (hc:cap<=fB) (hle:len<=cap) (hsz:off+fB*bF<=K.sz s):
   Rel K T w (.aS loc s off len cap bF ag) (.slice (some (at_ (K.blk s) off)) len fB)
 |oL (loc:Loc) (s bF:Nat) (ag:Bool) (hA:K.A s):Rel K T w (.aS loc s 0 0 0 bF ag) (.slice none 0 0)
 |aW (cs:List V) (off b o:Nat) (val:Nat->Value)
   (hcell:∀j,j<cs.length->w.cell? (at_ b (o+j))=some (val j)/\K.I b (o+j))
   (hrel:∀j,j<cs.length->Rel K T w (cs.getD j aP) (val j)):Rel K T w (.aW cs off) (.pointer (some (at_ b (o+off))))
 |ref (loc:Loc) (s off:Nat) (hA:K.A s):Rel K T w (.ref loc s off) (.pointer (some (at_ (K.blk s) off)))
 |fn (f:FuncId) (a b:List V) (kV bv:Array Value) (ha:a.length=kV.size) (hb:b.length=bv.size)
   (ra:∀i,i<a.length->Rel K T w (a.getD i aP) (kV.getD i undef)) (rb:∀i,i<b.length->Rel K T w (b.getD i aP) (bv.getD i undef)):
   Rel K T w (.fn (.func f) a b) (.func (.func f) kV bv)
 |yield (l:Nat) (hA:K.A l):Rel K T w (.fn (.yield l) [] []) (.func (.yield (K.lp l)) #[] #[])
 |fq (loc:Loc) (s:Nat) (hA:K.A s):Rel K T w (.fq loc s) (.map (some (K.blk s)))
 |fD (ks vs:List V) (b:Nat) (es:Array MapEntry) (fu:Nat) (hM:K.IM b) (hb:w.heap[b]? =some (.map es fu))
   (hk:ks.length=es.size) (hv:vs.length=es.size)
   (rk:∀i,i<es.size->Rel K T w (ks.getD i aP) (es.getD i default).key) (rv:∀i,i<es.size->Rel K T w (vs.getD i aP) (es.getD i default).val):
   Rel K T w (.fD ks vs) (.map (some b))
 |iface (t:TypeId) (v:V) (c:Value) (h:Rel K T w v c):Rel K T w (.iface t v) (.iface t c)
 |raw (v:Value):Rel K T w (.raw v) v
structure Ext (K:bA)(T:Nat->Nat)(w:World)(K':bA)(T':Nat->Nat)(w':World):Prop where
 A:∀s,K.A s->K'.A s/\K'.blk s=K.blk s/\K'.lp s=K.lp s/\K'.sz s=K.sz s
 own:∀s,K.A s->(T' s=T s/\K'.ob s=K.ob s/\K'.lo s=K.lo s/\K'.hi s=K.hi s)\/T s<T' s
 I:∀b o,K.I b o->K'.I b o/\w'.cell? (at_ b o)=w.cell? (at_ b o)
 IM:∀b,K.IM b->K'.IM b/\w'.heap[b]? =w.heap[b]?
theorem Ext.refl (K:bA)(T:Nat->Nat)(w:World):Ext K T w K T w:=
 ⟨fun _ h=>⟨h,rfl,rfl,rfl⟩,fun _ _=>.inl ⟨rfl,rfl,rfl,rfl⟩,fun _ _ h=>⟨h,rfl⟩,fun _ h=>⟨h,rfl⟩⟩
theorem Ext.trans {K T w K1 T1 w1 K2 T2 w2}(h:Ext K T w K1 T1 w1)(g:Ext K1 T1 w1 K2 T2 w2):Ext K T w K2 T2 w2 where
 A s hs:=by obtain⟨a,b,c,d⟩:=h.A s hs;obtain⟨a',b',c',d'⟩:=g.A s a;exact⟨a',b'.trans b,c'.trans c,d'.trans d⟩
 own s hs:=by
  obtain⟨a,_,_,_⟩:=h.A s hs;rcases h.own s hs with ⟨h1,h2,h3,h4⟩|h1
  .rcases g.own s a with ⟨g1,g2,g3,g4⟩|g1
   .exact .inl ⟨g1.trans h1,g2.trans h2,g3.trans h3,g4.trans h4⟩
   .exact .inr RS
  .rcases g.own s a with ⟨g1,_⟩|g1
   .exact .inr RS
   .exact .inr RS
 I b o hb:=by obtain⟨a,e⟩:=h.I b o hb;obtain⟨a',e'⟩:=g.I b o a;exact⟨a',e'.trans e⟩
 IM b hb:=by obtain⟨a,e⟩:=h.IM b hb;obtain⟨a',e'⟩:=g.IM b a;exact⟨a',e'.trans e⟩
theorem uf.ext {K T w K' T' w'}(e:Ext K T w K' T' w'){c:Cap}{n b o len cap:Nat}(h:uf K T c n b o len cap):uf K' T' c n b o len cap:=by
 cases c with
 |sh=>trivial|full=>exact h|nil=>exact h|own n' s=>
  obtain⟨h1,h2,h3,h4⟩:=h;refine⟨h1,(e.A s h2).1,?_,?_⟩
  .rcases e.own s h2 with ⟨e1,_⟩|e1<;>omega
  .intro hl;rcases e.own s h2 with ⟨e1,e2,e3,e4⟩|e1
   .rw[e2,e3,e4];exact h4 RS
   .omega
theorem Lx.ext {K T w K' T' w'}(e:Ext K T w K' T' w'){c:Cap}(h:Lx K T c):Lx K' T' c:=by
 cases c with
 |own n' s=>
  refine⟨(e.A s h.1).1,fun h0=>?_⟩;rcases e.own s h.1 with ⟨e1,_,e3,e4⟩|e1
  .rw[e3,e4];exact h.2 RS
  .omega
 |_=>trivial
theorem Rel.ext {K T w K' T' w'}(e:Ext K T w K' T' w'){v:V}{c:Value}(h:Rel K T w v c):Rel K' T' w' v c:=by
 induction h with
 |int k n=>exact .int k n|bool b=>exact .bool b|str s b h=>exact .str s b h|gZ=>exact .gZ|gL=>exact .gL|iq=>exact .iq|iO=>exact .iO|agg cs vs hl _ ih=>exact .agg cs vs hl ih|bV cs vs hl _ ih=>exact .bV cs vs hl ih|gq c a ha hc=>exact .gq c a ha (hc.ext e)|ak c l b o n cap val hle hn hcell _ hc ih=>refine .ak c l b o n cap val hle hn (fun i j hi hj=>?_) ih (hc.ext e);obtain⟨h1,h2⟩:=hcell i j hi hj;obtain⟨g1,g2⟩:=e.I _ _ h2;exact⟨g2.trans h1,g1⟩
 |aS loc s off len cap bF ag fB hA hc hle hsz=>have:=(e.A s hA);rw[<-this.2.1];exact .aS loc s off len cap bF ag fB this.1 hc hle (by rw[this.2.2.2];exact hsz)|oL loc s bF ag hA=>exact .oL loc s bF ag (e.A s hA).1|aW cs off b o val hcell _ ih=>refine .aW cs off b o val (fun j hj=>?_) ih;obtain⟨h1,h2⟩:=hcell j hj;obtain⟨g1,g2⟩:=e.I _ _ h2;exact⟨g2.trans h1,g1⟩
 |ref loc s off hA=>have:=(e.A s hA);rw[<-this.2.1];exact .ref loc s off this.1|fn f a b kV bv ha hb _ _ iha ihb=>exact .fn f a b kV bv ha hb iha ihb|yield l hA=>have:=(e.A l hA);rw[<-this.2.2.1];exact .yield l this.1|fq loc s hA=>have:=(e.A s hA);rw[<-this.2.1];exact .fq loc s this.1|fD ks vs b es fu hM hb hk hv _ _ ihk LA=>obtain⟨g1,g2⟩:=e.IM b hM;exact .fD ks vs b es fu g1 (g2.trans hb) hk hv ihk LA
 |iface t v c _ ih=>exact .iface t v c ih|raw v=>exact .raw v
theorem Rel.undef (K T w):Rel K T w aP undef:=.bV [] #[] rfl (fun i hi=>absurd hi (gQ i))
def kH.real:kH->Prop
 |.cells []=>False|_=>True
def GU (K:bA)(T:Nat->Nat)(w:World)(B0 s:Nat):kH->Prop
 |.cells cs=>(cs=[]->K.sz s=0)/\(cs≠[]->B0<=K.blk s/\∃vals t,w.heap[K.blk s]? =some (.cells vals t (0,0))/\vals.size=K.sz s/\cs.length<=vals.size/\
    ∀i,i<cs.length->Rel K T w (cs.getD i aP) (vals.getD i undef))
 |.map ks vs=>B0<=K.blk s/\∃es fu,w.heap[K.blk s]? =some (.map es fu)/\ks.length=es.size/\vs.length=es.size/\
    (∀i,i<es.size->Rel K T w (ks.getD i aP) (es.getD i default).key)/\(∀i,i<es.size->Rel K T w (vs.getD i aP) (es.getD i default).val)
def mU (K:bA)(T:Nat->Nat)(w:World)(fr:Fr)(tmps:Array Value):Prop:=∀t,Rel K T w (fr.tm t) (tmps.getD t undef)
def vw:Ex->Option Code
 |.normal=>none|.exit i=>some (.exit i)|.ret=>some .ret
def ug (n:Nat):LoopState:=if n=0 then .ready else if n=1 then .busy else .done
def LB (K:bA)(T:Nat->Nat)(w:World)(B0 l:Nat)(r:Ey):Prop:=
 B0<=K.lp l/\K.Z (K.lp l)=some (.loop l)/\∃(fn:FuncId) (tmps:Array Value) (D:Nat),
  w.heap[K.lp l]? =some (.loop {state:=ug r.st,pending:=r.pend.bind vw,fn:=fn,tmps:=tmps,params:=r.ps.toArray,assign:=r.gF,body:=r.body,defers:=D})/\
  mU K T w r.fr tmps/\iI tmps.size r.gF=true/\iI tmps.size r.body=true/\(∀p∈r.ps,p<tmps.size)/\kr r.gF=true/\kr r.body=true
def VN (K:bA)(w:World)(B0 s:Nat):Prop:=
 B0<=K.ob s/\K.Z (K.ob s)=some (.own s)/\∀o,K.lo s<=o->o<K.hi s->¬K.I (K.ob s) o/\(∃v,w.cell? (at_ (K.ob s) o)=some v)/\w.frozen? (at_ (K.ob s) o)=false
structure bH (E:Env)(B0:Nat)(Y:ah)(K:bA)(w:World):Prop where
 obj:∀loc s ob,Y.obj loc=some (s,ob)->K.A s/\GU K Y.top w B0 s ob/\(ob.real->K.Z (K.blk s)=some (.obj loc))
 own:∀s,K.A s->K.lo s<K.hi s->VN K w B0 s
 I:∀b o,K.I b o->(∃v,w.cell? (at_ b o)=some v)/\∀loc,K.Z b≠some (.obj loc)
 IM:∀b,K.IM b->(∃es fu,w.heap[b]? =some (.map es fu))/\∀loc,K.Z b≠some (.obj loc)
 loop:∀l r,Y.loops l=some r->K.A l/\LB K Y.top w B0 l r
 glob:∀g cs,E.glob g=some cs->Rel K Y.top w (.aW cs 0) (.pointer (some (at_ g 0)))
 rb:∀b r,K.Z b=some r->b<w.heap.size/\B0<=b
 D:∀b,K.D b->w.heap[b]? =some (.deferred (some []))
structure Only (b:Nat)(w w':World):Prop where
 os:w'.os=w.os
 tape:w'.tape=w.tape
 output:w'.output=w.output
 size:w.heap.size<=w'.heap.size
 block:∀k,k≠b->k<w.heap.size->w'.heap[k]? =w.heap[k]?
theorem Only.below {b B0:Nat}{w w':World}(h:Only b w w')(hb:B0<=b)(hB:B0<=w.heap.size):Below B0 w w':=
 ⟨h.os,h.tape,h.output,h.size,fun k hk=>h.block k RS RS⟩
theorem cell_of_heap {w w':World}{b o:Nat}(h:w'.heap[b]? =w.heap[b]?):w'.cell? (at_ b o)=w.cell? (at_ b o):=by simp[World.cell?,h]
theorem frozen_of_heap {w w':World}{b o:Nat}(h:w'.heap[b]? =w.heap[b]?):w'.frozen? (at_ b o)=w.frozen? (at_ b o):=by simp[World.frozen?,h]
theorem lt_of_cell {w:World}{b o:Nat}{v:Value}(h:w.cell? (at_ b o)=some v):b<w.heap.size:=World.block_lt_of_cell? w (at_ b o) h
theorem lt_of_heap {w:World}{b:Nat}{o:Obj}(h:w.heap[b]? =some o):b<w.heap.size:=(Array.getElem?_eq_some_iff.1 h).1
theorem mU.ext {K T w K' T' w'}(e:Ext K T w K' T' w'){fr:Fr}{tmps:Array Value}(h:mU K T w fr tmps):mU K' T' w' fr tmps:=fun t=>(h t).ext e
theorem GU.ext {K T w K' T' w'}(e:Ext K T w K' T' w'){B0 s:Nat}(hA:K.A s){ob:kH}(h:GU K T w B0 s ob)(hb:ob.real->w'.heap[K.blk s]? =w.heap[K.blk s]?):
 GU K' T' w' B0 s ob:=by
 obtain⟨_,e2,_,e4⟩:=e.A s hA;cases ob with
 |cells cs=>refine⟨fun h0=>by rw[e4];exact h.1 h0,fun hne=>?_⟩;obtain⟨h1,vals,t,h2,h3,h4,h5⟩:=h.2 hne;have hb':=hb (by cases cs with|nil=>exact absurd rfl hne|cons _ _=>trivial);refine⟨by rw[e2];exact h1,vals,t,by rw[e2,hb',h2],by rw[e4];exact h3,h4,fun i hi=>(h5 i hi).ext e⟩
 |map ks vs=>obtain⟨h1,es,fu,h2,h3,h4,h5,h6⟩:=h;exact⟨by rw[e2];exact h1,es,fu,by rw[e2,hb trivial,h2],h3,h4,fun i hi=>(h5 i hi).ext e,fun i hi=>(h6 i hi).ext e⟩
theorem LB.ext {K T w K' T' w'}(e:Ext K T w K' T' w'){B0 l:Nat}(hA:K.A l){r:Ey}(h:LB K T w B0 l r)(hb:w'.heap[K.lp l]? =w.heap[K.lp l]?)(hZ:K'.Z (K.lp l)=K.Z (K.lp l)):
 LB K' T' w' B0 l r:=by
 obtain⟨_,_,e3,_⟩:=e.A l hA;obtain⟨h1,hr,fn,tmps,D,h2,h3,h4⟩:=h;exact⟨by rw[e3];exact h1,by rw[e3,hZ];exact hr,fn,tmps,D,by rw[e3,hb,h2],h3.ext e,h4⟩
theorem bH.upd {E:Env}{B0 b:Nat}{Y Y':ah}{K K':bA}{w w':World}(h:bH E B0 Y K w)(ho:Only b w w')(e:Ext K Y.top w K' Y'.top w')(hZ:∀k,k≠b->K'.Z k=K.Z k)(apm:∀r,K'.Z b=some r->b<w'.heap.size/\B0<=b)(QN:∀loc s ob,Y'.obj loc=some (s,ob)->(Y.obj loc=some (s,ob)/\(ob.real->K.blk s≠b))\/ (K'.A s/\GU K' Y'.top w' B0 s ob/\(ob.real->K'.Z (K'.blk s)=some (.obj loc))))(hown:∀s,K'.A s->K'.lo s<K'.hi s->(K.A s/\K'.lo s=K.lo s/\K'.hi s=K.hi s/\K'.ob s=K.ob s/\K.ob s≠b)\/VN K' w' B0 s)(hI:∀b' o,K'.I b' o->(K.I b' o/\b'≠b)\/(b'=b/\(∃v,w'.cell? (at_ b o)=some v)/\∀loc,K'.Z b≠some (.obj loc)))(VO:∀b',K'.IM b'->(K.IM b'/\b'≠b)\/(b'=b/\(∃es fu,w'.heap[b]? =some (.map es fu))/\∀loc,K'.Z b≠some (.obj loc)))(hloop:∀l r,Y'.loops l=some r->(Y.loops l=some r/\K.lp l≠b)\/(K'.A l/\LB K' Y'.top w' B0 l r))(hD:∀b',K'.D b'->(K.D b'/\b'≠b)\/(b'=b/\w'.heap[b]? =some (.deferred (some [])))):bH E B0 Y' K' w' where
 obj loc s ob hs:=by
  rcases QN loc s ob hs with ⟨h1,h2⟩|h1
  .obtain⟨a1,a2,a3⟩:=h.obj loc s ob h1;obtain⟨e1,e2,_,_⟩:=e.A s a1;refine⟨e1,a2.ext e a1 (fun hr=>ho.block _ (h2 hr) (h.rb _ _ (a3 hr)).1),fun hr=>?_⟩;rw[e2,hZ _ (h2 hr)];exact a3 hr
  .exact h1
 own s hs hlt:=by
  rcases hown s hs hlt with ⟨h1,h2,h3,h4,h5⟩|h1
  .obtain⟨a1,a2,a3⟩:=h.own s h1 RS;refine⟨by rw[h4];exact a1,by rw[h4,hZ _ h5];exact a2,fun o hl hh=>?_⟩;obtain⟨c1,⟨v,c2⟩,c3⟩:=a3 o RS RS;have hb:=ho.block _ h5 (lt_of_cell c2);rw[h4];refine⟨fun hi=>?_,⟨v,by rw[cell_of_heap hb];exact c2⟩,by rw[frozen_of_heap hb];exact c3⟩;rcases hI _ _ hi with ⟨g,_⟩| ⟨g,_⟩
   .exact c1 g
   .exact h5 g
  .exact h1
 I b' o hi:=by
   rcases hI b' o hi with ⟨h1,h2⟩| ⟨h1,h2,h3⟩
   .obtain⟨⟨v,c⟩,r⟩:=h.I b' o h1;exact⟨⟨v,by rw[cell_of_heap (ho.block _ h2 (lt_of_cell c))];exact c⟩,by rw[hZ _ h2];exact r⟩
   .subst h1;exact⟨h2,h3⟩
 IM b' hi:=by
  rcases VO b' hi with ⟨h1,h2⟩| ⟨h1,h2,h3⟩
  .obtain⟨⟨es,fu,c⟩,r⟩:=h.IM b' h1;exact⟨⟨es,fu,by rw[ho.block _ h2 (lt_of_heap c)];exact c⟩,by rw[hZ _ h2];exact r⟩
  .subst h1;exact⟨h2,h3⟩
 loop l r hl:=by
  rcases hloop l r hl with ⟨h1,h2⟩|h1
  .obtain⟨a1,a2⟩:=h.loop l r h1;refine⟨(e.A l a1).1,a2.ext e a1 (ho.block _ h2 (h.rb _ _ a2.2.1).1) (hZ _ h2)⟩
  .exact h1
 glob g cs hg:=(h.glob g cs hg).ext e
 rb b' r hr:=by
  by_cases hb:b'=b
  .subst hb;exact apm r hr
  .rw[hZ _ hb] at hr;have:=h.rb b' r hr;exact⟨nD this.1 ho.size,this.2⟩
 D b' hd:=by
   rcases hD b' hd with ⟨h1,h2⟩| ⟨h1,h2⟩
   .have:=h.D b' h1;rw[ho.block _ h2 (lt_of_heap this)];exact this
   .rw[h1];exact h2
theorem bH.same {E:Env}{B0:Nat}{Y:ah}{K:bA}{w w':World}(h:bH E B0 Y K w)(hh:w'.heap=w.heap):bH E B0 Y K w':=by
 have e:Ext K Y.top w K Y.top w':=⟨fun _ h=>⟨h,rfl,rfl,rfl⟩,fun _ _=>.inl ⟨rfl,rfl,rfl,rfl⟩,fun b o h=>⟨h,cell_of_heap zf⟩,fun b h=>⟨h,zf⟩⟩;refine⟨fun loc s ob hs=>?_,fun s hs hl=>?_,fun b o hi=>?_,fun b hi=>?_,fun l r hl=>?_,fun g cs hg=>(h.glob g cs hg).ext e,fun b r hr=>by rw[hh];exact h.rb b r hr,fun b hb=>by rw[hh];exact h.D b hb⟩
 .obtain⟨a1,a2,a3⟩:=h.obj loc s ob hs;exact⟨a1,a2.ext e a1 (fun _=>zf),a3⟩
 .obtain⟨a1,a2,a3⟩:=h.own s hs hl;exact⟨a1,a2,fun o p q=>⟨(a3 o p q).1,by rw[cell_of_heap (w:=w) zf];exact(a3 o p q).2.1,by rw[frozen_of_heap (w:=w) zf];exact(a3 o p q).2.2⟩⟩
 .obtain⟨a1,a2⟩:=h.I b o hi;exact⟨by rw[cell_of_heap (w:=w) zf];exact a1,a2⟩
 .obtain⟨a1,a2⟩:=h.IM b hi;exact⟨by rw[hh];exact a1,a2⟩
 .obtain⟨a1,a2⟩:=h.loop l r hl;exact⟨a1,a2.ext e a1 zf rfl⟩
structure Step (E:Env)(B0:Nat)(new:Nat->Prop)(Y:ah)(K:bA)(w:World)(Y':ah)(K':bA)(w':World):Prop where
 ok:bH E B0 Y' K' w'
 ext:Ext K Y.top w K' Y'.top w'
 below:Below B0 w w'
 D:∀b,K.D b->K'.D b
 A:∀s,K'.A s->K.A s\/new s
 zn:∀b o,K'.I b o->K.I b o\/B0<=b
 zo:∀b,K'.IM b->K.IM b\/B0<=b
theorem Step.refl {E B0 new Y K w}(h:bH E B0 Y K w):Step E B0 new Y K w Y K w:=
 ⟨h,.refl _ _ _,.refl _ _,fun _ h=>h,fun _ h=>.inl h,fun _ _ h=>.inl h,fun _ h=>.inl h⟩
theorem Step.trans {E B0 new Y K w aB K1 w1 cO K2 w2}(h:Step E B0 new Y K w aB K1 w1)(g:Step E B0 new aB K1 w1 cO K2 w2):Step E B0 new Y K w cO K2 w2:=
 ⟨g.ok,h.ext.trans g.ext,h.below.trans g.below,fun b hb=>g.D b (h.D b hb),
   fun s hs=>(g.A s hs).elim (h.A s) .inr,fun b o hi=>(g.zn b o hi).elim (h.zn b o) .inr,fun b hi=>(g.zo b hi).elim (h.zo b) .inr⟩
theorem Step.mono {E B0 new new' Y K w aB K1 w1}(h:Step E B0 new Y K w aB K1 w1)(hn:∀s,new s->new' s):Step E B0 new' Y K w aB K1 w1:=
 ⟨h.ok,h.ext,h.below,h.D,fun s hs=>(h.A s hs).imp id (hn s),h.zn,h.zo⟩
theorem Step.same {E B0 new Y K w w'}(h:bH E B0 Y K w)(hh:w'.heap=w.heap)(h1:w'.os=w.os)(h2:w'.tape=w.tape)(h3:w'.output=w.output):Step E B0 new Y K w Y K w':=
 ⟨h.same hh,⟨fun _ h=>⟨h,rfl,rfl,rfl⟩,fun _ _=>.inl ⟨rfl,rfl,rfl,rfl⟩,fun b o h=>⟨h,cell_of_heap zf⟩,fun b h=>⟨h,zf⟩⟩,
   ⟨h1,h2,h3,by rw[hh];exact iR _,fun k _=>zf⟩,fun b h=>h,fun _ h=>.inl h,fun _ _ h=>.inl h,fun _ h=>.inl h⟩
theorem EF (w:World)(o:Obj):Only w.heap.size w (w.alloc o):=
 ⟨rfl,rfl,rfl,aD,fun k hk hl=>by show (w.heap.push o)[k]? =_;rw[Array.getElem?_push,if_neg hk]⟩
theorem heap_alloc_new (w:World)(o:Obj):(w.alloc o).heap[w.heap.size]? =some o:=by show (w.heap.push o)[w.heap.size]? =_;simp
theorem heap_alloc_old {w:World}{o:Obj}{k:Nat}(h:k<w.heap.size):(w.alloc o).heap[k]? =w.heap[k]? :=by show (w.heap.push o)[k]? =_;rw[Array.getElem?_push,if_neg RS]
theorem QO {w:World}{o:Obj}{b i:Nat}{v:Value}(h:w.cell? (at_ b i)=some v):(w.alloc o).cell? (at_ b i)=some v:=by rw[cell_of_heap (heap_alloc_old (lt_of_cell h))];exact h
def bA.nR (K:bA)(st b n:Nat)(loc:Loc):bA:=
 {K with A:=fun s=>K.A s\/s=st,blk:=upd K.blk st b,sz:=upd K.sz st n,lo:=upd K.lo st 0,hi:=upd K.hi st 0,Z:=upd K.Z b (some (.obj loc))}
theorem upd_same {κ U:Type}[DecidableEq κ](f:κ->U)(k:κ)(v:U):upd f k v k=v:=by simp[upd]
theorem upd_ne {κ U:Type}[DecidableEq κ](f:κ->U){k j:κ}(v:U)(h:j≠k):upd f k v j=f j:=by simp[upd,h]
theorem Step.QS {E B0 Y K w}(h:bH E B0 Y K w)(hB:B0<=w.heap.size){st:Nat}(hst:¬K.A st)(loc:Loc)(ob:kH)(o:Obj)(n:Nat)(nS:∀K',Ext K Y.top w K' Y.top (w.alloc o)->K'.A st->K'.blk st=w.heap.size->K'.sz st=n->GU K' Y.top (w.alloc o) B0 st ob):
 Step E B0 (· =st) Y K w (Y.setObj loc st ob) (K.nR st w.heap.size n loc) (w.alloc o):=by
 have hne:∀s,K.A s->s≠st:=fun s hs e=>hst (e▸hs);have e:Ext K Y.top w (K.nR st w.heap.size n loc) Y.top (w.alloc o):=by
  refine⟨fun s hs=>⟨.inl hs,upd_ne _ _ (hne s hs),rfl,upd_ne _ _ (hne s hs)⟩,fun s hs=>.inl ⟨rfl,rfl,upd_ne _ _ (hne s hs),upd_ne _ _ (hne s hs)⟩,fun b i hi=>⟨hi,?_⟩,fun b hb=>⟨hb,?_⟩⟩
  .obtain⟨⟨v,hv⟩,_⟩:=h.I b i hi;rw[hv];exact QO hv
  .obtain⟨⟨es,fu,hv⟩,_⟩:=h.IM b hb;exact heap_alloc_old (lt_of_heap hv)
 refine⟨?_,e,(EF w o).below hB hB,fun b hb=>hb,fun s hs=>hs,fun _ _ hi=>.inl hi,fun _ hi=>.inl hi⟩;refine h.upd (Y':=Y.setObj loc st ob) (EF w o) e (fun k hk=>upd_ne _ _ hk) (fun r _=>⟨aD,hB⟩) ?_ ?_ ?_ ?_ ?_ ?_
 .intro loc' s' LC hs;by_cases hl:loc'=loc
  .subst hl;right;simp only[ah.setObj,upd_same,iE,mF] at hs;obtain⟨rfl,rfl⟩:=hs;exact⟨.inr rfl,nS _ e (.inr rfl) (upd_same _ _ _) (upd_same _ _ _),fun _=>by show upd K.Z w.heap.size _ (upd K.blk st w.heap.size st)=_;rw[upd_same,upd_same]⟩
  .left;simp only[ah.setObj,upd_ne _ _ hl] at hs;refine⟨hs,fun hr=>?_⟩;have:=(h.rb _ _ ((h.obj _ _ _ hs).2.2 hr)).1;omega
 .intro s hs hlt;left;have hs':s≠st:=by rintro rfl;simp only[bA.nR,upd_same] at hlt;omega
  have hA:K.A s:=hs.resolve_right hs';simp only[bA.nR,upd_ne _ _ hs'] at hlt;refine⟨hA,upd_ne _ _ hs',upd_ne _ _ hs',rfl,?_⟩;have:=(h.rb _ _ (h.own s hA hlt).2.1).1;omega
 .intro b' i hi;obtain⟨⟨v,hv⟩,_⟩:=h.I b' i hi;exact .inl ⟨hi,pQ (lt_of_cell hv)⟩
 .intro b' hi;obtain⟨⟨es,fu,hv⟩,_⟩:=h.IM b' hi;exact .inl ⟨hi,pQ (lt_of_heap hv)⟩
 .intro l r hl;refine .inl ⟨hl,?_⟩;have:=(h.rb _ _ (h.loop l r hl).2.2.1).1;omega
 .intro b' hd;exact .inl ⟨hd,pQ (lt_of_heap (h.D b' hd))⟩
theorem wK {w:World}{a b:Nat}{x y:Obj}(h:w.heap[a]? =some x)(g:w.heap[b]? =some y)(hxy:x≠y):a≠b:=by rintro rfl;exact hxy (kS (h.symm.trans g))
theorem bH.dQ {E B0 Y K w}(h:bH E B0 Y K w){loc s cs}(hc:Y.dQ loc s=some cs):Y.obj loc=some (s,.cells cs)/\K.A s/\cs.length<=K.sz s\/cs=[]/\Y.obj loc=some (s,.cells cs)/\K.A s:=by
 unfold ah.dQ at hc;split at hc
 .rename_i s' cs' ho;split at hc
  .rename_i hs;subst hs;simp only[iE] at hc;subst hc;obtain⟨a1,a2,a3⟩:=h.obj _ _ _ ho;by_cases hne:cs'=[]
   .exact .inr ⟨hne,ho,a1⟩
   .obtain⟨_,vals,t,g1,g2,g3,g4⟩:=a2.2 hne;exact .inl ⟨ho,a1,RS⟩
  .simp at hc
 .simp at hc
theorem bH.wL {E B0 Y K w}(h:bH E B0 Y K w){loc s cs}(hc:Y.dQ loc s=some cs):Y.obj loc=some (s,.cells cs)/\K.A s/\cs.length<=K.sz s:=by
 rcases h.dQ hc with h| ⟨rfl,h1,h2⟩
 .exact h
 .exact⟨h1,h2,aD⟩
theorem bH.aga {E B0 Y K w}(h:bH E B0 Y K w){l r}(hl:Y.loops l=some r){b:Nat}{vals t f}(hb:w.heap[b]? =some (.cells vals t f)):K.lp l≠b:=by obtain⟨_,_,_,fn,tmps,D,hh,_⟩:=h.loop l r hl;exact wK hh hb aD
theorem bH.agb {E B0 Y K w}(h:bH E B0 Y K w){loc s ob loc' s' LC}(h1:Y.obj loc=some (s,ob))(h2:Y.obj loc'=some (s',LC))(hne:loc≠loc')(hr:ob.real)(hr':LC.real):
 K.blk s≠K.blk s':=by
 intro e;have a:=(h.obj _ _ _ h1).2.2 hr;have b:=(h.obj _ _ _ h2).2.2 hr';rw[e,b] at a;exact hne (by injection a with a;injection a with a;exact a.symm)
theorem bH.agc {E B0 Y K w w'}(h:bH E B0 Y K w){loc s ob}(hs:Y.obj loc=some (s,ob))(hr:ob.real)(ho:Only (K.blk s) w w')(T':Nat->Nat)(hT:T'=Y.top):Ext K Y.top w K T' w':=by
 subst hT;have hZ:=(h.obj _ _ _ hs).2.2 hr;refine⟨fun _ h=>⟨h,rfl,rfl,rfl⟩,fun _ _=>.inl ⟨rfl,rfl,rfl,rfl⟩,fun b i hi=>⟨hi,?_⟩,fun b hb=>⟨hb,?_⟩⟩
 .obtain⟨⟨v,hv⟩,hn⟩:=h.I b i hi;exact cell_of_heap (ho.block b (fun e=>hn loc (e▸hZ)) (lt_of_cell hv))
 .obtain⟨⟨es,fu,hv⟩,hn⟩:=h.IM b hb;exact ho.block b (fun e=>hn loc (e▸hZ)) (lt_of_heap hv)
theorem Step.setCells {E B0 new Y K w w'}(h:bH E B0 Y K w)(hB:B0<=w.heap.size){loc:Loc}{s:Nat}{cs cs':List V}{vals vals':Array Value}{t t':TypeId}(hs:Y.obj loc=some (s,.cells cs))(hne:cs≠[])(hv:w.heap[K.blk s]? =some (.cells vals t (0,0)))(ho:Only (K.blk s) w w')(hv':w'.heap[K.blk s]? =some (.cells vals' t' (0,0)))(hsz:vals'.size=vals.size)(hne':cs'≠[])(hl:cs'.length<=vals'.size)(hr:Ext K Y.top w K Y.top w'->∀i,i<cs'.length->Rel K Y.top w' (cs'.getD i aP) (vals'.getD i undef)):
 Step E B0 new Y K w (Y.setObj loc s (.cells cs')) K w':=by
 have rQ:(kH.cells cs).real:=by cases cs with|nil=>exact absurd rfl hne|cons _ _=>trivial
 obtain⟨hA,nS,hZ⟩:=h.obj _ _ _ hs;obtain⟨hb0,agd,t0,g1,g2,g3,g4⟩:=nS.2 hne;have hvv:vals=agd:=by rw[hv] at g1;simpa using And.left (by simpa using g1)
 have e:=h.agc hs rQ ho Y.top rfl;refine⟨?_,e,ho.below hb0 hB,fun _ h=>h,fun _ h=>.inl h,fun _ _ h=>.inl h,fun _ h=>.inl h⟩;refine h.upd (Y':=Y.setObj loc s (.cells cs')) ho e (fun _ _=>rfl) (fun r hr'=>⟨nD (h.rb _ r hr').1 ho.size,hb0⟩) ?_ ?_ ?_ ?_ ?_ ?_
 .intro loc' s' LC hs';by_cases hl':loc'=loc
  .subst hl';right;simp only[ah.setObj,upd_same,iE,mF] at hs';obtain⟨rfl,rfl⟩:=hs';exact⟨hA,⟨fun h0=>absurd h0 hne',fun _=>⟨hb0,vals',t',hv',by rw[hsz,hvv,g2],hl,hr e⟩⟩,fun _=>hZ rQ⟩
  .left;simp only[ah.setObj,upd_ne _ _ hl'] at hs';exact⟨hs',fun hr'=>h.agb hs' hs hl' hr' rQ⟩
 .intro s' hs' hlt;have ⟨a1,a2,a3⟩:=h.own s' hs' hlt;refine .inl ⟨hs',rfl,rfl,rfl,fun e'=>?_⟩;rw[e',hZ rQ] at a2;cases a2
 .intro b' i hi;exact .inl ⟨hi,fun e'=>(h.I b' i hi).2 loc (e'▸hZ rQ)⟩
 .intro b' hi;exact .inl ⟨hi,fun e'=>(h.IM b' hi).2 loc (e'▸hZ rQ)⟩
 .intro l r hl';exact .inl ⟨hl',h.aga hl' hv⟩
 .intro b' hd;exact .inl ⟨hd,wK (h.D b' hd) hv aD⟩
def bA.VP (K:bA)(b n:Nat):bA:={K with I:=fun b' o=>K.I b' o\/(b'=b/\o<n)}
theorem bH.agf {E B0 Y K w}(h:bH E B0 Y K w):K.Z w.heap.size=none:=by
 cases hr:K.Z w.heap.size with
 |none=>rfl|some r=>have:=(h.rb _ _ hr).1;omega
theorem LD {w:World}{vals:Array Value}{t:TypeId}{fz:Nat×Nat}{i:Nat}(hi:i<vals.size):(w.alloc (.cells vals t fz)).cell? (at_ w.heap.size i)=some (vals.getD i undef):=by
 have hh:(w.alloc (.cells vals t fz)).heap[w.heap.size]? =some (.cells vals t fz):=heap_alloc_new w _;unfold World.cell?;simp only[hh];simp[hi]
theorem Step.apn {E B0 new Y K w w'}(h:bH E B0 Y K w)(hB:B0<=w.heap.size)(ho:Only w.heap.size w w'){vals:Array Value}{t:TypeId}{fz:Nat×Nat}(hh:w'.heap[w.heap.size]? =some (.cells vals t fz)):Step E B0 new Y K w Y (K.VP w.heap.size vals.size) w':=by
 have hcn:∀i,i<vals.size->w'.cell? (at_ w.heap.size i)=some (vals.getD i undef):=fun i hi=>by simp[World.cell?,hh,hi]
 have e:Ext K Y.top w (K.VP w.heap.size vals.size) Y.top w':=by
  refine⟨fun _ h=>⟨h,rfl,rfl,rfl⟩,fun _ _=>.inl ⟨rfl,rfl,rfl,rfl⟩,fun b i hi=>⟨.inl hi,?_⟩,fun b hb=>⟨hb,?_⟩⟩
  .obtain⟨⟨v,hv⟩,_⟩:=h.I b i hi;exact cell_of_heap (ho.block b (pQ (lt_of_cell hv)) (lt_of_cell hv))
  .obtain⟨⟨es,fu,hv⟩,_⟩:=h.IM b hb;exact ho.block b (pQ (lt_of_heap hv)) (lt_of_heap hv)
 refine⟨?_,e,ho.below hB hB,fun b hb=>hb,fun _ h=>.inl h,fun b o hi=>?_,fun _ h=>.inl h⟩
 .refine h.upd ho e (fun _ _=>rfl) (fun r hr=>?_) ?_ ?_ ?_ ?_ ?_ ?_
  .have:=h.agf;exact absurd (hr.symm.trans this) aD
  .intro loc s ob hs;exact .inl ⟨hs,fun hr=>by have:=(h.rb _ _ ((h.obj _ _ _ hs).2.2 hr)).1;omega⟩
  .intro s hs hlt;exact .inl ⟨hs,rfl,rfl,rfl,by have:=(h.rb _ _ (h.own s hs hlt).2.1).1;omega⟩
  .intro b' i hi;rcases hi with hi| ⟨rfl,hi⟩
   .obtain⟨⟨v,hv⟩,_⟩:=h.I b' i hi;exact .inl ⟨hi,pQ (lt_of_cell hv)⟩
   .exact .inr ⟨rfl,⟨_,hcn _ hi⟩,fun loc hr=>absurd (hr.symm.trans h.agf) aD⟩
  .intro b' hi;obtain⟨⟨es,fu,hv⟩,_⟩:=h.IM b' hi;exact .inl ⟨hi,pQ (lt_of_heap hv)⟩
  .intro l r hl;exact .inl ⟨hl,by have:=(h.rb _ _ (h.loop l r hl).2.2.1).1;omega⟩
  .intro b' hd;exact .inl ⟨hd,pQ (lt_of_heap (h.D b' hd))⟩
 .rcases hi with hi| ⟨rfl,_⟩
  .exact .inl hi
  .exact .inr hB
theorem Step.agh {E B0 new Y K w}(h:bH E B0 Y K w)(hB:B0<=w.heap.size)(vals:Array Value)(t:TypeId)(fz:Nat×Nat):
 Step E B0 new Y K w Y (K.VP w.heap.size vals.size) (w.alloc (.cells vals t fz)):=
 Step.apn h hB (EF w _) (heap_alloc_new w _)
def bA.Ce (K:bA)(s b lo hi:Nat):bA:=
 {K with A:=fun x=>K.A x\/x=s,ob:=upd K.ob s b,lo:=upd K.lo s lo,hi:=upd K.hi s hi,I:=fun b' o=>K.I b' o\/(b'=b/\o<lo),Z:=upd K.Z b (some (.own s))}
theorem Step.apo {E B0 Y K w}(h:bH E B0 Y K w)(hB:B0<=w.heap.size)(s T':Nat)(hs:¬K.A s\/Y.top s<T')(vals:Array Value)(t:TypeId)(lo:Nat)(hlo:lo<=vals.size):
 Step E B0 (· =s) Y K w (Y.eB s T') (K.Ce s w.heap.size lo vals.size) (w.alloc (.cells vals t)):=by
 have e:Ext K Y.top w (K.Ce s w.heap.size lo vals.size) (Y.eB s T').top (w.alloc (.cells vals t)):=by
  refine⟨fun _ h=>⟨.inl h,rfl,rfl,rfl⟩,fun x hx=>?_,fun b i hi=>⟨.inl hi,?_⟩,fun b hb=>⟨hb,?_⟩⟩
  .by_cases hxs:x=s
   .subst hxs;right;show _<upd Y.top x T' x;rw[upd_same];exact hs.resolve_left (fun hn=>hn hx)
   .exact .inl ⟨upd_ne _ _ hxs,upd_ne _ _ hxs,upd_ne _ _ hxs,upd_ne _ _ hxs⟩
  .obtain⟨⟨v,hv⟩,_⟩:=h.I b i hi;rw[hv];exact QO hv
  .obtain⟨⟨es,fu,hv⟩,_⟩:=h.IM b hb;exact heap_alloc_old (lt_of_heap hv)
 refine⟨?_,e,(EF w _).below hB hB,fun b hb=>hb,fun _ h=>h,fun b o hi=>?_,fun _ h=>.inl h⟩
 .refine h.upd (Y':=Y.eB s T') (EF w _) e (fun k hk=>upd_ne _ _ hk) (fun r _=>⟨aD,hB⟩) ?_ ?_ ?_ ?_ ?_ ?_
  .intro loc s ob hs;exact .inl ⟨hs,fun hr=>by have:=(h.rb _ _ ((h.obj _ _ _ hs).2.2 hr)).1;omega⟩
  .intro x hx hlt;by_cases hxs:x=s
   .subst hxs;right;have q1:(K.Ce x w.heap.size lo vals.size).ob x=w.heap.size:=upd_same _ _ _;have q2:(K.Ce x w.heap.size lo vals.size).lo x=lo:=upd_same _ _ _;have q3:(K.Ce x w.heap.size lo vals.size).hi x=vals.size:=upd_same _ _ _;refine⟨by rw[q1];exact hB,by rw[q1];exact upd_same _ _ _,fun o hl hh=>?_⟩;rw[q2] at hl;rw[q3] at hh;rw[q1];refine⟨?_,⟨_,LD hh⟩,?_⟩
    .rintro (hi| ⟨_,hi⟩)
     .obtain⟨⟨v,hv⟩,_⟩:=h.I _ o hi;have:=lt_of_cell hv;omega
     .omega
    .have hh':(w.alloc (.cells vals t)).heap[w.heap.size]? =some (.cells vals t):=heap_alloc_new w _;unfold World.frozen?;simp only[hh'];simp
   .left;have hA:K.A x:=hx.resolve_right hxs;simp only[bA.Ce,upd_ne _ _ hxs] at hlt;refine⟨hA,upd_ne _ _ hxs,upd_ne _ _ hxs,upd_ne _ _ hxs,?_⟩;have:=(h.rb _ _ (h.own x hA hlt).2.1).1;omega
  .intro b' i hi;rcases hi with hi| ⟨rfl,hi⟩
   .obtain⟨⟨v,hv⟩,_⟩:=h.I b' i hi;exact .inl ⟨hi,pQ (lt_of_cell hv)⟩
   .refine .inr ⟨rfl,⟨_,LD RS⟩,fun loc hr=>?_⟩;simp only[bA.Ce,upd_same] at hr;cases hr
  .intro b' hi;obtain⟨⟨es,fu,hv⟩,_⟩:=h.IM b' hi;exact .inl ⟨hi,pQ (lt_of_heap hv)⟩
  .intro l r hl;exact .inl ⟨hl,by have:=(h.rb _ _ (h.loop l r hl).2.2.1).1;omega⟩
  .intro b' hd;exact .inl ⟨hd,pQ (lt_of_heap (h.D b' hd))⟩
 .rcases hi with hi| ⟨rfl,_⟩
  .exact .inl hi
  .exact .inr hB
def bA.EG (K:bA)(s n:Nat):bA:=
 {K with lo:=upd K.lo s (K.lo s+n),I:=fun b' o=>K.I b' o\/(b'=K.ob s/\K.lo s<=o/\o<K.lo s+n)}
theorem Step.EG {E B0 new Y K w w'}(h:bH E B0 Y K w)(hB:B0<=w.heap.size){s n T':Nat}(hs:K.A s)(hT:Y.top s<T')(hn:0<n)(hroom:K.lo s+n<=K.hi s)(ho:Only (K.ob s) w w')(hnew:∀o,K.lo s<=o->o<K.lo s+n->∃v,w'.cell? (at_ (K.ob s) o)=some v)(hold:∀o,o<K.lo s\/K.lo s+n<=o->w'.cell? (at_ (K.ob s) o)=w.cell? (at_ (K.ob s) o))(hfz:∀o,w'.frozen? (at_ (K.ob s) o)=w.frozen? (at_ (K.ob s) o)):
 Step E B0 new Y K w (Y.eB s T') (K.EG s n) w':=by
 obtain⟨o1,o2,o3⟩:=h.own s hs RS;have VQ:=(o3 (K.lo s) (iR _) RS).2.1;have agi:∀o,K.I (K.ob s) o->o<K.lo s\/K.lo s+n<=o:=fun o hi=>by
  rcases Nat.lt_or_ge o (K.lo s) with h1|h1
  .exact .inl h1
  .rcases Nat.lt_or_ge o (K.hi s) with h2|h2
   .exact absurd hi (o3 o h1 h2).1
   .exact .inr RS
 have e:Ext K Y.top w (K.EG s n) (Y.eB s T').top w':=by
  refine⟨fun _ h=>⟨h,rfl,rfl,rfl⟩,fun x hx=>?_,fun b i hi=>⟨.inl hi,?_⟩,fun b hb=>⟨hb,?_⟩⟩
  .by_cases hxs:x=s
   .subst hxs;right;show _<upd Y.top x T' x;rw[upd_same];exact hT
   .exact .inl ⟨upd_ne _ _ hxs,rfl,upd_ne _ _ hxs,rfl⟩
  .by_cases hb:b=K.ob s
   .subst hb;exact hold i (agi i hi)
   .obtain⟨⟨v,hv⟩,_⟩:=h.I b i hi;exact cell_of_heap (ho.block b hb (lt_of_cell hv))
  .obtain⟨⟨es,fu,hv⟩,_⟩:=h.IM b hb;refine ho.block b ?_ (lt_of_heap hv);rintro rfl;obtain⟨v,hc⟩:=VQ;simp[World.cell?,hv] at hc
 refine⟨?_,e,ho.below o1 hB,fun b hb=>hb,fun _ h=>.inl h,fun b o hi=>?_,fun _ h=>.inl h⟩
 .refine h.upd (Y':=Y.eB s T') ho e (fun k _=>rfl) (fun r hr=>⟨nD (h.rb _ r hr).1 ho.size,o1⟩) ?_ ?_ ?_ ?_ ?_ ?_
  .intro loc x ob hx;refine .inl ⟨hx,fun hr e'=>?_⟩;have a:=(h.obj _ _ _ hx).2.2 hr;rw[e',o2] at a;cases a
  .intro x hx hlt;by_cases hxs:x=s
   .subst hxs;right;simp only[VN,bA.EG,upd_same] at hlt⊢;refine⟨o1,o2,fun o hl hh=>⟨?_,?_,?_⟩⟩
    .rintro (hi| ⟨_,_,hi⟩)
     .exact(o3 o RS hh).1 hi
     .omega
    .rw[hold o (.inr hl)];exact(o3 o RS hh).2.1
    .rw[hfz o];exact(o3 o RS hh).2.2
   .left;simp only[bA.EG,upd_ne _ _ hxs] at hlt;refine⟨hx,upd_ne _ _ hxs,rfl,rfl,fun e'=>?_⟩;have a:=(h.own x hx hlt).2.1;rw[e',o2] at a;injection a with a
    injection a with a
    exact hxs a.symm
  .intro b' i hi;rcases hi with hi| ⟨rfl,hi1,hi2⟩
   .by_cases hb:b'=K.ob s
    .subst hb;obtain⟨⟨v,hv⟩,hr⟩:=h.I _ i hi;exact .inr ⟨rfl,⟨v,by rw[hold i (agi i hi)];exact hv⟩,hr⟩
    .exact .inl ⟨hi,hb⟩
   .exact .inr ⟨rfl,hnew i hi1 hi2,fun loc hr=>by have:K.Z (K.ob s)=some (.obj loc):=hr;rw[o2] at this;cases this⟩
  .intro b' hi;obtain⟨⟨es,fu,hv⟩,_⟩:=h.IM b' hi;refine .inl ⟨hi,?_⟩;rintro rfl;obtain⟨v,hc⟩:=VQ;simp[World.cell?,hv] at hc
  .intro l r hl;refine .inl ⟨hl,fun e'=>?_⟩;have a:=(h.loop l r hl).2.2.1;rw[e',o2] at a;cases a
  .intro b' hd;refine .inl ⟨hd,?_⟩;rintro rfl;obtain⟨v,hc⟩:=VQ;simp[World.cell?,h.D _ hd] at hc
 .rcases hi with hi| ⟨rfl,_⟩
  .exact .inl hi
  .exact .inr o1
theorem Step.apq {E B0 Y K w w'}(h:bH E B0 Y K w)(hB:B0<=w.heap.size){kJ loc:Loc}{s0 st:Nat}{cs0 cs:List V}{vals vals':Array Value}{t:TypeId}(hst:¬K.A st)(hs:Y.obj kJ=some (s0,.cells cs0))(hne:cs0≠[])(hv:w.heap[K.blk s0]? =some (.cells vals t (0,0)))(ho:Only (K.blk s0) w w')(hv':w'.heap[K.blk s0]? =some (.cells vals' t (0,0)))(hne':cs≠[])(hl:cs.length<=vals'.size)(hr:∀K',Ext K Y.top w K' Y.top w'->∀i,i<cs.length->Rel K' Y.top w' (cs.getD i aP) (vals'.getD i undef)):
 Step E B0 (· =st) Y K w ((Y.ko kJ).setObj loc st (.cells cs)) (K.nR st (K.blk s0) vals'.size loc) w':=by
 have rQ:(kH.cells cs0).real:=by cases cs0 with|nil=>exact absurd rfl hne|cons _ _=>trivial
 obtain⟨hA,nS,hZ⟩:=h.obj _ _ _ hs;obtain⟨hb0,agd,t0,g1,g2,g3,g4⟩:=nS.2 hne;have QT:∀s,K.A s->s≠st:=fun s hs e=>hst (e▸hs);have e0:=h.agc hs rQ ho Y.top rfl;have e:Ext K Y.top w (K.nR st (K.blk s0) vals'.size loc) Y.top w':=
  ⟨fun s hs=>⟨.inl hs,upd_ne _ _ (QT s hs),rfl,upd_ne _ _ (QT s hs)⟩,fun s hs=>.inl ⟨rfl,rfl,upd_ne _ _ (QT s hs),upd_ne _ _ (QT s hs)⟩,e0.I,e0.IM⟩
 refine⟨?_,e,ho.below hb0 hB,fun _ h=>h,fun _ h=>h,fun _ _ h=>.inl h,fun _ h=>.inl h⟩;refine h.upd (Y':=(Y.ko kJ).setObj loc st (.cells cs)) ho e (fun k hk=>upd_ne _ _ hk) (fun r _=>⟨nD (lt_of_heap hv) ho.size,hb0⟩) ?_ ?_ ?_ ?_ ?_ ?_
 .intro loc' s' LC hs';by_cases hl':loc'=loc
  .subst hl';right;simp only[ah.setObj,upd_same,iE,mF] at hs';obtain⟨rfl,rfl⟩:=hs';refine⟨.inr rfl,⟨fun h0=>absurd h0 hne',fun _=>⟨?_,vals',t,?_,?_,hl,hr _ e⟩⟩,fun _=>?_⟩
   .show B0<=upd K.blk st (K.blk s0) st;rw[upd_same];exact hb0
   .show w'.heap[upd K.blk st (K.blk s0) st]? =_;rw[upd_same];exact hv'
   .show _=upd K.sz st _ st;rw[upd_same]
   .show upd K.Z (K.blk s0) _ (upd K.blk st (K.blk s0) st)=_;rw[upd_same,upd_same]
  .left;simp only[ah.setObj,ah.ko,upd_ne _ _ hl'] at hs';by_cases hl0:loc'=kJ
   .subst hl0;rw[upd_same] at hs';cases hs'
   .rw[upd_ne _ _ hl0] at hs';exact⟨hs',fun hr'=>h.agb hs' hs hl0 hr' rQ⟩
 .intro s' hs' hlt;have QU:s'≠st:=by rintro rfl;simp only[bA.nR,upd_same] at hlt;omega
  have hA':K.A s':=hs'.resolve_right QU;simp only[bA.nR,upd_ne _ _ QU] at hlt;have ⟨a1,a2,a3⟩:=h.own s' hA' hlt;refine .inl ⟨hA',upd_ne _ _ QU,upd_ne _ _ QU,rfl,fun e'=>?_⟩;rw[e',hZ rQ] at a2;cases a2
 .intro b' i hi;exact .inl ⟨hi,fun e'=>(h.I b' i hi).2 kJ (e'▸hZ rQ)⟩
 .intro b' hi;exact .inl ⟨hi,fun e'=>(h.IM b' hi).2 kJ (e'▸hZ rQ)⟩
 .intro l r hl';exact .inl ⟨hl',h.aga hl' hv⟩
 .intro b' hd;exact .inl ⟨hd,wK (h.D b' hd) hv aD⟩
theorem agj {K T w}{v:Value}{z:V}(h:lQ v=some z):Rel K T w z v:=by
 cases v with
 |bool b=>simp only[lQ,iE] at h;subst h;exact .bool b|int k n=>simp only[lQ,iE] at h;subst h;exact .int k n|string s=>simp only[lQ,iE] at h;subst h;exact .str _ s rfl|pointer a=>
  cases a with
  |none=>simp only[lQ,iE] at h;subst h;exact .gZ|some a=>simp[lQ] at h
 |slice a n c=>
  cases a with
  |none=>
   cases n with
   |zero=>
    cases c with
    |zero=>simp only[lQ,iE] at h;subst h;exact .gq .nil none (fun _=>rfl) trivial
    |succ c=>simp[lQ] at h
   |succ n=>simp[lQ] at h
  |some a=>simp[lQ] at h
 |map r=>
  cases r with
  |none=>simp only[lQ,iE] at h;subst h;exact .iq|some a=>simp[lQ] at h
 |nilFunc=>simp only[lQ,iE] at h;subst h;exact .gL|nilIface=>simp only[lQ,iE] at h;subst h;exact .iO|_=>simp[lQ] at h
theorem apr {v:Value}{z:V}(h:lQ v=some z):fE z=true:=by
 cases z with
 |raw x=>cases v with
  |slice a n c=>cases a<;>cases n<;>cases c<;>simp[lQ] at h|pointer a=>cases a<;>simp[lQ] at h|map a=>cases a<;>simp[lQ] at h|_=>simp[lQ] at h
 |_=>rfl
theorem aps {v:Value}{z:V}(h:ofValue v=some z):fE z=true:=by
 cases v with
 |agg cs=>simp only[ofValue,aY] at h;obtain⟨r,_,rfl⟩:=h;rfl
 |tuple cs=>simp only[ofValue,aY] at h;obtain⟨r,_,rfl⟩:=h;rfl
 |_=>exact apr (v:=_) (by unfold ofValue at h;exact h)
theorem mapM_some {U β:Type}{f:U->Option β}:∀{l:List U}{r:List β},l.mapM f=some r->l.length=r.length/\∀i (h:i<l.length),∃(h':i<r.length),f l[i]=some r[i]
 | [],r,h=>by simp at h;subst h;exact⟨rfl,fun i hi=>absurd hi (gQ i)⟩
 |a::l,r,h=>by
  simp only[iN,Option.pure_def,Option.bind_eq_bind] at h;cases ha:f a with
  |none=>simp[ha] at h|some x=>
   cases hl:l.mapM f with
   |none=>simp[ha,hl] at h|some r'=>
    simp only[ha,hl,Option.bind_some,iE] at h;subst h;obtain⟨h1,h2⟩:=mapM_some hl;refine⟨by simp[h1],fun i hi=>?_⟩;cases i with
    |zero=>exact⟨aD,ha⟩|succ i=>obtain⟨h3,h4⟩:=h2 i kg;exact⟨by simpa using h3,by simpa using h4⟩
theorem kK {U:Type}{l:List U}{i:Nat}(h:i<l.length)(d:U):l.getD i d=l[i]:=by simp[List.getD,h]
theorem GV {U:Type}{l:Array U}{i:Nat}(h:i<l.size)(d:U):l.getD i d=l[i]:=by simp[Array.getD,h]
theorem VR {K T w}{v:Value}{z:V}(h:ofValue v=some z):Rel K T w z v:=by
 have hsc:∀(cs:Array Value)(r:List V),cs.toList.mapM lQ=some r->r.length=cs.size/\∀i,i<r.length->Rel K T w (r.getD i aP) (cs.getD i undef):=by
  intro cs r hr;obtain⟨h1,h2⟩:=mapM_some hr;have h1':r.length=cs.size:=by rw[<-h1];simp
  refine⟨h1',fun i hi=>?_⟩;obtain⟨h3,h4⟩:=h2 i RS;rw[kK h3,GV RS];exact agj (by simpa using h4)
 cases v with
 |agg cs=>simp only[ofValue,aY] at h;obtain⟨r,hr,rfl⟩:=h;obtain⟨h1,h2⟩:=hsc cs r hr;exact .agg r cs h1 h2
 |tuple cs=>simp only[ofValue,aY] at h;obtain⟨r,hr,rfl⟩:=h;obtain⟨h1,h2⟩:=hsc cs r hr;exact .bV r cs h1 h2
 |_=>exact agj h
theorem Ay {E B0 Y K w}(h:bH E B0 Y K w){fr:Fr}{a:Act}(hf:mU K Y.top w fr a.tmps)(x:Operand):Rel K Y.top w (fr.ev E x) (a.eval x):=by
 cases x with
 |tmp t=>exact hf t|const v=>
  simp only[Fr.ev,Act.eval];cases hv:ofValue v with
  |none=>exact .raw v|some z=>exact VR hv
 |global g=>
  simp only[Fr.ev,Act.eval];cases hg:E.glob g with
  |none=>exact .raw _|some cs=>exact h.glob g cs hg
 |func f=>exact .fn f [] [] #[] #[] rfl rfl (fun i hi=>absurd hi (gQ i)) (fun i hi=>absurd hi (gQ i))
theorem Cg {K T w}{v:V}{c:Value}(h:Rel K T w v c)(hr:fE v=true):
 v.cells.length=c.cells.size/\∀i,i<v.cells.length->Rel K T w (v.cells.getD i aP) (c.cells.getD i undef):=by
 have one:∀{v:V}{c:Value},Rel K T w v c->v.cells=[v]->c.cells= #[c]->v.cells.length=c.cells.size/\∀i,i<v.cells.length->Rel K T w (v.cells.getD i aP) (c.cells.getD i undef):=by
  intro v c h h1 h2;rw[h1,h2];refine⟨rfl,fun i hi=>?_⟩;obtain rfl:i=0:=by simp at hi;omega
  exact h
 cases h with
 |agg cs vs hl h=>exact⟨hl,h⟩|raw v=>simp[fE] at hr|bV cs vs hl h=>exact one (.bV cs vs hl h) rfl rfl|int k n=>exact one (.int k n) rfl rfl|bool b=>exact one (.bool b) rfl rfl|str s b h=>exact one (.str s b h) rfl rfl|gZ=>exact one .gZ rfl rfl|gL=>exact one .gL rfl rfl|iq=>exact one .iq rfl rfl|iO=>exact one .iO rfl rfl|gq c a ha hc=>exact one (.gq c a ha hc) rfl rfl|ak c l b o n cap val h1 h2 h3 h4 h5=>exact one (.ak c l b o n cap val h1 h2 h3 h4 h5) rfl rfl
 |aS loc s off len cap bF ag fB h1 h2 h3 h4=>exact one (.aS loc s off len cap bF ag fB h1 h2 h3 h4) rfl rfl|oL loc s bF ag h1=>exact one (.oL loc s bF ag h1) rfl rfl|aW cs off b o val h1 h2=>exact one (.aW cs off b o val h1 h2) rfl rfl|ref loc s off h1=>exact one (.ref loc s off h1) rfl rfl|fn f a b kV bv h1 h2 h3 h4=>exact one (.fn f a b kV bv h1 h2 h3 h4) rfl rfl|yield l h1=>exact one (.yield l h1) rfl rfl
 |fq loc s h1=>exact one (.fq loc s h1) rfl rfl|fD ks vs b es fu h1 h2 h3 h4 h5 h6=>exact one (.fD ks vs b es fu h1 h2 h3 h4 h5 h6) rfl rfl|iface t v c h=>exact one (.iface t v c h) rfl rfl
theorem agk {K T w}{v:V}{c:Value}(h:Rel K T w v c)(ho:oneCell v=true):c.oneCell'=true/\c.cells= #[c]/\v.cells=[v]:=by
 cases h<;>first| (simp[oneCell] at ho;done)|exact⟨rfl,rfl,rfl⟩
section types
variable {P:Program}{t:TypeId}(w:World)
theorem agl {i:TypeInfo}(h:P.info? t=some i):(typeInfo t).run P w= .ok i w:=by simp[typeInfo,h]
theorem mo {n:Nat}(h:dM P t=some n):(Go.sizeOf t).run P w= .ok n w:=by simp only[dM,aY] at h;obtain⟨i,hi,rfl⟩:=h;simp[Go.sizeOf,agl w hi]
theorem agm {b:Bool}(h:jU P t=some b):(isAgg t).run P w= .ok b w:=by simp only[jU,aY] at h;obtain⟨d,hd,rfl⟩:=h;simp only[isAgg,Sem.run_bind,run_underlying hd,Result.andThen_ok];cases d<;>rfl
theorem EH {z:V}(h:jc P t=some z):∃c,(zeroValue t).run P w= .ok c w/\∀K T,Rel K T w z c:=by simp only[jc,iP] at h;obtain⟨v,⟨i,hi,hz⟩,hv⟩:=h;exact⟨v,by simp[zeroValue,agl w hi,hz],fun K T=>VR hv⟩
theorem LG {z:V}(h:jc P t=some z):fE z=true:=by simp only[jc,iP] at h;obtain⟨v,_,hv⟩:=h;exact aps hv
theorem LH {e:TypeId}(h:lT P t=some e):P.underlying t=some (.slice e):=by unfold lT at h;split at h<;>simp_all
theorem agn {n:Nat}{e:TypeId}(h:vg P t=some (n,e)):P.underlying t=some (.array n e):=by unfold vg at h;split at h<;>simp_all
theorem agp {f o:Nat}{u:TypeId}(h:x9 P t f=some (o,u)):∃fs g n,P.underlying t=some (.struct fs)/\fs[f]? =some g/\g.offset=o/\g.type=u/\dM P u=some (n+1):=by
 unfold x9 at h;split at h
 .rename_i fs hu;simp only[iP] at h;obtain⟨g,hg,h⟩:=h;split at h
  .rename_i n hn;simp only[iE,mF] at h;exact⟨fs,g,n,hu,hg,h.1,h.2,by rw[<-h.2];exact hn⟩
  .simp at h
 .simp at h
end types
theorem addr_add (b o n:Nat):(at_ b o).add n=at_ b (o+n):=by
 unfold Addr.add;split
 .subst_vars;rfl
 .rfl
theorem VT {P:Program}{K T}{w:World}{t:TypeId}{cs:List V}{off:Nat}{v:V}{b o:Nat}(val:Nat->Value)(hc:∀i,i<cs.length->w.cell? (at_ b (o+i))=some (val i))(hr:∀i,i<cs.length->Rel K T w (cs.getD i aP) (val i))(h:gT P t cs off=some v):
 ∃c,(loadVar t (at_ b (o+off))).run P w= .ok c w/\Rel K T w v c:=by
 simp only[gT,iP] at h;obtain⟨ag,hag,n,hn,h⟩:=h;simp only[loadVar,Sem.run_bind,agm w hag,Result.andThen_ok];cases ag with
 |true=>
  simp only[rM,if_true] at h;split at h
  .rename_i hle;simp only[iE] at h;subst h;have hl:=run_loadCells (P:=P) w (at_ b (o+off)) n (fun j=>val (off+j)) (fun j hj=>by rw[addr_add,oZ];exact hc _ RS);refine⟨.agg ((List.range n).map fun j=>val (off+j)).toArray,by simp[mo w hn,hl],?_⟩;refine .agg _ _ dw (fun i hi=>?_);simp only[mO,qj] at hi;have hi':i<n:=RS
   have e1:((cs.drop off).take n).getD i aP=cs.getD (off+i) aP:=by simp[List.getD,hi',List.getElem?_drop]
   have e2:(((List.range n).map fun j=>val (off+j)).toArray).getD i undef=val (off+i):=by simp[Array.getD,hi']
   rw[e1,e2];exact hr _ RS
  .simp at h
 |false=>
  simp only[rM,dG,if_false] at h;have hlt:off<cs.length:=(uX.1 h).1;have hv:cs[off]=v:=(uX.1 h).2;refine⟨val off,by simp[hc off hlt],?_⟩;have:=hr off hlt
  rwa[kK hlt,hv] at this
theorem GX {P:Program}{K T}{w:World}{t:TypeId}{cs:List V}{vs:Array Value}{off:Nat}{v:V}(hl:cs.length=vs.size)(hr:∀i,i<cs.length->Rel K T w (cs.getD i aP) (vs.getD i undef))(h:gT P t cs off=some v):
 ∃c,(part t vs off).run P w= .ok c w/\Rel K T w v c:=by
 simp only[gT,iP] at h;obtain⟨ag,hag,n,hn,h⟩:=h;simp only[part,Sem.run_bind,agm w hag,Result.andThen_ok];cases ag with
 |true=>
  simp only[rM,if_true] at h;split at h
  .rename_i hle;simp only[iE] at h;subst h;refine⟨.agg (vs.extract off (off+n)),by simp[mo w hn],?_⟩;refine .agg _ _ dw (fun i hi=>?_);simp only[mO,qj] at hi;have hi':i<n:=RS
   have e1:((cs.drop off).take n).getD i aP=cs.getD (off+i) aP:=by simp[List.getD,hi',List.getElem?_drop]
   have e2:(vs.extract off (off+n)).getD i undef=vs.getD (off+i) undef:=by have:off+i<vs.size:=RS;simp[Array.getD,this,show i<min (off+n) vs.size-off by omega]
   rw[e1,e2];exact hr _ RS
  .simp at h
 |false=>
  simp only[rM,dG,if_false] at h;have hlt:off<cs.length:=(uX.1 h).1;have hv:cs[off]=v:=(uX.1 h).2;have hlt':off<vs.size:=RS
  refine⟨vs.getD off undef,by simp[hlt',Array.getD],?_⟩;have:=hr off hlt
  rwa[kK hlt,hv] at this
end aQ
end
