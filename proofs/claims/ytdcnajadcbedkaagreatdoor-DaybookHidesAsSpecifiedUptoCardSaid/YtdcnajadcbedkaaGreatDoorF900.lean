import Derived.Below
import Derived.WalkKit
import Derived.KernelRfl
import GoSem.Dispatch
theorem RS {P:Prop}(h:P:=by omega):P:=h
theorem dY {P:Prop}(h:P:=by intro S;simp only[go_sem,Nat.reduceBEq,Nat.reduceAdd, *];with_reducible exact Is.rfl):P:=h
theorem av {P:Prop}(h:P:=by kernel_rfl):P:=h
theorem dZ {P:Prop}(h:P:=by simp only[go_sem,Nat.reduceBEq,Nat.reduceAdd, *];with_reducible exact Is.rfl):P:=h
theorem pK {P:Prop}(h:P:=by intro S;simp only[go_sem,Nat.reduceBEq,Nat.reduceAdd, *];first|exact if_pos (iR _)| (rw[if_pos (by first| (simp;done)|rfl|exact⟨rfl,rfl⟩|exact⟨iR _,rfl⟩)];exact Is.rfl)):P:=h
theorem kY {P:Prop}(h:P:=by simp only[go_sem,Nat.reduceBEq,Nat.reduceAdd,d9,gB,r9,nV,wG,nu,ny,jm, *];with_reducible exact Is.rfl):P:=h
theorem iK {P:Prop}(h:P:=by simp only[go_sem,Nat.reduceBEq, *]):P:=h
theorem aG {P:Prop}(h:P:=by decide):P:=h
theorem jE {P:Prop}(h:P:=by simp only[go_sem,Nat.reduceBEq,Nat.reduceAdd, *];exact Is.rfl):P:=h
theorem aD {P:Prop}(h:P:=by simp):P:=h
theorem uP {P:Prop}(h:P:=by intro S;rw[agW _ _ _ (by simp only[go_sem,Nat.reduceBEq, *])];simp only[go_sem,Nat.reduceBEq,Nat.reduceAdd, *];with_reducible exact Is.rfl):P:=h
theorem gZ {P:Prop}(h:P:=by first|omega| (simp only[xU,QF];omega)):P:=h
theorem dB {P:Prop}(h:P:=by dsimp only;omega):P:=h
theorem zf {P:Prop}(h:P:=by intro S;rw[agX _ _ _ (by simp only[go_sem,Nat.reduceBEq, *])];simp only[go_sem,Nat.reduceBEq,Nat.reduceAdd, *];with_reducible exact Is.rfl):P:=h
theorem jo {P:Prop}(h:P:=by first|omega| (simp only[xU];omega)):P:=h
theorem dz {P:Prop}(h:P:=by simp;omega):P:=h
theorem aGz {P:Prop}(h:P:=by first| (simp;done)|rfl|exact⟨rfl,rfl⟩|exact⟨iR _,rfl⟩):P:=h
theorem oP {P:Prop}(h:P:=by simp[Go.Op.equalIn,run_underlying hu]):P:=h
theorem dh {P:Prop}(h:P:=by cases h):P:=h
theorem bD {P:Prop}(h:P:=by rfl):P:=h
theorem gX {P:Prop}(h:P:=by unfold aC;rfl):P:=h
theorem j6 {P:Prop}(h:P:=by intros;kernel_rfl):P:=h
theorem Ls {P:Prop}(h:P:=by obtain⟨s,h1,h2⟩:=h;unfold oz at hm;exact⟨s,((ho p (fun e=>by rw[e,zh] at hm;cases hm)).1.trans h1),by rw[hx];exact h2⟩):P:=h
theorem xV {P:Prop}(h:P:=by simp only[jF,go_sem,Nat.reduceBEq, *];exact Is.rfl):P:=h
theorem Lu {P:Prop}(h:P:=by obtain⟨s,h1,h2⟩:=h;unfold aR.solid at hs;exact⟨s,by rw[(ho o (by simpa using hs)).1];exact h1,by rw[hx];exact h2⟩):P:=h
theorem xW {P:Prop}(h:P:=by simp only[go_sem,Nat.reduceBEq,Nat.reduceAdd, *]):P:=h
theorem iL {P:Prop}(h:P:=by rw[<-hfr];rfl):P:=h
theorem kg {P:Prop}(h:P:=by simpa using hi):P:=h
theorem nW {P:Prop}(h:P:=by unfold aC at h;exact h):P:=h
theorem xX {P:Prop}(h:P:=by rw[eU,List.length_singleton];omega):P:=h
theorem QG {P:Prop}(h:P:=by intro S;simp only[go_sem,Nat.reduceBEq,Nat.reduceAdd, *];rw[if_pos (by decide)];exact Is.rfl):P:=h
theorem Lv {P:Prop}(h:P:=by obtain⟨s,h1,h2⟩:=h;exact⟨s,by rw[ho.1];exact h1,by rw[ho.2.2];exact h2⟩):P:=h
theorem oQ {P:Prop}(h:P:=by cases op<;>rfl):P:=h
theorem BX {P:Prop}(h:P:=by simp only[dM,hop,hz,Option.map_some]):P:=h
theorem tK {P:Prop}(h:P:=by intro i h;cases h):P:=h
theorem wH {P:Prop}(h:P:=by simp only[xU];omega):P:=h
theorem Lx {P:Prop}(h:P:=by simp only[List.length_cons,List.length_nil];omega):P:=h
theorem zi {P:Prop}(h:P:=by unfold Sh.Entry.c;simp):P:=h
theorem Au {P:Prop}(h:P:=by rw[IntKind.wrap_i64];omega):P:=h
theorem LA {P:Prop}(h:P:=by rw[hx];exact h2):P:=h
theorem GQ {P:Prop}(h:P:=by intro e;injection e with e1 e2;cases e2):P:=h
theorem GR {P:Prop}(h:P:=by unfold ah.dS at h2⊢;rw[hp];exact h2):P:=h
theorem uQ {P:Prop}(h:P:=by simpa using h2):P:=h
theorem aGA {P:Prop}(h:P:=by rw[(ho o (by simpa using hs)).1];exact h1):P:=h
theorem zk {P:Prop}(h:P:=by first|exact Av|rfl):P:=h
theorem LB {P:Prop}(h:P:=by simp only[go_sem,Nat.reduceBEq, *];rfl):P:=h
theorem uR {P:Prop}(h:P:=by rw[eU];omega):P:=h
theorem uS {P:Prop}(h:P:=by rw[qD];omega):P:=h
theorem wI {P:Prop}(h:P:=by simp[qc] at hs):P:=h
theorem wJ {P:Prop}(h:P:=by rw[nA];omega):P:=h
theorem BZ {P:Prop}(h:P:=by simpa [aQ] using hp):P:=h
theorem Er {P:Prop}(h:P:=by unfold Sh.Event.c;simp):P:=h
theorem agY {P:Prop}(h:P:=by rw[e,zh] at hm;cases hm):P:=h
theorem wK {P:Prop}(h:P:=by simp[xY] at h):P:=h
theorem sj {P:Prop}(h:P:=by simp[hv]):P:=h
theorem GU {P:Prop}(h:P:=by unfold aC;exact⟨aN,Aw,rfl⟩):P:=h
theorem QH {P:Prop}(h:P:=by simp only[dM,hop,kZ,hz,Option.map_some]):P:=h
theorem GV {P:Prop}(h:P:=by rw[hlc,hlen];exact iR _):P:=h
theorem zl {P:Prop}(h:P:=by simpa using h):P:=h
theorem LC {P:Prop}(h:P:=by rw[<-hy];exact(nX _ _ _).symm):P:=h
theorem LD {P:Prop}(h:P:=by rw[<-hy];exact(kN _ _ e).symm):P:=h
theorem QI {P:Prop}(h:P:=by unfold ah.lg at h2⊢;rw[hp];exact h2):P:=h
theorem Ca {P:Prop}(h:P:=by simpa using hl):P:=h
theorem QJ {P:Prop}(h:P:=by simp only[eu,h1,Option.bind_some]):P:=h
theorem LG {P:Prop}(h:P:=by rw[IntKind.wrap_u64];omega):P:=h
theorem tL {P:Prop}(h:P:=by simp[aQ]):P:=h
theorem QK {P:Prop}(h:P:=by unfold aC at h;subst h;simp[aQ]):P:=h
theorem agZ {P:Prop}(h:P:=by rw[ho.1];exact h1):P:=h
theorem LH {P:Prop}(h:P:=by rw[(ho o hm).1];exact h1):P:=h
theorem LJ {P:Prop}(h:P:=by have:=hi.lt u _ hu;omega):P:=h
theorem wL {P:Prop}(h:P:=by simp at h):P:=h
theorem QL {P:Prop}(h:P:=by rw[hx,GX _ _ _ _ hp];exact h2):P:=h
theorem Cb {P:Prop}(h:P:=by rw[xU];omega):P:=h
theorem Es {P:Prop}(h:P:=by simpa using hj):P:=h
theorem ag0 {P:Prop}(h:P:=by simpa using hs):P:=h
theorem uT {P:Prop}(h:P:=by cases hd):P:=h
theorem Cc {P:Prop}(h:P:=by cases d<;>rfl):P:=h
theorem Et {P:Prop}(h:P:=by rw[b];exact h1):P:=h
theorem LK {P:Prop}(h:P:=by simp[List.getD,hi']):P:=h
theorem QM {P:Prop}(h:P:=by simp[oU,Fence.wide] at hd):P:=h
theorem GY {P:Prop}(h:P:=by unfold rI;decide):P:=h
theorem QN {P:Prop}(h:P:=by simp[Array.range_zero']):P:=h
theorem aGB {P:Prop}(h:P:=by rw[ho.2.2];exact h2):P:=h
theorem GZ {P:Prop}(h:P:=by simpa using h1):P:=h
theorem Eu {P:Prop}(h:P:=by rw[h];exact k):P:=h
theorem QO {P:Prop}(h:P:=by simpa [er,aQ] using hp):P:=h
theorem QS {P:Prop}(h:P:=by simp only[dM,hop,h2]):P:=h
theorem Ay {P:Prop}(h:P:=by rw[<-hfr]):P:=h
theorem LM {P:Prop}(h:P:=by simp at h2;omega):P:=h
theorem QT {P:Prop}(h:P:=by intro y hy;cases hy):P:=h
theorem G5 {P:Prop}(h:P:=by decide+kernel):P:=h
theorem QU {P:Prop}(h:P:=by simpa using k2.symm):P:=h
theorem zm {P:Prop}(h:P:=by rw[hh]):P:=h
theorem QV {P:Prop}(h:P:=by rw[hcc];simp;omega):P:=h
theorem QW {P:Prop}(h:P:=by have:3<=n:=hn;omega):P:=h
theorem QX {P:Prop}(h:P:=by intro hy;cases hy):P:=h
theorem LP {P:Prop}(h:P:=by rw[hb];exact h1):P:=h
theorem LQ {P:Prop}(h:P:=by rw[hl];exact h2):P:=h
theorem QY {P:Prop}(h:P:=by rw[hmap];exact k1):P:=h
theorem QZ {P:Prop}(h:P:=by rw[eU];simp;omega):P:=h
theorem Q0 {P:Prop}(h:P:=by rw[d1,d4 rfl];rfl):P:=h
theorem Ev {P:Prop}(h:P:=by simp[hj]):P:=h
theorem LU {P:Prop}(h:P:=by rw[a];exact h2):P:=h
theorem LV {P:Prop}(h:P:=by rw[qd];omega):P:=h
theorem Ce {P:Prop}(h:P:=by cases hx):P:=h
theorem Q5 {P:Prop}(h:P:=by rw[hb'];exact hB):P:=h
theorem Ew {P:Prop}(h:P:=by simp[h]):P:=h
theorem Q6 {P:Prop}(h:P:=by rw[f];simp[dA,e]):P:=h
theorem Q7 {P:Prop}(h:P:=by unfold rI;omega):P:=h
theorem Q8 {P:Prop}(h:P:=by simpa using h0):P:=h
theorem G6 {P:Prop}(h:P:=by rw[hd,e]):P:=h
theorem LW {P:Prop}(h:P:=by rw[h.jw];rfl):P:=h
theorem Ey {P:Prop}(h:P:=by cases hv):P:=h
theorem G7 {P:Prop}(h:P:=by simp[e]):P:=h
set_option linter.all false
section
namespace aR
def iE:=@Option.some.injEq
def iP:=@Option.bind_eq_some_iff
def iR:=@Nat.le_refl
def mF:=@Prod.mk.injEq
def aZ:=@Option.map_eq_some_iff
def bf:=@Bool.and_eq_true
def eU:=@List.length_append
def dI:=@Bool.false_eq_true
def eX:=@Nat.le_trans
def fA:=@List.getElem?_eq_getElem
def fF:=@List.length_map
def fP:=@List.append_assoc
def gQ:=@Nat.not_lt_zero
def iH:=@List.map_cons
def iM:=@List.mapM_cons
def jd:=@List.mem_cons
def jq:=@List.mem_singleton
def nA:=@List.length_take
def jG:=@List.append_nil
def jW:=@List.mem_cons_self
def kP:=@Option.some.inj
def qD:=@List.length_drop
def kQ:=@List.mem_cons_of_mem
def kR:=@Nat.le_succ
def lq:=@List.getElem_mem
def lu:=@List.flatMap_cons
def lK:=@List.all_eq_true
def lM:=@Int.le_refl
def mg:=@Nat.le_add_right
def nC:=@Nat.lt_of_lt_of_le
def nD:=@List.getD_eq_getElem?_getD
def nE:=@List.drop_eq_nil_of_le
def nY:=@List.drop_eq_getElem_cons
def qd:=@List.drop_zero
def oC:=@Nat.mul_le_mul_right
def oD:=@Nat.le_of_ble_eq_true
def oV:=@Nat.add_assoc
def oW:=@Nat.zero_add
def oZ:=@Nat.zero_le
def pO:=@Nat.ne_of_lt
def qg:=@List.eq_nil_of_length_eq_zero
def qE:=@Nat.add_mul
def qF:=@List.mem_append
def qG:=@Nat.le_max_right
def qH:=@List.map_append
def rC:=@List.take_of_length_le
def su:=@Nat.succ_mul
def sw:=@List.length_pos_iff
def sD:=@List.cons.injEq
def sF:=@Bool.or_eq_false_iff
def sG:=@Nat.le_max_left
def zh:=@Nat.beq_refl
def uU:=@List.getElem?_eq_some_iff
def uV:=@Nat.mul_comm
def uW:=@List.mem_of_getElem?
def wM:=@Bool.or_eq_true
def xZ:=@Bool.not_eq_true'
def zn:=@Array.getD_eq_getD_getElem?
def zo:=@Nat.eq_of_beq_eq_true
def zq:=@Nat.le_of_eq
def Az:=@List.nodup_cons
def AA:=@List.map_map
def AB:=@Nat.add_sub_cancel_left
def Cg:=@List.getElem_map
def Ch:=@List.getElem_range
def Ci:=@Nat.min_eq_left
def Cj:=@List.mem_append_right
def Ez:=@Nat.mod_eq_of_lt
def EA:=@List.take_append_drop
def EB:=@List.map_congr_left
def EC:=@List.mem_map
def ED:=@List.mem_append_left
def EF:=@Nat.lt_succ_self
def EG:=@List.drop_append
def EH:=@List.take_append_of_le_length
def EI:=@List.length_range
def EJ:=@List.filter_cons_of_neg
def EK:=@List.filter_cons_of_pos
def G8:=@List.mem_iff_getElem
def G9:=@Int.toNat_of_nonneg
def He:=@List.mem_filter
def Hf:=@List.drop_of_length_le
def LX:=@List.drop_append_of_le_length
def Wd:=@List.getElem?_append_left
open Go
abbrev Loc:=Nat×Nat
inductive Cap where
 |sh
 |full
 |nil
 |own (n s:Nat)
inductive V where
 |int (k:IntKind) (n:Int)
 |bool (b:Bool)
 |str (s:List UInt8)
 |gY
 |gL
 |iq
 |iN
 |agg (cs:List V)
 |bW (vs:List V)
 |ak (c:Cap) (l:List V)
 |aS (loc:Loc) (s off len cap bE:Nat) (ag:Bool)
 |aY (cs:List V) (off:Nat)
 |ref (loc:Loc) (s off:Nat)
 |fn (f:Fn) (first cap:List V)
 |fu (loc:Loc) (s:Nat)
 |fH (ks vs:List V)
 |iface (t:TypeId) (v:V)
 |raw (v:Value)
instance:Inhabited V:=⟨.bW []⟩
def aP:V:=.bW []
def V.cells:V->List V
 |.agg cs=>cs|v=>[v]
def lN:Value->Option V
 |.bool b=>some (.bool b)|.int k n=>some (.int k n)|.string s=>some (.str s.data.toList)|.pointer none=>some .gY|.slice none 0 0=>some (.ak .nil [])|.map none=>some .iq|.nilFunc=>some .gL|.nilIface=>some .iN|_=>none
def ofValue:Value->Option V
 |.agg cs=>(cs.toList.mapM lN).map .agg|.tuple cs=>(cs.toList.mapM lN).map .bW|v=>lN v
mutual
def aQ:V->Bool
 |.int _ _|.bool _|.str _|.gY|.gL|.iq|.iN=>true|.agg cs=>cu cs|.bW vs=>cu vs|.ak .sh l=>cu l|.ak _ _=>false|.aS .. |.ref .. |.fu .. =>false|.aY cs _=>cu cs|.fn (.func _) a b=>cu a&& cu b|.fn _ _ _=>false|.fH ks vs=>cu ks&& cu vs|.iface _ v=>aQ v|.raw _=>false
def cu:List V->Bool
 | []=>true|v::l=>aQ v&& cu l
end
mutual
def flat:V->Bool
 |.int _ _|.bool _|.str _|.gY|.gL|.iq|.iN=>true|.agg cs=>lQ cs|.bW vs=>lQ vs|_=>false
def lQ:List V->Bool
 | []=>true|v::l=>flat v&& lQ l
end
def gH:V->V
 |.ak _ l=>.ak .sh l|v=>v
def er:V->V
 |.ak _ l=>.ak .sh l|.agg cs=>.agg (cs.map gH)|v=>v
inductive kH where
 |cells (cs:List V)
 |map (ks vs:List V)
inductive Ex where
 |normal
 |exit (id:Nat)
 |ret
structure Fr where
 d:Nat
 aj:Bool
 tm:Nat->V
structure EL where
 st:Nat
 pend:Option Ex
 fr:Fr
 ps:List Nat
 gF:Code
 body:Code
structure ah where
 next:Nat
 top:Nat->Nat
 obj:Loc->Option (Nat×kH)
 loops:Nat->Option EL
def ah.init:ah:=⟨0,fun _=>0,fun _=>none,fun _=>none⟩
def upd {κ U:Type}[DecidableEq κ](f:κ->U)(k:κ)(v:U):κ->U:=fun j=>if j=k then v else f j
def Fr.set (fr:Fr)(i:Nat)(v:V):Fr:={fr with tm:=upd fr.tm i v}
def Fr.put (fr:Fr)(d:Option Nat)(v:V):Fr:=match d with
 |some i=>fr.set i v|none=>fr
def ah.setObj (Y:ah)(loc:Loc)(s:Nat)(o:kH):ah:={Y with obj:=upd Y.obj loc (some (s,o))}
def ah.ko (Y:ah)(loc:Loc):ah:={Y with obj:=upd Y.obj loc none}
def ah.eB (Y:ah)(s n:Nat):ah:={Y with top:=upd Y.top s n}
def ah.nM (Y:ah)(l:Nat)(r:EL):ah:={Y with loops:=upd Y.loops l (some r)}
def ah.uX (Y:ah)(l:Nat):ah:={Y with loops:=upd Y.loops l none}
def kr:Code->Bool
 |.seq a b=>kr a&& kr b|.cond _ a b=>kr a&& kr b|.block _ c=>kr c|.loop c=>kr c|.scope c=>kr c|.rangeFunc .. =>false|_=>true
def ah.dS (Y:ah)(loc:Loc)(s:Nat):Option (List V):=
 match Y.obj loc with
 |some (s',.cells cs)=>if s'=s then some cs else none|_=>none
def ah.lg (Y:ah)(loc:Loc)(s:Nat):Option (List V×List V):=
 match Y.obj loc with
 |some (s',.map ks vs)=>if s'=s then some (ks,vs) else none|_=>none
def chunks (agg:Bool)(n:Nat):Nat->List V->List V
 |0,_=>[]|k+1,cs=>(if agg then V.agg (cs.take n) else cs.headD aP)::chunks agg n k (cs.drop n)
def oneCell:V->Bool
 |.agg _|.bW _|.raw _=>false|_=>true
def dA (l:List V):Bool:=l.all oneCell
def bA:Nat->ah->V->Option V
 |0,_,_=>none|n+1,Y,v=>if aQ v then some v else match v with
  |.ak _ l=>(l.mapM (bA n Y)).map (.ak .sh)|.agg cs=>(cs.mapM (bA n Y)).map .agg|.bW cs=>(cs.mapM (bA n Y)).map .bW|.aY cs off=>(cs.mapM (bA n Y)).map (.aY · off)|.fn (.func f) a b=>(a.mapM (bA n Y)).bind fun a=>(b.mapM (bA n Y)).map fun b=>.fn (.func f) a b
  |.ref loc s off=>(Y.dS loc s).bind fun cs=>(cs.mapM (bA n Y)).map (.aY · off)
  |.aS loc s off len _ bE ag=>(Y.dS loc s).bind fun cs=>
     if off+len*bE<=cs.length then (((cs.drop off).take (len*bE)).mapM (bA n Y)).bind fun cs=>if ag||bE==1&& dA cs then some (.ak .sh (chunks ag bE len cs)) else none else none
  |.fu loc s=>(Y.lg loc s).bind fun (ks,vs)=>(ks.mapM (bA n Y)).bind fun ks=>(vs.mapM (bA n Y)).map fun vs=>.fH ks vs
  |.fH ks vs=>(ks.mapM (bA n Y)).bind fun ks=>(vs.mapM (bA n Y)).map fun vs=>.fH ks vs
  |.iface t v=>(bA n Y v).map (.iface t)|_=>none
section ops
variable (P:Program)
def dO (t:TypeId):Option Nat:=(P.info? t).map (·.size)
def uY (t:TypeId):Option Nat:=(P.info? t).map (·.bytes)
def jX (t:TypeId):Option Bool:=(P.underlying t).map fun
 |.struct _|.array .. =>true|_=>false
def je (t:TypeId):Option V:=((P.info? t).bind (·.zero)).bind ofValue
def x9 (t:TypeId)(f:Nat):Option (Nat×TypeId):=
 match P.underlying t with
 |some (.struct fs)=>(fs[f]?).bind fun f=>match dO P f.type with
  |some (_+1)=>some (f.offset,f.type)|_=>none
 |_=>none
def lS (t:TypeId):Option TypeId:=
 match P.underlying t with
 |some (.slice e)=>some e|_=>none
def uZ (t:TypeId):Option (Nat×TypeId):=
 match P.underlying t with
 |some (.array n e)=>some (n,e)|_=>none
def ap8 (t:TypeId):Option (TypeId×TypeId):=
 match P.underlying t with
 |some (.map k e)=>some (k,e)|_=>none
def rD (agg:Bool)(n:Nat)(cs:List V)(off:Nat):Option V:=
 if agg then (if off+n<=cs.length then some (.agg ((cs.drop off).take n)) else none) else cs[off]?
def gT (t:TypeId)(cs:List V)(off:Nat):Option V:=
 (jX P t).bind fun a=>(dO P t).bind fun n=>rD a n cs off
def gM (cs:List V)(off:Nat)(vs:List V):List V:=cs.take off++vs++cs.drop (off+vs.length)
def fI:V->Bool
 |.raw _=>false|_=>true
def sH (place:Nat->Option (Nat×Nat))(cells:List V):List (Nat×V)->Option (List V)
 | []=>some cells| (i,v)::rest=>
   match place i with
   |none=>none|some (off,size)=>
    if v.cells.length=size/\off+size<=cells.length/\fI v then sH place (gM cells off v.cells) rest else none
def EM (eq:TypeId->V->V->Option Bool)(xs ys:List V):List Field->Option Bool
 | []=>some true|f::fs=>
  if f.name= "_" then EM eq xs ys fs else (gT P f.type xs f.offset).bind fun a=>(gT P f.type ys f.offset).bind fun b=>(eq f.type a b).bind fun r=>(EM eq xs ys fs).map (r&& ·)
def Hg (eq:TypeId->V->V->Option Bool)(e:TypeId)(sz:Nat)(xs ys:List V):List Nat->Option Bool
 | []=>some true|i::is=>(gT P e xs (i*sz)).bind fun a=>(gT P e ys (i*sz)).bind fun b=>(eq e a b).bind fun r=>(Hg eq e sz xs ys is).map (r&& ·)
def Ck:Nat->TypeId->V->V->Option Bool
 |0,_,_,_=>none|d+1,t,x,y=>
  match P.underlying t,x,y with
  |some .bool,.bool a,.bool b=>some (a==b)|some (.int _),.int k a,.int k' b=>if k=k' then some (a==b) else none|some .string,.str a,.str b=>some (a==b)|some (.struct fs),.agg xs,.agg ys=>if P.stoodInHeld t then none else EM P (Ck d) xs ys fs.toList|some (.array n e),.agg xs,.agg ys=>(dO P e).bind fun sz=>Hg P (Ck d) e sz xs ys (List.range n)
  |_,_,_=>none
def u6 (t:TypeId)(x y:V):Option Bool:=
 match P.underlying t,x,y with
 |some (.func ..),.gL,.gL=>some true|some (.func ..),.gL,.fn _ _ _|some (.func ..),.fn _ _ _,.gL=>some false|some (.pointer _),.gY,.gY=>some true|some (.pointer _),.gY,.ref .. |some (.pointer _),.ref ..,.gY|some (.pointer _),.gY,.aY .. |some (.pointer _),.aY ..,.gY=>some false|some (.slice _),.ak .nil _,.ak .nil _=>some true|some (.slice _),.ak .nil _,.ak _ (_::_)|some (.slice _),.ak _ (_::_),.ak .nil _=>some false
 |some (.map ..),.iq,.iq=>some true|some (.map ..),.iq,.fu .. |some (.map ..),.fu ..,.iq|some (.map ..),.iq,.fH .. |some (.map ..),.fH ..,.iq=>some false|some (.struct _),.agg a,.agg b|some (.array ..),.agg a,.agg b=>if P.eqGuardType P.depth t then none else Ck P 8 t (.agg a) (.agg b)|some .bool,.bool a,.bool b=>some (a==b)|some (.interface ms),.iN,.iN=>if ms.isEmpty then some true else none|some (.interface _),.iN,.iface _ _|some (.interface _),.iface _ _,.iN=>some false
 |_,_,_=>none
def nG (op:BinOp)(k:IntKind)(x y:Int):Option V:=
 match op with
 |.add=>some (.int k (k.wrap (x+y)))|.sub=>some (.int k (k.wrap (x-y)))|.mul=>some (.int k (k.wrap (x*y)))|.quo=>if y=0 then none else some (.int k (k.wrap (x.tdiv y)))|.rem=>if y=0 then none else some (.int k (x.tmod y))|.and=>some (.int k (k.wrap (BitVec.ofInt k.bits x&&& BitVec.ofInt k.bits y).toNat))|.or=>some (.int k (k.wrap (BitVec.ofInt k.bits x|||BitVec.ofInt k.bits y).toNat))|.xor=>some (.int k (k.wrap (BitVec.ofInt k.bits x^^^BitVec.ofInt k.bits y).toNat))
 |.andNot=>some (.int k (k.wrap (BitVec.ofInt k.bits x&&& ~~~BitVec.ofInt k.bits y).toNat))|.eql=>some (.bool (x==y))|.neq=>some (.bool (x !=y))|.lss=>some (.bool (x<y))|.leq=>some (.bool (x<=y))|.gtr=>some (.bool (x>y))|.geq=>some (.bool (x>=y))|_=>none
def LY (op:BinOp)(k:IntKind)(x y:Int):Option V:=
 if y<0 then none else match op with
 |.shl=>some (.int k (k.wrap (x*2^min y.toNat k.bits)))|.shr=>some (.int k (x.fdiv (2^min y.toNat k.bits)))|_=>none
def Cm (op:BinOp)(x y:List UInt8):Option V:=
 match op with
 |.add=>if ((x.length+y.length:Nat):Int)>IntKind.i64.max then none else some (.str (x++y))|.eql=>some (.bool (x==y))|.neq=>some (.bool !(x==y))|.lss=>some (.bool (Op.bytesLess x y))|.leq=>some (.bool (Op.bytesLess x y||x==y))|.gtr=>some (.bool !(Op.bytesLess x y||x==y))|.geq=>some (.bool !(Op.bytesLess x y))|_=>none
def sI (op:BinOp)(t:TypeId)(x y:V):Option V:=
 match op,x,y with
 |.shl,.int k a,.int _ b|.shr,.int k a,.int _ b=>LY op k a b|_,.int k a,.int k' b=>if k=k' then nG op k a b else none|_,.str a,.str b=>Cm op a b|.eql,x,y=>(u6 P t x y).map .bool|.neq,x,y=>(u6 P t x y).map fun b=>.bool !b
 |_,_,_=>none
def EN (op:UnOp)(x:V):Option V:=
 match op,x with
 |.neg,.int k n=>some (.int k (k.wrap (0-n)))|.xor,.int k n=>nG .xor k (if k.signed then-1 else k.max) n|.not,.bool b=>some (.bool !b)|_,_=>none
def wN (b:UInt8):V:=.int .u8 b.toNat
def EO:V->Option UInt8
 |.int .u8 n=>some (UInt8.ofNat n.toNat)|_=>none
def AJ (Y:ah)(src dst:TypeId)(x:V):Option V:=
 match P.underlying src,P.underlying dst,x with
 |some _,some (.int k),.int _ n=>some (.int k (k.wrap n))|some _,some .string,.str s=>some (.str s)|some (.slice e),some .string,.ak _ l=>
  match P.underlying e with
  |some (.int .u8)=>(l.mapM EO).map .str|_=>none
 |some (.slice e),some .string,.aS loc s off len _ _ _=>
  match P.underlying e with
  |some (.int .u8)=>(Y.dS loc s).bind fun cs=>if off+len<=cs.length then (((cs.drop off).take len).mapM EO).map .str else none
  |_=>none
 |_,_,_=>none
def pQ:V->Option Int
 |.int _ n=>some n|_=>none
def bnd (x:V)(y:Nat):Option Nat:=(pQ x).bind fun i=>if 0<=i/\i<=y then some i.toNat else none
def jH (len cap:Nat)(lo hi mx:Option V):Option (Nat×Nat×Nat):=
 (match mx with|some v=>bnd v cap|none=>some cap).bind fun m=>(match hi,mx with
   |some v,some _=>bnd v m|some v,none=>bnd v m|none,none=>some len|none,some _=>none).bind fun h=>(match lo with|some v=>bnd v h|none=>some 0).bind fun l=>some (l,h,m)
def oF (sz:Nat):List V->Bool
 | []=>true|v::_=>v.cells.length==sz
def lC (Y:ah)(t:TypeId)(x:V)(lo hi mx:Option V):Option V:=
 match P.underlying t,x with
 |some .string,.str s=>
  match mx with
  |some _=>none|none=>(jH s.length s.length lo hi none).map fun (l,h,_)=>.str ((s.take h).drop l)
 |some (.slice e),.ak c s=>
  (dO P e).bind fun sz=>(jH s.length s.length lo hi mx).bind fun (l,h,m)=>if oF sz s then some<|
    if l=0/\h=s.length/\mx.isNone then .ak c s else .ak (match mx with|some _=>if m=h then .full else .sh|none=>match c with|.full=>if h=s.length then .full else .sh|_=>.sh) ((s.take h).drop l)else none
 |some (.slice e),.aS loc st off len cap bE ag=>
  (dO P e).bind fun sz=>(jH len cap lo hi mx).bind fun (l,h,m)=>if sz=bE then some<|
    if l=h/\0<l then .ak (match mx with|some _=>if m=h then .full else .sh|none=>.sh) [] else .aS loc st (off+l*bE) (h-l) (m-l) bE ag else none
 |some (.array n e),.ref loc st off=>
  (dO P e).bind fun sz=>(jX P e).bind fun ag=>(jH n n lo hi mx).bind fun (l,h,m)=>(Y.dS loc st).bind fun cs=>if off+n*sz<=cs.length then some<|
    if l=h/\0<l then .ak (match mx with|some _=>if m=h then .full else .sh|none=>.sh) [] else .aS loc st (off+l*sz) (h-l) (m-l) sz ag else none
 |some (.array n e),.aY cs off=>
  (dO P e).bind fun sz=>(jX P e).bind fun ag=>(jH n n lo hi mx).bind fun (l,h,_)=>
    if off+n*sz<=cs.length/\(ag=false->sz=1/\dA cs=true) then some (.ak .sh (chunks ag sz (h-l) (cs.drop (off+l*sz)))) else none
 |_,_=>none
def idx (i:V)(n:Nat):Option Nat:=(pQ i).bind fun i=>if 0<=i/\i<n then some i.toNat else none
def qh (t:TypeId)(x i:V):Option V:=
 match P.underlying t,x with
 |some (.slice e),.ak _ l=>(dO P e).bind fun sz=>(idx i l.length).bind fun k=>(l[k]?).bind fun e=>if e.cells.length=sz then some (.aY e.cells 0) else none
 |some (.slice e),.aS loc st off len _ bE _=>(dO P e).bind fun sz=>(idx i len).bind fun k=>if sz=bE then some (.ref loc st (off+k*bE)) else none
 |some (.array n e),.ref loc st off=>(dO P e).bind fun sz=>(idx i n).map fun k=>.ref loc st (off+k*sz)
 |some (.array n e),.aY cs off=>(dO P e).bind fun sz=>(idx i n).map fun k=>.aY cs (off+k*sz)
 |_,_=>none
def EP (t:TypeId)(x i:V):Option V:=
 match P.underlying t,x with
 |some (.array n e),.agg cs=>(idx i n).bind fun k=>(dO P e).bind fun sz=>gT P e cs (k*sz)
 |some .string,.str s=>(idx i s.length).bind fun k=>(s[k]?).map wN
 |_,_=>none
def ER (Y:ah)(t:TypeId)(m k:V)(ok:Bool):Option V:=
 (fun (_:Program) (_:ah) (_:TypeId) (_ _:V) (_:Bool)=>none) P Y t m k ok
def AL (Y:ah)(t:TypeId)(m k v:V):Option ah:=
 (fun (_:Program) (_:ah) (_:TypeId) (_ _ _:V)=>none) P Y t m k v
def cB (n b:Nat):Bool:=n*b<=2^47&& n<=2^47
def nN (Y:ah)(ag:Bool)(sz:Nat)(z:V):V->Option (List V)
 |.int _ n=>if 0<=n/\n<=2^47 then some (List.replicate n.toNat z) else none|.ak _ l=>if oF sz l then some l else none|.str s=>if sz=1 then some (s.map wN) else none|.aS loc s off len _ bE _=>if bE≠sz then none else (Y.dS loc s).bind fun cs=>
  if off+len*sz<=cs.length/\(dA cs=true\/ag=true) then some ((chunks ag sz len (cs.drop off)).map er) else none
 |_=>none
def zu:V->Bool
 |.int _ _=>true|_=>false
def kI (aj zeros:Bool)(Y:ah)(st:Nat)(loc:Option Loc)(t:TypeId)(x y:V):Option (V×ah):=
 (lS P t).bind fun e=>(dO P e).bind fun sz=>(uY P e).bind fun gI=>(jX P e).bind fun ag=>(je P e).bind fun z=>
 if zeros=zu y/\z.cells.length=sz/\0<sz/\(ag||sz==1)=true then (nN Y ag sz z y).bind fun ys=>
 if ys.all (fun v=>dA v.cells)=true then match x with
 |.ak c l=>
  if cB (l.length+ys.length) gI=true/\oF sz l=true then match aj,c with
   |true,.nil=>loc.map fun loc=>(.aS loc st 0 (l.length+ys.length) (l.length+ys.length) sz ag,Y.setObj loc st (.cells ((l++ys).flatMap V.cells)))
   |true,.full=>if ys.isEmpty then some (.ak .full l,Y) else loc.map fun loc=>(.aS loc st 0 (l.length+ys.length) (l.length+ys.length) sz ag,Y.setObj loc st (.cells ((l++ys).flatMap V.cells)))
   |false,.own n s=>if n=sz/\Y.top s=l.length then some (.ak (.own n s) (l++ys),Y.eB s (l.length+ys.length)) else none|false,.nil|false,.full=>some (.ak (.own sz st) (l++ys),Y.eB st (l.length+ys.length))|_,_=>none else none
 |.aS kJ s off len cap bE _=>
  if cB (len+ys.length) gI=true/\aj=true/\off=0/\bE=sz then loc.bind fun loc=>(Y.dS kJ s).bind fun cs=>
    if len+ys.length<=cap then if (len+ys.length)*sz<=cs.length then some (.aS kJ s 0 (len+ys.length) cap sz ag,Y.setObj kJ s (.cells (gM cs (len*sz) (ys.flatMap V.cells))))else none else if len*sz<=cs.length then some (.aS loc st 0 (len+ys.length) (len+ys.length) sz ag,(Y.ko kJ).setObj loc st (.cells (cs.take (len*sz)++ys.flatMap V.cells)))else none else none
 |_=>none else none else none
def copyV (Y:ah)(t:TypeId)(x y:V):Option (V×ah):=
 (lS P t).bind fun e=>(dO P e).bind fun sz=>(jX P e).bind fun ag=>
 if zu y=false/\(ag||sz==1)=true then (nN Y ag sz aP y).bind fun ys=>
  if ys.all (fun v=>dA v.cells)=true then match x with
  |.aS loc s off len _ bE _=>
   (Y.dS loc s).bind fun cs=>
     if bE=sz/\off+min ys.length len*sz<=cs.length then some (.int .i64 (min ys.length len:Nat),Y.setObj loc s (.cells (gM cs off ((ys.take (min ys.length len)).flatMap V.cells))))else none
  |.ak _ []=>some (.int .i64 (0:Nat),Y)|_=>none else none else none
def Wh (t:TypeId)(ok:Bool)(x:V):Option V:=
 match P.underlying t with
 |none|some (.interface _)=>none|some _=>match x with
  |.iface u v=>if u=t then some (if ok then .bW [v,.bool true] else v) else if ok then (je P t).map fun z=>.bW [z,.bool false] else none
  |.iN=>if ok then (je P t).map fun z=>.bW [z,.bool false] else none
  |_=>none
def Hl (Y:ah)(t:TypeId)(x:V):Option (V×ah):=
 (fun (_:Program) (_:ah) (_:TypeId) (_:V)=>none) P Y t x
def yc (mx:Bool):V->List V->Option V
 |x,[]=>some x|.int k a,.int k' b::l=>if k=k' then yc mx (.int k (if mx then (if b>a then b else a) else (if b<a then b else a))) l else none|_,_=>none
def AO (aj:Bool)(Y:ah)(st:Nat)(loc:Option Loc)(t:TypeId)(l c:V):Option (V×ah):=
 (fun (_:Program) (_:Bool) (_:ah) (_:Nat) (_:Option Loc) (_:TypeId) (_ _:V)=>none) P aj Y st loc t l c
end ops
end aR
end
section
namespace aR
open Go
structure Env where
 P:Program
 glob:Nat->Option (List V)
 imp:FuncId->Bool
 aj:FuncId->Bool
 mO:FuncId->Option (List V->Option V)
 own:FuncId->Nat->Bool:=fun _ _=>false
 zw:FuncId->Bool:=fun _=>false
 ag1:TypeId->Bool:=fun _=>false
 ap9:Nat->Bool:=fun _=>false
 cn:Nat->Nat:=fun d=>d
 aqa:Nat->Bool:=fun _=>false
 aqb:Nat->Bool:=fun _=>true
section
variable (E:Env)
def Fr.ev (fr:Fr):Operand->V
 |.tmp t=>fr.tm t|.const v=>(ofValue v).getD (.raw v)|.global g=>match E.glob g with|some cs=>.aY cs 0|none=>.raw (.pointer (some ⟨g,0,none⟩))
 |.func f=>.fn (.func f) [] []
def kZ (fr:Fr):Option Operand->Option V
 |none=>none|some x=>some (fr.ev E x)
def yg:V->Option Bool
 |.bool b=>some b|_=>none
def Ho (t:TypeId):Option (Nat->Option (Nat×Nat)):=
 match E.P.underlying t with
 |some (.struct fs)=>if fs.toList.all (fun f=>(dO E.P f.type).isSome) then some fun i=>(fs[i]?).bind fun f=>(dO E.P f.type).map fun n=>(f.offset,n)else none
 |some (.array _ e)=>(dO E.P e).map fun n=>fun i=>some (i*n,n)
 |_=>none
def Cn (t:TypeId)(len:Nat)(parts:List (Nat×V)):Option V:=
 (lS E.P t).bind fun e=>(dO E.P e).bind fun sz=>(jX E.P e).bind fun ag=>(je E.P e).bind fun z=>
 if len*sz<=2^24/\z.cells.length=sz/\0<sz/\(ag||sz==1)=true then (sH (fun i=>if i<len then some (i*sz,sz) else none) (List.replicate len z.cells).flatten parts).bind fun cs=>
    if dA cs then some (.ak .full ((chunks ag sz len cs).map er)) else none else none
def tN (t:TypeId)(d:Option Nat):Bool:=E.ag1 t&& (match d with
 |some d=>E.aqb (1000*t+d)|none=>true)
def zx (d:Option Nat):Bool:=match d with
 |some d=>E.aqa d|none=>false
def Co (Y:ah)(st:Nat)(loc:Option Loc)(t:TypeId)(len:Nat)(parts:List (Nat×V)):Option (V×ah):=
 (lS E.P t).bind fun e=>(dO E.P e).bind fun sz=>(jX E.P e).bind fun ag=>(je E.P e).bind fun z=>
 if len*sz<=2^24/\z.cells.length=sz/\0<sz then (sH (fun i=>if i<len then some (i*sz,sz) else none) (List.replicate len z.cells).flatten parts).bind fun cs=>
    loc.map fun loc=>(.aS loc st 0 len len sz ag,Y.setObj loc st (.cells cs))else none
def yh (d:Option Nat):Bool:=match d with
 |some d=>E.ap9 d|none=>false
def yj (Y:ah)(x:V):Option (V×ah):=match x with
 |.aS loc s off len _ bE ag=>(Y.dS loc s).bind fun cs=>
  if off+len*bE<=cs.length/\(ag||bE==1&& dA (((cs.drop off).take (len*bE)).map gH))=true then some (.ak .sh (chunks ag bE len (((cs.drop off).take (len*bE)).map gH)),Y.ko loc) else none
 |.ak _ l=>some (.ak .sh l,Y)|v=>some (v,Y)
def dM (fr:Fr)(Y:ah)(st:Nat)(o:Oper):Option (V×ah):=
 let loc:Option Loc:=o.dst.map fun t=>(fr.d,t)
 match o.op with
 |.move x=>if yh E o.dst=true then yj Y (fr.ev E x) else some (fr.ev E x,Y)|.assign x=>some (fr.ev E x,Y)|.pick c a b=>(yg (fr.ev E c)).map fun t=>(if t then fr.ev E a else fr.ev E b,Y)
 |.alloc t=>loc.bind fun loc=>(je E.P t).bind fun z=>if dA z.cells then some (.ref loc st 0,Y.setObj loc st (.cells z.cells)) else none
 |.box t x=>if tN E t o.dst=true then (if aQ (er (fr.ev E x))=true/\fI (fr.ev E x) then some (.aY (er (fr.ev E x)).cells 0,Y) else none) else loc.bind fun loc=>if dA (fr.ev E x).cells/\fI (fr.ev E x) then some (.ref loc st 0,Y.setObj loc st (.cells (fr.ev E x).cells)) else none
 |.build t parts=>(Ho E t).bind fun pl=>(je E.P t).bind fun z=>(sH pl z.cells (parts.toList.map fun (i,x)=>(i,fr.ev E x))).map fun cs=>(.agg cs,Y)
 |.buildSlice t len parts=>if zx E o.dst=true then Co E Y st (o.dst.map fun t=>(fr.d,E.cn t)) t len (parts.toList.map fun (i,x)=>(i,fr.ev E x)) else (Cn E t len (parts.toList.map fun (i,x)=>(i,fr.ev E x))).map fun v=>(v,Y)
 |.load t a=>match fr.ev E a with
  |.ref loc s off=>(Y.dS loc s).bind fun cs=>(gT E.P t cs off).map fun v=>(v,Y)
  |.aY cs off=>(gT E.P t cs off).map fun v=>(v,Y)
  |_=>none
 |.store t a x=>match fr.ev E a with
  |.ref loc s off=>(Y.dS loc s).bind fun cs=>
   if some (fr.ev E x).cells.length=dO E.P t/\off+(fr.ev E x).cells.length<=cs.length/\dA (fr.ev E x).cells then some (aP,Y.setObj loc s (.cells (gM cs off (fr.ev E x).cells))) else none
  |_=>none
 |.nilCheck x=>match fr.ev E x with
  |.ref loc s off=>some (.ref loc s off,Y)|.aY cs off=>some (.aY cs off,Y)|.fn (.func f) a b=>some (.fn (.func f) a b,Y)|_=>none
 |.binOp op t x y _=>(sI E.P op t (fr.ev E x) (fr.ev E y)).map fun v=>(v,Y)
 |.unOp op _ x=>(EN op (fr.ev E x)).map fun v=>(v,Y)
 |.convert a b x=>(AJ E.P Y a b (fr.ev E x)).map fun v=>(v,Y)
 |.sliceToArrayPointer t x=>(uZ E.P t).bind fun (n,_)=>match fr.ev E x with
  |.aS loc s off len _ _ _=>if 0<n/\n<=len then some (.ref loc s off,Y) else none|.ak _ l=>if 0<n/\n<=l.length/\dA l=true then some (.aY (l.take n) 0,Y) else none|_=>none
 |.makeInterface t x=>match E.P.underlying t with
  |some (.interface _)=>none|some _=>some (.iface t (fr.ev E x),Y)|none=>none
 |.makeFunc (.func f) a b=>some (.fn (.func f) (a.toList.map (fr.ev E)) (b.toList.map (fr.ev E)),Y)|.makeMap _ none=>loc.map fun loc=>(.fu loc st,Y.setObj loc st (.map [] []))
 |.makeSlice t l c=>AO E.P fr.aj Y st loc t (fr.ev E l) (fr.ev E c)|.slice t x lo hi mx=>(lC E.P Y t (fr.ev E x) (kZ E fr lo) (kZ E fr hi) (kZ E fr mx)).map fun v=>(v,Y)
 |.fieldAddr t x f=>(x9 E.P t f).bind fun (o,_)=>match fr.ev E x with
  |.ref loc s off=>some (.ref loc s (off+o),Y)|.aY cs off=>some (.aY cs (off+o),Y)|_=>none
 |.field t x f=>(x9 E.P t f).bind fun (o,u)=>match fr.ev E x with
  |.agg cs=>(gT E.P u cs o).map fun v=>(v,Y)
  |_=>none
 |.indexAddr t x i=>(qh E.P t (fr.ev E x) (fr.ev E i)).map fun v=>(v,Y)
 |.index t x i=>(EP E.P t (fr.ev E x) (fr.ev E i)).map fun v=>(v,Y)
 |.lookup t x i ok=>(ER E.P Y t (fr.ev E x) (fr.ev E i) ok).map fun v=>(v,Y)
 |.mapUpdate t m k v|.insert t m k v=>(AL E.P Y t (fr.ev E m) (fr.ev E k) (fr.ev E v)).map fun Y=>(aP,Y)
 |.extract x i=>match fr.ev E x with
  |.bW vs=>(vs[i]?).map fun v=>(v,Y)
  |_=>none
 |.typeAssert x _ t ok=>(Wh E.P t ok (fr.ev E x)).map fun v=>(v,Y)
 |_=>none
def u7 (Y:ah)(t:TypeId)(x:V):Option Nat:=
 match E.P.underlying t,x with
 |some (.array n _),_=>some n|some (.map _ _),.fu loc s=>(Y.lg loc s).map fun (ks,_)=>ks.length
 |some (.map _ _),.fH ks _=>some ks.length|some (.map _ _),.iq=>some 0|some (.pointer a),_=>(uZ E.P a).map fun (n,_)=>n
 |some (.slice _),.ak _ l=>some l.length|some (.slice _),.aS _ _ _ len _ _ _=>some len|some .string,.str s=>some s.length|_,_=>none
def qI (aj:Bool)(loc:Option Loc)(Y:ah)(st:Nat)(b:Builtin)(tys:Array TypeId)(args:List V):Option (V×ah):=
 match b,args with
 |.len,[x]=>(tys[0]?).bind fun t=>(u7 E Y t x).map fun n=>(.int .i64 (n:Nat),Y)
 |.cap,[x]=>(tys[0]?).bind fun t=>(lS E.P t).bind fun _=>match x with
  |.ak .nil l|.ak .full l=>some (.int .i64 l.length,Y)|_=>none
 |.append,[x,y]=>(tys[0]?).bind fun t=>((tys[1]?).bind E.P.underlying).bind fun u=>match u with
  |.int _=>kI E.P aj true Y st loc t x y|.slice _|.string=>kI E.P aj false Y st loc t x y|_=>none
 |.copy,[x,y]=>(tys[0]?).bind fun t=>copyV E.P Y t x y
 |.clear,[x]=>(tys[0]?).bind fun t=>Hl E.P Y t x
 |.min,x::l=>(yc false x l).map fun v=>(v,Y)
 |.max,x::l=>(yc true x l).map fun v=>(v,Y)
 |_,_=>none
structure iV where
 code:Code->Fr->ah->Option (Ex×Fr×ah)
 call:FuncId->List V->Nat->ah->Option (V×ah)
variable (S:iV)
def mP (f:FuncId)(args:List V):Option V:=
 match E.mO f with
 |some g=>g args|none=>(S.call f args 1 ah.init).bind fun (v,Y)=>bA 20 Y v
def yt (l:Nat)(args:List V)(Y:ah):Option (V×ah):=
 (Y.loops l).bind fun r=>
 if r.st=0/\r.ps.length=args.length then (S.code r.gF {r.fr with tm:=(r.ps.zip args).foldl (fun tm (p,a)=>upd tm p a) r.fr.tm} Y).bind fun (e,fr,aB)=>
  match e with
  |.normal=>(aB.loops l).bind fun r1=>
   if r1.st=0 then (S.code r.body fr (aB.nM l {r1 with st:=1})).bind fun (e,_,dn)=>(dn.loops l).bind fun r2=>
    if r2.st=1 then match e with
     |.normal=>some (.bool true,dn.nM l {r2 with st:=0,pend:=none})
     |e=>some (.bool false,dn.nM l {r2 with st:=2,pend:=some e})else none else none
  |_=>none else none
def jO (d:Nat)(Y:ah)(fv:V)(args:List V):Option (V×ah):=
 match fv with
 |.fn (.func f) first cap=>
  if E.imp f then S.call f (first++args++cap) (d+1) Y else ((first++args++cap).mapM (bA 20 Y)).bind fun dP=>(mP E S f dP).bind fun v=>
   if (first++args++cap).all (fun a=>aQ (er a))||flat v then some (v,Y) else none
 |.fn (.yield l) [] []=>yt S l args Y|_=>none
def lT (fr:Fr)(o:Oper)(f:Operand):Bool:=match fr.ev E f,o.dst with
 |.fn (.func g) _ _,some d=>E.own g d|_,_=>false
def rE (Y:ah)(st:Nat)(aB:ah):V->Option (V×ah)
 |.ak c l=>if cu l=true then (match c with
  |.nil=>some (.ak .nil l,Y)|.full=>some (.ak .full l,Y)|.own n s=>if aB.top s=l.length then some (.ak (.own n st) l,Y.eB st l.length) else none|.sh=>none) else none
 |.aS loc s off len _ bE _=>if off=0/\len=0 then (aB.dS loc s).bind fun _=>some (.ak (.own bE st) [],Y.eB st 0) else none
 |_=>none
def vg (b:Bool)(Y:ah)(l:List V):Option (List V):=if b=true then (match l with
 |.ak .nil []::l=>(l.mapM (bA 20 Y)).map (.ak .nil []:: ·)|_=>none) else l.mapM (bA 20 Y)
def qJ (Y:ah)(st:Nat)(fv:V)(args:List V):Option (V×ah):=
 match fv with
 |.fn (.func f) first cap=>if (first++args++cap).all (fun a=>aQ (er a))=true then (vg (E.zw f) Y (first++args++cap)).bind fun dP=>(S.call f dP 1 ah.init).bind fun (v0,aB)=>rE Y st aB v0 else none
 |_=>none
def opC (fr:Fr)(Y:ah)(st:Nat)(o:Oper):Option (V×Fr×ah):=
 match o.op with
 |.call c=>
  match c.callee with
  |.builtin b=>(qI E fr.aj (o.dst.map fun t=>(fr.d,E.cn t)) Y st b c.argTypes (c.args.toList.map (fr.ev E))).map fun (v,Y)=>(v,fr,Y)
  |.value f=>if lT E fr o f=true then (qJ E S Y st (fr.ev E f) (c.args.toList.map (fr.ev E))).map fun (v,Y)=>(v,fr,Y) else (jO E S fr.d Y (fr.ev E f) (c.args.toList.map (fr.ev E))).map fun (v,Y)=>(v,fr,Y)
  |.invoke .. =>none
 |.defer _=>none|_=>(dM E fr Y st o).map fun (v,Y)=>(v,fr,Y)
def fM (ops:List Oper)(fr:Fr)(o:Oper):Option Bool:=
 match o.guard with
 |none=>some true|some (j,want)=>match (ops[j]?).bind (·.dst) with
  |some t=>match fr.tm t with
   |.bool b=>some (b==want)|.raw _=>none|_=>some false
  |none=>some false
def opsE (all:List Oper):Nat->List Oper->Fr->ah->Option (Fr×ah)
 |_,[],fr,Y=>some (fr,Y)|st,o::os,fr,Y=>
  (fM all fr o).bind fun t=>if t then (opC E S fr Y st o).bind fun (v,fr,Y)=>opsE all (st+1) os (fr.put o.dst v) Y else opsE all (st+1) os (fr.put o.dst aP) Y
inductive Key where
 |slot (t:Nat)
 |obj (l:Loc)
 |top
 |rest
 |nx
def rF (a b:Loc):Bool:=a.2==b.2&& a.1==b.1
def Key.eq:Key->Key->Bool
 |.slot a,.slot b=>a==b|.obj a,.obj b=>rF a b|.top,.top=>true|.rest,.rest=>true|.nx,.nx=>true|_,_=>false
def Key.state:Key->Bool
 |.obj _|.top|.nx=>true|_=>false
structure dR where
 qj:Bool
 mh:Bool
 t:List Key
 w:List Key
def jm:V->List Key
 |.ref loc _ _|.aS loc _ _ _ _ _ _|.fu loc _=>[.obj loc]|_=>[]
def wG (fr:Fr)(o:Oper):List Key:=match o.dst with
 |some t=>[.obj (fr.d,t)]|none=>[]
def nu (t:List Key):dR:=⟨false,false,t,[]⟩
def ny (w:List Key):dR:=⟨false,false,[],w⟩
def gJ:dR:=⟨true,true,[],[]⟩
def gB (fr:Fr)(o:Oper):dR:=
 match o.op with
 |.buildSlice .. =>if zx E o.dst=true then gJ else nu []
 |.assign _|.pick .. |.build .. |.nilCheck _|.binOp .. |.unOp .. |.makeInterface .. |.typeAssert .. |.makeFunc .. |.fieldAddr .. |.field .. |.indexAddr .. |.index .. |.extract ..
 |.sliceToArrayPointer .. =>nu []|.move x=>if yh E o.dst=true then ny (jm (fr.ev E x)) else nu []|.convert _ _ x|.slice _ x _ _ _|.load _ x|.lookup _ x _ _=>nu (jm (fr.ev E x))|.alloc _|.box .. |.makeMap .. =>ny (wG fr o)|.makeSlice .. =>ny (.top::wG fr o)|.store _ a _=>ny (jm (fr.ev E a))|.mapUpdate _ m _ _|.insert _ m _ _=>ny (jm (fr.ev E m))|.call c=>match c.callee with
  |.builtin b=>match b with
   |.len|.cap|.min|.max=>nu (c.args.toList.flatMap fun x=>jm (fr.ev E x))
   |.append=>if fr.aj then gJ else ⟨false,false,c.args.toList.flatMap fun x=>jm (fr.ev E x),[.top]⟩
   |_=>gJ
  |.value f=>if lT E fr o f=true then ny [.top] else match fr.ev E f with
   |.fn (.func g) a b=>if E.imp g then gJ else if (a++c.args.toList.map (fr.ev E)++b).all (fun v=>aQ (er v)) then nu [] else ⟨true,false,[],[]⟩
   |_=>gJ
  |_=>gJ
 |_=>gJ
def r9 (ops:List Oper)(o:Oper):List Key:=
 (o.op.operands.toList.filterMap fun|.tmp t=>some (.slot t)|_=>none)++
 match o.guard with
 |some (j,_)=>match (ops[j]?).bind (·.dst) with
  |some t=>[.slot t]|none=>[]
 |none=>[]
def nV (o:Oper):List Key:=match o.dst with
 |some t=>[.slot t]|none=>[]
def d9 (ops:List Oper)(fr:Fr)(o:Oper)(wanted:Bool):dR:=
 if wanted then let f:=gB E fr o;⟨f.qj,f.mh,r9 ops o++f.t,nV o++f.w⟩else ⟨false,false,r9 ops o,nV o⟩
def clash (f g:dR):Bool:=
 (f.mh&& (g.qj||g.mh||g.t.any Key.state||g.w.any Key.state))||f.w.any fun k=>k.eq .rest||g.t.any (·.eq k)||g.w.any (·.eq k)||(g.qj||g.mh)&& k.state
def Wi (f g:dR):Bool:= !clash f g&& !clash g f
def nZ (ops:List Oper):List Nat:=
 ops.foldl (fun acc o=>acc++[o.after.toList.foldl (fun s e=>if Region.binds .any e then s|||2^e.on|||acc.getD e.on 0 else s) 0]) []
def AP (ms:List Nat)(fs:List dR):Bool:=
 (List.range fs.length).all fun i=>(List.range i).all fun j=>(ms.getD i 0).testBit j||Wi (fs.getD i gJ) (fs.getD j gJ)
def ql (ops:List Oper):Bool:=
 (List.range ops.length).all fun i=>match ops[i]? with
   |some o=>o.after.toList.all fun e=>!Region.binds .any e||decide (e.on<i)
   |none=>true
def mQ (all:List Oper):Nat->List Oper->Fr->ah->Option (List dR×Fr×ah)
 |_,[],fr,Y=>some ([],fr,Y)|st,o::os,fr,Y=>
  (fM all fr o).bind fun t=>if t then (opC E S fr Y st o).bind fun (v,bK,Y)=>(mQ all (st+1) os (bK.put o.dst v) Y).map fun (fs,r)=>(d9 E all fr o true::fs,r)else (mQ all (st+1) os (fr.put o.dst aP) Y).map fun (fs,r)=>(d9 E all fr o false::fs,r)
def eD (k:Key)(x y:Fr×ah):Prop:=
 match k with
 |.slot t=>x.1.tm t=y.1.tm t|.obj l=>x.2.obj l=y.2.obj l|.top=>x.2.top=y.2.top|.rest=>x.1.d=y.1.d/\x.1.aj=y.1.aj|.nx=>x.2.next=y.2.next/\x.2.loops=y.2.loops
def jr (ops:List Oper)(base i:Nat)(fr:Fr)(Y:ah):Option (Fr×ah):=
 match ops[i]? with
 |none=>some (fr,Y)|some o=>
  (fM ops fr o).bind fun t=>if t then (opC E S fr Y (base+i) o).map fun (v,fr,Y)=>(fr.put o.dst v,Y)else some (fr.put o.dst aP,Y)
def Free (ms:List Nat)(ops:List Oper)(base:Nat)(x y:Fr×ah):Prop:=
 ∃(s:Nat->Fr×ah) (T W:Nat->Key->Prop),s 0=x/\s ops.length=y/\(∀i k,W i k->T i k)/\
  (∀i,i<ops.length->∀x,(∀k,T i k->eD k (s i) x)->∃y,jr E S ops base i x.1 x.2=some y/\(∀k,W i k->eD k (s (i+1)) y)/\∀k,¬W i k->eD k x y)/\
  (∀i,i<ops.length->∀k,¬W i k->eD k (s i) (s (i+1)))/\
  ∀i j,i<ops.length->j<i->(ms.getD i 0).testBit j=true\/((∀k,¬(W i k/\T j k))/\∀k,¬(W j k/\T i k))
noncomputable def LZ {U:Type}(p:Prop)(x:Option U):Option U:= @ite _ p (Classical.propDecidable p) x none
def Wj:V->Bool
 |.fn (.func _) _ _=>true|_=>false
noncomputable def eu:Code->Fr->ah->Option (Ex×Fr×ah)
 |.skip,fr,Y=>some (.normal,fr,Y)|.region _ ops dr,fr,Y=>
  if dr then (mQ E S ops.toList Y.next ops.toList fr {Y with next:=Y.next+ops.toList.length}).bind fun (fs,fr',Y')=>if ql ops.toList&& AP (nZ ops.toList) fs then some (.normal,fr',Y') else LZ (ql ops.toList=true/\Free E S (nZ ops.toList) ops.toList Y.next (fr,{Y with next:=Y.next+ops.toList.length}) (fr',Y')) (some (.normal,fr',Y'))else (opsE E S ops.toList Y.next ops.toList fr {Y with next:=Y.next+ops.toList.length}).map fun (fr,Y)=>(.normal,fr,Y)
 |.seq a b,fr,Y=>(eu a fr Y).bind fun (e,fr,Y)=>match e with
  |.normal=>eu b fr Y|e=>some (e,fr,Y)
 |.cond c a b,fr,Y=>(yg (fr.ev E c)).bind fun t=>if t then eu a fr Y else eu b fr Y
 |.block id c,fr,Y=>(eu c fr Y).map fun (e,fr,Y)=>match e with
  |.exit i=>if i=id then (.normal,fr,Y) else (.exit i,fr,Y)|e=>(e,fr,Y)
 |.loop c,fr,Y=>(eu c fr Y).bind fun (e,fr,Y)=>match e with
  |.normal=>S.code (.loop c) fr Y|e=>some (e,fr,Y)
 |.scope c,fr,Y=>eu c fr Y|.label _,fr,Y=>some (.normal,fr,Y)|.exit id,fr,Y=>some (.exit id,fr,Y)|.ret,fr,Y=>some (.ret,fr,Y)|.rangeFunc f ps gF body,fr,Y=>
  if Wj (fr.ev E f) then (jO E S fr.d ({Y with next:=Y.next+1}.nM Y.next {st:=0,pend:=none,fr:=fr,ps:=ps.toList,gF:=gF,body:=body}) (fr.ev E f) [.fn (.yield Y.next) [] []]).bind fun (_,dn)=>(dn.loops Y.next).bind fun r=>
  if r.st=1 then none else some ((match r.pend with|none=>.normal|some e=>e),fr,dn.uX Y.next)else none
 |_,_,_=>none
def jF (fr:Fr)(Y:ah):ResultVar->Option V
 |.tmp t=>some (fr.tm t)|.cell a t=>match fr.tm a with
  |.ref loc s off=>(Y.dS loc s).bind fun cs=>gT E.P t cs off
  |_=>none
def Hq (n:Nat)(ops:List Oper):Bool:=ops.all fun o=>match o.dst with
 |some d=>d<n|none=>true
def iI (n:Nat):Code->Bool
 |.region _ ops _=>Hq n ops.toList|.seq a b=>iI n a&& iI n b|.cond _ a b=>iI n a&& iI n b|.block _ c=>iI n c|.loop c=>iI n c|.scope c=>iI n c|.rangeFunc _ ps a b=>ps.toList.all (· <n)&& iI n a&& iI n b&& kr a&& kr b|_=>true
noncomputable def qK (f:FuncId)(args:List V)(d:Nat)(Y:ah):Option (V×ah):=
 (E.P.funcs[f]?).bind fun fn=>fn.body.bind fun c=>
 if args.length<=fn.ntmps/\iI fn.ntmps c then (S.code c {d:=d,aj:=E.aj f,tm:=fun i=>args.getD i aP} Y).bind fun (e,fr,Y)=>
 match e with
 |.normal|.ret=>
  (fn.results.toList.mapM (jF E fr Y)).map fun vs=>(match vs with| [v]=>v|vs=>.bW vs,Y)
 |.exit _=>none else none
noncomputable def bJ:Nat->iV
 |0=>⟨fun _ _ _=>none,fun _ _ _ _=>none⟩
 |n+1=>⟨eu E (bJ n),qK E (bJ n)⟩
end
end aR
end
section
namespace aR
open Go Go.RowKit
inductive Hr where
 |obj (loc:Loc)
 |own (s:Nat)
 |loop (l:Nat)
structure bB where
 A:Nat->Prop
 blk:Nat->Nat
 sz:Nat->Nat
 ob:Nat->Nat
 lo:Nat->Nat
 hi:Nat->Nat
 lp:Nat->Nat
 I:Nat->Nat->Prop
 IM:Nat->Prop
 D:Nat->Prop
 Z:Nat->Option Hr
abbrev at_ (b o:Nat):Addr:=⟨b,o,none⟩
def tO (K:bB)(T:Nat->Nat)(c:Cap)(n b o len cap:Nat):Prop:=
 match c with
 |.sh=>True|.full=>cap=len|.nil=>False|.own n' s=>n'=n/\K.A s/\len<=T s/\(len=T s->K.ob s=b/\K.lo s=o+len*n/\K.hi s=o+cap*n)
def L6 (K:bB)(T:Nat->Nat)(c:Cap):Prop:=
 match c with
 |.own _ s=>K.A s/\(T s=0->K.hi s=K.lo s)|_=>True
inductive Rel (K:bB)(T:Nat->Nat)(w:World):V->Value->Prop
 |int (k:IntKind) (n:Int):Rel K T w (.int k n) (.int k n)
 |bool (b:Bool):Rel K T w (.bool b) (.bool b)
 |str (s:List UInt8) (b:ByteArray) (h:b.data.toList=s):Rel K T w (.str s) (.string b)
 |gY:Rel K T w .gY (.pointer none)
 |gL:Rel K T w .gL .nilFunc
 |iq:Rel K T w .iq (.map none)
 |iN:Rel K T w .iN .nilIface
 |agg (cs:List V) (vs:Array Value) (hl:cs.length=vs.size) (h:∀i,i<cs.length->Rel K T w (cs.getD i aP) (vs.getD i undef)):Rel K T w (.agg cs) (.agg vs)
 |bW (cs:List V) (vs:Array Value) (hl:cs.length=vs.size) (h:∀i,i<cs.length->Rel K T w (cs.getD i aP) (vs.getD i undef)):Rel K T w (.bW cs) (.tuple vs)
 |fZ (c:Cap) (a:Option Addr) (ha:c= .nil->a=none) (hc:L6 K T c):Rel K T w (.ak c []) (.slice a 0 0)
 |ak (c:Cap) (l:List V) (b o n cap:Nat) (val:Nat->Nat->Value) (hle:l.length<=cap)
   (hn:∀i,i<l.length->(l.getD i aP).cells.length=n)
   (hcell:∀i j,i<l.length->j<n->w.cell? (at_ b (o+i*n+j))=some (val i j)/\K.I b (o+i*n+j))
   (hrel:∀i j,i<l.length->j<n->Rel K T w ((l.getD i aP).cells.getD j aP) (val i j))
   (hc:tO K T c n b o l.length cap):Rel K T w (.ak c l) (.slice (some (at_ b o)) l.length cap)
 |aS (loc:Loc) (s off len cap bE:Nat) (ag:Bool) (fD:Nat) (hA:K.A s) (hc:cap<=fD) (hle:len<=cap) (hsz:off+fD*bE<=K.sz s):
   Rel K T w (.aS loc s off len cap bE ag) (.slice (some (at_ (K.blk s) off)) len fD)
 |oG (loc:Loc) (s bE:Nat) (ag:Bool) (hA:K.A s):Rel K T w (.aS loc s 0 0 0 bE ag) (.slice none 0 0)
 |aY (cs:List V) (off b o:Nat) (val:Nat->Value)
   (hcell:∀j,j<cs.length->w.cell? (at_ b (o+j))=some (val j)/\K.I b (o+j))
   (hrel:∀j,j<cs.length->Rel K T w (cs.getD j aP) (val j)):Rel K T w (.aY cs off) (.pointer (some (at_ b (o+off))))
 |ref (loc:Loc) (s off:Nat) (hA:K.A s):Rel K T w (.ref loc s off) (.pointer (some (at_ (K.blk s) off)))
 |fn (f:FuncId) (a b:List V) (kS bv:Array Value) (ha:a.length=kS.size) (hb:b.length=bv.size)
   (ra:∀i,i<a.length->Rel K T w (a.getD i aP) (kS.getD i undef)) (rb:∀i,i<b.length->Rel K T w (b.getD i aP) (bv.getD i undef)):
   Rel K T w (.fn (.func f) a b) (.func (.func f) kS bv)
 |yield (l:Nat) (hA:K.A l):Rel K T w (.fn (.yield l) [] []) (.func (.yield (K.lp l)) #[] #[])
 |fu (loc:Loc) (s:Nat) (hA:K.A s):Rel K T w (.fu loc s) (.map (some (K.blk s)))
 |fH (ks vs:List V) (b:Nat) (es:Array MapEntry) (fB:Nat) (hM:K.IM b) (hb:w.heap[b]? =some (.map es fB))
   (hk:ks.length=es.size) (hv:vs.length=es.size)
   (rk:∀i,i<es.size->Rel K T w (ks.getD i aP) (es.getD i default).key) (rv:∀i,i<es.size->Rel K T w (vs.getD i aP) (es.getD i default).val):
   Rel K T w (.fH ks vs) (.map (some b))
 |iface (t:TypeId) (v:V) (c:Value) (h:Rel K T w v c):Rel K T w (.iface t v) (.iface t c)
 |raw (v:Value):Rel K T w (.raw v) v
structure Ext (K:bB)(T:Nat->Nat)(w:World)(K':bB)(T':Nat->Nat)(w':World):Prop where
 A:∀s,K.A s->K'.A s/\K'.blk s=K.blk s/\K'.lp s=K.lp s/\K'.sz s=K.sz s
 own:∀s,K.A s->(T' s=T s/\K'.ob s=K.ob s/\K'.lo s=K.lo s/\K'.hi s=K.hi s)\/T s<T' s
 I:∀b o,K.I b o->K'.I b o/\w'.cell? (at_ b o)=w.cell? (at_ b o)
 IM:∀b,K.IM b->K'.IM b/\w'.heap[b]? =w.heap[b]?
theorem Ext.refl (K:bB)(T:Nat->Nat)(w:World):Ext K T w K T w:=
 ⟨fun _ h=>⟨h,rfl,rfl,rfl⟩,fun _ _=>.inl ⟨rfl,rfl,rfl,rfl⟩,fun _ _ h=>⟨h,rfl⟩,fun _ h=>⟨h,rfl⟩⟩
theorem Ext.trans {K T w K1 T1 w1 K2 T2 w2}(h:Ext K T w K1 T1 w1)(g:Ext K1 T1 w1 K2 T2 w2):Ext K T w K2 T2 w2 where
 A s hs:=by obtain⟨a,b,c,d⟩:=h.A s hs;obtain⟨a',b',c',d'⟩:=g.A s a;exact⟨a',b'.trans b,c'.trans c,d'.trans d⟩
 own s hs:=by
  obtain⟨a,_,_,_⟩:=h.A s hs;rcases h.own s hs with ⟨h1,h2,h3,h4⟩|h1
  .rcases g.own s a with ⟨g1,g2,g3,g4⟩|g1
   .exact .inl ⟨g1.trans h1,g2.trans h2,g3.trans h3,g4.trans h4⟩
   .exact .inr RS
  .rcases g.own s a with ⟨g1,_⟩|g1
   .exact .inr RS
   .exact .inr RS
 I b o hb:=by obtain⟨a,e⟩:=h.I b o hb;obtain⟨a',e'⟩:=g.I b o a;exact⟨a',e'.trans e⟩
 IM b hb:=by obtain⟨a,e⟩:=h.IM b hb;obtain⟨a',e'⟩:=g.IM b a;exact⟨a',e'.trans e⟩
theorem tO.ext {K T w K' T' w'}(e:Ext K T w K' T' w'){c:Cap}{n b o len cap:Nat}(h:tO K T c n b o len cap):tO K' T' c n b o len cap:=by
 cases c with
 |sh=>trivial|full=>exact h|nil=>exact h|own n' s=>
  obtain⟨h1,h2,h3,h4⟩:=h;refine⟨h1,(e.A s h2).1,?_,?_⟩
  .rcases e.own s h2 with ⟨e1,_⟩|e1<;>omega
  .intro hl;rcases e.own s h2 with ⟨e1,e2,e3,e4⟩|e1
   .rw[e2,e3,e4];exact h4 RS
   .omega
theorem L6.ext {K T w K' T' w'}(e:Ext K T w K' T' w'){c:Cap}(h:L6 K T c):L6 K' T' c:=by
 cases c with
 |own n' s=>
  refine⟨(e.A s h.1).1,fun h0=>?_⟩;rcases e.own s h.1 with ⟨e1,_,e3,e4⟩|e1
  .rw[e3,e4];exact h.2 RS
  .omega
 |_=>trivial
theorem Rel.ext {K T w K' T' w'}(e:Ext K T w K' T' w'){v:V}{c:Value}(h:Rel K T w v c):Rel K' T' w' v c:=by
 induction h with
 |int k n=>exact .int k n|bool b=>exact .bool b|str s b h=>exact .str s b h|gY=>exact .gY|gL=>exact .gL|iq=>exact .iq|iN=>exact .iN|agg cs vs hl _ ih=>exact .agg cs vs hl ih|bW cs vs hl _ ih=>exact .bW cs vs hl ih|fZ c a ha hc=>exact .fZ c a ha (hc.ext e)|ak c l b o n cap val hle hn hcell _ hc ih=>refine .ak c l b o n cap val hle hn (fun i j hi hj=>?_) ih (hc.ext e);obtain⟨h1,h2⟩:=hcell i j hi hj;obtain⟨g1,g2⟩:=e.I _ _ h2;exact⟨g2.trans h1,g1⟩
 |aS loc s off len cap bE ag fD hA hc hle hsz=>have:=(e.A s hA);rw[<-this.2.1];exact .aS loc s off len cap bE ag fD this.1 hc hle (by rw[this.2.2.2];exact hsz)|oG loc s bE ag hA=>exact .oG loc s bE ag (e.A s hA).1|aY cs off b o val hcell _ ih=>refine .aY cs off b o val (fun j hj=>?_) ih;obtain⟨h1,h2⟩:=hcell j hj;obtain⟨g1,g2⟩:=e.I _ _ h2;exact⟨g2.trans h1,g1⟩
 |ref loc s off hA=>have:=(e.A s hA);rw[<-this.2.1];exact .ref loc s off this.1|fn f a b kS bv ha hb _ _ iha ihb=>exact .fn f a b kS bv ha hb iha ihb|yield l hA=>have:=(e.A l hA);rw[<-this.2.2.1];exact .yield l this.1|fu loc s hA=>have:=(e.A s hA);rw[<-this.2.1];exact .fu loc s this.1|fH ks vs b es fB hM hb hk hv _ _ ihk L8=>obtain⟨g1,g2⟩:=e.IM b hM;exact .fH ks vs b es fB g1 (g2.trans hb) hk hv ihk L8
 |iface t v c _ ih=>exact .iface t v c ih|raw v=>exact .raw v
theorem Rel.undef (K T w):Rel K T w aP undef:=.bW [] #[] rfl (fun i hi=>absurd hi (gQ i))
def kH.real:kH->Prop
 |.cells []=>False|_=>True
def Ht (K:bB)(T:Nat->Nat)(w:World)(B0 s:Nat):kH->Prop
 |.cells cs=>(cs=[]->K.sz s=0)/\(cs≠[]->B0<=K.blk s/\∃vals t,w.heap[K.blk s]? =some (.cells vals t (0,0))/\vals.size=K.sz s/\cs.length<=vals.size/\
    ∀i,i<cs.length->Rel K T w (cs.getD i aP) (vals.getD i undef))
 |.map ks vs=>B0<=K.blk s/\∃es fB,w.heap[K.blk s]? =some (.map es fB)/\ks.length=es.size/\vs.length=es.size/\
    (∀i,i<es.size->Rel K T w (ks.getD i aP) (es.getD i default).key)/\(∀i,i<es.size->Rel K T w (vs.getD i aP) (es.getD i default).val)
def mR (K:bB)(T:Nat->Nat)(w:World)(fr:Fr)(tmps:Array Value):Prop:=∀t,Rel K T w (fr.tm t) (tmps.getD t undef)
def vk:Ex->Option Code
 |.normal=>none|.exit i=>some (.exit i)|.ret=>some .ret
def tQ (n:Nat):LoopState:=if n=0 then .ready else if n=1 then .busy else .done
def L9 (K:bB)(T:Nat->Nat)(w:World)(B0 l:Nat)(r:EL):Prop:=
 B0<=K.lp l/\K.Z (K.lp l)=some (.loop l)/\∃(fn:FuncId) (tmps:Array Value) (D:Nat),
  w.heap[K.lp l]? =some (.loop {state:=tQ r.st,pending:=r.pend.bind vk,fn:=fn,tmps:=tmps,params:=r.ps.toArray,assign:=r.gF,body:=r.body,defers:=D})/\
  mR K T w r.fr tmps/\iI tmps.size r.gF=true/\iI tmps.size r.body=true/\(∀p∈r.ps,p<tmps.size)/\kr r.gF=true/\kr r.body=true
def Wm (K:bB)(w:World)(B0 s:Nat):Prop:=
 B0<=K.ob s/\K.Z (K.ob s)=some (.own s)/\∀o,K.lo s<=o->o<K.hi s->¬K.I (K.ob s) o/\(∃v,w.cell? (at_ (K.ob s) o)=some v)/\w.frozen? (at_ (K.ob s) o)=false
structure bH (E:Env)(B0:Nat)(Y:ah)(K:bB)(w:World):Prop where
 obj:∀loc s ob,Y.obj loc=some (s,ob)->K.A s/\Ht K Y.top w B0 s ob/\(ob.real->K.Z (K.blk s)=some (.obj loc))
 own:∀s,K.A s->K.lo s<K.hi s->Wm K w B0 s
 I:∀b o,K.I b o->(∃v,w.cell? (at_ b o)=some v)/\∀loc,K.Z b≠some (.obj loc)
 IM:∀b,K.IM b->(∃es fB,w.heap[b]? =some (.map es fB))/\∀loc,K.Z b≠some (.obj loc)
 loop:∀l r,Y.loops l=some r->K.A l/\L9 K Y.top w B0 l r
 glob:∀g cs,E.glob g=some cs->Rel K Y.top w (.aY cs 0) (.pointer (some (at_ g 0)))
 rb:∀b r,K.Z b=some r->b<w.heap.size/\B0<=b
 D:∀b,K.D b->w.heap[b]? =some (.deferred (some []))
structure Only (b:Nat)(w w':World):Prop where
 os:w'.os=w.os
 tape:w'.tape=w.tape
 output:w'.output=w.output
 size:w.heap.size<=w'.heap.size
 block:∀k,k≠b->k<w.heap.size->w'.heap[k]? =w.heap[k]?
theorem Only.below {b B0:Nat}{w w':World}(h:Only b w w')(hb:B0<=b)(hB:B0<=w.heap.size):Below B0 w w':=
 ⟨h.os,h.tape,h.output,h.size,fun k hk=>h.block k RS RS⟩
theorem cell_of_heap {w w':World}{b o:Nat}(h:w'.heap[b]? =w.heap[b]?):w'.cell? (at_ b o)=w.cell? (at_ b o):=by simp[World.cell?,h]
theorem frozen_of_heap {w w':World}{b o:Nat}(h:w'.heap[b]? =w.heap[b]?):w'.frozen? (at_ b o)=w.frozen? (at_ b o):=by simp[World.frozen?,h]
theorem lt_of_cell {w:World}{b o:Nat}{v:Value}(h:w.cell? (at_ b o)=some v):b<w.heap.size:=World.block_lt_of_cell? w (at_ b o) h
theorem lt_of_heap {w:World}{b:Nat}{o:Obj}(h:w.heap[b]? =some o):b<w.heap.size:=(Array.getElem?_eq_some_iff.1 h).1
theorem mR.ext {K T w K' T' w'}(e:Ext K T w K' T' w'){fr:Fr}{tmps:Array Value}(h:mR K T w fr tmps):mR K' T' w' fr tmps:=fun t=>(h t).ext e
theorem Ht.ext {K T w K' T' w'}(e:Ext K T w K' T' w'){B0 s:Nat}(hA:K.A s){ob:kH}(h:Ht K T w B0 s ob)(hb:ob.real->w'.heap[K.blk s]? =w.heap[K.blk s]?):
 Ht K' T' w' B0 s ob:=by
 obtain⟨_,e2,_,e4⟩:=e.A s hA;cases ob with
 |cells cs=>refine⟨fun h0=>by rw[e4];exact h.1 h0,fun hne=>?_⟩;obtain⟨h1,vals,t,h2,h3,h4,h5⟩:=h.2 hne;have hb':=hb (by cases cs with|nil=>exact absurd rfl hne|cons _ _=>trivial);refine⟨by rw[e2];exact h1,vals,t,by rw[e2,hb',h2],by rw[e4];exact h3,h4,fun i hi=>(h5 i hi).ext e⟩
 |map ks vs=>obtain⟨h1,es,fB,h2,h3,h4,h5,h6⟩:=h;exact⟨by rw[e2];exact h1,es,fB,by rw[e2,hb trivial,h2],h3,h4,fun i hi=>(h5 i hi).ext e,fun i hi=>(h6 i hi).ext e⟩
theorem L9.ext {K T w K' T' w'}(e:Ext K T w K' T' w'){B0 l:Nat}(hA:K.A l){r:EL}(h:L9 K T w B0 l r)(hb:w'.heap[K.lp l]? =w.heap[K.lp l]?)(hZ:K'.Z (K.lp l)=K.Z (K.lp l)):
 L9 K' T' w' B0 l r:=by
 obtain⟨_,_,e3,_⟩:=e.A l hA;obtain⟨h1,hr,fn,tmps,D,h2,h3,h4⟩:=h;exact⟨by rw[e3];exact h1,by rw[e3,hZ];exact hr,fn,tmps,D,by rw[e3,hb,h2],h3.ext e,h4⟩
theorem bH.upd {E:Env}{B0 b:Nat}{Y Y':ah}{K K':bB}{w w':World}(h:bH E B0 Y K w)(ho:Only b w w')(e:Ext K Y.top w K' Y'.top w')(hZ:∀k,k≠b->K'.Z k=K.Z k)(aqc:∀r,K'.Z b=some r->b<w'.heap.size/\B0<=b)(Q9:∀loc s ob,Y'.obj loc=some (s,ob)->(Y.obj loc=some (s,ob)/\(ob.real->K.blk s≠b))\/ (K'.A s/\Ht K' Y'.top w' B0 s ob/\(ob.real->K'.Z (K'.blk s)=some (.obj loc))))(hown:∀s,K'.A s->K'.lo s<K'.hi s->(K.A s/\K'.lo s=K.lo s/\K'.hi s=K.hi s/\K'.ob s=K.ob s/\K.ob s≠b)\/Wm K' w' B0 s)(hI:∀b' o,K'.I b' o->(K.I b' o/\b'≠b)\/(b'=b/\(∃v,w'.cell? (at_ b o)=some v)/\∀loc,K'.Z b≠some (.obj loc)))(Wn:∀b',K'.IM b'->(K.IM b'/\b'≠b)\/(b'=b/\(∃es fB,w'.heap[b]? =some (.map es fB))/\∀loc,K'.Z b≠some (.obj loc)))(hloop:∀l r,Y'.loops l=some r->(Y.loops l=some r/\K.lp l≠b)\/(K'.A l/\L9 K' Y'.top w' B0 l r))(hD:∀b',K'.D b'->(K.D b'/\b'≠b)\/(b'=b/\w'.heap[b]? =some (.deferred (some [])))):bH E B0 Y' K' w' where
 obj loc s ob hs:=by
  rcases Q9 loc s ob hs with ⟨h1,h2⟩|h1
  .obtain⟨a1,a2,a3⟩:=h.obj loc s ob h1;obtain⟨e1,e2,_,_⟩:=e.A s a1;refine⟨e1,a2.ext e a1 (fun hr=>ho.block _ (h2 hr) (h.rb _ _ (a3 hr)).1),fun hr=>?_⟩;rw[e2,hZ _ (h2 hr)];exact a3 hr
  .exact h1
 own s hs hlt:=by
  rcases hown s hs hlt with ⟨h1,h2,h3,h4,h5⟩|h1
  .obtain⟨a1,a2,a3⟩:=h.own s h1 RS;refine⟨by rw[h4];exact a1,by rw[h4,hZ _ h5];exact a2,fun o hl hh=>?_⟩;obtain⟨c1,⟨v,c2⟩,c3⟩:=a3 o RS RS;have hb:=ho.block _ h5 (lt_of_cell c2);rw[h4];refine⟨fun hi=>?_,⟨v,by rw[cell_of_heap hb];exact c2⟩,by rw[frozen_of_heap hb];exact c3⟩;rcases hI _ _ hi with ⟨g,_⟩| ⟨g,_⟩
   .exact c1 g
   .exact h5 g
  .exact h1
 I b' o hi:=by
   rcases hI b' o hi with ⟨h1,h2⟩| ⟨h1,h2,h3⟩
   .obtain⟨⟨v,c⟩,r⟩:=h.I b' o h1;exact⟨⟨v,by rw[cell_of_heap (ho.block _ h2 (lt_of_cell c))];exact c⟩,by rw[hZ _ h2];exact r⟩
   .subst h1;exact⟨h2,h3⟩
 IM b' hi:=by
  rcases Wn b' hi with ⟨h1,h2⟩| ⟨h1,h2,h3⟩
  .obtain⟨⟨es,fB,c⟩,r⟩:=h.IM b' h1;exact⟨⟨es,fB,by rw[ho.block _ h2 (lt_of_heap c)];exact c⟩,by rw[hZ _ h2];exact r⟩
  .subst h1;exact⟨h2,h3⟩
 loop l r hl:=by
  rcases hloop l r hl with ⟨h1,h2⟩|h1
  .obtain⟨a1,a2⟩:=h.loop l r h1;refine⟨(e.A l a1).1,a2.ext e a1 (ho.block _ h2 (h.rb _ _ a2.2.1).1) (hZ _ h2)⟩
  .exact h1
 glob g cs hg:=(h.glob g cs hg).ext e
 rb b' r hr:=by
  by_cases hb:b'=b
  .subst hb;exact aqc r hr
  .rw[hZ _ hb] at hr;have:=h.rb b' r hr;exact⟨nC this.1 ho.size,this.2⟩
 D b' hd:=by
   rcases hD b' hd with ⟨h1,h2⟩| ⟨h1,h2⟩
   .have:=h.D b' h1;rw[ho.block _ h2 (lt_of_heap this)];exact this
   .rw[h1];exact h2
theorem bH.same {E:Env}{B0:Nat}{Y:ah}{K:bB}{w w':World}(h:bH E B0 Y K w)(hh:w'.heap=w.heap):bH E B0 Y K w':=by
 have e:Ext K Y.top w K Y.top w':=⟨fun _ h=>⟨h,rfl,rfl,rfl⟩,fun _ _=>.inl ⟨rfl,rfl,rfl,rfl⟩,fun b o h=>⟨h,cell_of_heap zm⟩,fun b h=>⟨h,zm⟩⟩;refine⟨fun loc s ob hs=>?_,fun s hs hl=>?_,fun b o hi=>?_,fun b hi=>?_,fun l r hl=>?_,fun g cs hg=>(h.glob g cs hg).ext e,fun b r hr=>by rw[hh];exact h.rb b r hr,fun b hb=>by rw[hh];exact h.D b hb⟩
 .obtain⟨a1,a2,a3⟩:=h.obj loc s ob hs;exact⟨a1,a2.ext e a1 (fun _=>zm),a3⟩
 .obtain⟨a1,a2,a3⟩:=h.own s hs hl;exact⟨a1,a2,fun o p q=>⟨(a3 o p q).1,by rw[cell_of_heap (w:=w) zm];exact(a3 o p q).2.1,by rw[frozen_of_heap (w:=w) zm];exact(a3 o p q).2.2⟩⟩
 .obtain⟨a1,a2⟩:=h.I b o hi;exact⟨by rw[cell_of_heap (w:=w) zm];exact a1,a2⟩
 .obtain⟨a1,a2⟩:=h.IM b hi;exact⟨by rw[hh];exact a1,a2⟩
 .obtain⟨a1,a2⟩:=h.loop l r hl;exact⟨a1,a2.ext e a1 zm rfl⟩
structure Step (E:Env)(B0:Nat)(new:Nat->Prop)(Y:ah)(K:bB)(w:World)(Y':ah)(K':bB)(w':World):Prop where
 ok:bH E B0 Y' K' w'
 ext:Ext K Y.top w K' Y'.top w'
 below:Below B0 w w'
 D:∀b,K.D b->K'.D b
 A:∀s,K'.A s->K.A s\/new s
 zy:∀b o,K'.I b o->K.I b o\/B0<=b
 zA:∀b,K'.IM b->K.IM b\/B0<=b
theorem Step.refl {E B0 new Y K w}(h:bH E B0 Y K w):Step E B0 new Y K w Y K w:=
 ⟨h,.refl _ _ _,.refl _ _,fun _ h=>h,fun _ h=>.inl h,fun _ _ h=>.inl h,fun _ h=>.inl h⟩
theorem Step.trans {E B0 new Y K w aB K1 w1 dn K2 w2}(h:Step E B0 new Y K w aB K1 w1)(g:Step E B0 new aB K1 w1 dn K2 w2):Step E B0 new Y K w dn K2 w2:=
 ⟨g.ok,h.ext.trans g.ext,h.below.trans g.below,fun b hb=>g.D b (h.D b hb),
   fun s hs=>(g.A s hs).elim (h.A s) .inr,fun b o hi=>(g.zy b o hi).elim (h.zy b o) .inr,fun b hi=>(g.zA b hi).elim (h.zA b) .inr⟩
theorem Step.mono {E B0 new new' Y K w aB K1 w1}(h:Step E B0 new Y K w aB K1 w1)(hn:∀s,new s->new' s):Step E B0 new' Y K w aB K1 w1:=
 ⟨h.ok,h.ext,h.below,h.D,fun s hs=>(h.A s hs).imp id (hn s),h.zy,h.zA⟩
theorem Step.same {E B0 new Y K w w'}(h:bH E B0 Y K w)(hh:w'.heap=w.heap)(h1:w'.os=w.os)(h2:w'.tape=w.tape)(h3:w'.output=w.output):Step E B0 new Y K w Y K w':=
 ⟨h.same hh,⟨fun _ h=>⟨h,rfl,rfl,rfl⟩,fun _ _=>.inl ⟨rfl,rfl,rfl,rfl⟩,fun b o h=>⟨h,cell_of_heap zm⟩,fun b h=>⟨h,zm⟩⟩,
   ⟨h1,h2,h3,by rw[hh];exact iR _,fun k _=>zm⟩,fun b h=>h,fun _ h=>.inl h,fun _ _ h=>.inl h,fun _ h=>.inl h⟩
theorem ES (w:World)(o:Obj):Only w.heap.size w (w.alloc o):=
 ⟨rfl,rfl,rfl,aD,fun k hk hl=>by show (w.heap.push o)[k]? =_;rw[Array.getElem?_push,if_neg hk]⟩
theorem heap_alloc_new (w:World)(o:Obj):(w.alloc o).heap[w.heap.size]? =some o:=by show (w.heap.push o)[w.heap.size]? =_;simp
theorem heap_alloc_old {w:World}{o:Obj}{k:Nat}(h:k<w.heap.size):(w.alloc o).heap[k]? =w.heap[k]? :=by show (w.heap.push o)[k]? =_;rw[Array.getElem?_push,if_neg RS]
theorem Ra {w:World}{o:Obj}{b i:Nat}{v:Value}(h:w.cell? (at_ b i)=some v):(w.alloc o).cell? (at_ b i)=some v:=by rw[cell_of_heap (heap_alloc_old (lt_of_cell h))];exact h
def bB.nO (K:bB)(st b n:Nat)(loc:Loc):bB:=
 {K with A:=fun s=>K.A s\/s=st,blk:=upd K.blk st b,sz:=upd K.sz st n,lo:=upd K.lo st 0,hi:=upd K.hi st 0,Z:=upd K.Z b (some (.obj loc))}
theorem upd_same {κ U:Type}[DecidableEq κ](f:κ->U)(k:κ)(v:U):upd f k v k=v:=by simp[upd]
theorem upd_ne {κ U:Type}[DecidableEq κ](f:κ->U){k j:κ}(v:U)(h:j≠k):upd f k v j=f j:=by simp[upd,h]
theorem Step.Rb {E B0 Y K w}(h:bH E B0 Y K w)(hB:B0<=w.heap.size){st:Nat}(hst:¬K.A st)(loc:Loc)(ob:kH)(o:Obj)(n:Nat)(nP:∀K',Ext K Y.top w K' Y.top (w.alloc o)->K'.A st->K'.blk st=w.heap.size->K'.sz st=n->Ht K' Y.top (w.alloc o) B0 st ob):
 Step E B0 (· =st) Y K w (Y.setObj loc st ob) (K.nO st w.heap.size n loc) (w.alloc o):=by
 have hne:∀s,K.A s->s≠st:=fun s hs e=>hst (e▸hs);have e:Ext K Y.top w (K.nO st w.heap.size n loc) Y.top (w.alloc o):=by
  refine⟨fun s hs=>⟨.inl hs,upd_ne _ _ (hne s hs),rfl,upd_ne _ _ (hne s hs)⟩,fun s hs=>.inl ⟨rfl,rfl,upd_ne _ _ (hne s hs),upd_ne _ _ (hne s hs)⟩,fun b i hi=>⟨hi,?_⟩,fun b hb=>⟨hb,?_⟩⟩
  .obtain⟨⟨v,hv⟩,_⟩:=h.I b i hi;rw[hv];exact Ra hv
  .obtain⟨⟨es,fB,hv⟩,_⟩:=h.IM b hb;exact heap_alloc_old (lt_of_heap hv)
 refine⟨?_,e,(ES w o).below hB hB,fun b hb=>hb,fun s hs=>hs,fun _ _ hi=>.inl hi,fun _ hi=>.inl hi⟩;refine h.upd (Y':=Y.setObj loc st ob) (ES w o) e (fun k hk=>upd_ne _ _ hk) (fun r _=>⟨aD,hB⟩) ?_ ?_ ?_ ?_ ?_ ?_
 .intro loc' s' Ma hs;by_cases hl:loc'=loc
  .subst hl;right;simp only[ah.setObj,upd_same,iE,mF] at hs;obtain⟨rfl,rfl⟩:=hs;exact⟨.inr rfl,nP _ e (.inr rfl) (upd_same _ _ _) (upd_same _ _ _),fun _=>by show upd K.Z w.heap.size _ (upd K.blk st w.heap.size st)=_;rw[upd_same,upd_same]⟩
  .left;simp only[ah.setObj,upd_ne _ _ hl] at hs;refine⟨hs,fun hr=>?_⟩;have:=(h.rb _ _ ((h.obj _ _ _ hs).2.2 hr)).1;omega
 .intro s hs hlt;left;have hs':s≠st:=by rintro rfl;simp only[bB.nO,upd_same] at hlt;omega
  have hA:K.A s:=hs.resolve_right hs';simp only[bB.nO,upd_ne _ _ hs'] at hlt;refine⟨hA,upd_ne _ _ hs',upd_ne _ _ hs',rfl,?_⟩;have:=(h.rb _ _ (h.own s hA hlt).2.1).1;omega
 .intro b' i hi;obtain⟨⟨v,hv⟩,_⟩:=h.I b' i hi;exact .inl ⟨hi,pO (lt_of_cell hv)⟩
 .intro b' hi;obtain⟨⟨es,fB,hv⟩,_⟩:=h.IM b' hi;exact .inl ⟨hi,pO (lt_of_heap hv)⟩
 .intro l r hl;refine .inl ⟨hl,?_⟩;have:=(h.rb _ _ (h.loop l r hl).2.2.1).1;omega
 .intro b' hd;exact .inl ⟨hd,pO (lt_of_heap (h.D b' hd))⟩
theorem wO {w:World}{a b:Nat}{x y:Obj}(h:w.heap[a]? =some x)(g:w.heap[b]? =some y)(hxy:x≠y):a≠b:=by rintro rfl;exact hxy (kP (h.symm.trans g))
theorem bH.dS {E B0 Y K w}(h:bH E B0 Y K w){loc s cs}(hc:Y.dS loc s=some cs):Y.obj loc=some (s,.cells cs)/\K.A s/\cs.length<=K.sz s\/cs=[]/\Y.obj loc=some (s,.cells cs)/\K.A s:=by
 unfold ah.dS at hc;split at hc
 .rename_i s' cs' ho;split at hc
  .rename_i hs;subst hs;simp only[iE] at hc;subst hc;obtain⟨a1,a2,a3⟩:=h.obj _ _ _ ho;by_cases hne:cs'=[]
   .exact .inr ⟨hne,ho,a1⟩
   .obtain⟨_,vals,t,g1,g2,g3,g4⟩:=a2.2 hne;exact .inl ⟨ho,a1,RS⟩
  .simp at hc
 .simp at hc
theorem bH.wP {E B0 Y K w}(h:bH E B0 Y K w){loc s cs}(hc:Y.dS loc s=some cs):Y.obj loc=some (s,.cells cs)/\K.A s/\cs.length<=K.sz s:=by
 rcases h.dS hc with h| ⟨rfl,h1,h2⟩
 .exact h
 .exact⟨h1,h2,aD⟩
theorem bH.ag2 {E B0 Y K w}(h:bH E B0 Y K w){l r}(hl:Y.loops l=some r){b:Nat}{vals t f}(hb:w.heap[b]? =some (.cells vals t f)):K.lp l≠b:=by obtain⟨_,_,_,fn,tmps,D,hh,_⟩:=h.loop l r hl;exact wO hh hb aD
theorem bH.ag3 {E B0 Y K w}(h:bH E B0 Y K w){loc s ob loc' s' Ma}(h1:Y.obj loc=some (s,ob))(h2:Y.obj loc'=some (s',Ma))(hne:loc≠loc')(hr:ob.real)(hr':Ma.real):
 K.blk s≠K.blk s':=by
 intro e;have a:=(h.obj _ _ _ h1).2.2 hr;have b:=(h.obj _ _ _ h2).2.2 hr';rw[e,b] at a;exact hne (by injection a with a;injection a with a;exact a.symm)
theorem bH.ag4 {E B0 Y K w w'}(h:bH E B0 Y K w){loc s ob}(hs:Y.obj loc=some (s,ob))(hr:ob.real)(ho:Only (K.blk s) w w')(T':Nat->Nat)(hT:T'=Y.top):Ext K Y.top w K T' w':=by
 subst hT;have hZ:=(h.obj _ _ _ hs).2.2 hr;refine⟨fun _ h=>⟨h,rfl,rfl,rfl⟩,fun _ _=>.inl ⟨rfl,rfl,rfl,rfl⟩,fun b i hi=>⟨hi,?_⟩,fun b hb=>⟨hb,?_⟩⟩
 .obtain⟨⟨v,hv⟩,hn⟩:=h.I b i hi;exact cell_of_heap (ho.block b (fun e=>hn loc (e▸hZ)) (lt_of_cell hv))
 .obtain⟨⟨es,fB,hv⟩,hn⟩:=h.IM b hb;exact ho.block b (fun e=>hn loc (e▸hZ)) (lt_of_heap hv)
theorem Step.setCells {E B0 new Y K w w'}(h:bH E B0 Y K w)(hB:B0<=w.heap.size){loc:Loc}{s:Nat}{cs cs':List V}{vals vals':Array Value}{t t':TypeId}(hs:Y.obj loc=some (s,.cells cs))(hne:cs≠[])(hv:w.heap[K.blk s]? =some (.cells vals t (0,0)))(ho:Only (K.blk s) w w')(hv':w'.heap[K.blk s]? =some (.cells vals' t' (0,0)))(hsz:vals'.size=vals.size)(hne':cs'≠[])(hl:cs'.length<=vals'.size)(hr:Ext K Y.top w K Y.top w'->∀i,i<cs'.length->Rel K Y.top w' (cs'.getD i aP) (vals'.getD i undef)):
 Step E B0 new Y K w (Y.setObj loc s (.cells cs')) K w':=by
 have rG:(kH.cells cs).real:=by cases cs with|nil=>exact absurd rfl hne|cons _ _=>trivial
 obtain⟨hA,nP,hZ⟩:=h.obj _ _ _ hs;obtain⟨hb0,ag5,t0,g1,g2,g3,g4⟩:=nP.2 hne;have hvv:vals=ag5:=by rw[hv] at g1;simpa using And.left (by simpa using g1)
 have e:=h.ag4 hs rG ho Y.top rfl;refine⟨?_,e,ho.below hb0 hB,fun _ h=>h,fun _ h=>.inl h,fun _ _ h=>.inl h,fun _ h=>.inl h⟩;refine h.upd (Y':=Y.setObj loc s (.cells cs')) ho e (fun _ _=>rfl) (fun r hr'=>⟨nC (h.rb _ r hr').1 ho.size,hb0⟩) ?_ ?_ ?_ ?_ ?_ ?_
 .intro loc' s' Ma hs';by_cases hl':loc'=loc
  .subst hl';right;simp only[ah.setObj,upd_same,iE,mF] at hs';obtain⟨rfl,rfl⟩:=hs';exact⟨hA,⟨fun h0=>absurd h0 hne',fun _=>⟨hb0,vals',t',hv',by rw[hsz,hvv,g2],hl,hr e⟩⟩,fun _=>hZ rG⟩
  .left;simp only[ah.setObj,upd_ne _ _ hl'] at hs';exact⟨hs',fun hr'=>h.ag3 hs' hs hl' hr' rG⟩
 .intro s' hs' hlt;have ⟨a1,a2,a3⟩:=h.own s' hs' hlt;refine .inl ⟨hs',rfl,rfl,rfl,fun e'=>?_⟩;rw[e',hZ rG] at a2;cases a2
 .intro b' i hi;exact .inl ⟨hi,fun e'=>(h.I b' i hi).2 loc (e'▸hZ rG)⟩
 .intro b' hi;exact .inl ⟨hi,fun e'=>(h.IM b' hi).2 loc (e'▸hZ rG)⟩
 .intro l r hl';exact .inl ⟨hl',h.ag2 hl' hv⟩
 .intro b' hd;exact .inl ⟨hd,wO (h.D b' hd) hv aD⟩
def bB.Wo (K:bB)(b n:Nat):bB:={K with I:=fun b' o=>K.I b' o\/(b'=b/\o<n)}
theorem bH.ag6 {E B0 Y K w}(h:bH E B0 Y K w):K.Z w.heap.size=none:=by
 cases hr:K.Z w.heap.size with
 |none=>rfl|some r=>have:=(h.rb _ _ hr).1;omega
theorem Mc {w:World}{vals:Array Value}{t:TypeId}{fz:Nat×Nat}{i:Nat}(hi:i<vals.size):(w.alloc (.cells vals t fz)).cell? (at_ w.heap.size i)=some (vals.getD i undef):=by
 have hh:(w.alloc (.cells vals t fz)).heap[w.heap.size]? =some (.cells vals t fz):=heap_alloc_new w _;unfold World.cell?;simp only[hh];simp[hi]
theorem Step.aqd {E B0 new Y K w w'}(h:bH E B0 Y K w)(hB:B0<=w.heap.size)(ho:Only w.heap.size w w'){vals:Array Value}{t:TypeId}{fz:Nat×Nat}(hh:w'.heap[w.heap.size]? =some (.cells vals t fz)):Step E B0 new Y K w Y (K.Wo w.heap.size vals.size) w':=by
 have hcn:∀i,i<vals.size->w'.cell? (at_ w.heap.size i)=some (vals.getD i undef):=fun i hi=>by simp[World.cell?,hh,hi]
 have e:Ext K Y.top w (K.Wo w.heap.size vals.size) Y.top w':=by
  refine⟨fun _ h=>⟨h,rfl,rfl,rfl⟩,fun _ _=>.inl ⟨rfl,rfl,rfl,rfl⟩,fun b i hi=>⟨.inl hi,?_⟩,fun b hb=>⟨hb,?_⟩⟩
  .obtain⟨⟨v,hv⟩,_⟩:=h.I b i hi;exact cell_of_heap (ho.block b (pO (lt_of_cell hv)) (lt_of_cell hv))
  .obtain⟨⟨es,fB,hv⟩,_⟩:=h.IM b hb;exact ho.block b (pO (lt_of_heap hv)) (lt_of_heap hv)
 refine⟨?_,e,ho.below hB hB,fun b hb=>hb,fun _ h=>.inl h,fun b o hi=>?_,fun _ h=>.inl h⟩
 .refine h.upd ho e (fun _ _=>rfl) (fun r hr=>?_) ?_ ?_ ?_ ?_ ?_ ?_
  .have:=h.ag6;exact absurd (hr.symm.trans this) aD
  .intro loc s ob hs;exact .inl ⟨hs,fun hr=>by have:=(h.rb _ _ ((h.obj _ _ _ hs).2.2 hr)).1;omega⟩
  .intro s hs hlt;exact .inl ⟨hs,rfl,rfl,rfl,by have:=(h.rb _ _ (h.own s hs hlt).2.1).1;omega⟩
  .intro b' i hi;rcases hi with hi| ⟨rfl,hi⟩
   .obtain⟨⟨v,hv⟩,_⟩:=h.I b' i hi;exact .inl ⟨hi,pO (lt_of_cell hv)⟩
   .exact .inr ⟨rfl,⟨_,hcn _ hi⟩,fun loc hr=>absurd (hr.symm.trans h.ag6) aD⟩
  .intro b' hi;obtain⟨⟨es,fB,hv⟩,_⟩:=h.IM b' hi;exact .inl ⟨hi,pO (lt_of_heap hv)⟩
  .intro l r hl;exact .inl ⟨hl,by have:=(h.rb _ _ (h.loop l r hl).2.2.1).1;omega⟩
  .intro b' hd;exact .inl ⟨hd,pO (lt_of_heap (h.D b' hd))⟩
 .rcases hi with hi| ⟨rfl,_⟩
  .exact .inl hi
  .exact .inr hB
theorem Step.ag7 {E B0 new Y K w}(h:bH E B0 Y K w)(hB:B0<=w.heap.size)(vals:Array Value)(t:TypeId)(fz:Nat×Nat):
 Step E B0 new Y K w Y (K.Wo w.heap.size vals.size) (w.alloc (.cells vals t fz)):=
 Step.aqd h hB (ES w _) (heap_alloc_new w _)
def bB.Cq (K:bB)(s b lo hi:Nat):bB:=
 {K with A:=fun x=>K.A x\/x=s,ob:=upd K.ob s b,lo:=upd K.lo s lo,hi:=upd K.hi s hi,I:=fun b' o=>K.I b' o\/(b'=b/\o<lo),Z:=upd K.Z b (some (.own s))}
theorem Step.aqe {E B0 Y K w}(h:bH E B0 Y K w)(hB:B0<=w.heap.size)(s T':Nat)(hs:¬K.A s\/Y.top s<T')(vals:Array Value)(t:TypeId)(lo:Nat)(hlo:lo<=vals.size):
 Step E B0 (· =s) Y K w (Y.eB s T') (K.Cq s w.heap.size lo vals.size) (w.alloc (.cells vals t)):=by
 have e:Ext K Y.top w (K.Cq s w.heap.size lo vals.size) (Y.eB s T').top (w.alloc (.cells vals t)):=by
  refine⟨fun _ h=>⟨.inl h,rfl,rfl,rfl⟩,fun x hx=>?_,fun b i hi=>⟨.inl hi,?_⟩,fun b hb=>⟨hb,?_⟩⟩
  .by_cases hxs:x=s
   .subst hxs;right;show _<upd Y.top x T' x;rw[upd_same];exact hs.resolve_left (fun hn=>hn hx)
   .exact .inl ⟨upd_ne _ _ hxs,upd_ne _ _ hxs,upd_ne _ _ hxs,upd_ne _ _ hxs⟩
  .obtain⟨⟨v,hv⟩,_⟩:=h.I b i hi;rw[hv];exact Ra hv
  .obtain⟨⟨es,fB,hv⟩,_⟩:=h.IM b hb;exact heap_alloc_old (lt_of_heap hv)
 refine⟨?_,e,(ES w _).below hB hB,fun b hb=>hb,fun _ h=>h,fun b o hi=>?_,fun _ h=>.inl h⟩
 .refine h.upd (Y':=Y.eB s T') (ES w _) e (fun k hk=>upd_ne _ _ hk) (fun r _=>⟨aD,hB⟩) ?_ ?_ ?_ ?_ ?_ ?_
  .intro loc s ob hs;exact .inl ⟨hs,fun hr=>by have:=(h.rb _ _ ((h.obj _ _ _ hs).2.2 hr)).1;omega⟩
  .intro x hx hlt;by_cases hxs:x=s
   .subst hxs;right;have q1:(K.Cq x w.heap.size lo vals.size).ob x=w.heap.size:=upd_same _ _ _;have q2:(K.Cq x w.heap.size lo vals.size).lo x=lo:=upd_same _ _ _;have q3:(K.Cq x w.heap.size lo vals.size).hi x=vals.size:=upd_same _ _ _;refine⟨by rw[q1];exact hB,by rw[q1];exact upd_same _ _ _,fun o hl hh=>?_⟩;rw[q2] at hl;rw[q3] at hh;rw[q1];refine⟨?_,⟨_,Mc hh⟩,?_⟩
    .rintro (hi| ⟨_,hi⟩)
     .obtain⟨⟨v,hv⟩,_⟩:=h.I _ o hi;have:=lt_of_cell hv;omega
     .omega
    .have hh':(w.alloc (.cells vals t)).heap[w.heap.size]? =some (.cells vals t):=heap_alloc_new w _;unfold World.frozen?;simp only[hh'];simp
   .left;have hA:K.A x:=hx.resolve_right hxs;simp only[bB.Cq,upd_ne _ _ hxs] at hlt;refine⟨hA,upd_ne _ _ hxs,upd_ne _ _ hxs,upd_ne _ _ hxs,?_⟩;have:=(h.rb _ _ (h.own x hA hlt).2.1).1;omega
  .intro b' i hi;rcases hi with hi| ⟨rfl,hi⟩
   .obtain⟨⟨v,hv⟩,_⟩:=h.I b' i hi;exact .inl ⟨hi,pO (lt_of_cell hv)⟩
   .refine .inr ⟨rfl,⟨_,Mc RS⟩,fun loc hr=>?_⟩;simp only[bB.Cq,upd_same] at hr;cases hr
  .intro b' hi;obtain⟨⟨es,fB,hv⟩,_⟩:=h.IM b' hi;exact .inl ⟨hi,pO (lt_of_heap hv)⟩
  .intro l r hl;exact .inl ⟨hl,by have:=(h.rb _ _ (h.loop l r hl).2.2.1).1;omega⟩
  .intro b' hd;exact .inl ⟨hd,pO (lt_of_heap (h.D b' hd))⟩
 .rcases hi with hi| ⟨rfl,_⟩
  .exact .inl hi
  .exact .inr hB
def bB.ET (K:bB)(s n:Nat):bB:=
 {K with lo:=upd K.lo s (K.lo s+n),I:=fun b' o=>K.I b' o\/(b'=K.ob s/\K.lo s<=o/\o<K.lo s+n)}
theorem Step.ET {E B0 new Y K w w'}(h:bH E B0 Y K w)(hB:B0<=w.heap.size){s n T':Nat}(hs:K.A s)(hT:Y.top s<T')(hn:0<n)(hroom:K.lo s+n<=K.hi s)(ho:Only (K.ob s) w w')(hnew:∀o,K.lo s<=o->o<K.lo s+n->∃v,w'.cell? (at_ (K.ob s) o)=some v)(hold:∀o,o<K.lo s\/K.lo s+n<=o->w'.cell? (at_ (K.ob s) o)=w.cell? (at_ (K.ob s) o))(hfz:∀o,w'.frozen? (at_ (K.ob s) o)=w.frozen? (at_ (K.ob s) o)):
 Step E B0 new Y K w (Y.eB s T') (K.ET s n) w':=by
 obtain⟨o1,o2,o3⟩:=h.own s hs RS;have Wp:=(o3 (K.lo s) (iR _) RS).2.1;have ag8:∀o,K.I (K.ob s) o->o<K.lo s\/K.lo s+n<=o:=fun o hi=>by
  rcases Nat.lt_or_ge o (K.lo s) with h1|h1
  .exact .inl h1
  .rcases Nat.lt_or_ge o (K.hi s) with h2|h2
   .exact absurd hi (o3 o h1 h2).1
   .exact .inr RS
 have e:Ext K Y.top w (K.ET s n) (Y.eB s T').top w':=by
  refine⟨fun _ h=>⟨h,rfl,rfl,rfl⟩,fun x hx=>?_,fun b i hi=>⟨.inl hi,?_⟩,fun b hb=>⟨hb,?_⟩⟩
  .by_cases hxs:x=s
   .subst hxs;right;show _<upd Y.top x T' x;rw[upd_same];exact hT
   .exact .inl ⟨upd_ne _ _ hxs,rfl,upd_ne _ _ hxs,rfl⟩
  .by_cases hb:b=K.ob s
   .subst hb;exact hold i (ag8 i hi)
   .obtain⟨⟨v,hv⟩,_⟩:=h.I b i hi;exact cell_of_heap (ho.block b hb (lt_of_cell hv))
  .obtain⟨⟨es,fB,hv⟩,_⟩:=h.IM b hb;refine ho.block b ?_ (lt_of_heap hv);rintro rfl;obtain⟨v,hc⟩:=Wp;simp[World.cell?,hv] at hc
 refine⟨?_,e,ho.below o1 hB,fun b hb=>hb,fun _ h=>.inl h,fun b o hi=>?_,fun _ h=>.inl h⟩
 .refine h.upd (Y':=Y.eB s T') ho e (fun k _=>rfl) (fun r hr=>⟨nC (h.rb _ r hr).1 ho.size,o1⟩) ?_ ?_ ?_ ?_ ?_ ?_
  .intro loc x ob hx;refine .inl ⟨hx,fun hr e'=>?_⟩;have a:=(h.obj _ _ _ hx).2.2 hr;rw[e',o2] at a;cases a
  .intro x hx hlt;by_cases hxs:x=s
   .subst hxs;right;simp only[Wm,bB.ET,upd_same] at hlt⊢;refine⟨o1,o2,fun o hl hh=>⟨?_,?_,?_⟩⟩
    .rintro (hi| ⟨_,_,hi⟩)
     .exact(o3 o RS hh).1 hi
     .omega
    .rw[hold o (.inr hl)];exact(o3 o RS hh).2.1
    .rw[hfz o];exact(o3 o RS hh).2.2
   .left;simp only[bB.ET,upd_ne _ _ hxs] at hlt;refine⟨hx,upd_ne _ _ hxs,rfl,rfl,fun e'=>?_⟩;have a:=(h.own x hx hlt).2.1;rw[e',o2] at a;injection a with a
    injection a with a
    exact hxs a.symm
  .intro b' i hi;rcases hi with hi| ⟨rfl,hi1,hi2⟩
   .by_cases hb:b'=K.ob s
    .subst hb;obtain⟨⟨v,hv⟩,hr⟩:=h.I _ i hi;exact .inr ⟨rfl,⟨v,by rw[hold i (ag8 i hi)];exact hv⟩,hr⟩
    .exact .inl ⟨hi,hb⟩
   .exact .inr ⟨rfl,hnew i hi1 hi2,fun loc hr=>by have:K.Z (K.ob s)=some (.obj loc):=hr;rw[o2] at this;cases this⟩
  .intro b' hi;obtain⟨⟨es,fB,hv⟩,_⟩:=h.IM b' hi;refine .inl ⟨hi,?_⟩;rintro rfl;obtain⟨v,hc⟩:=Wp;simp[World.cell?,hv] at hc
  .intro l r hl;refine .inl ⟨hl,fun e'=>?_⟩;have a:=(h.loop l r hl).2.2.1;rw[e',o2] at a;cases a
  .intro b' hd;refine .inl ⟨hd,?_⟩;rintro rfl;obtain⟨v,hc⟩:=Wp;simp[World.cell?,h.D _ hd] at hc
 .rcases hi with hi| ⟨rfl,_⟩
  .exact .inl hi
  .exact .inr o1
theorem Step.aqf {E B0 Y K w w'}(h:bH E B0 Y K w)(hB:B0<=w.heap.size){kJ loc:Loc}{s0 st:Nat}{cs0 cs:List V}{vals vals':Array Value}{t:TypeId}(hst:¬K.A st)(hs:Y.obj kJ=some (s0,.cells cs0))(hne:cs0≠[])(hv:w.heap[K.blk s0]? =some (.cells vals t (0,0)))(ho:Only (K.blk s0) w w')(hv':w'.heap[K.blk s0]? =some (.cells vals' t (0,0)))(hne':cs≠[])(hl:cs.length<=vals'.size)(hr:∀K',Ext K Y.top w K' Y.top w'->∀i,i<cs.length->Rel K' Y.top w' (cs.getD i aP) (vals'.getD i undef)):
 Step E B0 (· =st) Y K w ((Y.ko kJ).setObj loc st (.cells cs)) (K.nO st (K.blk s0) vals'.size loc) w':=by
 have rG:(kH.cells cs0).real:=by cases cs0 with|nil=>exact absurd rfl hne|cons _ _=>trivial
 obtain⟨hA,nP,hZ⟩:=h.obj _ _ _ hs;obtain⟨hb0,ag5,t0,g1,g2,g3,g4⟩:=nP.2 hne;have Rc:∀s,K.A s->s≠st:=fun s hs e=>hst (e▸hs);have e0:=h.ag4 hs rG ho Y.top rfl;have e:Ext K Y.top w (K.nO st (K.blk s0) vals'.size loc) Y.top w':=
  ⟨fun s hs=>⟨.inl hs,upd_ne _ _ (Rc s hs),rfl,upd_ne _ _ (Rc s hs)⟩,fun s hs=>.inl ⟨rfl,rfl,upd_ne _ _ (Rc s hs),upd_ne _ _ (Rc s hs)⟩,e0.I,e0.IM⟩
 refine⟨?_,e,ho.below hb0 hB,fun _ h=>h,fun _ h=>h,fun _ _ h=>.inl h,fun _ h=>.inl h⟩;refine h.upd (Y':=(Y.ko kJ).setObj loc st (.cells cs)) ho e (fun k hk=>upd_ne _ _ hk) (fun r _=>⟨nC (lt_of_heap hv) ho.size,hb0⟩) ?_ ?_ ?_ ?_ ?_ ?_
 .intro loc' s' Ma hs';by_cases hl':loc'=loc
  .subst hl';right;simp only[ah.setObj,upd_same,iE,mF] at hs';obtain⟨rfl,rfl⟩:=hs';refine⟨.inr rfl,⟨fun h0=>absurd h0 hne',fun _=>⟨?_,vals',t,?_,?_,hl,hr _ e⟩⟩,fun _=>?_⟩
   .show B0<=upd K.blk st (K.blk s0) st;rw[upd_same];exact hb0
   .show w'.heap[upd K.blk st (K.blk s0) st]? =_;rw[upd_same];exact hv'
   .show _=upd K.sz st _ st;rw[upd_same]
   .show upd K.Z (K.blk s0) _ (upd K.blk st (K.blk s0) st)=_;rw[upd_same,upd_same]
  .left;simp only[ah.setObj,ah.ko,upd_ne _ _ hl'] at hs';by_cases hl0:loc'=kJ
   .subst hl0;rw[upd_same] at hs';cases hs'
   .rw[upd_ne _ _ hl0] at hs';exact⟨hs',fun hr'=>h.ag3 hs' hs hl0 hr' rG⟩
 .intro s' hs' hlt;have Rf:s'≠st:=by rintro rfl;simp only[bB.nO,upd_same] at hlt;omega
  have hA':K.A s':=hs'.resolve_right Rf;simp only[bB.nO,upd_ne _ _ Rf] at hlt;have ⟨a1,a2,a3⟩:=h.own s' hA' hlt;refine .inl ⟨hA',upd_ne _ _ Rf,upd_ne _ _ Rf,rfl,fun e'=>?_⟩;rw[e',hZ rG] at a2;cases a2
 .intro b' i hi;exact .inl ⟨hi,fun e'=>(h.I b' i hi).2 kJ (e'▸hZ rG)⟩
 .intro b' hi;exact .inl ⟨hi,fun e'=>(h.IM b' hi).2 kJ (e'▸hZ rG)⟩
 .intro l r hl';exact .inl ⟨hl',h.ag2 hl' hv⟩
 .intro b' hd;exact .inl ⟨hd,wO (h.D b' hd) hv aD⟩
theorem ag9 {K T w}{v:Value}{z:V}(h:lN v=some z):Rel K T w z v:=by
 cases v with
 |bool b=>simp only[lN,iE] at h;subst h;exact .bool b|int k n=>simp only[lN,iE] at h;subst h;exact .int k n|string s=>simp only[lN,iE] at h;subst h;exact .str _ s rfl|pointer a=>
  cases a with
  |none=>simp only[lN,iE] at h;subst h;exact .gY|some a=>simp[lN] at h
 |slice a n c=>
  cases a with
  |none=>
   cases n with
   |zero=>
    cases c with
    |zero=>simp only[lN,iE] at h;subst h;exact .fZ .nil none (fun _=>rfl) trivial
    |succ c=>simp[lN] at h
   |succ n=>simp[lN] at h
  |some a=>simp[lN] at h
 |map r=>
  cases r with
  |none=>simp only[lN,iE] at h;subst h;exact .iq|some a=>simp[lN] at h
 |nilFunc=>simp only[lN,iE] at h;subst h;exact .gL|nilIface=>simp only[lN,iE] at h;subst h;exact .iN|_=>simp[lN] at h
theorem aqg {v:Value}{z:V}(h:lN v=some z):fI z=true:=by
 cases z with
 |raw x=>cases v with
  |slice a n c=>cases a<;>cases n<;>cases c<;>simp[lN] at h|pointer a=>cases a<;>simp[lN] at h|map a=>cases a<;>simp[lN] at h|_=>simp[lN] at h
 |_=>rfl
theorem aqh {v:Value}{z:V}(h:ofValue v=some z):fI z=true:=by
 cases v with
 |agg cs=>simp only[ofValue,aZ] at h;obtain⟨r,_,rfl⟩:=h;rfl
 |tuple cs=>simp only[ofValue,aZ] at h;obtain⟨r,_,rfl⟩:=h;rfl
 |_=>exact aqg (v:=_) (by unfold ofValue at h;exact h)
theorem mapM_some {U β:Type}{f:U->Option β}:∀{l:List U}{r:List β},l.mapM f=some r->l.length=r.length/\∀i (h:i<l.length),∃(h':i<r.length),f l[i]=some r[i]
 | [],r,h=>by simp at h;subst h;exact⟨rfl,fun i hi=>absurd hi (gQ i)⟩
 |a::l,r,h=>by
  simp only[iM,Option.pure_def,Option.bind_eq_bind] at h;cases ha:f a with
  |none=>simp[ha] at h|some x=>
   cases hl:l.mapM f with
   |none=>simp[ha,hl] at h|some r'=>
    simp only[ha,hl,Option.bind_some,iE] at h;subst h;obtain⟨h1,h2⟩:=mapM_some hl;refine⟨by simp[h1],fun i hi=>?_⟩;cases i with
    |zero=>exact⟨aD,ha⟩|succ i=>obtain⟨h3,h4⟩:=h2 i kg;exact⟨by simpa using h3,by simpa using h4⟩
theorem kK {U:Type}{l:List U}{i:Nat}(h:i<l.length)(d:U):l.getD i d=l[i]:=by simp[List.getD,h]
theorem Hu {U:Type}{l:Array U}{i:Nat}(h:i<l.size)(d:U):l.getD i d=l[i]:=by simp[Array.getD,h]
theorem Wq {K T w}{v:Value}{z:V}(h:ofValue v=some z):Rel K T w z v:=by
 have hsc:∀(cs:Array Value)(r:List V),cs.toList.mapM lN=some r->r.length=cs.size/\∀i,i<r.length->Rel K T w (r.getD i aP) (cs.getD i undef):=by
  intro cs r hr;obtain⟨h1,h2⟩:=mapM_some hr;have h1':r.length=cs.size:=by rw[<-h1];simp
  refine⟨h1',fun i hi=>?_⟩;obtain⟨h3,h4⟩:=h2 i RS;rw[kK h3,Hu RS];exact ag9 (by simpa using h4)
 cases v with
 |agg cs=>simp only[ofValue,aZ] at h;obtain⟨r,hr,rfl⟩:=h;obtain⟨h1,h2⟩:=hsc cs r hr;exact .agg r cs h1 h2
 |tuple cs=>simp only[ofValue,aZ] at h;obtain⟨r,hr,rfl⟩:=h;obtain⟨h1,h2⟩:=hsc cs r hr;exact .bW r cs h1 h2
 |_=>exact ag9 h
theorem AQ {E B0 Y K w}(h:bH E B0 Y K w){fr:Fr}{a:Act}(hf:mR K Y.top w fr a.tmps)(x:Operand):Rel K Y.top w (fr.ev E x) (a.eval x):=by
 cases x with
 |tmp t=>exact hf t|const v=>
  simp only[Fr.ev,Act.eval];cases hv:ofValue v with
  |none=>exact .raw v|some z=>exact Wq hv
 |global g=>
  simp only[Fr.ev,Act.eval];cases hg:E.glob g with
  |none=>exact .raw _|some cs=>exact h.glob g cs hg
 |func f=>exact .fn f [] [] #[] #[] rfl rfl (fun i hi=>absurd hi (gQ i)) (fun i hi=>absurd hi (gQ i))
theorem Cr {K T w}{v:V}{c:Value}(h:Rel K T w v c)(hr:fI v=true):
 v.cells.length=c.cells.size/\∀i,i<v.cells.length->Rel K T w (v.cells.getD i aP) (c.cells.getD i undef):=by
 have one:∀{v:V}{c:Value},Rel K T w v c->v.cells=[v]->c.cells= #[c]->v.cells.length=c.cells.size/\∀i,i<v.cells.length->Rel K T w (v.cells.getD i aP) (c.cells.getD i undef):=by
  intro v c h h1 h2;rw[h1,h2];refine⟨rfl,fun i hi=>?_⟩;obtain rfl:i=0:=by simp at hi;omega
  exact h
 cases h with
 |agg cs vs hl h=>exact⟨hl,h⟩|raw v=>simp[fI] at hr|bW cs vs hl h=>exact one (.bW cs vs hl h) rfl rfl|int k n=>exact one (.int k n) rfl rfl|bool b=>exact one (.bool b) rfl rfl|str s b h=>exact one (.str s b h) rfl rfl|gY=>exact one .gY rfl rfl|gL=>exact one .gL rfl rfl|iq=>exact one .iq rfl rfl|iN=>exact one .iN rfl rfl|fZ c a ha hc=>exact one (.fZ c a ha hc) rfl rfl|ak c l b o n cap val h1 h2 h3 h4 h5=>exact one (.ak c l b o n cap val h1 h2 h3 h4 h5) rfl rfl
 |aS loc s off len cap bE ag fD h1 h2 h3 h4=>exact one (.aS loc s off len cap bE ag fD h1 h2 h3 h4) rfl rfl|oG loc s bE ag h1=>exact one (.oG loc s bE ag h1) rfl rfl|aY cs off b o val h1 h2=>exact one (.aY cs off b o val h1 h2) rfl rfl|ref loc s off h1=>exact one (.ref loc s off h1) rfl rfl|fn f a b kS bv h1 h2 h3 h4=>exact one (.fn f a b kS bv h1 h2 h3 h4) rfl rfl|yield l h1=>exact one (.yield l h1) rfl rfl
 |fu loc s h1=>exact one (.fu loc s h1) rfl rfl|fH ks vs b es fB h1 h2 h3 h4 h5 h6=>exact one (.fH ks vs b es fB h1 h2 h3 h4 h5 h6) rfl rfl|iface t v c h=>exact one (.iface t v c h) rfl rfl
theorem aha {K T w}{v:V}{c:Value}(h:Rel K T w v c)(ho:oneCell v=true):c.oneCell'=true/\c.cells= #[c]/\v.cells=[v]:=by
 cases h<;>first| (simp[oneCell] at ho;done)|exact⟨rfl,rfl,rfl⟩
section types
variable {P:Program}{t:TypeId}(w:World)
theorem ahb {i:TypeInfo}(h:P.info? t=some i):(typeInfo t).run P w= .ok i w:=by simp[typeInfo,h]
theorem mo {n:Nat}(h:dO P t=some n):(Go.sizeOf t).run P w= .ok n w:=by simp only[dO,aZ] at h;obtain⟨i,hi,rfl⟩:=h;simp[Go.sizeOf,ahb w hi]
theorem ahc {b:Bool}(h:jX P t=some b):(isAgg t).run P w= .ok b w:=by simp only[jX,aZ] at h;obtain⟨d,hd,rfl⟩:=h;simp only[isAgg,Sem.run_bind,run_underlying hd,Result.andThen_ok];cases d<;>rfl
theorem EU {z:V}(h:je P t=some z):∃c,(zeroValue t).run P w= .ok c w/\∀K T,Rel K T w z c:=by simp only[je,iP] at h;obtain⟨v,⟨i,hi,hz⟩,hv⟩:=h;exact⟨v,by simp[zeroValue,ahb w hi,hz],fun K T=>Wq hv⟩
theorem Md {z:V}(h:je P t=some z):fI z=true:=by simp only[je,iP] at h;obtain⟨v,_,hv⟩:=h;exact aqh hv
theorem Me {e:TypeId}(h:lS P t=some e):P.underlying t=some (.slice e):=by unfold lS at h;split at h<;>simp_all
theorem ahd {n:Nat}{e:TypeId}(h:uZ P t=some (n,e)):P.underlying t=some (.array n e):=by unfold uZ at h;split at h<;>simp_all
theorem ahe {f o:Nat}{u:TypeId}(h:x9 P t f=some (o,u)):∃fs g n,P.underlying t=some (.struct fs)/\fs[f]? =some g/\g.offset=o/\g.type=u/\dO P u=some (n+1):=by
 unfold x9 at h;split at h
 .rename_i fs hu;simp only[iP] at h;obtain⟨g,hg,h⟩:=h;split at h
  .rename_i n hn;simp only[iE,mF] at h;exact⟨fs,g,n,hu,hg,h.1,h.2,by rw[<-h.2];exact hn⟩
  .simp at h
 .simp at h
end types
theorem addr_add (b o n:Nat):(at_ b o).add n=at_ b (o+n):=by
 unfold Addr.add;split
 .subst_vars;rfl
 .rfl
theorem Ws {P:Program}{K T}{w:World}{t:TypeId}{cs:List V}{off:Nat}{v:V}{b o:Nat}(val:Nat->Value)(hc:∀i,i<cs.length->w.cell? (at_ b (o+i))=some (val i))(hr:∀i,i<cs.length->Rel K T w (cs.getD i aP) (val i))(h:gT P t cs off=some v):
 ∃c,(loadVar t (at_ b (o+off))).run P w= .ok c w/\Rel K T w v c:=by
 simp only[gT,iP] at h;obtain⟨ag,hag,n,hn,h⟩:=h;simp only[loadVar,Sem.run_bind,ahc w hag,Result.andThen_ok];cases ag with
 |true=>
  simp only[rD,if_true] at h;split at h
  .rename_i hle;simp only[iE] at h;subst h;have hl:=run_loadCells (P:=P) w (at_ b (o+off)) n (fun j=>val (off+j)) (fun j hj=>by rw[addr_add,oV];exact hc _ RS);refine⟨.agg ((List.range n).map fun j=>val (off+j)).toArray,by simp[mo w hn,hl],?_⟩;refine .agg _ _ dz (fun i hi=>?_);simp only[nA,qD] at hi;have hi':i<n:=RS
   have e1:((cs.drop off).take n).getD i aP=cs.getD (off+i) aP:=by simp[List.getD,hi',List.getElem?_drop]
   have e2:(((List.range n).map fun j=>val (off+j)).toArray).getD i undef=val (off+i):=by simp[Array.getD,hi']
   rw[e1,e2];exact hr _ RS
  .simp at h
 |false=>
  simp only[rD,dI,if_false] at h;have hlt:off<cs.length:=(uU.1 h).1;have hv:cs[off]=v:=(uU.1 h).2;refine⟨val off,by simp[hc off hlt],?_⟩;have:=hr off hlt
  rwa[kK hlt,hv] at this
theorem Hw {P:Program}{K T}{w:World}{t:TypeId}{cs:List V}{vs:Array Value}{off:Nat}{v:V}(hl:cs.length=vs.size)(hr:∀i,i<cs.length->Rel K T w (cs.getD i aP) (vs.getD i undef))(h:gT P t cs off=some v):
 ∃c,(part t vs off).run P w= .ok c w/\Rel K T w v c:=by
 simp only[gT,iP] at h;obtain⟨ag,hag,n,hn,h⟩:=h;simp only[part,Sem.run_bind,ahc w hag,Result.andThen_ok];cases ag with
 |true=>
  simp only[rD,if_true] at h;split at h
  .rename_i hle;simp only[iE] at h;subst h;refine⟨.agg (vs.extract off (off+n)),by simp[mo w hn],?_⟩;refine .agg _ _ dz (fun i hi=>?_);simp only[nA,qD] at hi;have hi':i<n:=RS
   have e1:((cs.drop off).take n).getD i aP=cs.getD (off+i) aP:=by simp[List.getD,hi',List.getElem?_drop]
   have e2:(vs.extract off (off+n)).getD i undef=vs.getD (off+i) undef:=by have:off+i<vs.size:=RS;simp[Array.getD,this,show i<min (off+n) vs.size-off by omega]
   rw[e1,e2];exact hr _ RS
  .simp at h
 |false=>
  simp only[rD,dI,if_false] at h;have hlt:off<cs.length:=(uU.1 h).1;have hv:cs[off]=v:=(uU.1 h).2;have hlt':off<vs.size:=RS
  refine⟨vs.getD off undef,by simp[hlt',Array.getD],?_⟩;have:=hr off hlt
  rwa[kK hlt,hv] at this
end aR
end
