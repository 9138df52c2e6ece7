/- Part of the proof of a law. -/
import Derived.Test.YtdcnajadcbedkaaGreatDoorS805
set_option linter.all false
set_option linter.unusedSimpArgs false
set_option linter.unusedSectionVars false
section
namespace Aq
open Go
def Is {α:Type} (a b:α):Prop:=a=b
theorem Is.rfl {α:Type} {a:α}:Is a a:=Eq.refl a
def iv (n:Int):V:=.int .i64 n
def lv {α:Type} (f:α→V) (l:List α):V:=.aj .sh (l.map f)
theorem VB {α:Type} {f:α→V} (h:∀x,aF (f x)=true):∀l:List α,aR (l.map f)=true
 | []=>by simp[aR]
 |a::l=>by simp[aR,h a,VB h l]
theorem Cn {α:Type} {f:α→V} (h:∀x,aF (f x)=true) (l:List α):aF (.aj .sh (l.map f))=true:=by
 simp only[aF];exact VB h l
theorem iG {α:Type} {f:α→V} (h:∀x,aF (f x)=true) (l:List α):aF (lv f l)=true:=Cn h l
theorem aeM (n:Int):aF (iv n)=true:=by simp[iv,aF]
theorem je (l:List (List UInt8)):aF (lv V.str l)=true:=iG (fun _=>by simp[aF]) l
theorem jf (l:List Int):aF (lv iv l)=true:=iG aeM l
theorem jg (k:IntKind) (l:List Int):aF (lv (V.int k) l)=true:=iG (fun _=>by simp[aF]) l
theorem jh (l:List Bool):aF (lv V.bool l)=true:=iG (fun _=>by simp[aF]) l
attribute [go_sem] je jf jg jh
def cO {α:Type} (l:List α) (i:Int):Option α:=if 0≤i∧i<l.length then l[i.toNat]? else none
def lV (P:Program) (t:TypeId):Bool:=match P.underlying t with
 |some (.slice _)=>true
 |_=>false
def Co (P:Program) (t:TypeId):Bool:=match P.underlying t with
 |some .string=>true
 |_=>false
section
variable {E:Env} {fr:Fr} {σ:ah}
def NQ (Q:Ex→Fr→ah→Prop) (fr:Fr) (σ:ah):Prop:=Q .normal fr σ
theorem NQ.i {Q:Ex→Fr→ah→Prop} (h:Q .normal fr σ):NQ Q fr σ:=h
theorem bR.n {b:Code} {Q:Ex→Fr→ah→Prop} (h:CW E b fr σ Q):bR E b Q .normal fr σ:=h
theorem bR.x {b:Code} {i:Nat} {Q:Ex→Fr→ah→Prop} (h:Q (.exit i) fr σ):bR E b Q (.exit i) fr σ:=h
theorem bR.r {b:Code} {Q:Ex→Fr→ah→Prop} (h:Q .ret fr σ):bR E b Q .ret fr σ:=h
theorem kF.n {id:Nat} {Q:Ex→Fr→ah→Prop} (h:Q .normal fr σ):kF id Q .normal fr σ:=h
theorem kF.r {id:Nat} {Q:Ex→Fr→ah→Prop} (h:Q .ret fr σ):kF id Q .ret fr σ:=h
theorem kF.hit {id:Nat} {Q:Ex→Fr→ah→Prop} (h:Q .normal fr σ):kF id Q (.exit id) fr σ:=by simp only[kF,if_true];exact h
theorem mH.n {c:Code} {Q:Ex→Fr→ah→Prop} (h:CW E (.loop c) fr σ Q):mH E c Q .normal fr σ:=h
theorem mH.x {c:Code} {i:Nat} {Q:Ex→Fr→ah→Prop} (h:Q (.exit i) fr σ):mH E c Q (.exit i) fr σ:=h
theorem mH.r {c:Code} {Q:Ex→Fr→ah→Prop} (h:Q .ret fr σ):mH E c Q .ret fr σ:=h
theorem CW.uO {c:Operand} {a b:Code} {Q:Ex→Fr→ah→Prop} (hc:Is (fr.ev E c) (.bool true)) (h:CW E a fr σ Q):CW E (.cond c a b) fr σ Q:=CW.cond hc (fun _=>h) (fun h=>by cases h)
theorem CW.qE {c:Operand} {a b:Code} {Q:Ex→Fr→ah→Prop} (hc:Is (fr.ev E c) (.bool false)) (h:CW E b fr σ Q):CW E (.cond c a b) fr σ Q:=CW.cond hc (fun h=>by cases h) (fun _=>h)
theorem OW.o1 {all:List Oper} {st:Nat} {d:Tmp} {op:Op} {ty:TypeId} {pos:String} {bL:Array Edge} {gd:Option (Nat×Bool)} {os:List Oper} {v:V} {σ1:ah} {Q:Fr→ah→Prop} (hw:Is (dL all fr ⟨some d,op,ty,pos,bL,gd⟩) (some true))
 (hop:∀S,Is (opC E S fr σ st ⟨some d,op,ty,pos,bL,gd⟩) (some (v,fr,σ1))) (h:OW E all (st+1) os (fr.set d v) σ1 Q):OW E all st (⟨some d,op,ty,pos,bL,gd⟩::os) fr σ Q:=OW.op hw hop h
theorem OW.o0 {all:List Oper} {st:Nat} {op:Op} {ty:TypeId} {pos:String} {bL:Array Edge} {gd:Option (Nat×Bool)} {os:List Oper} {v:V} {σ1:ah} {Q:Fr→ah→Prop} (hw:Is (dL all fr ⟨none,op,ty,pos,bL,gd⟩) (some true))
 (hop:∀S,Is (opC E S fr σ st ⟨none,op,ty,pos,bL,gd⟩) (some (v,fr,σ1))) (h:OW E all (st+1) os fr σ1 Q):OW E all st (⟨none,op,ty,pos,bL,gd⟩::os) fr σ Q:=OW.op hw hop h
theorem OW.s1 {all:List Oper} {st:Nat} {d:Tmp} {op:Op} {ty:TypeId} {pos:String} {bL:Array Edge} {gd:Option (Nat×Bool)} {os:List Oper} {Q:Fr→ah→Prop} (hw:Is (dL all fr ⟨some d,op,ty,pos,bL,gd⟩) (some false))
 (h:OW E all (st+1) os (fr.set d aC) σ Q):OW E all st (⟨some d,op,ty,pos,bL,gd⟩::os) fr σ Q:=OW.skip hw h
theorem OW.s0 {all:List Oper} {st:Nat} {op:Op} {ty:TypeId} {pos:String} {bL:Array Edge} {gd:Option (Nat×Bool)} {os:List Oper} {Q:Fr→ah→Prop} (hw:Is (dL all fr ⟨none,op,ty,pos,bL,gd⟩) (some false))
 (h:OW E all (st+1) os fr σ Q):OW E all st (⟨none,op,ty,pos,bL,gd⟩::os) fr σ Q:=OW.skip hw h
theorem dN.o1 {ms:List Nat} {all:List Oper} {st:Nat} {d:Tmp} {op:Op} {ty:TypeId} {pos:String} {bL:Array Edge} {gd:Option (Nat×Bool)} {os:List Oper} {v:V} {σ1:ah} {fs:List bP} {f:bP} {Q:Fr→ah→Prop} (hw:Is (dL all fr ⟨some d,op,ty,pos,bL,gd⟩) (some true))
 (hop:∀S,Is (opC E S fr σ st ⟨some d,op,ty,pos,bL,gd⟩) (some (v,fr,σ1))) (hf:Is (eP E all fr ⟨some d,op,ty,pos,bL,gd⟩ true) f) (h:dN E ms all (st+1) os (fr.set d v) σ1 (fs++[f]) Q):dN E ms all st (⟨some d,op,ty,pos,bL,gd⟩::os) fr σ fs Q:=
 dN.op hw hop (by rw[hf];exact h)
theorem dN.o0 {ms:List Nat} {all:List Oper} {st:Nat} {op:Op} {ty:TypeId} {pos:String} {bL:Array Edge} {gd:Option (Nat×Bool)} {os:List Oper} {v:V} {σ1:ah} {fs:List bP} {f:bP} {Q:Fr→ah→Prop} (hw:Is (dL all fr ⟨none,op,ty,pos,bL,gd⟩) (some true))
 (hop:∀S,Is (opC E S fr σ st ⟨none,op,ty,pos,bL,gd⟩) (some (v,fr,σ1))) (hf:Is (eP E all fr ⟨none,op,ty,pos,bL,gd⟩ true) f) (h:dN E ms all (st+1) os fr σ1 (fs++[f]) Q):dN E ms all st (⟨none,op,ty,pos,bL,gd⟩::os) fr σ fs Q:=
 dN.op hw hop (by rw[hf];exact h)
theorem dN.s1 {ms:List Nat} {all:List Oper} {st:Nat} {d:Tmp} {op:Op} {ty:TypeId} {pos:String} {bL:Array Edge} {gd:Option (Nat×Bool)} {os:List Oper} {fs:List bP} {f:bP} {Q:Fr→ah→Prop} (hw:Is (dL all fr ⟨some d,op,ty,pos,bL,gd⟩) (some false))
 (hf:Is (eP E all fr ⟨some d,op,ty,pos,bL,gd⟩ false) f) (h:dN E ms all (st+1) os (fr.set d aC) σ (fs++[f]) Q):dN E ms all st (⟨some d,op,ty,pos,bL,gd⟩::os) fr σ fs Q:=dN.skip hw (by rw[hf];exact h)
theorem dN.s0 {ms:List Nat} {all:List Oper} {st:Nat} {op:Op} {ty:TypeId} {pos:String} {bL:Array Edge} {gd:Option (Nat×Bool)} {os:List Oper} {fs:List bP} {f:bP} {Q:Fr→ah→Prop} (hw:Is (dL all fr ⟨none,op,ty,pos,bL,gd⟩) (some false))
 (hf:Is (eP E all fr ⟨none,op,ty,pos,bL,gd⟩ false) f) (h:dN E ms all (st+1) os fr σ (fs++[f]) Q):dN E ms all st (⟨none,op,ty,pos,bL,gd⟩::os) fr σ fs Q:=dN.skip hw (by rw[hf];exact h)
theorem OW.g1 {all:List Oper} {st:Nat} {d:Tmp} {op:Op} {ty:TypeId} {pos:String} {bL:Array Edge} {gd:Option (Nat×Bool)} {os:List Oper} {v:V} {g:Bool} {Q:Fr→ah→Prop} (hw:Is (dL all fr ⟨some d,op,ty,pos,bL,gd⟩) (some g)) (hop:g=true→∀S,Is (opC E S fr σ st ⟨some d,op,ty,pos,bL,gd⟩) (some (v,fr,σ)))
 (h:OW E all (st+1) os (fr.set d (cond g v aC)) σ Q):OW E all st (⟨some d,op,ty,pos,bL,gd⟩::os) fr σ Q:=by
 cases g with
 |true=>exact OW.op hw (hop rfl) h
 |false=>exact OW.skip hw h
theorem OW.pk {all:List Oper} {st:Nat} {d:Tmp} {c a b:Operand} {ty:TypeId} {pos:String} {bL:Array Edge} {gd:Option (Nat×Bool)} {os:List Oper} {t x y:Bool} {Q:Fr→ah→Prop} (hw:Is (dL all fr ⟨some d,.pick c a b,ty,pos,bL,gd⟩) (some true)) (hc:Is (fr.ev E c) (.bool t)) (ha:t=true→Is (fr.ev E a) (.bool x)) (hb:t=false→Is (fr.ev E b) (.bool y))
 (h:OW E all (st+1) os (fr.set d (.bool (cond t x y))) σ Q):OW E all st (⟨some d,.pick c a b,ty,pos,bL,gd⟩::os) fr σ Q:=by
 have hc':fr.ev E c= .bool t:=hc
 refine OW.op (v:=.bool (cond t x y)) (σ1:=σ) hw (fun S=> ?_) h
 cases t with
 |true=>
  have ha':fr.ev E a= .bool x:=ha rfl
  simp only[opC,aX,hc',mg,Option.map_some,if_true,ha',cond_true]
 |false=>
  have hb':fr.ev E b= .bool y:=hb rfl
  simp only[opC,aX,hc',mg,Option.map_some,Bool.false_eq_true,if_false,hb',cond_false]
theorem dN.pk {ms:List Nat} {fs:List bP} {f:bP} {all:List Oper} {st:Nat} {d:Tmp} {c a b:Operand} {ty:TypeId} {pos:String} {bL:Array Edge} {gd:Option (Nat×Bool)} {os:List Oper} {t x y:Bool} {Q:Fr→ah→Prop} (hw:Is (dL all fr ⟨some d,.pick c a b,ty,pos,bL,gd⟩) (some true)) (hc:Is (fr.ev E c) (.bool t)) (ha:t=true→Is (fr.ev E a) (.bool x)) (hb:t=false→Is (fr.ev E b) (.bool y))
 (hf:Is (eP E all fr ⟨some d,.pick c a b,ty,pos,bL,gd⟩ true) f) (h:dN E ms all (st+1) os (fr.set d (.bool (cond t x y))) σ (fs++[f]) Q):dN E ms all st (⟨some d,.pick c a b,ty,pos,bL,gd⟩::os) fr σ fs Q:=by
 have hc':fr.ev E c= .bool t:=hc
 refine dN.op (v:=.bool (cond t x y)) (σ1:=σ) hw (fun S=> ?_) (by rw[hf];exact h)
 cases t with
 |true=>
  have ha':fr.ev E a= .bool x:=ha rfl
  simp only[opC,aX,hc',mg,Option.map_some,if_true,ha',cond_true]
 |false=>
  have hb':fr.ev E b= .bool y:=hb rfl
  simp only[opC,aX,hc',mg,Option.map_some,Bool.false_eq_true,if_false,hb',cond_false]
theorem nH.one {r:ResultVar} {e:Ex} {v0:V} {R:V→ah→Prop} (he:∀i,e≠ .exit i) (hv:Is (jc E fr σ r) (some v0)) (hr:R v0 σ):nH E [r] R e fr σ:=by
 have h1:[r].mapM (jc E fr σ)=some [v0]:=by rw[List.mapM_cons,hv];rfl
 cases e with
 |exit i=>exact absurd rfl (he i)
 |normal=>exact⟨[v0],h1,hr⟩
 |ret=>exact⟨[v0],h1,hr⟩
theorem nH.bA {rs:List ResultVar} {e:Ex} {v1 v2:V} {vs:List V} {R:V→ah→Prop} (he:∀i,e≠ .exit i) (hv:Is (rs.mapM (jc E fr σ)) (some (v1::v2::vs))) (hr:R (.bA (v1::v2::vs)) σ):nH E rs R e fr σ:=by
 cases e with
 |exit i=>exact absurd rfl (he i)
 |normal=>exact⟨_,hv,hr⟩
 |ret=>exact⟨_,hv,hr⟩
theorem Pure.of' {f:FuncId} {args:List V} {v:V} {fn:Func} {c:Code} (rs:List ResultVar) (hf:E.P.funcs[f]? =some fn) (hb:fn.body=some c)
 (h:∀fr σ,fr.d=1→fr.om=E.om f→(∀i,fr.tm i=args.getD i aC)→CW E c fr σ (nH E rs (fun v0 σ=>aM 20 σ v0=some v))) (hrs:fn.results.toList=rs:=by rfl) (hok:(decide (args.length≤fn.ntmps)&& iF fn.ntmps c)=true:=by rfl) (hs:E.iZ f=none:=by rfl):Pure E f args v:=
 Pure.of hs hf hb hok (by rw[hrs];exact h _ _ rfl rfl (fun _=>rfl))
theorem ji {n:Nat} {x:V} (h:aF x=true):aM (n+1) σ x=some x:=by unfold aM;simp only[h,if_true]
theorem NK (n:Nat) (k:IntKind) (i:Int):aM (n+1) σ (.int k i)=some (.int k i):=ji (by simp[aF])
theorem NM (n:Nat) (b:Bool):aM (n+1) σ (.bool b)=some (.bool b):=ji (by simp[aF])
theorem NP (n:Nat) (s:List UInt8):aM (n+1) σ (.str s)=some (.str s):=ji (by simp[aF])
theorem uP {n:Nat} {α:Type} {f:α→V} (c:Cap) (l:List α) (h:∀x,aF (f x)=true):aM (n+2) σ (.aj c (l.map f))=some (lv f l):=by
 by_cases hp:aF (.aj c (l.map f))=true
 ·rw[ji hp]
  cases c<;>simp only[aF,Bool.false_eq_true] at hp
  rfl
 ·unfold aM
  simp only[hp,if_false,Bool.false_eq_true]
  have:(l.map f).mapM (aM (n+1) σ)=some (l.map f):=by
   induction l with
   |nil=>simp
   |cons a l ih=>simp[h a,ji,ih (by cases c<;>simp_all[aF,aR])]
  rw[this];rfl
theorem aeN (k:IntKind) (i:Int):er (.int k i)= .int k i:=rfl
theorem aeO (b:Bool):er (.bool b)= .bool b:=rfl
theorem aeP (s:List UInt8):er (.str s)= .str s:=rfl
theorem aeQ {α:Type} (f:α→V) (l:List α):er (lv f l)=lv f l:=rfl
theorem aeR (c:Cap) (l:List V):er (.aj c l)= .aj .sh l:=rfl
theorem aeS (n:Int):iv n= .int .i64 n:=rfl
theorem NR (k:IntKind) (i:Int):aF (.int k i)=true:=by simp[aF]
theorem NS (b:Bool):aF (.bool b)=true:=by simp[aF]
theorem VD (s:List UInt8):aF (.str s)=true:=by simp[aF]
theorem Hq {P:Program} {α:Type} {t:TypeId} {c:Cap} {l:List α} {f:α→V} {k:IntKind} {i:Int}:
 kZ P t (.aj c (l.map f)) (.int k i)=if lV P t then (gG P t).bind fun e=>(bJ P e).bind fun sz=>(cO l i).bind fun x=>if (f x).cells.length=sz then some (.aI (f x).cells 0) else none else none:=by
 unfold kZ lV gG
 cases hu:P.underlying t with
 |none=>rfl
 |some u=>
  cases u<;>try rfl
  rename_i e
  simp only[if_true,Option.bind_some]
  cases bJ P e with
  |none=>rfl
  |some sz=>
   simp only[Option.bind_some,idx,kg,List.length_map,cO]
   split
   ·rename_i h
    simp only[Option.bind_some,List.getElem?_map]
    cases l[i.toNat]? with
    |none=>rfl
    |some x=>rfl
   ·rfl
theorem VE {P:Program} {α:Type} {t:TypeId} {l:List α} {f:α→V} {k:IntKind} {i:Int}:
 kZ P t (lv f l) (.int k i)=if lV P t then (gG P t).bind fun e=>(bJ P e).bind fun sz=>(cO l i).bind fun x=>if (f x).cells.length=sz then some (.aI (f x).cells 0) else none else none:=Hq
theorem aeT {P:Program} {t:TypeId} {v:V} (h1:fP P t=some false) (h2:bJ P t=some 1):dJ P t [v] 0=some v:=by simp[dJ,h1,h2,lM]
theorem aeU {t:TypeId} {α:Type} (f:α→V) (l:List α) (h:lV E.P t=true):lg E σ t (lv f l)=some l.length:=by
 unfold lV at h;unfold lg
 split at h
 ·rename_i e he;rw[he];simp[lv]
 ·simp at h
theorem aeV {t:TypeId} (c:Cap) (l:List V) (h:lV E.P t=true):lg E σ t (.aj c l)=some l.length:=by
 unfold lV at h;unfold lg
 split at h
 ·rename_i e he;rw[he]
 ·simp at h
theorem aeW {t:TypeId} (l:List UInt8) (h:Co E.P t=true):lg E σ t (.str l)=some l.length:=by
 unfold Co at h;unfold lg
 split at h
 ·rename_i he;rw[he]
 ·simp at h
end
section
variable {E:Env} {S:iK} {fr:Fr} {σ:ah} {st:Nat} {d:Option Tmp} {ty:TypeId} {pos:String} {bL:Array Edge} {gd:Option (Nat×Bool)}
theorem aeX (all:List Oper) (op:Op):dL all fr ⟨d,op,ty,pos,bL,none⟩=some true:=rfl
def NT (want:Bool):V→Option Bool
 |.bool b=>some (b==want)
 |.raw _=>none
 |_=>some false
theorem aeY (w b:Bool):NT w (.bool b)=some (b==w):=rfl
theorem aeZ (w:Bool):NT w aC=some false:=rfl
theorem ae0 (all:List Oper) (op:Op) (j:Nat) (want:Bool):dL all fr ⟨d,op,ty,pos,bL,some (j,want)⟩=match (all[j]?).bind (·.dst) with
 |some t=>NT want (fr.tm t)
 |none=>some false:=by
 simp only[dL]
 cases (all[j]?).bind (·.dst) with
 |none=>rfl
 |some t=>simp only;cases fr.tm t<;>rfl
theorem ae1 (cs:List V):V.cells (.agg cs)=cs:=rfl
theorem ae2 (k:IntKind) (n:Int):V.cells (.int k n)=[.int k n]:=rfl
theorem ae3 (k:IntKind) (n:Int):dn (.int k n)=true:=rfl
theorem ae4 (b:Bool):V.cells (.bool b)=[.bool b]:=rfl
theorem ae5 (b:Bool):dn (.bool b)=true:=rfl
theorem ae6 (s:List UInt8):V.cells (.str s)=[.str s]:=rfl
theorem ae7 (s:List UInt8):dn (.str s)=true:=rfl
theorem ae8 (c:Cap) (l:List V):V.cells (.aj c l)=[.aj c l]:=rfl
theorem ae9 (c:Cap) (l:List V):dn (.aj c l)=true:=rfl
theorem afa (l:Aq.Loc) (s o:Nat):V.cells (.ref l s o)=[.ref l s o]:=rfl
theorem afb (l:Aq.Loc) (s o:Nat):dn (.ref l s o)=true:=rfl
theorem afc (cs:List V) (o:Nat):V.cells (.aI cs o)=[.aI cs o]:=rfl
theorem afd (cs:List V) (o:Nat):dn (.aI cs o)=true:=rfl
theorem afe (f:Fn) (a b:List V):V.cells (.fn f a b)=[.fn f a b]:=rfl
theorem aff (f:Fn) (a b:List V):dn (.fn f a b)=true:=rfl
theorem afg {α:Type} (f:α→V) (l:List α):V.cells (lv f l)=[lv f l]:=rfl
theorem afh:bf []=true:=rfl
theorem VF (x:V) (l:List V):bf (x::l)=(oneCell x&& bf l):=rfl
theorem afi (k:IntKind) (n:Int):oneCell (.int k n)=true:=rfl
theorem afj (b:Bool):oneCell (.bool b)=true:=rfl
theorem afk (s:List UInt8):oneCell (.str s)=true:=rfl
theorem afl {α:Type} (f:α→V) (l:List α):oneCell (lv f l)=true:=rfl
theorem afm (c:Cap) (l:List V):oneCell (.aj c l)=true:=rfl
theorem afn (l:Aq.Loc) (s o:Nat):oneCell (.ref l s o)=true:=rfl
theorem afo (cs:List V) (o:Nat):oneCell (.aI cs o)=true:=rfl
theorem afp (cs:List V):dn (.agg cs)=true:=rfl
theorem afq {α:Type} (f:α→V) (l:List α):dn (lv f l)=true:=rfl
theorem afr (x:Operand):opC E S fr σ st ⟨d,.move x,ty,pos,bL,gd⟩=some (fr.ev E x,fr,σ):=rfl
theorem afs (x:Operand):opC E S fr σ st ⟨d,.assign x,ty,pos,bL,gd⟩=some (fr.ev E x,fr,σ):=rfl
theorem VG (c a b:Operand) (h:fr.ev E c= .bool true):opC E S fr σ st ⟨d,.pick c a b,ty,pos,bL,gd⟩=some (fr.ev E a,fr,σ):=by
 simp only[opC,aX,h,mg,Option.map_some,if_true]
theorem VH (c a b:Operand) (h:fr.ev E c= .bool false):opC E S fr σ st ⟨d,.pick c a b,ty,pos,bL,gd⟩=some (fr.ev E b,fr,σ):=by
 simp only[opC,aX,h,mg,Option.map_some,Bool.false_eq_true,if_false]
theorem VI (op:BinOp) (t u:TypeId) (x y:Operand):opC E S fr σ st ⟨d,.binOp op t x y u,ty,pos,bL,gd⟩=(lN E.P op t (fr.ev E x) (fr.ev E y)).map fun v=>(v,fr,σ):=by
 simp only[opC,aX];cases lN E.P op t (fr.ev E x) (fr.ev E y)<;>rfl
theorem afu (op:UnOp) (t:TypeId) (x:Operand):opC E S fr σ st ⟨d,.unOp op t x,ty,pos,bL,gd⟩=(vX op (fr.ev E x)).map fun v=>(v,fr,σ):=by
 simp only[opC,aX];cases vX op (fr.ev E x)<;>rfl
theorem afv (t:TypeId) (x:Operand) (f:Nat):opC E S fr σ st ⟨d,.fieldAddr t x f,ty,pos,bL,gd⟩=(lK E.P t f).bind fun p=>match fr.ev E x with
 |.ref loc s off=>some (.ref loc s (off+p.1),fr,σ)
 |.aI cs off=>some (.aI cs (off+p.1),fr,σ)
 |_=>none:=by
 simp only[opC,aX]
 cases lK E.P t f with
 |none=>rfl
 |some p=>obtain⟨o,u⟩:=p;simp only[Option.bind_some];cases fr.ev E x<;>rfl
theorem afw (t:TypeId) (x:Operand):opC E S fr σ st ⟨d,.load t x,ty,pos,bL,gd⟩=(match fr.ev E x with
 |.ref loc s off=>(σ.bO loc s).bind fun cs=>(dJ E.P t cs off).map fun v=>(v,fr,σ)
 |.aI cs off=>(dJ E.P t cs off).map fun v=>(v,fr,σ)
 |_=>none):=by
 simp only[opC,aX]
 cases fr.ev E x with
 |ref loc s off=>
  simp only
  cases σ.bO loc s with
  |none=>rfl
  |some cs=>simp only[Option.bind_some];cases dJ E.P t cs off<;>rfl
 |aI cs off=>simp only;cases dJ E.P t cs off<;>rfl
 |_=>rfl
theorem afx (t:TypeId) (x:Operand) (i:Nat):opC E S fr σ st ⟨some i,.box t x,ty,pos,bL,gd⟩=if E.qQ t=true then (if aF (fr.ev E x)=true∧dn (fr.ev E x)=true then some (.aI (fr.ev E x).cells 0,fr,σ) else none) else if bf (fr.ev E x).cells∧dn (fr.ev E x) then some (.ref (fr.d,i) st 0,fr,σ.setObj (fr.d,i) st (.cells (fr.ev E x).cells)) else none:=by
 show Option.map _ (if E.qQ t=true then _ else (some (fr.d,i)).bind _)=_
 by_cases hz:E.qQ t=true
 ·simp only[hz,if_true]
  split<;>rfl
 ·simp only[hz,Bool.false_eq_true,if_false,Option.bind_some]
  split<;>rfl
theorem afy (t:TypeId) (i:Nat):opC E S fr σ st ⟨some i,.alloc t,ty,pos,bL,gd⟩=(fF E.P t).bind fun z=>if bf z.cells then some (.ref (fr.d,i) st 0,fr,σ.setObj (fr.d,i) st (.cells z.cells)) else none:=by
 simp only[opC,aX,Option.map_some,Option.bind_some]
 cases fF E.P t with
 |none=>rfl
 |some z=>simp only[Option.bind_some];split<;>rfl
theorem NU (t:TypeId) (a x:Operand):opC E S fr σ st ⟨d,.store t a x,ty,pos,bL,gd⟩=(match fr.ev E a with
 |.ref loc s off=>(σ.bO loc s).bind fun cs=>
  if some (fr.ev E x).cells.length=bJ E.P t∧off+(fr.ev E x).cells.length≤cs.length∧bf (fr.ev E x).cells then some (aC,fr,σ.setObj loc s (.cells (dZ cs off (fr.ev E x).cells))) else none
 |_=>none):=by
 simp only[opC,aX]
 cases fr.ev E a with
 |ref loc s off=>
  simp only
  cases σ.bO loc s with
  |none=>rfl
  |some cs=>simp only[Option.bind_some];split<;>rfl
 |_=>rfl
theorem afz (t:TypeId) (x i:Operand):opC E S fr σ st ⟨d,.indexAddr t x i,ty,pos,bL,gd⟩=(kZ E.P t (fr.ev E x) (fr.ev E i)).map fun v=>(v,fr,σ):=by
 simp only[opC,aX];cases kZ E.P t (fr.ev E x) (fr.ev E i)<;>rfl
theorem afA (x:Operand) (i:Nat):opC E S fr σ st ⟨d,.extract x i,ty,pos,bL,gd⟩=(match fr.ev E x with
 |.bA vs=>(vs[i]?).map fun v=>(v,fr,σ)
 |_=>none):=by
 simp only[opC,aX]
 cases fr.ev E x with
 |bA vs=>simp only;cases vs[i]? <;>rfl
 |_=>rfl
theorem afB (x:Operand) (t:TypeId):opC E S fr σ st ⟨d,.call ⟨.builtin .len, #[x], #[t]⟩,ty,pos,bL,gd⟩=(lg E σ t (fr.ev E x)).map fun n=>(.int .i64 (n:Nat),fr,σ):=by
 show (Option.map _ (((#[t]:Array TypeId)[0]?).bind fun t=>(lg E σ t (fr.ev E x)).map fun n=>(V.int .i64 (n:Nat),σ)))=_
 rw[show (#[t]:Array TypeId)[0]? =some t from rfl,Option.bind_some]
 cases lg E σ t (fr.ev E x)<;>rfl
end
attribute [go_sem] Bool.false_eq_true lN iX uq vX decide_true decide_false List.getElem?_cons_succ List.getElem?_cons_zero beq_true beq_false Bool.not_true Bool.not_false NJ Bool.false_and Bool.and_false Bool.true_and Bool.and_true aeX ae0 aeY aeZ afr afs VG VH VI afu afv afw afx afy NU afz afA afB yJ Vw Vx Ho Cj yH aeC yI aeD NH NI aeE qX Vz aeH aeI map_eq VA aeJ aeK aeL Ck Cm aeF aeG aeS aeT aeU aeV aeW Hq List.length_map VE NK NM NP aeN aeO aeP aeQ aeR NR NS VD Option.bind_some Option.map_some Option.getD_some mg ofValue iC if_true if_false ae1 ae2 ae4 ae6 afg ae8 afa afc afe ae3 ae5 ae7 ae9 afb afd aff afh VF afi afj afk afl afm afn afo afp afq and_self and_true true_and
end Aq
end
section
namespace Aq
open Go
def sH:Code→List Nat→Option Code
 |c,[]=>some c
 |.seq a b,i::l=>if i=0 then sH a l else sH b l
 |.cond _ a b,i::l=>if i=0 then sH a l else sH b l
 |.block _ a,_::l=>sH a l
 |.loop a,_::l=>sH a l
 |.rangeFunc _ _ a b,i::l=>if i=0 then sH a l else sH b l
 |_,_=>none
def bS (b:Option Code) (l:List Nat):Option Code:=b.bind fun c=>sH c l
section
variable {E:Env} {fr:Fr} {σ:ah}
def sI (E:Env) (c:Code) (fr:Fr) (σ:ah) (Q:Ex→Fr→ah→Prop):Prop:=CW E (.loop c) fr σ Q
theorem Is.e {α:Type} {a b:α} (h:Is a b):a=b:=h
theorem CW.lp {c:Code} {Q:Ex→Fr→ah→Prop} (h:sI E c fr σ Q):CW E (.loop c) fr σ Q:=h
theorem sI.in {b:Option Code} {p:List Nat} {c:Code} {Q:Ex→Fr→ah→Prop} (hs:bS b p=some c) (h:CW E c fr σ (mH E c Q)):sI E ((bS b p).getD .skip) fr σ Q:=by
 rw[hs];exact CW.loop h
theorem sI.ih {c:Code} {Q:Ex→Fr→ah→Prop} (h:sI E c fr σ Q):sI E c fr σ Q:=h
def Hr:Code→Nat
 |.region i _ _=>i
 |.seq a _=>Hr a
 |.loop a=>Hr a
 |.block _ a=>Hr a
 |_=>0
theorem sI.at (k:Nat) {c:Code} {Q:Ex→Fr→ah→Prop} (_h:Is (Hr c) k) (h:sI E c fr σ Q):sI E c fr σ Q:=h
theorem afC {n:Nat} (c:Cap):aM (n+2) σ (.aj c [])=some (.aj .sh []):=uP (α:=V) (f:=fun x=>.int .i64 0) c [] (fun _=>by simp[aF])
theorem VJ {n:Nat} (cs:List V):aM (n+2) σ (.agg cs)=(cs.mapM (aM (n+1) σ)).map .agg:=by
 by_cases hp:aF (.agg cs)=true
 ·rw[ji hp]
  have:∀cs:List V,aR cs=true→cs.mapM (aM (n+1) σ)=some cs:=by
   intro cs
   induction cs with
   |nil=>intro _;rfl
   |cons a l ih=>
    intro h
    simp only[aR,Bool.and_eq_true] at h
    rw[List.mapM_cons,ji h.1,ih h.2];rfl
  rw[this cs (by simpa [aF] using hp)];rfl
 ·conv=>lhs;unfold aM
  simp only[hp,if_false,Bool.false_eq_true]
theorem NV {n:Nat} (cs:List V):aM (n+2) σ (.bA cs)=(cs.mapM (aM (n+1) σ)).map .bA:=by
 by_cases hp:aF (.bA cs)=true
 ·rw[ji hp]
  have:∀cs:List V,aR cs=true→cs.mapM (aM (n+1) σ)=some cs:=by
   intro cs
   induction cs with
   |nil=>intro _;rfl
   |cons a l ih=>
    intro h
    simp only[aR,Bool.and_eq_true] at h
    rw[List.mapM_cons,ji h.1,ih h.2];rfl
  rw[this cs (by simpa [aF] using hp)];rfl
 ·conv=>lhs;unfold aM
  simp only[hp,if_false,Bool.false_eq_true]
def Ht (sz:Nat) (σ:ah) (c:Cap) (n:Nat):Prop:=c= .nil∨∃s,c= .own sz s∧σ.top s=n∧s<σ.next
theorem Ht.n {sz n:Nat}:Ht sz σ .nil n:=.inl rfl
theorem Ht.o {sz s n:Nat} (h1:Is (σ.top s) n) (h2:s<σ.next):Ht sz σ (.own sz s) n:=.inr ⟨s,rfl,h1,h2⟩
theorem own_ne {s n k:Nat} (h:s<n):(s==n+k)=false:=by simp;omega
theorem afD {s n k:Nat} (h:s<n):(n+k==s)=false:=by simp;omega
theorem afE {s n:Nat} (h:s<n):(s==n)=false:=by simp;omega
theorem afF {s n:Nat} (h:s<n):(n==s)=false:=by simp;omega
theorem afG (σ:ah) {s t:Nat} (n:Nat) (h:(t==s)=false):(σ.bV s n).top t=σ.top t:=Cm σ n (by simpa using h)
end
def yK (P:Program) (σ:ah) (st:Nat) (t u:TypeId) (x y:V):Option (V×ah):=
 match P.underlying u with
 |some (.int _)=>gy P false true σ st none t x y
 |some (.slice _)|some .string=>gy P false false σ st none t x y
 |_=>none
theorem afH {P:Program} {z:Bool} {σ:ah} {st:Nat} {loc:Option Loc} {t:TypeId} {c:Cap} {l:List V} {y:V}:gy P false z σ st loc t (.aj c l) y=gy P false z σ st none t (.aj c l) y:=by
 unfold gy
 cases gG P t with
 |none=>rfl
 |some e=>cases c<;>rfl
section
variable {E:Env} {S:iK} {fr:Fr} {σ:ah} {st:Nat} {d:Option Tmp} {ty:TypeId} {pos:String} {bL:Array Edge} {gd:Option (Nat×Bool)}
theorem VK {t u:TypeId} {x y:Operand} {c:Cap} {l:List V} (ho:fr.om=false) (hx:fr.ev E x= .aj c l):opC E S fr σ st ⟨d,.call ⟨.builtin .append, #[x,y], #[t,u]⟩,ty,pos,bL,gd⟩=(yK E.P σ st t u (.aj c l) (fr.ev E y)).map fun p=>(p.1,fr,p.2):=by
 show Option.map _ ((((#[t,u]:Array TypeId)[0]?).bind fun t=>(((#[t,u]:Array TypeId)[1]?).bind E.P.underlying).bind fun u=>match u with
  |.int _=>gy E.P fr.om true σ st (d.map fun t=>(fr.d,t)) t (fr.ev E x) (fr.ev E y)
  |.slice _|.string=>gy E.P fr.om false σ st (d.map fun t=>(fr.d,t)) t (fr.ev E x) (fr.ev E y)
  |_=>none))=_
 show Option.map _ ((E.P.underlying u).bind _)=_
 rw[ho,hx]
 unfold yK
 cases E.P.underlying u with
 |none=>rfl
 |some u=>
  cases u<;>try rfl
  all_goals (simp only[Option.bind_some];rw[afH];first|rfl| (generalize gy _ _ _ _ _ _ _ _ _=o;cases o<;>rfl))
end
def yL (P:Program) (t u:TypeId) (sz dz:Nat) (z:V):Prop:=∃e ag,gG P t=some e∧bJ P e=some sz∧ni P e=some dz∧fP P e=some ag∧fF P e=some z∧z.cells.length=sz∧0<sz∧(ag||sz==1)=true∧lV P u=true
theorem yL.mk {P:Program} {t u:TypeId} {sz dz:Nat} {z:V} (e:TypeId) (ag:Bool) (h1:gG P t=some e) (h2:bJ P e=some sz) (h3:ni P e=some dz) (h4:fP P e=some ag) (h5:fF P e=some z)
 (h6:z.cells.length=sz) (h7:0<sz) (h8:(ag||sz==1)=true) (h9:lV P u=true):yL P t u sz dz z:=⟨e,ag,h1,h2,h3,h4,h5,h6,h7,h8,h9⟩
def pJ (sz:Nat) (l:List V):Bool:=l.all fun v=>v.cells.length==sz&& bf v.cells
theorem afI {α:Type} {f:α→V} {sz:Nat} (h:∀x,(f x).cells.length=sz∧bf (f x).cells=true) (l:List α):pJ sz (l.map f)=true:=by
 simp[pJ,h]
theorem VL {sz:Nat} {l:List V} (h:pJ sz l=true):kP sz l=true:=by
 cases l with
 |nil=>rfl
 |cons a l=>simp[pJ] at h;simp[kP,h.1.1]
theorem afJ {sz:Nat} {l:List V} (h:pJ sz l=true):l.all (fun v=>bf v.cells)=true:=by
 simp[pJ] at h;simpa using fun x hx=>(h x hx).2
theorem afK {P:Program} {σ:ah} {st t u sz dz:Nat} {z:V} {x:V} {c2:Cap} {ys:List V} (ha:yL P t u sz dz z) (hy:pJ sz ys=true):
 yK P σ st t u x (.aj c2 ys)=match x with
 |.aj c l=>if dD (l.length+ys.length) dz=true∧kP sz l=true then
  match c with
  |.own n s=>if n=sz∧σ.top s=l.length then some (.aj (.own n s) (l++ys),σ.bV s (l.length+ys.length)) else none
  |.nil|.full=>some (.aj (.own sz st) (l++ys),σ.bV st (l.length+ys.length))
  |_=>none
  else none
 |_=>yK P σ st t u x (.aj c2 ys):=by
 obtain⟨e,ag,h1,h2,h3,h4,h5,h6,h7,h8,h9⟩:=ha
 cases x<;>try rfl
 rename_i c l
 unfold lV at h9
 split at h9
 ·rename_i e' he
  simp only[yK,he,gy,h1,h2,h3,h4,h5,Option.bind_some,qP,true_and,if_pos (show z.cells.length=sz∧0<sz∧(ag||sz==1)=true from ⟨h6,h7,h8⟩),jo,VL hy,if_true,afJ hy]
  cases c<;>rfl
 ·simp at h9
theorem afL {P:Program} {σ:ah} {st t u sz dz:Nat} {z:V} {l:List V} {c2:Cap} {ys:List V} (ha:yL P t u sz dz z) (hy:pJ sz ys=true) (hl:pJ sz l=true)
 (hr:dD (l.length+ys.length) dz=true):yK P σ st t u (.aj .full l) (.aj c2 ys)=some (.aj (.own sz st) (l++ys),σ.bV st (l.length+ys.length)):=by
 rw[afK ha hy];simp only[hr,VL hl,and_self,if_true]
def VN (E:Env) (t:TypeId) (ps:List (Nat×V)):Option (List V):=(xU E t).bind fun pl=>(fF E.P t).bind fun z=>nk pl z.cells ps
section
variable {E:Env} {S:iK} {fr:Fr} {σ:ah} {st:Nat} {d:Option Tmp} {ty:TypeId} {pos:String} {bL:Array Edge} {gd:Option (Nat×Bool)}
theorem afM (t:TypeId) (l:List (Nat×Operand)):opC E S fr σ st ⟨d,.build t l.toArray,ty,pos,bL,gd⟩=(VN E t (l.map fun p=>(p.1,fr.ev E p.2))).map fun cs=>(.agg cs,fr,σ):=by
 simp only[opC,aX,VN]
 cases xU E t with
 |none=>rfl
 |some pl=>
  simp only[Option.bind_some]
  cases fF E.P t with
  |none=>rfl
  |some z=>
   simp only[Option.bind_some]
   cases nk pl z.cells (l.map fun p=>(p.1,fr.ev E p.2))<;>rfl
theorem VO (t:TypeId) (n:Nat) (l:List (Nat×Operand)):opC E S fr σ st ⟨d,.buildSlice t n l.toArray,ty,pos,bL,gd⟩=(qR E t n (l.map fun p=>(p.1,fr.ev E p.2))).map fun v=>(v,fr,σ):=by
 simp only[opC,aX]
 cases qR E t n (l.map fun p=>(p.1,fr.ev E p.2))<;>rfl
end
section
variable {E:Env} {S:iK} {fr:Fr} {σ:ah} {st:Nat} {d:Option Tmp} {ty:TypeId} {pos:String} {bL:Array Edge} {gd:Option (Nat×Bool)}
theorem afN (t:TypeId) (x i:Operand):opC E S fr σ st ⟨d,.index t x i,ty,pos,bL,gd⟩=(rZ E.P t (fr.ev E x) (fr.ev E i)).map fun v=>(v,fr,σ):=by
 simp only[opC,aX];cases rZ E.P t (fr.ev E x) (fr.ev E i)<;>rfl
theorem VP {P:Program} {t:TypeId} {s:List UInt8} {k:IntKind} {i:Int} (h:Co P t=true):rZ P t (.str s) (.int k i)=(cO s i).map fun b=>.int .u8 (b.toNat:Nat):=by
 unfold Co at h;unfold rZ
 split at h
 ·rename_i he
  rw[he]
  simp only[idx,kg,Option.bind_some,cO]
  split
  ·simp only[Option.bind_some];rfl
  ·rfl
 ·simp at h
def imax (a b:Int):Int:=if b>a then b else a
def NW (a b:Int):Int:=if b<a then b else a
theorem afO (x y:Operand) (tys:List TypeId):opC E S fr σ st ⟨d,.call ⟨.builtin .max, #[x,y],tys.toArray⟩,ty,pos,bL,gd⟩=(jJ true (fr.ev E x) [fr.ev E y]).map fun v=>(v,fr,σ):=by
 show Option.map _ ((jJ true (fr.ev E x) [fr.ev E y]).map fun v=>(v,σ))=_
 cases jJ true (fr.ev E x) [fr.ev E y]<;>rfl
theorem afP (x y:Operand) (tys:List TypeId):opC E S fr σ st ⟨d,.call ⟨.builtin .min, #[x,y],tys.toArray⟩,ty,pos,bL,gd⟩=(jJ false (fr.ev E x) [fr.ev E y]).map fun v=>(v,fr,σ):=by
 show Option.map _ ((jJ false (fr.ev E x) [fr.ev E y]).map fun v=>(v,σ))=_
 cases jJ false (fr.ev E x) [fr.ev E y]<;>rfl
theorem afQ (k:IntKind) (a b:Int):jJ true (.int k a) [.int k b]=some (.int k (imax a b)):=by simp[jJ,imax]
theorem afR (k:IntKind) (a b:Int):jJ false (.int k a) [.int k b]=some (.int k (NW a b)):=by simp[jJ,NW]
end
theorem len1 (v:V):[v].length=1:=rfl
attribute [go_sem] afN VP afO afP afQ afR own_ne afD afE afF afC VJ NV afM VO List.map_cons List.map_nil len1 afG VK uP implies_true eq_self
theorem afS:aR []=true:=by simp only[aR]
theorem afT (v:V) (l:List V):aR (v::l)=(aF v&& aR l):=by simp only[aR]
attribute [go_sem] afS afT
end Aq
end
section
namespace Aq
open Go
inductive Ty where
 |int (k:IntKind)
 |bool
 |str
 |slice (t:Ty)
 |st (n:Nat)
 deriving DecidableEq
inductive Cp where
 |any
 |sh
 |nil
 |full
 |own (t:Nat)
structure Vec (n:Nat) where
 l:List Int
 h:l.length=n
def Vec.at' {n:Nat} (v:Vec n) (i:Int):Int:=v.l.getD i.toNat 0
def Vec.nth {n:Nat} (v:Vec n) (j:Nat):Int:=v.l.getD j 0
def Vec.set {n:Nat} (v:Vec n) (i y:Int):Vec n:=⟨v.l.set i.toNat y,by rw[List.length_set,v.h]⟩
def Vec.rep (n:Nat) (y:Int):Vec n:=⟨List.replicate n y,List.length_replicate⟩
def Vec.lit (n:Nat) (l:List Int):Vec n:=if h:l.length=n then ⟨l,h⟩ else Vec.rep n 0
def Vec.slc {n:Nat} (v:Vec n) (i:Int) (m:Nat):Vec m:=Vec.lit m ((v.l.drop i.toNat).take m)
def Vec.pK {n:Nat} (v:Vec n) (lo:Int) (l:List Int):Vec n:=Vec.lit n (v.l.take lo.toNat++l++v.l.drop (lo.toNat+l.length))
inductive iH where
 |i (k:IntKind)
 |a (k:IntKind) (n:Nat)
inductive Sg where
 |i (k:IntKind) (x:Int)
 |a (k:IntKind) (n:Nat) (v:Vec n)
def Sg.w:Sg→Nat
 |.i _ _=>1
 |.a _ n _=>n
def Sg.vs:Sg→List V
 |.i k x=>[.int k x]
 |.a k _ v=>v.l.map (V.int k)
def bH:List Sg→List V
 | []=>[]
 |s::l=>s.vs++bH l
def iw:List Sg→Nat
 | []=>0
 |s::l=>s.w+iw l
def yM:iH→Type
 |.i _=>Int
 |.a _ n=>Vec n
def wF:List iH→Type
 | []=>Unit
 | [k]=>yM k
 |k::h::l=>yM k×wF (h::l)
def Cq:(k:iH)→yM k→Sg
 |.i k,x=>.i k x
 |.a k n,x=>.a k n x
def qF:(l:List iH)→wF l→List Sg
 | [],_=>[]
 | [k],x=>[Cq k x]
 |k::h::l,p=>Cq k p.1::qF (h::l) p.2
def Hu {n m:Nat} (v:Vec n):Option (Vec m):=if h:n=m then some (h▸v) else none
def yN:(k:iH)→Sg→Option (yM k)
 |.i k,.i k' x=>if k'=k then some x else none
 |.a k n,.a k' _ v=>if k'=k then Hu (m:=n) v else none
 |_,_=>none
def sJ:(l:List iH)→List Sg→Option (wF l)
 | []=>fun vs=>match vs with
   | []=>some ()
   |_::_=>none
 | [k]=>fun vs=>match vs with
   | [v]=>yN k v
   |_=>none
 |k::h::l=>fun vs=>match vs with
  | []=>none
  |v::vs=>match yN k v with
   |some x=>match sJ (h::l) vs with
    |some p=>some (x,p)
    |none=>none
   |none=>none
section
variable (T:Nat→Type)
def Den:Ty→Type
 |.int _=>Int
 |.bool=>Bool
 |.str=>List UInt8
 |.slice t=>List (Den t)
 |.st n=>T n
def lC:List Ty→Type
 | []=>Unit
 | [t]=>Den T t
 |t::u::l=>Den T t×lC (u::l)
inductive TV where
 |int (k:IntKind) (n:Int)
 |bool (b:Bool)
 |fH (b:Bool)
 |str (s:List UInt8)
 |eu
 |dU
 |dP
 |fB
 |dW
 |agg (cs:List TV)
 |bA (cs:List TV)
 |aj (c:Cp) (t:Ty) (l:List (Den T t))
 |ref (o off:Nat)
 |aI (cs:List TV) (off:Nat)
 |bN (o:Nat)
 |cK (k e:Ty) (m:List (Den T k×Den T e))
 |fn (f:Nat) (a b:List TV)
 |opt (j:Nat) (w:Bool) (v:TV)
 |vw (o:Nat) (t:Ty)
 |jk (o:Nat) (t:Ty) (i:Int) (off:Nat)
 |sg (ss:List Sg)
 |sv (o off:Nat) (k:IntKind) (n:Nat) (lo hi:Option Int)
 |sel (o off:Nat) (k:IntKind) (n:Nat) (i:Int) (m:Nat)
 |oz (k:IntKind) (n:Nat) (v:Vec n) (i:Int)
 |undef
 |gone
inductive Ob where
 |cells (cs:List (TV T))
 |map (k e:Ty) (m:List (Den T k×Den T e))
 |smap (ks vs:List (TV T))
 |arr (t:Ty) (l:List (Den T t))
 |sg (ss:List Sg)
 |gone
 |ro (b:Ob)
structure MS where
 fr:List (Nat×TV T)
 ob:List (Nat×Ob T)
inductive Sk where
 |d (t:Ty)
 |l (c:Cp) (t:Ty)
 |agg (l:List Sk)
 |ref (o off:Nat)
 |aI (l:List Sk) (off:Nat)
 |bN (o:Nat)
 |cK (k e:Ty)
 |fn (f:Nat) (a b:List Sk)
 |dW
 |vw (o:Nat) (t:Ty)
 |sg (l:List iH)
 |undef
mutual
def oG:Sk→Type
 |.d t=>Den T t
 |.l _ t=>List (Den T t)
 |.agg l=>aA l
 |.ref _ _=>Unit
 |.aI l _=>aA l
 |.bN _=>Unit
 |.cK k e=>List (Den T k×Den T e)
 |.fn _ a b=>aA a×aA b
 |.dW=>Unit
 |.vw _ _=>Unit
 |.sg l=>wF l
 |.undef=>Unit
def aA:List Sk→Type
 | []=>Unit
 | [k]=>oG k
 |k::h::l=>oG k×aA (h::l)
end
inductive jC where
 |cells (l:List Sk)
 |st (n:Nat)
 |map (k e:Ty)
 |arr (t:Ty)
 |sg (l:List iH)
def uQ:jC→Type
 |.cells l=>aA T l
 |.st n=>T n
 |.map k e=>List (Den T k×Den T e)
 |.arr t=>List (Den T t)
 |.sg l=>wF l
def mI:List (Nat×jC)→Type
 | []=>Unit
 | [(_,k)]=>uQ T k
 | (_,k)::h::l=>uQ T k×mI (h::l)
def wG:List (Nat×Sk)→Type
 | []=>Unit
 | [(_,k)]=>oG T k
 | (_,k)::h::l=>oG T k×wG (h::l)
structure Shape where
 sl:List (Nat×Sk)
 ob:List (Nat×jC)
def nJ:Shape→Type
 | ⟨s,[]⟩=>wG T s
 | ⟨s,o::os⟩=>wG T s×mI T (o::os)
def Out:List (Ex×Shape)→Type
 | []=>Empty
 | [(_,s)]=>nJ T s
 | (_,s)::h::l=>nJ T s⊕Out (h::l)
end
structure fU where
 T:Nat→Type
 d:(n:Nat)→T n
 lf:Nat→List Ty
 to:(n:Nat)→lC T (lf n)→T n
 of:(n:Nat)→T n→lC T (lf n)
 enc:(n:Nat)→T n→V
 ty:TypeId→Option Ty
 gl:Nat→Option ((k:IntKind)×(n:Nat)×Vec n)
structure FR (R:fU) where
 args:List Sk
 res:List Sk
 F:aA R.T args→Option (aA R.T res)
 d:aA R.T res
 own:Bool:=false
structure FI (R:fU) where
 a:List Sk
 b:List Sk
 el:List Sk
 F:aA R.T a→aA R.T b→Option (List (aA R.T el))
def F0:Nat:=1000000
structure FM (R:fU) where
 args:List Sk
 obs:List (Nat×jC)
 res:List Sk
 F:aA R.T args→mI R.T obs→Option (aA R.T res×mI R.T obs)
structure IR (R:fU) where
 it:Nat→List (FI R)
 im:Nat→List (FM R)
structure Note where
 K:List Nat
 O:List Nat
 sh:Shape
 outs:List (Ex×Shape)
structure bC where
 loops:List (Nat×Note)
 joins:List (Nat×Note)
def look {α:Type}:List (Nat×α)→Nat→Option α
 | [],_=>none
 | (j,x)::l,i=>bif Nat.beq j i then some x else look l i
section
variable (R:fU)
def aG:(t:Ty)→Den R.T t→V
 |.int k=>fun n=>.int k n
 |.bool=>fun b=>.bool b
 |.str=>fun s=>.str s
 |.slice t=>fun l=>.aj .sh (l.map (aG t))
 |.st n=>fun x=>R.enc n x
def encs:(l:List Ty)→lC R.T l→List V
 | [],_=>[]
 | [t],x=>[aG R t x]
 |t::u::l,p=>aG R t p.1::encs (u::l) p.2
def bW:Ty→Nat
 |.st n=>(R.lf n).length
 |_=>1
def yO:(t:Ty)→Den R.T t
 |.int _=>(0:Int)
 |.bool=>false
 |.str=>([]:List UInt8)
 |.slice t=>([]:List (Den R.T t))
 |.st n=>R.d n
def uR (c:Cp):(t:Ty)→Den R.T t→TV R.T
 |.int k=>fun n=>.int k n
 |.bool=>fun b=>.bool b
 |.str=>fun s=>.str s
 |.slice t=>fun l=>.aj c t l
 |.st _=>fun _=>.undef
def iU (c:Cp):(l:List Ty)→lC R.T l→List (TV R.T)
 | [],_=>[]
 | [t],x=>[uR R c t x]
 |t::u::l,p=>uR R c t p.1::iU c (u::l) p.2
def eG (c:Cp):(t:Ty)→Den R.T t→TV R.T
 |.st n=>fun x=>.agg (iU R c (R.lf n) (R.of n x))
 |.int k=>fun n=>.int k n
 |.bool=>fun b=>.bool b
 |.str=>fun s=>.str s
 |.slice t=>fun l=>.aj c t l
def oH {t u:Ty} (l:List (Den R.T t)):Option (List (Den R.T u)):=if h:t=u then some (h▸l) else none
def Hw (k:IntKind):TV R.T→Option Int
 |.int k' n=>if k=k' then some n else none
 |_=>none
def Hy:TV R.T→Option Bool
 |.bool b=>some b
 |.fH b=>some b
 |_=>none
def Hz:TV R.T→Option (List UInt8)
 |.str s=>some s
 |_=>none
def wH (t:Ty):TV R.T→Option (List (Den R.T t))
 |.aj _ _ l=>oH R l
 |.dW=>some []
 |_=>none
def nK:(t:Ty)→TV R.T→Option (Den R.T t)
 |.int k=>fun v=>Hw R k v
 |.bool=>fun v=>Hy R v
 |.str=>fun v=>Hz R v
 |.slice t=>fun v=>wH R t v
 |.st _=>fun _=>none
def hd1:List (TV R.T)→TV R.T
 | [v]=>v
 |_=>.gone
def uS:(l:List Ty)→List (TV R.T)→Option (lC R.T l)
 | []=>fun vs=>match vs with
   | []=>some ()
   |_::_=>none
 | [t]=>fun vs=>nK R t (hd1 R vs)
 |t::u::l=>fun vs=>match vs with
  | []=>none
  |v::vs=>match nK R t v with
   |some x=>match uS (u::l) vs with
    |some p=>some (x,p)
    |none=>none
   |none=>none
def wI (n:Nat):TV R.T→Option (R.T n)
 |.agg cs=>match uS R (R.lf n) cs with
  |some p=>some (R.to n p)
  |none=>none
 |_=>none
def mJ:(t:Ty)→TV R.T→Option (Den R.T t)
 |.st n=>fun v=>wI R n v
 |.int k=>fun v=>Hw R k v
 |.bool=>fun v=>Hy R v
 |.str=>fun v=>Hz R v
 |.slice t=>fun v=>wH R t v
def TV.cells {T:Nat→Type}:TV T→List (TV T)
 |.agg cs=>cs
 |v=>[v]
mutual
def jV {T:Nat→Type} (o:Nat):TV T→Bool
 |.ref p _=>Nat.beq p o
 |.bN p=>Nat.beq p o
 |.agg cs=>kR o cs
 |.bA cs=>kR o cs
 |.aI cs _=>kR o cs
 |.fn _ a b=>kR o a||kR o b
 |.opt _ _ v=>jV o v
 |.vw p _=>Nat.beq p o
 |.jk p _ _ _=>Nat.beq p o
 |.sv p _ _ _ _ _=>Nat.beq p o
 |.sel p _ _ _ _ _=>Nat.beq p o
 |_=>false
def kR {T:Nat→Type} (o:Nat):List (TV T)→Bool
 | []=>false
 |v::l=>jV o v||kR o l
end
def Ob.jV {T:Nat→Type} (o:Nat):Ob T→Bool
 |.cells cs=>kR o cs
 |.smap ks vs=>kR o ks||kR o vs
 |.ro b=>Ob.jV o b
 |_=>false
mutual
def wk {T:Nat→Type} (t:Nat):TV T→TV T
 |.aj (.own u) ty l=>bif Nat.beq u t then .aj .any ty l else .aj (.own u) ty l
 |.agg cs=>.agg (qY t cs)
 |.bA cs=>.bA (qY t cs)
 |.aI cs off=>.aI (qY t cs) off
 |.fn f a b=>.fn f (qY t a) (qY t b)
 |.opt j w v=>.opt j w (wk t v)
 |v=>v
def qY {T:Nat→Type} (t:Nat):List (TV T)→List (TV T)
 | []=>[]
 |v::l=>wk t v::qY t l
end
def Ob.wk {T:Nat→Type} (t:Nat):Ob T→Ob T
 |.cells cs=>.cells (qY t cs)
 |.smap ks vs=>.smap (qY t ks) (qY t vs)
 |.ro b=>.ro (Ob.wk t b)
 |o=>o
def jW {α:Type} (f:α→α):List (Nat×α)→List (Nat×α)
 | []=>[]
 | (i,x)::l=>(i,f x)::jW f l
def fV {α:Type} (i:Nat):List (Nat×α)→List (Nat×α)
 | []=>[]
 | (j,x)::l=>bif Nat.beq j i then fV i l else (j,x)::fV i l
def MS.wk {T:Nat→Type} (t:Nat) (st:MS T):MS T:=⟨jW (Aq.wk t) st.fr,jW (Ob.wk t) st.ob⟩
def NY {T:Nat→Type} (j:Nat):TV T→TV T
 |.opt i w v=>bif Nat.beq i j then .gone else .opt i w v
 |v=>v
def MS.put {T:Nat→Type} (st:MS T) (i:Nat) (v:TV T):MS T:={st with fr:=(i,v)::jW (NY i) (fV i st.fr)}
def MS.dQ {T:Nat→Type} (st:MS T) (d:Option Nat) (v:TV T):MS T:=match d with
 |some i=>st.put i v
 |none=>st
def NZ {T:Nat→Type} (j:Nat) (b:Bool):TV T→TV T
 |.opt i w v=>bif Nat.beq i j then (bif (b==w) then v else .undef) else .opt i w v
 |v=>v
def MS.learn {T:Nat→Type} (st:MS T) (j:Nat) (b:Bool):MS T:={st with fr:=(j,.fH b)::jW (NZ j b) (fV j st.fr)}
def MS.yP {T:Nat→Type} (st:MS T) (c:Operand) (b:Bool):MS T:=match c with
 |.tmp j=>st.learn j b
 |_=>st
def Cr {T:Nat→Type} (o:Nat) (v:TV T):TV T:=bif jV o v then .gone else v
def Ob.kill {T:Nat→Type} (o:Nat) (v:Ob T):Ob T:=bif Ob.jV o v then .gone else v
def MS.new {T:Nat→Type} (st:MS T) (o:Nat) (b:Ob T):MS T:=⟨jW (Cr o) st.fr,(o,b)::jW (Ob.kill o) (fV o st.ob)⟩
def MS.set {T:Nat→Type} (st:MS T) (o:Nat) (b:Ob T):MS T:={st with ob:=(o,b)::fV o st.ob}
def MS.del {T:Nat→Type} (st:MS T) (o:Nat):MS T:={st with ob:=fV o st.ob}
def N7 {T:Nat→Type}:Ob T→Ob T
 |.ro b=>N7 b
 |b=>b
def kS {T:Nat→Type} (st:MS T) (o:Nat):Option (Ob T):=match look st.ob o with
 |some b=>some (N7 b)
 |none=>none
def mK {T:Nat→Type}:Ob T→Bool
 |.ro _=>true
 |.gone=>true
 |_=>false
def aP (i:Nat):List Nat→Bool
 | []=>false
 |j::l=>Nat.beq i j||aP i l
mutual
def solid {T:Nat→Type} (W:List Nat):TV T→Bool
 |.aj (.own _) _ _=>false
 |.ref o _=> !(aP o W)
 |.bN o=> !(aP o W)
 |.agg cs=>oI W cs
 |.bA cs=>oI W cs
 |.aI cs _=>oI W cs
 |.fn _ a b=>oI W a&& oI W b
 |.opt _ _ _=>false
 |.vw o _=> !(aP o W)
 |.jk o _ _ _=> !(aP o W)
 |.sv o _ _ _ _ _=> !(aP o W)
 |.sel o _ _ _ _ _=> !(aP o W)
 |.gone=>false
 |_=>true
def oI {T:Nat→Type} (W:List Nat):List (TV T)→Bool
 | []=>true
 |v::l=>solid W v&& oI W l
end
def kT {T:Nat→Type} (W:List Nat):Ob T→Bool
 |.cells cs=>oI W cs
 |.map _ _ _=>true
 |.smap ks vs=>oI W ks&& oI W vs
 |.arr _ _=>true
 |.sg _=>true
 |.ro b=>kT W b
 |.gone=>false
def lD {α:Type} (p:Nat→α→Bool) (f:α→α) (l:List (Nat×α)):List Nat→List (Nat×α)
 | []=>[]
 |i::is=>match look l i with
  |some x=>bif p i x then (i,f x)::lD p f l is else lD p f l is
  |none=>lD p f l is
def N8 {T:Nat→Type}:TV T→TV T
 |.aj (.own _) t l=>.aj .any t l
 |v=>v
def base {T:Nat→Type} (W K O:List Nat) (mark:Ob T→Ob T) (st:MS T):MS T:=
 ⟨lD (fun i v=> !(aP i W)&& solid W (N8 v)) N8 st.fr K,lD (fun o b=> !(aP o W)&& kT W b) mark st.ob O⟩
def MS.over {T:Nat→Type} (st b:MS T):MS T:=⟨st.fr++b.fr,st.ob++b.ob⟩
def wJ {T:Nat→Type}:Value→Option (TV T)
 |.bool b=>some (.fH b)
 |.int k n=>some (.int k n)
 |.string s=>some (.str s.data.toList)
 |.pointer none=>some .eu
 |.slice none 0 0=>some .dW
 |.map none=>some .dP
 |.nilFunc=>some .dU
 |.nilIface=>some .fB
 |_=>none
def yQ {T:Nat→Type}:List Value→Option (List (TV T))
 | []=>some []
 |v::l=>match wJ v with
  |some x=>match yQ l with
   |some y=>some (x::y)
   |none=>none
  |none=>none
def yR {T:Nat→Type}:Value→Option (TV T)
 |.agg cs=>match yQ cs.toList with
  |some l=>some (.agg l)
  |none=>none
 |v=>wJ v
def HV {T:Nat→Type} (g:List (Nat×Bool)):TV T→Option (TV T)
 |.opt j w v=>match look g j with
  |some u=>some (bif u==w then v else .undef)
  |none=>none
 |v=>some v
def aZ {T:Nat→Type} (g:List (Nat×Bool)) (st:MS T):Operand→Option (TV T)
 |.tmp t=>match look st.fr t with
  |some v=>HV g v
  |none=>none
 |.const v=>yR v
 |.func f=>some (.fn f [] [])
 |.global _=>none
def lF {T:Nat→Type} (g:List (Nat×Bool)) (st:MS T):List Operand→Option (List (TV T))
 | []=>some []
 |x::l=>match aZ g st x with
  |some v=>match lF g st l with
   |some vs=>some (v::vs)
   |none=>none
  |none=>none
def yS {T:Nat→Type} (g:List (Nat×Bool)) (st:MS T):List (Nat×Operand)→Option (List (Nat×TV T))
 | []=>some []
 | (i,x)::l=>match aZ g st x with
   |some v=>match yS g st l with
    |some vs=>some ((i,v)::vs)
    |none=>none
   |none=>none
def mM:List Sg→Nat→Option (List Sg×List Sg)
 |ss,0=>some ([],ss)
 | [],_+1=>none
 |s::ss,n+1=>bif Nat.ble s.w (n+1) then (match mM ss (n+1-s.w) with
  |some (a,b)=>some (s::a,b)
  |none=>none) else none
def wK {T:Nat→Type} (k:IntKind):List (TV T)→Option (List Int)
 | []=>some []
 |.int k' x::l=>if k'=k then (match wK k l with
  |some xs=>some (x::xs)
  |none=>none) else none
 |_=>none
def yT {α:Type} (l:List α):Option Int→Option Int→List α
 |none,none=>l
 |some i,none=>l.drop i.toNat
 |none,some j=>l.take j.toNat
 |some i,some j=>(l.take j.toNat).drop i.toNat
def HY {T:Nat→Type} (st:MS T) (o off:Nat) (k:IntKind) (n:Nat) (lo hi:Option Int):Option (List Int):=
 match kS st o with
 |some (.sg ss)=>match mM ss off with
  |some (_,.a k' n' v::_)=>if k'=k then (bif Nat.beq n' n then some (yT v.l lo hi) else none) else none
  |_=>none
 |some (.cells cs)=>bif Nat.ble (off+n) cs.length then (match wK k ((cs.drop off).take n) with
  |some l=>some (yT l lo hi)
  |none=>none) else none
 |_=>none
def qZ {T:Nat→Type} (st:MS T):TV T→TV T
 |.ref o off=>match kS st o with
  |some (.cells cs)=>.aI cs off
  |_=>.ref o off
 |.bN o=>match kS st o with
  |some (.map k e m)=>.cK k e m
  |_=>.bN o
 |.vw o t=>match kS st o with
  |some (.arr t' l)=>if t'=t then .aj .sh t' l else .vw o t
  |_=>.vw o t
 |.sv o off k n lo hi=>match HY st o off k n lo hi with
  |some l=>.aj .sh (.int k) l
  |none=>.sv o off k n lo hi
 |v=>v
def Ct {T:Nat→Type} (st:MS T):List (TV T)→List (TV T)
 | []=>[]
 |v::l=>qZ st v::Ct st l
def wL {T:Nat→Type} (st:MS T):TV T→TV T
 |.fn f a b=>.fn f (Ct st a) (Ct st b)
 |.agg cs=>.agg (Ct st cs)
 |v=>qZ st v
def lW {T:Nat→Type} (st:MS T):List (TV T)→List (TV T)
 | []=>[]
 |v::l=>wL st v::lW st l
def N9 {T:Nat→Type}:TV T→Bool
 |.agg _=>false
 |.sg _=>false
 |.bA _=>false
 |.gone=>false
 |.undef=>false
 |.opt _ _ _=>false
 |_=>true
def uT {T:Nat→Type}:List (TV T)→Bool
 | []=>true
 |v::l=>N9 v&& uT l
def uU {T:Nat→Type}:TV T→Bool
 |.gone=>false
 |.sg _=>false
 |.opt _ _ _=>false
 |_=>true
mutual
def jw {T:Nat→Type}:TV T→Bool
 |.int _ _=>true
 |.bool _=>true
 |.fH _=>true
 |.str _=>true
 |.eu=>true
 |.dU=>true
 |.dP=>true
 |.fB=>true
 |.aj .sh _ _=>true
 |.agg cs=>nL cs
 |.bA cs=>nL cs
 |.cK _ _ _=>true
 |.aI cs _=>nL cs
 |.fn _ a b=>nL a&& nL b
 |.sg _=>true
 |_=>false
def nL {T:Nat→Type}:List (TV T)→Bool
 | []=>true
 |v::l=>jw v&& nL l
end
def Cu {T:Nat→Type}:TV T→Bool
 |.aj _ _ _=>true
 |.dW=>true
 |v=>jw v
def HZ {T:Nat→Type}:List (TV T)→Bool
 | []=>true
 |v::l=>Cu v&& HZ l
def VQ {T:Nat→Type}:TV T→Bool
 |.agg cs=>HZ cs
 |v=>Cu v
def uV {T:Nat→Type}:List (TV T)→Bool
 | []=>true
 |v::l=>VQ v&& uV l
mutual
def jX:Sk→Bool
 |.d _=>true
 |.l c _=>match c with
  |.any=>true
  |.sh=>true
  |_=>false
 |.agg l=>gJ l
 |.aI l _=>gJ l
 |.cK _ _=>true
 |.fn _ a b=>gJ a&& gJ b
 |.sg _=>true
 |_=>false
def gJ:List Sk→Bool
 | []=>true
 |k::l=>jX k&& gJ l
def dep:Sk→Nat
 |.agg l=>mO l+3
 |.aI l _=>mO l+3
 |.fn _ a b=>max (mO a) (mO b)+3
 |_=>3
def mO:List Sk→Nat
 | []=>0
 |k::l=>max (dep k) (mO l)
end
def Oa:Ty→Bool
 |.int _=>true
 |.bool=>true
 |.str=>true
 |_=>false
def yU:List Sk→Bool
 | []=>true
 |.d t::l=>Oa t&& yU l
 |.sg _::l=>yU l
 |_=>false
mutual
def encS:(k:Sk)→oG R.T k→V
 |.d t,x=>aG R t x
 |.l _ t,x=>aG R (.slice t) x
 |.agg l,x=>.agg (bD l x)
 |.aI l off,x=>.aI (bD l x) off
 |.cK k e,x=>.cK (List.map (fun p=>aG R k p.1) x) (List.map (fun p=>aG R e p.2) x)
 |.fn f a b,x=>.fn (.func f) (bD a x.1) (bD b x.2)
 |.dW,_=>.aj .sh []
 |.ref _ _,_=>aC
 |.bN _,_=>aC
 |.vw _ _,_=>aC
 |.sg l,x=>.agg (bH (qF l x))
 |.undef,_=>aC
def bD:(l:List Sk)→aA R.T l→List V
 | [],_=>[]
 | [k],x=>[encS k x]
 |k::h::l,p=>encS k p.1::bD (h::l) p.2
end
def kU:List V→V
 | [v]=>v
 |vs=>.bA vs
def yV:Cp→Cp→Bool
 |_,.any=>true
 |.sh,.sh=>true
 |.nil,.nil=>true
 |.nil,.own _=>true
 |.full,.own _=>true
 |.full,.full=>true
 |.own t,.own u=>Nat.beq t u
 |_,_=>false
def H6 (c:Cp) (t:Ty):TV R.T→Option (List (Den R.T t))
 |.aj c' _ l=>bif yV c' c then oH R l else none
 |.dW=>bif yV .nil c then some [] else none
 |_=>none
def yX {k e k' e':Ty} (m:List (Den R.T k'×Den R.T e')):Option (List (Den R.T k×Den R.T e)):=if h:k'=k∧e'=e then some (by rw[←h.1,←h.2];exact m) else none
mutual
def pk:(k:Sk)→TV R.T→Option (oG R.T k)
 |.d t=>fun v=>mJ R t v
 |.l c t=>fun v=>H6 R c t v
 |.agg l=>fun v=>match v with
  |.agg cs=>eX l cs
  |_=>none
 |.ref o off=>fun v=>match v with
  |.ref p off'=>bif Nat.beq p o&& Nat.beq off' off then some () else none
  |_=>none
 |.aI l off=>fun v=>match v with
  |.aI cs off'=>bif Nat.beq off' off then eX l cs else none
  |_=>none
 |.bN o=>fun v=>match v with
  |.bN p=>bif Nat.beq p o then some () else none
  |_=>none
 |.cK k e=>fun v=>match v with
  |.cK _ _ m=>yX R m
  |_=>none
 |.fn f a b=>fun v=>match v with
  |.fn f' a' b'=>bif Nat.beq f' f then (match eX a a' with
   |some x=>match eX b b' with
    |some y=>some (x,y)
    |none=>none
   |none=>none) else none
  |_=>none
 |.dW=>fun v=>match v with
  |.dW=>some ()
  |_=>none
 |.vw o t=>fun v=>match v with
  |.vw p t'=>bif Nat.beq p o then (if t'=t then some () else none) else none
  |_=>none
 |.sg l=>fun v=>match v with
  |.sg ss=>sJ l ss
  |_=>none
 |.undef=>fun v=>match v with
  |.undef=>some ()
  |_=>none
def eX:(l:List Sk)→List (TV R.T)→Option (aA R.T l)
 | []=>fun vs=>match vs with
   | []=>some ()
   |_::_=>none
 | [k]=>fun vs=>match vs with
   | [v]=>pk k v
   |_=>none
 |k::h::l=>fun vs=>match vs with
  | []=>none
  |v::vs=>match pk k v with
   |some x=>match eX (h::l) vs with
    |some p=>some (x,p)
    |none=>none
   |none=>none
end
mutual
def up (c:Cp):(k:Sk)→oG R.T k→TV R.T
 |.d t,x=>eG R c t x
 |.l c t,x=>.aj c t x
 |.agg l,x=>.agg (iy c l x)
 |.ref o off,_=>.ref o off
 |.aI l off,x=>.aI (iy c l x) off
 |.bN o,_=>.bN o
 |.cK k e,x=>.cK k e x
 |.fn f a b,x=>.fn f (iy c a x.1) (iy c b x.2)
 |.dW,_=>.dW
 |.vw o t,_=>.vw o t
 |.sg l,x=>.sg (qF l x)
 |.undef,_=>.undef
def iy (c:Cp):(l:List Sk)→aA R.T l→List (TV R.T)
 | [],_=>[]
 | [k],x=>[up c k x]
 |k::h::l,p=>up c k p.1::iy c (h::l) p.2
end
def uW:(k:jC)→Ob R.T→Option (uQ R.T k)
 |.cells l=>fun o=>match o with
  |.cells cs=>eX R l cs
  |_=>none
 |.st n=>fun o=>match o with
  |.cells cs=>wI R n (.agg cs)
  |_=>none
 |.map k e=>fun o=>match o with
  |.map _ _ m=>yX R m
  |_=>none
 |.arr t=>fun o=>match o with
  |.arr _ l=>oH R l
  |_=>none
 |.sg l=>fun o=>match o with
  |.sg ss=>sJ l ss
  |_=>none
def jL:(k:jC)→uQ R.T k→Ob R.T
 |.cells l,x=>.cells (iy R .any l x)
 |.st n,x=>.cells (iU R .any (R.lf n) (R.of n x))
 |.map k e,x=>.map k e x
 |.arr t,x=>.arr t x
 |.sg l,x=>.sg (qF l x)
def oJ (st:List (Nat×TV R.T)):(l:List (Nat×Sk))→Option (wG R.T l)
 | []=>some ()
 | [(i,k)]=>match look st i with
   |some v=>pk R k v
   |none=>none
 | (i,k)::h::l=>match look st i with
   |some v=>match pk R k v with
    |some x=>match oJ st (h::l) with
     |some p=>some (x,p)
     |none=>none
    |none=>none
   |none=>none
def Cv:(l:List (Nat×Sk))→wG R.T l→List (Nat×TV R.T)
 | [],_=>[]
 | [(i,k)],x=>[(i,up R .any k x)]
 | (i,k)::h::l,p=>(i,up R .any k p.1)::Cv (h::l) p.2
def kV (st:List (Nat×Ob R.T)):(l:List (Nat×jC))→Option (mI R.T l)
 | []=>some ()
 | [(i,k)]=>match look st i with
   |some v=>uW R k v
   |none=>none
 | (i,k)::h::l=>match look st i with
   |some v=>match uW R k v with
    |some x=>match kV st (h::l) with
     |some p=>some (x,p)
     |none=>none
    |none=>none
   |none=>none
def jM:(l:List (Nat×jC))→mI R.T l→List (Nat×Ob R.T)
 | [],_=>[]
 | [(i,k)],x=>[(i,jL R k x)]
 | (i,k)::h::l,p=>(i,jL R k p.1)::jM (h::l) p.2
def pack (st:MS R.T):(s:Shape)→Option (nJ R.T s)
 | ⟨s,[]⟩=>oJ R st.fr s
 | ⟨s,o::os⟩=>match oJ R st.fr s with
   |some x=>match kV R st.ob (o::os) with
    |some y=>some (x,y)
    |none=>none
   |none=>none
def yY {T:Nat→Type}:TV T→Bool
 |.dW=>true
 |.aj .nil _ l=>l.isEmpty
 |.aj .full _ l=>l.isEmpty
 |_=>false
def nM {T:Nat→Type} (W:List Nat):List (Nat×Sk)→MS T→MS T
 | [],st=>st
 | (i,.vw o t)::l,st=>match look st.fr i with
   |some v=>bif yY v&& aP o W then nM W l ⟨(i,.vw o t)::(st.new o (.arr t [])).fr,(st.new o (.arr t [])).ob⟩ else nM W l st
   |none=>nM W l st
 |_::l,st=>nM W l st
def jN (W:List Nat) (st:MS R.T) (s:Shape):Option (nJ R.T s):=pack R (nM W s.sl st) s
def unpack:(s:Shape)→nJ R.T s→MS R.T
 | ⟨s,[]⟩,x=>⟨Cv R s x,[]⟩
 | ⟨s,o::os⟩,x=>⟨Cv R s x.1,jM R (o::os) x.2⟩
def wM:Ex→Ex→Bool
 |.normal,.normal=>true
 |.ret,.ret=>true
 |.exit i,.exit j=>Nat.beq i j
 |_,_=>false
def pO (W:List Nat) (e:Ex) (st:MS R.T):(l:List (Ex×Shape))→Option (Out R.T l)
 | []=>none
 | [(x,s)]=>bif wM e x then jN R W st s else none
 | (x,s)::h::l=>bif wM e x then (match jN R W st s with
   |some p=>some (.inl p)
   |none=>none) else (match pO W e st (h::l) with
   |some p=>some (.inr p)
   |none=>none)
def ru {β:Type} (b:MS R.T) (k:Ex→MS R.T→Option β):(l:List (Ex×Shape))→Out R.T l→Option β
 | [],_=>none
 | [(x,s)],p=>k x (b.over (unpack R s p))
 | (x,s)::h::l,p=>Sum.elim (fun q=>k x (b.over (unpack R s q))) (fun q=>ru b k (h::l) q) p
end
end Aq
end
