/- Part of the proof of a law. -/
import Derived.Test.YtdcnajadcbedkaaGreatDoorS705
set_option linter.all false
set_option linter.unusedSimpArgs false
set_option linter.unusedSectionVars false
section
namespace Aq
open Go
def Is {α:Type} (a b:α):Prop:=a=b
theorem Is.rfl {α:Type} {a:α}:Is a a:=Eq.refl a
def iv (n:Int):V:=.int .i64 n
def lv {α:Type} (f:α→V) (l:List α):V:=.aj .sh (l.map f)
theorem SV {α:Type} {f:α→V} (h:∀x,aD (f x)=true):∀l:List α,aP (l.map f)=true
 | []=>by simp[aP]
 |a::l=>by simp[aP,h a,SV h l]
theorem CG {α:Type} {f:α→V} (h:∀x,aD (f x)=true) (l:List α):aD (.aj .sh (l.map f))=true:=by
 simp only[aD];exact SV h l
theorem iI {α:Type} {f:α→V} (h:∀x,aD (f x)=true) (l:List α):aD (lv f l)=true:=CG h l
theorem ab1 (n:Int):aD (iv n)=true:=by simp[iv,aD]
theorem je (l:List (List UInt8)):aD (lv V.str l)=true:=iI (fun _=>by simp[aD]) l
theorem jf (l:List Int):aD (lv iv l)=true:=iI ab1 l
theorem jg (k:IntKind) (l:List Int):aD (lv (V.int k) l)=true:=iI (fun _=>by simp[aD]) l
theorem jh (l:List Bool):aD (lv V.bool l)=true:=iI (fun _=>by simp[aD]) l
attribute [go_sem] je jf jg jh
def dx {α:Type} (l:List α) (i:Int):Option α:=if 0≤i∧i<l.length then l[i.toNat]? else none
def l5 (P:Program) (t:TypeId):Bool:=match P.underlying t with
 |some (.slice _)=>true
 |_=>false
def CJ (P:Program) (t:TypeId):Bool:=match P.underlying t with
 |some .string=>true
 |_=>false
section
variable {E:Env} {fr:Fr} {σ:ah}
def NQ (Q:Ex→Fr→ah→Prop) (fr:Fr) (σ:ah):Prop:=Q .normal fr σ
theorem NQ.i {Q:Ex→Fr→ah→Prop} (h:Q .normal fr σ):NQ Q fr σ:=h
theorem bH.n {b:Code} {Q:Ex→Fr→ah→Prop} (h:CW E b fr σ Q):bH E b Q .normal fr σ:=h
theorem bH.x {b:Code} {i:Nat} {Q:Ex→Fr→ah→Prop} (h:Q (.exit i) fr σ):bH E b Q (.exit i) fr σ:=h
theorem bH.r {b:Code} {Q:Ex→Fr→ah→Prop} (h:Q .ret fr σ):bH E b Q .ret fr σ:=h
theorem kK.n {id:Nat} {Q:Ex→Fr→ah→Prop} (h:Q .normal fr σ):kK id Q .normal fr σ:=h
theorem kK.r {id:Nat} {Q:Ex→Fr→ah→Prop} (h:Q .ret fr σ):kK id Q .ret fr σ:=h
theorem kK.hit {id:Nat} {Q:Ex→Fr→ah→Prop} (h:Q .normal fr σ):kK id Q (.exit id) fr σ:=by simp only[kK,if_true];exact h
theorem mU.n {c:Code} {Q:Ex→Fr→ah→Prop} (h:CW E (.loop c) fr σ Q):mU E c Q .normal fr σ:=h
theorem mU.x {c:Code} {i:Nat} {Q:Ex→Fr→ah→Prop} (h:Q (.exit i) fr σ):mU E c Q (.exit i) fr σ:=h
theorem mU.r {c:Code} {Q:Ex→Fr→ah→Prop} (h:Q .ret fr σ):mU E c Q .ret fr σ:=h
theorem CW.uT {c:Operand} {a b:Code} {Q:Ex→Fr→ah→Prop} (hc:Is (fr.ev E c) (.bool true)) (h:CW E a fr σ Q):CW E (.cond c a b) fr σ Q:=CW.cond hc (fun _=>h) (fun h=>by cases h)
theorem CW.qJ {c:Operand} {a b:Code} {Q:Ex→Fr→ah→Prop} (hc:Is (fr.ev E c) (.bool false)) (h:CW E b fr σ Q):CW E (.cond c a b) fr σ Q:=CW.cond hc (fun h=>by cases h) (fun _=>h)
theorem OW.o1 {all:List Oper} {st:Nat} {d:Tmp} {op:Op} {ty:TypeId} {pos:String} {bA:Array Edge} {gd:Option (Nat×Bool)} {os:List Oper} {v:V} {σ1:ah} {Q:Fr→ah→Prop} (hw:Is (dH all fr ⟨some d,op,ty,pos,bA,gd⟩) (some true))
 (hop:∀S,Is (opC E S fr σ st ⟨some d,op,ty,pos,bA,gd⟩) (some (v,fr,σ1))) (h:OW E all (st+1) os (fr.set d v) σ1 Q):OW E all st (⟨some d,op,ty,pos,bA,gd⟩::os) fr σ Q:=OW.op hw hop h
theorem OW.o0 {all:List Oper} {st:Nat} {op:Op} {ty:TypeId} {pos:String} {bA:Array Edge} {gd:Option (Nat×Bool)} {os:List Oper} {v:V} {σ1:ah} {Q:Fr→ah→Prop} (hw:Is (dH all fr ⟨none,op,ty,pos,bA,gd⟩) (some true))
 (hop:∀S,Is (opC E S fr σ st ⟨none,op,ty,pos,bA,gd⟩) (some (v,fr,σ1))) (h:OW E all (st+1) os fr σ1 Q):OW E all st (⟨none,op,ty,pos,bA,gd⟩::os) fr σ Q:=OW.op hw hop h
theorem OW.s1 {all:List Oper} {st:Nat} {d:Tmp} {op:Op} {ty:TypeId} {pos:String} {bA:Array Edge} {gd:Option (Nat×Bool)} {os:List Oper} {Q:Fr→ah→Prop} (hw:Is (dH all fr ⟨some d,op,ty,pos,bA,gd⟩) (some false))
 (h:OW E all (st+1) os (fr.set d aA) σ Q):OW E all st (⟨some d,op,ty,pos,bA,gd⟩::os) fr σ Q:=OW.skip hw h
theorem OW.s0 {all:List Oper} {st:Nat} {op:Op} {ty:TypeId} {pos:String} {bA:Array Edge} {gd:Option (Nat×Bool)} {os:List Oper} {Q:Fr→ah→Prop} (hw:Is (dH all fr ⟨none,op,ty,pos,bA,gd⟩) (some false))
 (h:OW E all (st+1) os fr σ Q):OW E all st (⟨none,op,ty,pos,bA,gd⟩::os) fr σ Q:=OW.skip hw h
theorem dJ.o1 {ms:List Nat} {all:List Oper} {st:Nat} {d:Tmp} {op:Op} {ty:TypeId} {pos:String} {bA:Array Edge} {gd:Option (Nat×Bool)} {os:List Oper} {v:V} {σ1:ah} {fs:List bD} {f:bD} {Q:Fr→ah→Prop} (hw:Is (dH all fr ⟨some d,op,ty,pos,bA,gd⟩) (some true))
 (hop:∀S,Is (opC E S fr σ st ⟨some d,op,ty,pos,bA,gd⟩) (some (v,fr,σ1))) (hf:Is (eZ E all fr ⟨some d,op,ty,pos,bA,gd⟩ true) f) (h:dJ E ms all (st+1) os (fr.set d v) σ1 (fs++[f]) Q):dJ E ms all st (⟨some d,op,ty,pos,bA,gd⟩::os) fr σ fs Q:=
 dJ.op hw hop (by rw[hf];exact h)
theorem dJ.o0 {ms:List Nat} {all:List Oper} {st:Nat} {op:Op} {ty:TypeId} {pos:String} {bA:Array Edge} {gd:Option (Nat×Bool)} {os:List Oper} {v:V} {σ1:ah} {fs:List bD} {f:bD} {Q:Fr→ah→Prop} (hw:Is (dH all fr ⟨none,op,ty,pos,bA,gd⟩) (some true))
 (hop:∀S,Is (opC E S fr σ st ⟨none,op,ty,pos,bA,gd⟩) (some (v,fr,σ1))) (hf:Is (eZ E all fr ⟨none,op,ty,pos,bA,gd⟩ true) f) (h:dJ E ms all (st+1) os fr σ1 (fs++[f]) Q):dJ E ms all st (⟨none,op,ty,pos,bA,gd⟩::os) fr σ fs Q:=
 dJ.op hw hop (by rw[hf];exact h)
theorem dJ.s1 {ms:List Nat} {all:List Oper} {st:Nat} {d:Tmp} {op:Op} {ty:TypeId} {pos:String} {bA:Array Edge} {gd:Option (Nat×Bool)} {os:List Oper} {fs:List bD} {f:bD} {Q:Fr→ah→Prop} (hw:Is (dH all fr ⟨some d,op,ty,pos,bA,gd⟩) (some false))
 (hf:Is (eZ E all fr ⟨some d,op,ty,pos,bA,gd⟩ false) f) (h:dJ E ms all (st+1) os (fr.set d aA) σ (fs++[f]) Q):dJ E ms all st (⟨some d,op,ty,pos,bA,gd⟩::os) fr σ fs Q:=dJ.skip hw (by rw[hf];exact h)
theorem dJ.s0 {ms:List Nat} {all:List Oper} {st:Nat} {op:Op} {ty:TypeId} {pos:String} {bA:Array Edge} {gd:Option (Nat×Bool)} {os:List Oper} {fs:List bD} {f:bD} {Q:Fr→ah→Prop} (hw:Is (dH all fr ⟨none,op,ty,pos,bA,gd⟩) (some false))
 (hf:Is (eZ E all fr ⟨none,op,ty,pos,bA,gd⟩ false) f) (h:dJ E ms all (st+1) os fr σ (fs++[f]) Q):dJ E ms all st (⟨none,op,ty,pos,bA,gd⟩::os) fr σ fs Q:=dJ.skip hw (by rw[hf];exact h)
theorem OW.g1 {all:List Oper} {st:Nat} {d:Tmp} {op:Op} {ty:TypeId} {pos:String} {bA:Array Edge} {gd:Option (Nat×Bool)} {os:List Oper} {v:V} {g:Bool} {Q:Fr→ah→Prop} (hw:Is (dH all fr ⟨some d,op,ty,pos,bA,gd⟩) (some g)) (hop:g=true→∀S,Is (opC E S fr σ st ⟨some d,op,ty,pos,bA,gd⟩) (some (v,fr,σ)))
 (h:OW E all (st+1) os (fr.set d (cond g v aA)) σ Q):OW E all st (⟨some d,op,ty,pos,bA,gd⟩::os) fr σ Q:=by
 cases g with
 |true=>exact OW.op hw (hop rfl) h
 |false=>exact OW.skip hw h
theorem OW.pk {all:List Oper} {st:Nat} {d:Tmp} {c a b:Operand} {ty:TypeId} {pos:String} {bA:Array Edge} {gd:Option (Nat×Bool)} {os:List Oper} {t x y:Bool} {Q:Fr→ah→Prop} (hw:Is (dH all fr ⟨some d,.pick c a b,ty,pos,bA,gd⟩) (some true)) (hc:Is (fr.ev E c) (.bool t)) (ha:t=true→Is (fr.ev E a) (.bool x)) (hb:t=false→Is (fr.ev E b) (.bool y))
 (h:OW E all (st+1) os (fr.set d (.bool (cond t x y))) σ Q):OW E all st (⟨some d,.pick c a b,ty,pos,bA,gd⟩::os) fr σ Q:=by
 have hc':fr.ev E c= .bool t:=hc
 refine OW.op (v:=.bool (cond t x y)) (σ1:=σ) hw (fun S=> ?_) h
 cases t with
 |true=>
  have ha':fr.ev E a= .bool x:=ha rfl
  simp only[opC,aT,hc',mI,Option.map_some,if_true,ha',cond_true]
 |false=>
  have hb':fr.ev E b= .bool y:=hb rfl
  simp only[opC,aT,hc',mI,Option.map_some,Bool.false_eq_true,if_false,hb',cond_false]
theorem dJ.pk {ms:List Nat} {fs:List bD} {f:bD} {all:List Oper} {st:Nat} {d:Tmp} {c a b:Operand} {ty:TypeId} {pos:String} {bA:Array Edge} {gd:Option (Nat×Bool)} {os:List Oper} {t x y:Bool} {Q:Fr→ah→Prop} (hw:Is (dH all fr ⟨some d,.pick c a b,ty,pos,bA,gd⟩) (some true)) (hc:Is (fr.ev E c) (.bool t)) (ha:t=true→Is (fr.ev E a) (.bool x)) (hb:t=false→Is (fr.ev E b) (.bool y))
 (hf:Is (eZ E all fr ⟨some d,.pick c a b,ty,pos,bA,gd⟩ true) f) (h:dJ E ms all (st+1) os (fr.set d (.bool (cond t x y))) σ (fs++[f]) Q):dJ E ms all st (⟨some d,.pick c a b,ty,pos,bA,gd⟩::os) fr σ fs Q:=by
 have hc':fr.ev E c= .bool t:=hc
 refine dJ.op (v:=.bool (cond t x y)) (σ1:=σ) hw (fun S=> ?_) (by rw[hf];exact h)
 cases t with
 |true=>
  have ha':fr.ev E a= .bool x:=ha rfl
  simp only[opC,aT,hc',mI,Option.map_some,if_true,ha',cond_true]
 |false=>
  have hb':fr.ev E b= .bool y:=hb rfl
  simp only[opC,aT,hc',mI,Option.map_some,Bool.false_eq_true,if_false,hb',cond_false]
theorem nQ.one {r:ResultVar} {e:Ex} {v0:V} {R:V→ah→Prop} (he:∀i,e≠ .exit i) (hv:Is (jc E fr σ r) (some v0)) (hr:R v0 σ):nQ E [r] R e fr σ:=by
 have h1:[r].mapM (jc E fr σ)=some [v0]:=by rw[List.mapM_cons,hv];rfl
 cases e with
 |exit i=>exact absurd rfl (he i)
 |normal=>exact⟨[v0],h1,hr⟩
 |ret=>exact⟨[v0],h1,hr⟩
theorem nQ.aZ {rs:List ResultVar} {e:Ex} {v1 v2:V} {vs:List V} {R:V→ah→Prop} (he:∀i,e≠ .exit i) (hv:Is (rs.mapM (jc E fr σ)) (some (v1::v2::vs))) (hr:R (.aZ (v1::v2::vs)) σ):nQ E rs R e fr σ:=by
 cases e with
 |exit i=>exact absurd rfl (he i)
 |normal=>exact⟨_,hv,hr⟩
 |ret=>exact⟨_,hv,hr⟩
theorem Pure.of' {f:FuncId} {args:List V} {v:V} {fn:Func} {c:Code} (rs:List ResultVar) (hf:E.P.funcs[f]? =some fn) (hb:fn.body=some c)
 (h:∀fr σ,fr.d=1→fr.om=E.om f→(∀i,fr.tm i=args.getD i aA)→CW E c fr σ (nQ E rs (fun v0 σ=>aL 20 σ v0=some v))) (hrs:fn.results.toList=rs:=by rfl) (hok:(decide (args.length≤fn.ntmps)&& iH fn.ntmps c)=true:=by rfl) (hs:E.iZ f=none:=by rfl):Pure E f args v:=
 Pure.of hs hf hb hok (by rw[hrs];exact h _ _ rfl rfl (fun _=>rfl))
theorem ji {n:Nat} {x:V} (h:aD x=true):aL (n+1) σ x=some x:=by unfold aL;simp only[h,if_true]
theorem Mh (n:Nat) (k:IntKind) (i:Int):aL (n+1) σ (.int k i)=some (.int k i):=ji (by simp[aD])
theorem Mi (n:Nat) (b:Bool):aL (n+1) σ (.bool b)=some (.bool b):=ji (by simp[aD])
theorem Mj (n:Nat) (s:List UInt8):aL (n+1) σ (.str s)=some (.str s):=ji (by simp[aD])
theorem uU {n:Nat} {α:Type} {f:α→V} (c:Cap) (l:List α) (h:∀x,aD (f x)=true):aL (n+2) σ (.aj c (l.map f))=some (lv f l):=by
 by_cases hp:aD (.aj c (l.map f))=true
 ·rw[ji hp]
  cases c<;>simp only[aD,Bool.false_eq_true] at hp
  rfl
 ·unfold aL
  simp only[hp,if_false,Bool.false_eq_true]
  have:(l.map f).mapM (aL (n+1) σ)=some (l.map f):=by
   induction l with
   |nil=>simp
   |cons a l ih=>simp[h a,ji,ih (by cases c<;>simp_all[aD,aP])]
  rw[this];rfl
theorem ab2 (k:IntKind) (i:Int):er (.int k i)= .int k i:=rfl
theorem ab3 (b:Bool):er (.bool b)= .bool b:=rfl
theorem ab4 (s:List UInt8):er (.str s)= .str s:=rfl
theorem ab5 {α:Type} (f:α→V) (l:List α):er (lv f l)=lv f l:=rfl
theorem ab6 (c:Cap) (l:List V):er (.aj c l)= .aj .sh l:=rfl
theorem ab7 (n:Int):iv n= .int .i64 n:=rfl
theorem Mk (k:IntKind) (i:Int):aD (.int k i)=true:=by simp[aD]
theorem Ml (b:Bool):aD (.bool b)=true:=by simp[aD]
theorem SX (s:List UInt8):aD (.str s)=true:=by simp[aD]
theorem GH {P:Program} {α:Type} {t:TypeId} {c:Cap} {l:List α} {f:α→V} {k:IntKind} {i:Int}:
 lG P t (.aj c (l.map f)) (.int k i)=if l5 P t then (gN P t).bind fun e=>(bq P e).bind fun sz=>(dx l i).bind fun x=>if (f x).cells.length=sz then some (.aI (f x).cells 0) else none else none:=by
 unfold lG l5 gN
 cases hu:P.underlying t with
 |none=>rfl
 |some u=>
  cases u<;>try rfl
  rename_i e
  simp only[if_true,Option.bind_some]
  cases bq P e with
  |none=>rfl
  |some sz=>
   simp only[Option.bind_some,idx,kD,List.length_map,dx]
   split
   ·rename_i h
    simp only[Option.bind_some,List.getElem?_map]
    cases l[i.toNat]? with
    |none=>rfl
    |some x=>rfl
   ·rfl
theorem SY {P:Program} {α:Type} {t:TypeId} {l:List α} {f:α→V} {k:IntKind} {i:Int}:
 lG P t (lv f l) (.int k i)=if l5 P t then (gN P t).bind fun e=>(bq P e).bind fun sz=>(dx l i).bind fun x=>if (f x).cells.length=sz then some (.aI (f x).cells 0) else none else none:=GH
theorem ab8 {P:Program} {t:TypeId} {v:V} (h1:fZ P t=some false) (h2:bq P t=some 1):dD P t [v] 0=some v:=by simp[dD,h1,h2,lV]
theorem ab9 {t:TypeId} {α:Type} (f:α→V) (l:List α) (h:l5 E.P t=true):lH E σ t (lv f l)=some l.length:=by
 unfold l5 at h;unfold lH
 split at h
 ·rename_i e he;rw[he];simp[lv]
 ·simp at h
theorem acd {t:TypeId} (c:Cap) (l:List V) (h:l5 E.P t=true):lH E σ t (.aj c l)=some l.length:=by
 unfold l5 at h;unfold lH
 split at h
 ·rename_i e he;rw[he]
 ·simp at h
theorem ace {t:TypeId} (l:List UInt8) (h:CJ E.P t=true):lH E σ t (.str l)=some l.length:=by
 unfold CJ at h;unfold lH
 split at h
 ·rename_i he;rw[he]
 ·simp at h
end
section
variable {E:Env} {S:iM} {fr:Fr} {σ:ah} {st:Nat} {d:Option Tmp} {ty:TypeId} {pos:String} {bA:Array Edge} {gd:Option (Nat×Bool)}
theorem acf (all:List Oper) (op:Op):dH all fr ⟨d,op,ty,pos,bA,none⟩=some true:=rfl
def Mq (want:Bool):V→Option Bool
 |.bool b=>some (b==want)
 |.raw _=>none
 |_=>some false
theorem acg (w b:Bool):Mq w (.bool b)=some (b==w):=rfl
theorem ach (w:Bool):Mq w aA=some false:=rfl
theorem aci (all:List Oper) (op:Op) (j:Nat) (want:Bool):dH all fr ⟨d,op,ty,pos,bA,some (j,want)⟩=match (all[j]?).bind (·.dst) with
 |some t=>Mq want (fr.tm t)
 |none=>some false:=by
 simp only[dH]
 cases (all[j]?).bind (·.dst) with
 |none=>rfl
 |some t=>simp only;cases fr.tm t<;>rfl
theorem acj (cs:List V):V.cells (.agg cs)=cs:=rfl
theorem acn (k:IntKind) (n:Int):V.cells (.int k n)=[.int k n]:=rfl
theorem aco (k:IntKind) (n:Int):bV (.int k n)=true:=rfl
theorem acp (b:Bool):V.cells (.bool b)=[.bool b]:=rfl
theorem acr (b:Bool):bV (.bool b)=true:=rfl
theorem acs (s:List UInt8):V.cells (.str s)=[.str s]:=rfl
theorem acu (s:List UInt8):bV (.str s)=true:=rfl
theorem acv (c:Cap) (l:List V):V.cells (.aj c l)=[.aj c l]:=rfl
theorem acw (c:Cap) (l:List V):bV (.aj c l)=true:=rfl
theorem acy (l:Aq.Loc) (s o:Nat):V.cells (.ref l s o)=[.ref l s o]:=rfl
theorem acz (l:Aq.Loc) (s o:Nat):bV (.ref l s o)=true:=rfl
theorem acA (cs:List V) (o:Nat):V.cells (.aI cs o)=[.aI cs o]:=rfl
theorem acB (cs:List V) (o:Nat):bV (.aI cs o)=true:=rfl
theorem acC (f:Fn) (a b:List V):V.cells (.fn f a b)=[.fn f a b]:=rfl
theorem acD (f:Fn) (a b:List V):bV (.fn f a b)=true:=rfl
theorem acE {α:Type} (f:α→V) (l:List α):V.cells (lv f l)=[lv f l]:=rfl
theorem acF:aW []=true:=rfl
theorem S9 (x:V) (l:List V):aW (x::l)=(oneCell x&& aW l):=rfl
theorem acG (k:IntKind) (n:Int):oneCell (.int k n)=true:=rfl
theorem acH (b:Bool):oneCell (.bool b)=true:=rfl
theorem acI (s:List UInt8):oneCell (.str s)=true:=rfl
theorem acJ {α:Type} (f:α→V) (l:List α):oneCell (lv f l)=true:=rfl
theorem acK (c:Cap) (l:List V):oneCell (.aj c l)=true:=rfl
theorem acL (l:Aq.Loc) (s o:Nat):oneCell (.ref l s o)=true:=rfl
theorem acM (cs:List V) (o:Nat):oneCell (.aI cs o)=true:=rfl
theorem acN (cs:List V):bV (.agg cs)=true:=rfl
theorem acO {α:Type} (f:α→V) (l:List α):bV (lv f l)=true:=rfl
theorem acP (x:Operand):opC E S fr σ st ⟨d,.move x,ty,pos,bA,gd⟩=some (fr.ev E x,fr,σ):=rfl
theorem acQ (x:Operand):opC E S fr σ st ⟨d,.assign x,ty,pos,bA,gd⟩=some (fr.ev E x,fr,σ):=rfl
theorem Ta (c a b:Operand) (h:fr.ev E c= .bool true):opC E S fr σ st ⟨d,.pick c a b,ty,pos,bA,gd⟩=some (fr.ev E a,fr,σ):=by
 simp only[opC,aT,h,mI,Option.map_some,if_true]
theorem Tc (c a b:Operand) (h:fr.ev E c= .bool false):opC E S fr σ st ⟨d,.pick c a b,ty,pos,bA,gd⟩=some (fr.ev E b,fr,σ):=by
 simp only[opC,aT,h,mI,Option.map_some,Bool.false_eq_true,if_false]
theorem Td (op:BinOp) (t u:TypeId) (x y:Operand):opC E S fr σ st ⟨d,.binOp op t x y u,ty,pos,bA,gd⟩=(lW E.P op t (fr.ev E x) (fr.ev E y)).map fun v=>(v,fr,σ):=by
 simp only[opC,aT];cases lW E.P op t (fr.ev E x) (fr.ev E y)<;>rfl
theorem acR (op:UnOp) (t:TypeId) (x:Operand):opC E S fr σ st ⟨d,.unOp op t x,ty,pos,bA,gd⟩=(wE op (fr.ev E x)).map fun v=>(v,fr,σ):=by
 simp only[opC,aT];cases wE op (fr.ev E x)<;>rfl
theorem acS (t:TypeId) (x:Operand) (f:Nat):opC E S fr σ st ⟨d,.fieldAddr t x f,ty,pos,bA,gd⟩=(lU E.P t f).bind fun p=>match fr.ev E x with
 |.ref loc s off=>some (.ref loc s (off+p.1),fr,σ)
 |.aI cs off=>some (.aI cs (off+p.1),fr,σ)
 |_=>none:=by
 simp only[opC,aT]
 cases lU E.P t f with
 |none=>rfl
 |some p=>obtain⟨o,u⟩:=p;simp only[Option.bind_some];cases fr.ev E x<;>rfl
theorem acT (t:TypeId) (x:Operand):opC E S fr σ st ⟨d,.load t x,ty,pos,bA,gd⟩=(match fr.ev E x with
 |.ref loc s off=>(σ.bC loc s).bind fun cs=>(dD E.P t cs off).map fun v=>(v,fr,σ)
 |.aI cs off=>(dD E.P t cs off).map fun v=>(v,fr,σ)
 |_=>none):=by
 simp only[opC,aT]
 cases fr.ev E x with
 |ref loc s off=>
  simp only
  cases σ.bC loc s with
  |none=>rfl
  |some cs=>simp only[Option.bind_some];cases dD E.P t cs off<;>rfl
 |aI cs off=>simp only;cases dD E.P t cs off<;>rfl
 |_=>rfl
theorem acU (t:TypeId) (x:Operand) (i:Nat):opC E S fr σ st ⟨some i,.box t x,ty,pos,bA,gd⟩=if E.qY t=true then (if aD (fr.ev E x)=true∧bV (fr.ev E x)=true then some (.aI (fr.ev E x).cells 0,fr,σ) else none) else if aW (fr.ev E x).cells∧bV (fr.ev E x) then some (.ref (fr.d,i) st 0,fr,σ.setObj (fr.d,i) st (.cells (fr.ev E x).cells)) else none:=by
 show Option.map _ (if E.qY t=true then _ else (some (fr.d,i)).bind _)=_
 by_cases hz:E.qY t=true
 ·simp only[hz,if_true]
  split<;>rfl
 ·simp only[hz,Bool.false_eq_true,if_false,Option.bind_some]
  split<;>rfl
theorem acV (t:TypeId) (i:Nat):opC E S fr σ st ⟨some i,.alloc t,ty,pos,bA,gd⟩=(fK E.P t).bind fun z=>if aW z.cells then some (.ref (fr.d,i) st 0,fr,σ.setObj (fr.d,i) st (.cells z.cells)) else none:=by
 simp only[opC,aT,Option.map_some,Option.bind_some]
 cases fK E.P t with
 |none=>rfl
 |some z=>simp only[Option.bind_some];split<;>rfl
theorem Mr (t:TypeId) (a x:Operand):opC E S fr σ st ⟨d,.store t a x,ty,pos,bA,gd⟩=(match fr.ev E a with
 |.ref loc s off=>(σ.bC loc s).bind fun cs=>
  if some (fr.ev E x).cells.length=bq E.P t∧off+(fr.ev E x).cells.length≤cs.length∧aW (fr.ev E x).cells then some (aA,fr,σ.setObj loc s (.cells (eB cs off (fr.ev E x).cells))) else none
 |_=>none):=by
 simp only[opC,aT]
 cases fr.ev E a with
 |ref loc s off=>
  simp only
  cases σ.bC loc s with
  |none=>rfl
  |some cs=>simp only[Option.bind_some];split<;>rfl
 |_=>rfl
theorem acW (t:TypeId) (x i:Operand):opC E S fr σ st ⟨d,.indexAddr t x i,ty,pos,bA,gd⟩=(lG E.P t (fr.ev E x) (fr.ev E i)).map fun v=>(v,fr,σ):=by
 simp only[opC,aT];cases lG E.P t (fr.ev E x) (fr.ev E i)<;>rfl
theorem acX (x:Operand) (i:Nat):opC E S fr σ st ⟨d,.extract x i,ty,pos,bA,gd⟩=(match fr.ev E x with
 |.aZ vs=>(vs[i]?).map fun v=>(v,fr,σ)
 |_=>none):=by
 simp only[opC,aT]
 cases fr.ev E x with
 |aZ vs=>simp only;cases vs[i]? <;>rfl
 |_=>rfl
theorem acY (x:Operand) (t:TypeId):opC E S fr σ st ⟨d,.call ⟨.builtin .len, #[x], #[t]⟩,ty,pos,bA,gd⟩=(lH E σ t (fr.ev E x)).map fun n=>(.int .i64 (n:Nat),fr,σ):=by
 show (Option.map _ (((#[t]:Array TypeId)[0]?).bind fun t=>(lH E σ t (fr.ev E x)).map fun n=>(V.int .i64 (n:Nat),σ)))=_
 rw[show (#[t]:Array TypeId)[0]? =some t from rfl,Option.bind_some]
 cases lH E σ t (fr.ev E x)<;>rfl
end
attribute [go_sem] Bool.false_eq_true lW iX uE wE decide_true decide_false List.getElem?_cons_succ List.getElem?_cons_zero beq_true beq_false Bool.not_true Bool.not_false Mg Bool.false_and Bool.and_false Bool.true_and Bool.and_true acf aci acg ach acP acQ Ta Tc Td acR acS acT acU acV Mr acW acX acY za SK SL GD Cz y8 abR y9 abS Me Mf abT rC SQ abW abX map_eq SS abY abZ ab0 CB CF abU abV ab7 ab8 ab9 acd ace GH List.length_map SY Mh Mi Mj ab2 ab3 ab4 ab5 ab6 Mk Ml SX Option.bind_some Option.map_some Option.getD_some mI ofValue iF if_true if_false acj acn acp acs acE acv acy acA acC aco acr acu acw acz acB acD acF S9 acG acH acI acJ acK acL acM acN acO and_self and_true true_and
end Aq
end
section
namespace Aq
open Go
def sS:Code→List Nat→Option Code
 |c,[]=>some c
 |.seq a b,i::l=>if i=0 then sS a l else sS b l
 |.cond _ a b,i::l=>if i=0 then sS a l else sS b l
 |.block _ a,_::l=>sS a l
 |.loop a,_::l=>sS a l
 |.rangeFunc _ _ a b,i::l=>if i=0 then sS a l else sS b l
 |_,_=>none
def dF (b:Option Code) (l:List Nat):Option Code:=b.bind fun c=>sS c l
section
variable {E:Env} {fr:Fr} {σ:ah}
def sU (E:Env) (c:Code) (fr:Fr) (σ:ah) (Q:Ex→Fr→ah→Prop):Prop:=CW E (.loop c) fr σ Q
theorem Is.e {α:Type} {a b:α} (h:Is a b):a=b:=h
theorem CW.lp {c:Code} {Q:Ex→Fr→ah→Prop} (h:sU E c fr σ Q):CW E (.loop c) fr σ Q:=h
theorem sU.in {b:Option Code} {p:List Nat} {c:Code} {Q:Ex→Fr→ah→Prop} (hs:dF b p=some c) (h:CW E c fr σ (mU E c Q)):sU E ((dF b p).getD .skip) fr σ Q:=by
 rw[hs];exact CW.loop h
theorem sU.ih {c:Code} {Q:Ex→Fr→ah→Prop} (h:sU E c fr σ Q):sU E c fr σ Q:=h
def GI:Code→Nat
 |.region i _ _=>i
 |.seq a _=>GI a
 |.loop a=>GI a
 |.block _ a=>GI a
 |_=>0
theorem sU.at (k:Nat) {c:Code} {Q:Ex→Fr→ah→Prop} (_h:Is (GI c) k) (h:sU E c fr σ Q):sU E c fr σ Q:=h
theorem acZ {n:Nat} (c:Cap):aL (n+2) σ (.aj c [])=some (.aj .sh []):=uU (α:=V) (f:=fun x=>.int .i64 0) c [] (fun _=>by simp[aD])
theorem Te {n:Nat} (cs:List V):aL (n+2) σ (.agg cs)=(cs.mapM (aL (n+1) σ)).map .agg:=by
 by_cases hp:aD (.agg cs)=true
 ·rw[ji hp]
  have:∀cs:List V,aP cs=true→cs.mapM (aL (n+1) σ)=some cs:=by
   intro cs
   induction cs with
   |nil=>intro _;rfl
   |cons a l ih=>
    intro h
    simp only[aP,Bool.and_eq_true] at h
    rw[List.mapM_cons,ji h.1,ih h.2];rfl
  rw[this cs (by simpa [aD] using hp)];rfl
 ·conv=>lhs;unfold aL
  simp only[hp,if_false,Bool.false_eq_true]
theorem Ms {n:Nat} (cs:List V):aL (n+2) σ (.aZ cs)=(cs.mapM (aL (n+1) σ)).map .aZ:=by
 by_cases hp:aD (.aZ cs)=true
 ·rw[ji hp]
  have:∀cs:List V,aP cs=true→cs.mapM (aL (n+1) σ)=some cs:=by
   intro cs
   induction cs with
   |nil=>intro _;rfl
   |cons a l ih=>
    intro h
    simp only[aP,Bool.and_eq_true] at h
    rw[List.mapM_cons,ji h.1,ih h.2];rfl
  rw[this cs (by simpa [aD] using hp)];rfl
 ·conv=>lhs;unfold aL
  simp only[hp,if_false,Bool.false_eq_true]
def GJ (sz:Nat) (σ:ah) (c:Cap) (n:Nat):Prop:=c= .nil∨∃s,c= .own sz s∧σ.top s=n∧s<σ.next
theorem GJ.n {sz n:Nat}:GJ sz σ .nil n:=.inl rfl
theorem GJ.o {sz s n:Nat} (h1:Is (σ.top s) n) (h2:s<σ.next):GJ sz σ (.own sz s) n:=.inr ⟨s,rfl,h1,h2⟩
theorem own_ne {s n k:Nat} (h:s<n):(s==n+k)=false:=by simp;omega
theorem ac0 {s n k:Nat} (h:s<n):(n+k==s)=false:=by simp;omega
theorem ac1 {s n:Nat} (h:s<n):(s==n)=false:=by simp;omega
theorem ac2 {s n:Nat} (h:s<n):(n==s)=false:=by simp;omega
theorem ac3 (σ:ah) {s t:Nat} (n:Nat) (h:(t==s)=false):(σ.bK s n).top t=σ.top t:=CF σ n (by simpa using h)
end
def ze (P:Program) (σ:ah) (st:Nat) (t u:TypeId) (x y:V):Option (V×ah):=
 match P.underlying u with
 |some (.int _)=>gH P false true σ st none t x y
 |some (.slice _)|some .string=>gH P false false σ st none t x y
 |_=>none
theorem ac4 {P:Program} {z:Bool} {σ:ah} {st:Nat} {loc:Option Loc} {t:TypeId} {c:Cap} {l:List V} {y:V}:gH P false z σ st loc t (.aj c l) y=gH P false z σ st none t (.aj c l) y:=by
 unfold gH
 cases gN P t with
 |none=>rfl
 |some e=>cases c<;>rfl
section
variable {E:Env} {S:iM} {fr:Fr} {σ:ah} {st:Nat} {d:Option Tmp} {ty:TypeId} {pos:String} {bA:Array Edge} {gd:Option (Nat×Bool)}
theorem Tf {t u:TypeId} {x y:Operand} {c:Cap} {l:List V} (ho:fr.om=false) (hx:fr.ev E x= .aj c l):opC E S fr σ st ⟨d,.call ⟨.builtin .append, #[x,y], #[t,u]⟩,ty,pos,bA,gd⟩=(ze E.P σ st t u (.aj c l) (fr.ev E y)).map fun p=>(p.1,fr,p.2):=by
 show Option.map _ ((((#[t,u]:Array TypeId)[0]?).bind fun t=>(((#[t,u]:Array TypeId)[1]?).bind E.P.underlying).bind fun u=>match u with
  |.int _=>gH E.P fr.om true σ st (d.map fun t=>(fr.d,t)) t (fr.ev E x) (fr.ev E y)
  |.slice _|.string=>gH E.P fr.om false σ st (d.map fun t=>(fr.d,t)) t (fr.ev E x) (fr.ev E y)
  |_=>none))=_
 show Option.map _ ((E.P.underlying u).bind _)=_
 rw[ho,hx]
 unfold ze
 cases E.P.underlying u with
 |none=>rfl
 |some u=>
  cases u<;>try rfl
  all_goals (simp only[Option.bind_some];rw[ac4];first|rfl| (generalize gH _ _ _ _ _ _ _ _ _=o;cases o<;>rfl))
end
def zf (P:Program) (t u:TypeId) (sz cu:Nat) (z:V):Prop:=∃e ag,gN P t=some e∧bq P e=some sz∧nG P e=some cu∧fZ P e=some ag∧fK P e=some z∧z.cells.length=sz∧0<sz∧(ag||sz==1)=true∧l5 P u=true
theorem zf.mk {P:Program} {t u:TypeId} {sz cu:Nat} {z:V} (e:TypeId) (ag:Bool) (h1:gN P t=some e) (h2:bq P e=some sz) (h3:nG P e=some cu) (h4:fZ P e=some ag) (h5:fK P e=some z)
 (h6:z.cells.length=sz) (h7:0<sz) (h8:(ag||sz==1)=true) (h9:l5 P u=true):zf P t u sz cu z:=⟨e,ag,h1,h2,h3,h4,h5,h6,h7,h8,h9⟩
def pR (sz:Nat) (l:List V):Bool:=l.all fun v=>v.cells.length==sz&& aW v.cells
theorem ac5 {α:Type} {f:α→V} {sz:Nat} (h:∀x,(f x).cells.length=sz∧aW (f x).cells=true) (l:List α):pR sz (l.map f)=true:=by
 simp[pR,h]
theorem Tg {sz:Nat} {l:List V} (h:pR sz l=true):kT sz l=true:=by
 cases l with
 |nil=>rfl
 |cons a l=>simp[pR] at h;simp[kT,h.1.1]
theorem ac6 {sz:Nat} {l:List V} (h:pR sz l=true):l.all (fun v=>aW v.cells)=true:=by
 simp[pR] at h;simpa using fun x hx=>(h x hx).2
theorem ac7 {P:Program} {σ:ah} {st t u sz cu:Nat} {z:V} {x:V} {c2:Cap} {ys:List V} (ha:zf P t u sz cu z) (hy:pR sz ys=true):
 ze P σ st t u x (.aj c2 ys)=match x with
 |.aj c l=>if eD (l.length+ys.length) cu=true∧kT sz l=true then
  match c with
  |.own n s=>if n=sz∧σ.top s=l.length then some (.aj (.own n s) (l++ys),σ.bK s (l.length+ys.length)) else none
  |.nil|.full=>some (.aj (.own sz st) (l++ys),σ.bK st (l.length+ys.length))
  |_=>none
  else none
 |_=>ze P σ st t u x (.aj c2 ys):=by
 obtain⟨e,ag,h1,h2,h3,h4,h5,h6,h7,h8,h9⟩:=ha
 cases x<;>try rfl
 rename_i c l
 unfold l5 at h9
 split at h9
 ·rename_i e' he
  simp only[ze,he,gH,h1,h2,h3,h4,h5,Option.bind_some,qX,true_and,if_pos (show z.cells.length=sz∧0<sz∧(ag||sz==1)=true from ⟨h6,h7,h8⟩),jo,Tg hy,if_true,ac6 hy]
  cases c<;>rfl
 ·simp at h9
theorem ac8 {P:Program} {σ:ah} {st t u sz cu:Nat} {z:V} {l:List V} {c2:Cap} {ys:List V} (ha:zf P t u sz cu z) (hy:pR sz ys=true) (hl:pR sz l=true)
 (hr:eD (l.length+ys.length) cu=true):ze P σ st t u (.aj .full l) (.aj c2 ys)=some (.aj (.own sz st) (l++ys),σ.bK st (l.length+ys.length)):=by
 rw[ac7 ha hy];simp only[hr,Tg hl,and_self,if_true]
def Ti (E:Env) (t:TypeId) (ps:List (Nat×V)):Option (List V):=(yH E t).bind fun pl=>(fK E.P t).bind fun z=>nH pl z.cells ps
section
variable {E:Env} {S:iM} {fr:Fr} {σ:ah} {st:Nat} {d:Option Tmp} {ty:TypeId} {pos:String} {bA:Array Edge} {gd:Option (Nat×Bool)}
theorem ac9 (t:TypeId) (l:List (Nat×Operand)):opC E S fr σ st ⟨d,.build t l.toArray,ty,pos,bA,gd⟩=(Ti E t (l.map fun p=>(p.1,fr.ev E p.2))).map fun cs=>(.agg cs,fr,σ):=by
 simp only[opC,aT,Ti]
 cases yH E t with
 |none=>rfl
 |some pl=>
  simp only[Option.bind_some]
  cases fK E.P t with
  |none=>rfl
  |some z=>
   simp only[Option.bind_some]
   cases nH pl z.cells (l.map fun p=>(p.1,fr.ev E p.2))<;>rfl
theorem Tj (t:TypeId) (n:Nat) (l:List (Nat×Operand)):opC E S fr σ st ⟨d,.buildSlice t n l.toArray,ty,pos,bA,gd⟩=(qZ E t n (l.map fun p=>(p.1,fr.ev E p.2))).map fun v=>(v,fr,σ):=by
 simp only[opC,aT]
 cases qZ E t n (l.map fun p=>(p.1,fr.ev E p.2))<;>rfl
end
section
variable {E:Env} {S:iM} {fr:Fr} {σ:ah} {st:Nat} {d:Option Tmp} {ty:TypeId} {pos:String} {bA:Array Edge} {gd:Option (Nat×Bool)}
theorem ada (t:TypeId) (x i:Operand):opC E S fr σ st ⟨d,.index t x i,ty,pos,bA,gd⟩=(sJ E.P t (fr.ev E x) (fr.ev E i)).map fun v=>(v,fr,σ):=by
 simp only[opC,aT];cases sJ E.P t (fr.ev E x) (fr.ev E i)<;>rfl
theorem Tk {P:Program} {t:TypeId} {s:List UInt8} {k:IntKind} {i:Int} (h:CJ P t=true):sJ P t (.str s) (.int k i)=(dx s i).map fun b=>.int .u8 (b.toNat:Nat):=by
 unfold CJ at h;unfold sJ
 split at h
 ·rename_i he
  rw[he]
  simp only[idx,kD,Option.bind_some,dx]
  split
  ·simp only[Option.bind_some];rfl
  ·rfl
 ·simp at h
def imax (a b:Int):Int:=if b>a then b else a
def jW (a b:Int):Int:=if b<a then b else a
theorem adb (x y:Operand) (tys:List TypeId):opC E S fr σ st ⟨d,.call ⟨.builtin .max, #[x,y],tys.toArray⟩,ty,pos,bA,gd⟩=(jL true (fr.ev E x) [fr.ev E y]).map fun v=>(v,fr,σ):=by
 show Option.map _ ((jL true (fr.ev E x) [fr.ev E y]).map fun v=>(v,σ))=_
 cases jL true (fr.ev E x) [fr.ev E y]<;>rfl
theorem ade (x y:Operand) (tys:List TypeId):opC E S fr σ st ⟨d,.call ⟨.builtin .min, #[x,y],tys.toArray⟩,ty,pos,bA,gd⟩=(jL false (fr.ev E x) [fr.ev E y]).map fun v=>(v,fr,σ):=by
 show Option.map _ ((jL false (fr.ev E x) [fr.ev E y]).map fun v=>(v,σ))=_
 cases jL false (fr.ev E x) [fr.ev E y]<;>rfl
theorem adf (k:IntKind) (a b:Int):jL true (.int k a) [.int k b]=some (.int k (imax a b)):=by simp[jL,imax]
theorem adg (k:IntKind) (a b:Int):jL false (.int k a) [.int k b]=some (.int k (jW a b)):=by simp[jL,jW]
end
theorem len1 (v:V):[v].length=1:=rfl
attribute [go_sem] ada Tk adb ade adf adg own_ne ac0 ac1 ac2 acZ Te Ms ac9 Tj List.map_cons List.map_nil len1 ac3 Tf uU implies_true eq_self
theorem adh:aP []=true:=by simp only[aP]
theorem adi (v:V) (l:List V):aP (v::l)=(aD v&& aP l):=by simp only[aP]
attribute [go_sem] adh adi
end Aq
end
section
namespace Aq
open Go
inductive Ty where
 |int (k:IntKind)
 |bool
 |str
 |slice (t:Ty)
 |st (n:Nat)
 deriving DecidableEq
inductive Cp where
 |any
 |sh
 |nil
 |full
 |own (t:Nat)
structure Vec (n:Nat) where
 l:List Int
 h:l.length=n
def Vec.at' {n:Nat} (v:Vec n) (i:Int):Int:=v.l.getD i.toNat 0
def Vec.nth {n:Nat} (v:Vec n) (j:Nat):Int:=v.l.getD j 0
def Vec.set {n:Nat} (v:Vec n) (i y:Int):Vec n:=⟨v.l.set i.toNat y,by rw[List.length_set,v.h]⟩
def Vec.rep (n:Nat) (y:Int):Vec n:=⟨List.replicate n y,List.length_replicate⟩
def Vec.lit (n:Nat) (l:List Int):Vec n:=if h:l.length=n then ⟨l,h⟩ else Vec.rep n 0
def Vec.slc {n:Nat} (v:Vec n) (i:Int) (m:Nat):Vec m:=Vec.lit m ((v.l.drop i.toNat).take m)
def Vec.pU {n:Nat} (v:Vec n) (lo:Int) (l:List Int):Vec n:=Vec.lit n (v.l.take lo.toNat++l++v.l.drop (lo.toNat+l.length))
inductive iJ where
 |i (k:IntKind)
 |a (k:IntKind) (n:Nat)
inductive Sg where
 |i (k:IntKind) (x:Int)
 |a (k:IntKind) (n:Nat) (v:Vec n)
def Sg.w:Sg→Nat
 |.i _ _=>1
 |.a _ n _=>n
def Sg.vs:Sg→List V
 |.i k x=>[.int k x]
 |.a k _ v=>v.l.map (V.int k)
def bn:List Sg→List V
 | []=>[]
 |s::l=>s.vs++bn l
def iB:List Sg→Nat
 | []=>0
 |s::l=>s.w+iB l
def zh:iJ→Type
 |.i _=>Int
 |.a _ n=>Vec n
def wQ:List iJ→Type
 | []=>Unit
 | [k]=>zh k
 |k::h::l=>zh k×wQ (h::l)
def CK:(k:iJ)→zh k→Sg
 |.i k,x=>.i k x
 |.a k n,x=>.a k n x
def qK:(l:List iJ)→wQ l→List Sg
 | [],_=>[]
 | [k],x=>[CK k x]
 |k::h::l,p=>CK k p.1::qK (h::l) p.2
def GK {n m:Nat} (v:Vec n):Option (Vec m):=if h:n=m then some (h▸v) else none
def zi:(k:iJ)→Sg→Option (zh k)
 |.i k,.i k' x=>if k'=k then some x else none
 |.a k n,.a k' _ v=>if k'=k then GK (m:=n) v else none
 |_,_=>none
def sV:(l:List iJ)→List Sg→Option (wQ l)
 | []=>fun vs=>match vs with
   | []=>some ()
   |_::_=>none
 | [k]=>fun vs=>match vs with
   | [v]=>zi k v
   |_=>none
 |k::h::l=>fun vs=>match vs with
  | []=>none
  |v::vs=>match zi k v with
   |some x=>match sV (h::l) vs with
    |some p=>some (x,p)
    |none=>none
   |none=>none
section
variable (T:Nat→Type)
def Den:Ty→Type
 |.int _=>Int
 |.bool=>Bool
 |.str=>List UInt8
 |.slice t=>List (Den t)
 |.st n=>T n
def lK:List Ty→Type
 | []=>Unit
 | [t]=>Den T t
 |t::u::l=>Den T t×lK (u::l)
inductive TV where
 |int (k:IntKind) (n:Int)
 |bool (b:Bool)
 |fO (b:Bool)
 |str (s:List UInt8)
 |eH
 |dY
 |dQ
 |fG
 |d9
 |agg (cs:List TV)
 |aZ (cs:List TV)
 |aj (c:Cp) (t:Ty) (l:List (Den T t))
 |ref (o off:Nat)
 |aI (cs:List TV) (off:Nat)
 |bB (o:Nat)
 |bR (k e:Ty) (m:List (Den T k×Den T e))
 |fn (f:Nat) (a b:List TV)
 |opt (j:Nat) (w:Bool) (v:TV)
 |vw (o:Nat) (t:Ty)
 |jk (o:Nat) (t:Ty) (i:Int) (off:Nat)
 |sg (ss:List Sg)
 |sv (o off:Nat) (k:IntKind) (n:Nat) (lo hi:Option Int)
 |sel (o off:Nat) (k:IntKind) (n:Nat) (i:Int) (m:Nat)
 |oN (k:IntKind) (n:Nat) (v:Vec n) (i:Int)
 |undef
 |gone
inductive Ob where
 |cells (cs:List (TV T))
 |map (k e:Ty) (m:List (Den T k×Den T e))
 |smap (ks vs:List (TV T))
 |arr (t:Ty) (l:List (Den T t))
 |sg (ss:List Sg)
 |gone
 |ro (b:Ob)
structure MS where
 fr:List (Nat×TV T)
 ob:List (Nat×Ob T)
inductive Sk where
 |d (t:Ty)
 |l (c:Cp) (t:Ty)
 |agg (l:List Sk)
 |ref (o off:Nat)
 |aI (l:List Sk) (off:Nat)
 |bB (o:Nat)
 |bR (k e:Ty)
 |fn (f:Nat) (a b:List Sk)
 |d9
 |vw (o:Nat) (t:Ty)
 |sg (l:List iJ)
 |undef
mutual
def oO:Sk→Type
 |.d t=>Den T t
 |.l _ t=>List (Den T t)
 |.agg l=>aH l
 |.ref _ _=>Unit
 |.aI l _=>aH l
 |.bB _=>Unit
 |.bR k e=>List (Den T k×Den T e)
 |.fn _ a b=>aH a×aH b
 |.d9=>Unit
 |.vw _ _=>Unit
 |.sg l=>wQ l
 |.undef=>Unit
def aH:List Sk→Type
 | []=>Unit
 | [k]=>oO k
 |k::h::l=>oO k×aH (h::l)
end
inductive jF where
 |cells (l:List Sk)
 |st (n:Nat)
 |map (k e:Ty)
 |arr (t:Ty)
 |sg (l:List iJ)
def uV:jF→Type
 |.cells l=>aH T l
 |.st n=>T n
 |.map k e=>List (Den T k×Den T e)
 |.arr t=>List (Den T t)
 |.sg l=>wQ l
def mV:List (Nat×jF)→Type
 | []=>Unit
 | [(_,k)]=>uV T k
 | (_,k)::h::l=>uV T k×mV (h::l)
def wR:List (Nat×Sk)→Type
 | []=>Unit
 | [(_,k)]=>oO T k
 | (_,k)::h::l=>oO T k×wR (h::l)
structure Shape where
 sl:List (Nat×Sk)
 ob:List (Nat×jF)
def nR:Shape→Type
 | ⟨s,[]⟩=>wR T s
 | ⟨s,o::os⟩=>wR T s×mV T (o::os)
def Out:List (Ex×Shape)→Type
 | []=>Empty
 | [(_,s)]=>nR T s
 | (_,s)::h::l=>nR T s⊕Out (h::l)
end
structure gy where
 T:Nat→Type
 d:(n:Nat)→T n
 lf:Nat→List Ty
 to:(n:Nat)→lK T (lf n)→T n
 of:(n:Nat)→T n→lK T (lf n)
 enc:(n:Nat)→T n→V
 ty:TypeId→Option Ty
 gl:Nat→Option ((k:IntKind)×(n:Nat)×Vec n)
structure FR (R:gy) where
 args:List Sk
 res:List Sk
 F:aH R.T args→Option (aH R.T res)
 d:aH R.T res
 own:Bool:=false
structure FI (R:gy) where
 a:List Sk
 b:List Sk
 el:List Sk
 F:aH R.T a→aH R.T b→Option (List (aH R.T el))
def F0:Nat:=1000000
structure FM (R:gy) where
 args:List Sk
 obs:List (Nat×jF)
 res:List Sk
 F:aH R.T args→mV R.T obs→Option (aH R.T res×mV R.T obs)
structure IR (R:gy) where
 it:Nat→List (FI R)
 im:Nat→List (FM R)
structure Note where
 K:List Nat
 O:List Nat
 sh:Shape
 outs:List (Ex×Shape)
structure dz where
 loops:List (Nat×Note)
 joins:List (Nat×Note)
def look {α:Type}:List (Nat×α)→Nat→Option α
 | [],_=>none
 | (j,x)::l,i=>bif Nat.beq j i then some x else look l i
section
variable (R:gy)
def aF:(t:Ty)→Den R.T t→V
 |.int k=>fun n=>.int k n
 |.bool=>fun b=>.bool b
 |.str=>fun s=>.str s
 |.slice t=>fun l=>.aj .sh (l.map (aF t))
 |.st n=>fun x=>R.enc n x
def encs:(l:List Ty)→lK R.T l→List V
 | [],_=>[]
 | [t],x=>[aF R t x]
 |t::u::l,p=>aF R t p.1::encs (u::l) p.2
def bL:Ty→Nat
 |.st n=>(R.lf n).length
 |_=>1
def zk:(t:Ty)→Den R.T t
 |.int _=>(0:Int)
 |.bool=>false
 |.str=>([]:List UInt8)
 |.slice t=>([]:List (Den R.T t))
 |.st n=>R.d n
def uW (c:Cp):(t:Ty)→Den R.T t→TV R.T
 |.int k=>fun n=>.int k n
 |.bool=>fun b=>.bool b
 |.str=>fun s=>.str s
 |.slice t=>fun l=>.aj c t l
 |.st _=>fun _=>.undef
def iU (c:Cp):(l:List Ty)→lK R.T l→List (TV R.T)
 | [],_=>[]
 | [t],x=>[uW R c t x]
 |t::u::l,p=>uW R c t p.1::iU c (u::l) p.2
def eU (c:Cp):(t:Ty)→Den R.T t→TV R.T
 |.st n=>fun x=>.agg (iU R c (R.lf n) (R.of n x))
 |.int k=>fun n=>.int k n
 |.bool=>fun b=>.bool b
 |.str=>fun s=>.str s
 |.slice t=>fun l=>.aj c t l
def oP {t u:Ty} (l:List (Den R.T t)):Option (List (Den R.T u)):=if h:t=u then some (h▸l) else none
def GL (k:IntKind):TV R.T→Option Int
 |.int k' n=>if k=k' then some n else none
 |_=>none
def GN:TV R.T→Option Bool
 |.bool b=>some b
 |.fO b=>some b
 |_=>none
def GQ:TV R.T→Option (List UInt8)
 |.str s=>some s
 |_=>none
def wS (t:Ty):TV R.T→Option (List (Den R.T t))
 |.aj _ _ l=>oP R l
 |.d9=>some []
 |_=>none
def nS:(t:Ty)→TV R.T→Option (Den R.T t)
 |.int k=>fun v=>GL R k v
 |.bool=>fun v=>GN R v
 |.str=>fun v=>GQ R v
 |.slice t=>fun v=>wS R t v
 |.st _=>fun _=>none
def hd1:List (TV R.T)→TV R.T
 | [v]=>v
 |_=>.gone
def uX:(l:List Ty)→List (TV R.T)→Option (lK R.T l)
 | []=>fun vs=>match vs with
   | []=>some ()
   |_::_=>none
 | [t]=>fun vs=>nS R t (hd1 R vs)
 |t::u::l=>fun vs=>match vs with
  | []=>none
  |v::vs=>match nS R t v with
   |some x=>match uX (u::l) vs with
    |some p=>some (x,p)
    |none=>none
   |none=>none
def wT (n:Nat):TV R.T→Option (R.T n)
 |.agg cs=>match uX R (R.lf n) cs with
  |some p=>some (R.to n p)
  |none=>none
 |_=>none
def mW:(t:Ty)→TV R.T→Option (Den R.T t)
 |.st n=>fun v=>wT R n v
 |.int k=>fun v=>GL R k v
 |.bool=>fun v=>GN R v
 |.str=>fun v=>GQ R v
 |.slice t=>fun v=>wS R t v
def TV.cells {T:Nat→Type}:TV T→List (TV T)
 |.agg cs=>cs
 |v=>[v]
mutual
def jX {T:Nat→Type} (o:Nat):TV T→Bool
 |.ref p _=>Nat.beq p o
 |.bB p=>Nat.beq p o
 |.agg cs=>kV o cs
 |.aZ cs=>kV o cs
 |.aI cs _=>kV o cs
 |.fn _ a b=>kV o a||kV o b
 |.opt _ _ v=>jX o v
 |.vw p _=>Nat.beq p o
 |.jk p _ _ _=>Nat.beq p o
 |.sv p _ _ _ _ _=>Nat.beq p o
 |.sel p _ _ _ _ _=>Nat.beq p o
 |_=>false
def kV {T:Nat→Type} (o:Nat):List (TV T)→Bool
 | []=>false
 |v::l=>jX o v||kV o l
end
def Ob.jX {T:Nat→Type} (o:Nat):Ob T→Bool
 |.cells cs=>kV o cs
 |.smap ks vs=>kV o ks||kV o vs
 |.ro b=>Ob.jX o b
 |_=>false
mutual
def wk {T:Nat→Type} (t:Nat):TV T→TV T
 |.aj (.own u) ty l=>bif Nat.beq u t then .aj .any ty l else .aj (.own u) ty l
 |.agg cs=>.agg (rD t cs)
 |.aZ cs=>.aZ (rD t cs)
 |.aI cs off=>.aI (rD t cs) off
 |.fn f a b=>.fn f (rD t a) (rD t b)
 |.opt j w v=>.opt j w (wk t v)
 |v=>v
def rD {T:Nat→Type} (t:Nat):List (TV T)→List (TV T)
 | []=>[]
 |v::l=>wk t v::rD t l
end
def Ob.wk {T:Nat→Type} (t:Nat):Ob T→Ob T
 |.cells cs=>.cells (rD t cs)
 |.smap ks vs=>.smap (rD t ks) (rD t vs)
 |.ro b=>.ro (Ob.wk t b)
 |o=>o
def jY {α:Type} (f:α→α):List (Nat×α)→List (Nat×α)
 | []=>[]
 | (i,x)::l=>(i,f x)::jY f l
def gB {α:Type} (i:Nat):List (Nat×α)→List (Nat×α)
 | []=>[]
 | (j,x)::l=>bif Nat.beq j i then gB i l else (j,x)::gB i l
def MS.wk {T:Nat→Type} (t:Nat) (st:MS T):MS T:=⟨jY (Aq.wk t) st.fr,jY (Ob.wk t) st.ob⟩
def Mt {T:Nat→Type} (j:Nat):TV T→TV T
 |.opt i w v=>bif Nat.beq i j then .gone else .opt i w v
 |v=>v
def MS.put {T:Nat→Type} (st:MS T) (i:Nat) (v:TV T):MS T:={st with fr:=(i,v)::jY (Mt i) (gB i st.fr)}
def MS.dR {T:Nat→Type} (st:MS T) (d:Option Nat) (v:TV T):MS T:=match d with
 |some i=>st.put i v
 |none=>st
def Mv {T:Nat→Type} (j:Nat) (b:Bool):TV T→TV T
 |.opt i w v=>bif Nat.beq i j then (bif (b==w) then v else .undef) else .opt i w v
 |v=>v
def MS.learn {T:Nat→Type} (st:MS T) (j:Nat) (b:Bool):MS T:={st with fr:=(j,.fO b)::jY (Mv j b) (gB j st.fr)}
def MS.zl {T:Nat→Type} (st:MS T) (c:Operand) (b:Bool):MS T:=match c with
 |.tmp j=>st.learn j b
 |_=>st
def CO {T:Nat→Type} (o:Nat) (v:TV T):TV T:=bif jX o v then .gone else v
def Ob.kill {T:Nat→Type} (o:Nat) (v:Ob T):Ob T:=bif Ob.jX o v then .gone else v
def MS.new {T:Nat→Type} (st:MS T) (o:Nat) (b:Ob T):MS T:=⟨jY (CO o) st.fr,(o,b)::jY (Ob.kill o) (gB o st.ob)⟩
def MS.set {T:Nat→Type} (st:MS T) (o:Nat) (b:Ob T):MS T:={st with ob:=(o,b)::gB o st.ob}
def MS.del {T:Nat→Type} (st:MS T) (o:Nat):MS T:={st with ob:=gB o st.ob}
def Mw {T:Nat→Type}:Ob T→Ob T
 |.ro b=>Mw b
 |b=>b
def kX {T:Nat→Type} (st:MS T) (o:Nat):Option (Ob T):=match look st.ob o with
 |some b=>some (Mw b)
 |none=>none
def mX {T:Nat→Type}:Ob T→Bool
 |.ro _=>true
 |.gone=>true
 |_=>false
def aO (i:Nat):List Nat→Bool
 | []=>false
 |j::l=>Nat.beq i j||aO i l
mutual
def solid {T:Nat→Type} (W:List Nat):TV T→Bool
 |.aj (.own _) _ _=>false
 |.ref o _=> !(aO o W)
 |.bB o=> !(aO o W)
 |.agg cs=>oQ W cs
 |.aZ cs=>oQ W cs
 |.aI cs _=>oQ W cs
 |.fn _ a b=>oQ W a&& oQ W b
 |.opt _ _ _=>false
 |.vw o _=> !(aO o W)
 |.jk o _ _ _=> !(aO o W)
 |.sv o _ _ _ _ _=> !(aO o W)
 |.sel o _ _ _ _ _=> !(aO o W)
 |.gone=>false
 |_=>true
def oQ {T:Nat→Type} (W:List Nat):List (TV T)→Bool
 | []=>true
 |v::l=>solid W v&& oQ W l
end
def kY {T:Nat→Type} (W:List Nat):Ob T→Bool
 |.cells cs=>oQ W cs
 |.map _ _ _=>true
 |.smap ks vs=>oQ W ks&& oQ W vs
 |.arr _ _=>true
 |.sg _=>true
 |.ro b=>kY W b
 |.gone=>false
def lM {α:Type} (p:Nat→α→Bool) (f:α→α) (l:List (Nat×α)):List Nat→List (Nat×α)
 | []=>[]
 |i::is=>match look l i with
  |some x=>bif p i x then (i,f x)::lM p f l is else lM p f l is
  |none=>lM p f l is
def Mx {T:Nat→Type}:TV T→TV T
 |.aj (.own _) t l=>.aj .any t l
 |v=>v
def base {T:Nat→Type} (W K O:List Nat) (mark:Ob T→Ob T) (st:MS T):MS T:=
 ⟨lM (fun i v=> !(aO i W)&& solid W (Mx v)) Mx st.fr K,lM (fun o b=> !(aO o W)&& kY W b) mark st.ob O⟩
def MS.over {T:Nat→Type} (st b:MS T):MS T:=⟨st.fr++b.fr,st.ob++b.ob⟩
def wU {T:Nat→Type}:Value→Option (TV T)
 |.bool b=>some (.fO b)
 |.int k n=>some (.int k n)
 |.string s=>some (.str s.data.toList)
 |.pointer none=>some .eH
 |.slice none 0 0=>some .d9
 |.map none=>some .dQ
 |.nilFunc=>some .dY
 |.nilIface=>some .fG
 |_=>none
def zm {T:Nat→Type}:List Value→Option (List (TV T))
 | []=>some []
 |v::l=>match wU v with
  |some x=>match zm l with
   |some y=>some (x::y)
   |none=>none
  |none=>none
def zn {T:Nat→Type}:Value→Option (TV T)
 |.agg cs=>match zm cs.toList with
  |some l=>some (.agg l)
  |none=>none
 |v=>wU v
def GR {T:Nat→Type} (g:List (Nat×Bool)):TV T→Option (TV T)
 |.opt j w v=>match look g j with
  |some u=>some (bif u==w then v else .undef)
  |none=>none
 |v=>some v
def aV {T:Nat→Type} (g:List (Nat×Bool)) (st:MS T):Operand→Option (TV T)
 |.tmp t=>match look st.fr t with
  |some v=>GR g v
  |none=>none
 |.const v=>zn v
 |.func f=>some (.fn f [] [])
 |.global _=>none
def lN {T:Nat→Type} (g:List (Nat×Bool)) (st:MS T):List Operand→Option (List (TV T))
 | []=>some []
 |x::l=>match aV g st x with
  |some v=>match lN g st l with
   |some vs=>some (v::vs)
   |none=>none
  |none=>none
def zo {T:Nat→Type} (g:List (Nat×Bool)) (st:MS T):List (Nat×Operand)→Option (List (Nat×TV T))
 | []=>some []
 | (i,x)::l=>match aV g st x with
   |some v=>match zo g st l with
    |some vs=>some ((i,v)::vs)
    |none=>none
   |none=>none
def mY:List Sg→Nat→Option (List Sg×List Sg)
 |ss,0=>some ([],ss)
 | [],_+1=>none
 |s::ss,n+1=>bif Nat.ble s.w (n+1) then (match mY ss (n+1-s.w) with
  |some (a,b)=>some (s::a,b)
  |none=>none) else none
def wV {T:Nat→Type} (k:IntKind):List (TV T)→Option (List Int)
 | []=>some []
 |.int k' x::l=>if k'=k then (match wV k l with
  |some xs=>some (x::xs)
  |none=>none) else none
 |_=>none
def zq {α:Type} (l:List α):Option Int→Option Int→List α
 |none,none=>l
 |some i,none=>l.drop i.toNat
 |none,some j=>l.take j.toNat
 |some i,some j=>(l.take j.toNat).drop i.toNat
def GU {T:Nat→Type} (st:MS T) (o off:Nat) (k:IntKind) (n:Nat) (lo hi:Option Int):Option (List Int):=
 match kX st o with
 |some (.sg ss)=>match mY ss off with
  |some (_,.a k' n' v::_)=>if k'=k then (bif Nat.beq n' n then some (zq v.l lo hi) else none) else none
  |_=>none
 |some (.cells cs)=>bif Nat.ble (off+n) cs.length then (match wV k ((cs.drop off).take n) with
  |some l=>some (zq l lo hi)
  |none=>none) else none
 |_=>none
def rE {T:Nat→Type} (st:MS T):TV T→TV T
 |.ref o off=>match kX st o with
  |some (.cells cs)=>.aI cs off
  |_=>.ref o off
 |.bB o=>match kX st o with
  |some (.map k e m)=>.bR k e m
  |_=>.bB o
 |.vw o t=>match kX st o with
  |some (.arr t' l)=>if t'=t then .aj .sh t' l else .vw o t
  |_=>.vw o t
 |.sv o off k n lo hi=>match GU st o off k n lo hi with
  |some l=>.aj .sh (.int k) l
  |none=>.sv o off k n lo hi
 |v=>v
def CP {T:Nat→Type} (st:MS T):List (TV T)→List (TV T)
 | []=>[]
 |v::l=>rE st v::CP st l
def wW {T:Nat→Type} (st:MS T):TV T→TV T
 |.fn f a b=>.fn f (CP st a) (CP st b)
 |.agg cs=>.agg (CP st cs)
 |v=>rE st v
def l6 {T:Nat→Type} (st:MS T):List (TV T)→List (TV T)
 | []=>[]
 |v::l=>wW st v::l6 st l
def MB {T:Nat→Type}:TV T→Bool
 |.agg _=>false
 |.sg _=>false
 |.aZ _=>false
 |.gone=>false
 |.undef=>false
 |.opt _ _ _=>false
 |_=>true
def uY {T:Nat→Type}:List (TV T)→Bool
 | []=>true
 |v::l=>MB v&& uY l
def uZ {T:Nat→Type}:TV T→Bool
 |.gone=>false
 |.sg _=>false
 |.opt _ _ _=>false
 |_=>true
mutual
def jw {T:Nat→Type}:TV T→Bool
 |.int _ _=>true
 |.bool _=>true
 |.fO _=>true
 |.str _=>true
 |.eH=>true
 |.dY=>true
 |.dQ=>true
 |.fG=>true
 |.aj .sh _ _=>true
 |.agg cs=>nT cs
 |.aZ cs=>nT cs
 |.bR _ _ _=>true
 |.aI cs _=>nT cs
 |.fn _ a b=>nT a&& nT b
 |.sg _=>true
 |_=>false
def nT {T:Nat→Type}:List (TV T)→Bool
 | []=>true
 |v::l=>jw v&& nT l
end
def CQ {T:Nat→Type}:TV T→Bool
 |.aj _ _ _=>true
 |.d9=>true
 |v=>jw v
def GV {T:Nat→Type}:List (TV T)→Bool
 | []=>true
 |v::l=>CQ v&& GV l
def Tm {T:Nat→Type}:TV T→Bool
 |.agg cs=>GV cs
 |v=>CQ v
def u6 {T:Nat→Type}:List (TV T)→Bool
 | []=>true
 |v::l=>Tm v&& u6 l
mutual
def jZ:Sk→Bool
 |.d _=>true
 |.l c _=>match c with
  |.any=>true
  |.sh=>true
  |_=>false
 |.agg l=>gT l
 |.aI l _=>gT l
 |.bR _ _=>true
 |.fn _ a b=>gT a&& gT b
 |.sg _=>true
 |_=>false
def gT:List Sk→Bool
 | []=>true
 |k::l=>jZ k&& gT l
def dep:Sk→Nat
 |.agg l=>mZ l+3
 |.aI l _=>mZ l+3
 |.fn _ a b=>max (mZ a) (mZ b)+3
 |_=>3
def mZ:List Sk→Nat
 | []=>0
 |k::l=>max (dep k) (mZ l)
end
def MC:Ty→Bool
 |.int _=>true
 |.bool=>true
 |.str=>true
 |_=>false
def zu:List Sk→Bool
 | []=>true
 |.d t::l=>MC t&& zu l
 |.sg _::l=>zu l
 |_=>false
mutual
def encS:(k:Sk)→oO R.T k→V
 |.d t,x=>aF R t x
 |.l _ t,x=>aF R (.slice t) x
 |.agg l,x=>.agg (bf l x)
 |.aI l off,x=>.aI (bf l x) off
 |.bR k e,x=>.bR (List.map (fun p=>aF R k p.1) x) (List.map (fun p=>aF R e p.2) x)
 |.fn f a b,x=>.fn (.func f) (bf a x.1) (bf b x.2)
 |.d9,_=>.aj .sh []
 |.ref _ _,_=>aA
 |.bB _,_=>aA
 |.vw _ _,_=>aA
 |.sg l,x=>.agg (bn (qK l x))
 |.undef,_=>aA
def bf:(l:List Sk)→aH R.T l→List V
 | [],_=>[]
 | [k],x=>[encS k x]
 |k::h::l,p=>encS k p.1::bf (h::l) p.2
end
def kZ:List V→V
 | [v]=>v
 |vs=>.aZ vs
def zw:Cp→Cp→Bool
 |_,.any=>true
 |.sh,.sh=>true
 |.nil,.nil=>true
 |.nil,.own _=>true
 |.full,.own _=>true
 |.full,.full=>true
 |.own t,.own u=>Nat.beq t u
 |_,_=>false
def GX (c:Cp) (t:Ty):TV R.T→Option (List (Den R.T t))
 |.aj c' _ l=>bif zw c' c then oP R l else none
 |.d9=>bif zw .nil c then some [] else none
 |_=>none
def zx {k e k' e':Ty} (m:List (Den R.T k'×Den R.T e')):Option (List (Den R.T k×Den R.T e)):=if h:k'=k∧e'=e then some (by rw[←h.1,←h.2];exact m) else none
mutual
def pk:(k:Sk)→TV R.T→Option (oO R.T k)
 |.d t=>fun v=>mW R t v
 |.l c t=>fun v=>GX R c t v
 |.agg l=>fun v=>match v with
  |.agg cs=>fB l cs
  |_=>none
 |.ref o off=>fun v=>match v with
  |.ref p off'=>bif Nat.beq p o&& Nat.beq off' off then some () else none
  |_=>none
 |.aI l off=>fun v=>match v with
  |.aI cs off'=>bif Nat.beq off' off then fB l cs else none
  |_=>none
 |.bB o=>fun v=>match v with
  |.bB p=>bif Nat.beq p o then some () else none
  |_=>none
 |.bR k e=>fun v=>match v with
  |.bR _ _ m=>zx R m
  |_=>none
 |.fn f a b=>fun v=>match v with
  |.fn f' a' b'=>bif Nat.beq f' f then (match fB a a' with
   |some x=>match fB b b' with
    |some y=>some (x,y)
    |none=>none
   |none=>none) else none
  |_=>none
 |.d9=>fun v=>match v with
  |.d9=>some ()
  |_=>none
 |.vw o t=>fun v=>match v with
  |.vw p t'=>bif Nat.beq p o then (if t'=t then some () else none) else none
  |_=>none
 |.sg l=>fun v=>match v with
  |.sg ss=>sV l ss
  |_=>none
 |.undef=>fun v=>match v with
  |.undef=>some ()
  |_=>none
def fB:(l:List Sk)→List (TV R.T)→Option (aH R.T l)
 | []=>fun vs=>match vs with
   | []=>some ()
   |_::_=>none
 | [k]=>fun vs=>match vs with
   | [v]=>pk k v
   |_=>none
 |k::h::l=>fun vs=>match vs with
  | []=>none
  |v::vs=>match pk k v with
   |some x=>match fB (h::l) vs with
    |some p=>some (x,p)
    |none=>none
   |none=>none
end
mutual
def up (c:Cp):(k:Sk)→oO R.T k→TV R.T
 |.d t,x=>eU R c t x
 |.l c t,x=>.aj c t x
 |.agg l,x=>.agg (iC c l x)
 |.ref o off,_=>.ref o off
 |.aI l off,x=>.aI (iC c l x) off
 |.bB o,_=>.bB o
 |.bR k e,x=>.bR k e x
 |.fn f a b,x=>.fn f (iC c a x.1) (iC c b x.2)
 |.d9,_=>.d9
 |.vw o t,_=>.vw o t
 |.sg l,x=>.sg (qK l x)
 |.undef,_=>.undef
def iC (c:Cp):(l:List Sk)→aH R.T l→List (TV R.T)
 | [],_=>[]
 | [k],x=>[up c k x]
 |k::h::l,p=>up c k p.1::iC c (h::l) p.2
end
def u7:(k:jF)→Ob R.T→Option (uV R.T k)
 |.cells l=>fun o=>match o with
  |.cells cs=>fB R l cs
  |_=>none
 |.st n=>fun o=>match o with
  |.cells cs=>wT R n (.agg cs)
  |_=>none
 |.map k e=>fun o=>match o with
  |.map _ _ m=>zx R m
  |_=>none
 |.arr t=>fun o=>match o with
  |.arr _ l=>oP R l
  |_=>none
 |.sg l=>fun o=>match o with
  |.sg ss=>sV l ss
  |_=>none
def jN:(k:jF)→uV R.T k→Ob R.T
 |.cells l,x=>.cells (iC R .any l x)
 |.st n,x=>.cells (iU R .any (R.lf n) (R.of n x))
 |.map k e,x=>.map k e x
 |.arr t,x=>.arr t x
 |.sg l,x=>.sg (qK l x)
def oU (st:List (Nat×TV R.T)):(l:List (Nat×Sk))→Option (wR R.T l)
 | []=>some ()
 | [(i,k)]=>match look st i with
   |some v=>pk R k v
   |none=>none
 | (i,k)::h::l=>match look st i with
   |some v=>match pk R k v with
    |some x=>match oU st (h::l) with
     |some p=>some (x,p)
     |none=>none
    |none=>none
   |none=>none
def CS:(l:List (Nat×Sk))→wR R.T l→List (Nat×TV R.T)
 | [],_=>[]
 | [(i,k)],x=>[(i,up R .any k x)]
 | (i,k)::h::l,p=>(i,up R .any k p.1)::CS (h::l) p.2
def lg (st:List (Nat×Ob R.T)):(l:List (Nat×jF))→Option (mV R.T l)
 | []=>some ()
 | [(i,k)]=>match look st i with
   |some v=>u7 R k v
   |none=>none
 | (i,k)::h::l=>match look st i with
   |some v=>match u7 R k v with
    |some x=>match lg st (h::l) with
     |some p=>some (x,p)
     |none=>none
    |none=>none
   |none=>none
def jO:(l:List (Nat×jF))→mV R.T l→List (Nat×Ob R.T)
 | [],_=>[]
 | [(i,k)],x=>[(i,jN R k x)]
 | (i,k)::h::l,p=>(i,jN R k p.1)::jO (h::l) p.2
def pack (st:MS R.T):(s:Shape)→Option (nR R.T s)
 | ⟨s,[]⟩=>oU R st.fr s
 | ⟨s,o::os⟩=>match oU R st.fr s with
   |some x=>match lg R st.ob (o::os) with
    |some y=>some (x,y)
    |none=>none
   |none=>none
def zy {T:Nat→Type}:TV T→Bool
 |.d9=>true
 |.aj .nil _ l=>l.isEmpty
 |.aj .full _ l=>l.isEmpty
 |_=>false
def nU {T:Nat→Type} (W:List Nat):List (Nat×Sk)→MS T→MS T
 | [],st=>st
 | (i,.vw o t)::l,st=>match look st.fr i with
   |some v=>bif zy v&& aO o W then nU W l ⟨(i,.vw o t)::(st.new o (.arr t [])).fr,(st.new o (.arr t [])).ob⟩ else nU W l st
   |none=>nU W l st
 |_::l,st=>nU W l st
def jP (W:List Nat) (st:MS R.T) (s:Shape):Option (nR R.T s):=pack R (nU W s.sl st) s
def unpack:(s:Shape)→nR R.T s→MS R.T
 | ⟨s,[]⟩,x=>⟨CS R s x,[]⟩
 | ⟨s,o::os⟩,x=>⟨CS R s x.1,jO R (o::os) x.2⟩
def wX:Ex→Ex→Bool
 |.normal,.normal=>true
 |.ret,.ret=>true
 |.exit i,.exit j=>Nat.beq i j
 |_,_=>false
def pV (W:List Nat) (e:Ex) (st:MS R.T):(l:List (Ex×Shape))→Option (Out R.T l)
 | []=>none
 | [(x,s)]=>bif wX e x then jP R W st s else none
 | (x,s)::h::l=>bif wX e x then (match jP R W st s with
   |some p=>some (.inl p)
   |none=>none) else (match pV W e st (h::l) with
   |some p=>some (.inr p)
   |none=>none)
def rF {β:Type} (b:MS R.T) (k:Ex→MS R.T→Option β):(l:List (Ex×Shape))→Out R.T l→Option β
 | [],_=>none
 | [(x,s)],p=>k x (b.over (unpack R s p))
 | (x,s)::h::l,p=>Sum.elim (fun q=>k x (b.over (unpack R s q))) (fun q=>rF b k (h::l) q) p
end
end Aq
end
