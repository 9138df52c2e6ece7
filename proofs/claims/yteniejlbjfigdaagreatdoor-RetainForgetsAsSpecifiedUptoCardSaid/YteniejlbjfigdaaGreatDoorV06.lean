/- Part of the proof of a law. -/
import Derived.Test.YteniejlbjfigdaaGreatDoorV05
set_option linter.all false
set_option linter.unusedSimpArgs false
set_option linter.unusedSectionVars false
namespace Aq
open Go
def Is {α:Type} (a b:α):Prop:=a=b
theorem Is.rfl {α:Type} {a:α}:Is a a:=Eq.refl a
def iv (n:Int):V:=.int .i64 n
def lv {α:Type} (f:α→V) (l:List α):V:=.aj .sh (l.map f)
theorem abf {α:Type} {f:α→V} (h:∀x,aA (f x)=true):∀l:List α,bf (l.map f)=true
 | []=>by simp[bf]
 |a::l=>by simp[bf,h a,abf h l]
theorem Gz {α:Type} {f:α→V} (h:∀x,aA (f x)=true) (l:List α):aA (.aj .sh (l.map f))=true:=by
 simp only[aA];exact abf h l
theorem jL {α:Type} {f:α→V} (h:∀x,aA (f x)=true) (l:List α):aA (lv f l)=true:=Gz h l
theorem alE (n:Int):aA (iv n)=true:=by simp[iv,aA]
theorem jZ (l:List (List UInt8)):aA (lv V.str l)=true:=jL (fun _=>by simp[aA]) l
theorem j4 (l:List Int):aA (lv iv l)=true:=jL alE l
theorem kg (k:IntKind) (l:List Int):aA (lv (V.int k) l)=true:=jL (fun _=>by simp[aA]) l
theorem ko (l:List Bool):aA (lv V.bool l)=true:=jL (fun _=>by simp[aA]) l
attribute [go_sem] jZ j4 kg ko
def aK {α:Type} (l:List α) (i:Int):Option α:=if 0≤i∧i<l.length then l[i.toNat]? else none
def nV (P:Program) (t:TypeId):Bool:=match P.underlying t with
 |some (.slice _)=>true
 |_=>false
def GA (P:Program) (t:TypeId):Bool:=match P.underlying t with
 |some .string=>true
 |_=>false
section
variable {E:Env} {fr:Fr} {σ:ah}
def NQ (Q:Ex→Fr→ah→Prop) (fr:Fr) (σ:ah):Prop:=Q .normal fr σ
theorem NQ.i {Q:Ex→Fr→ah→Prop} (h:Q .normal fr σ):NQ Q fr σ:=h
theorem dh.n {b:Code} {Q:Ex→Fr→ah→Prop} (h:CW E b fr σ Q):dh E b Q .normal fr σ:=h
theorem dh.x {b:Code} {i:Nat} {Q:Ex→Fr→ah→Prop} (h:Q (.exit i) fr σ):dh E b Q (.exit i) fr σ:=h
theorem dh.r {b:Code} {Q:Ex→Fr→ah→Prop} (h:Q .ret fr σ):dh E b Q .ret fr σ:=h
theorem oN.n {id:Nat} {Q:Ex→Fr→ah→Prop} (h:Q .normal fr σ):oN id Q .normal fr σ:=h
theorem oN.r {id:Nat} {Q:Ex→Fr→ah→Prop} (h:Q .ret fr σ):oN id Q .ret fr σ:=h
theorem oN.hit {id:Nat} {Q:Ex→Fr→ah→Prop} (h:Q .normal fr σ):oN id Q (.exit id) fr σ:=by simp only[oN,if_true];exact h
theorem sM.n {c:Code} {Q:Ex→Fr→ah→Prop} (h:CW E (.loop c) fr σ Q):sM E c Q .normal fr σ:=h
theorem sM.x {c:Code} {i:Nat} {Q:Ex→Fr→ah→Prop} (h:Q (.exit i) fr σ):sM E c Q (.exit i) fr σ:=h
theorem sM.r {c:Code} {Q:Ex→Fr→ah→Prop} (h:Q .ret fr σ):sM E c Q .ret fr σ:=h
theorem CW.drw {id:Nat} {l:List Oper} {Q:Ex→Fr→ah→Prop} (h:∀k,bL E (nQ l) l σ.next l fr (σ.bump k) [] (NQ Q)) (he:ni l=true:=by rfl):CW E (.region id l.toArray true) fr σ Q:=CW.draw (ops:=l.toArray) he (h _)
theorem CW.vO {c:Operand} {a b:Code} {Q:Ex→Fr→ah→Prop} (hc:Is (fr.ev E c) (.bool true)) (h:CW E a fr σ Q):CW E (.cond c a b) fr σ Q:=CW.cond hc (fun _=>h) (fun h=>by cases h)
theorem CW.uq {c:Operand} {a b:Code} {Q:Ex→Fr→ah→Prop} (hc:Is (fr.ev E c) (.bool false)) (h:CW E b fr σ Q):CW E (.cond c a b) fr σ Q:=CW.cond hc (fun h=>by cases h) (fun _=>h)
theorem OW.o1 {all:List Oper} {st:Nat} {d:Tmp} {op:Op} {ty:TypeId} {pos:String} {bK:Array Edge} {gd:Option (Nat×Bool)} {os:List Oper} {v:V} {σ1:ah} {Q:Fr→ah→Prop} (hw:Is (dZ all fr ⟨some d,op,ty,pos,bK,gd⟩) (some true))
 (hop:∀S,Is (opC E S fr σ st ⟨some d,op,ty,pos,bK,gd⟩) (some (v,fr,σ1))) (h:OW E all (st+1) os (fr.set d v) σ1 Q):OW E all st (⟨some d,op,ty,pos,bK,gd⟩::os) fr σ Q:=OW.op hw hop h
theorem OW.o0 {all:List Oper} {st:Nat} {op:Op} {ty:TypeId} {pos:String} {bK:Array Edge} {gd:Option (Nat×Bool)} {os:List Oper} {v:V} {σ1:ah} {Q:Fr→ah→Prop} (hw:Is (dZ all fr ⟨none,op,ty,pos,bK,gd⟩) (some true))
 (hop:∀S,Is (opC E S fr σ st ⟨none,op,ty,pos,bK,gd⟩) (some (v,fr,σ1))) (h:OW E all (st+1) os fr σ1 Q):OW E all st (⟨none,op,ty,pos,bK,gd⟩::os) fr σ Q:=OW.op hw hop h
theorem OW.s1 {all:List Oper} {st:Nat} {d:Tmp} {op:Op} {ty:TypeId} {pos:String} {bK:Array Edge} {gd:Option (Nat×Bool)} {os:List Oper} {Q:Fr→ah→Prop} (hw:Is (dZ all fr ⟨some d,op,ty,pos,bK,gd⟩) (some false))
 (h:OW E all (st+1) os (fr.set d ay) σ Q):OW E all st (⟨some d,op,ty,pos,bK,gd⟩::os) fr σ Q:=OW.skip hw h
theorem OW.s0 {all:List Oper} {st:Nat} {op:Op} {ty:TypeId} {pos:String} {bK:Array Edge} {gd:Option (Nat×Bool)} {os:List Oper} {Q:Fr→ah→Prop} (hw:Is (dZ all fr ⟨none,op,ty,pos,bK,gd⟩) (some false))
 (h:OW E all (st+1) os fr σ Q):OW E all st (⟨none,op,ty,pos,bK,gd⟩::os) fr σ Q:=OW.skip hw h
theorem bL.o1 {ms:List Nat} {all:List Oper} {st:Nat} {d:Tmp} {op:Op} {ty:TypeId} {pos:String} {bK:Array Edge} {gd:Option (Nat×Bool)} {os:List Oper} {v:V} {σ1:ah} {fs:List eG} {f:eG} {Q:Fr→ah→Prop} (hw:Is (dZ all fr ⟨some d,op,ty,pos,bK,gd⟩) (some true))
 (hop:∀S,Is (opC E S fr σ st ⟨some d,op,ty,pos,bK,gd⟩) (some (v,fr,σ1))) (hf:Is (dA E all fr ⟨some d,op,ty,pos,bK,gd⟩ true) f) (h:bL E ms all (st+1) os (fr.set d v) σ1 (fs++[f]) Q):bL E ms all st (⟨some d,op,ty,pos,bK,gd⟩::os) fr σ fs Q:=
 bL.op hw hop (by rw[hf];exact h)
theorem bL.o0 {ms:List Nat} {all:List Oper} {st:Nat} {op:Op} {ty:TypeId} {pos:String} {bK:Array Edge} {gd:Option (Nat×Bool)} {os:List Oper} {v:V} {σ1:ah} {fs:List eG} {f:eG} {Q:Fr→ah→Prop} (hw:Is (dZ all fr ⟨none,op,ty,pos,bK,gd⟩) (some true))
 (hop:∀S,Is (opC E S fr σ st ⟨none,op,ty,pos,bK,gd⟩) (some (v,fr,σ1))) (hf:Is (dA E all fr ⟨none,op,ty,pos,bK,gd⟩ true) f) (h:bL E ms all (st+1) os fr σ1 (fs++[f]) Q):bL E ms all st (⟨none,op,ty,pos,bK,gd⟩::os) fr σ fs Q:=
 bL.op hw hop (by rw[hf];exact h)
theorem bL.s1 {ms:List Nat} {all:List Oper} {st:Nat} {d:Tmp} {op:Op} {ty:TypeId} {pos:String} {bK:Array Edge} {gd:Option (Nat×Bool)} {os:List Oper} {fs:List eG} {f:eG} {Q:Fr→ah→Prop} (hw:Is (dZ all fr ⟨some d,op,ty,pos,bK,gd⟩) (some false))
 (hf:Is (dA E all fr ⟨some d,op,ty,pos,bK,gd⟩ false) f) (h:bL E ms all (st+1) os (fr.set d ay) σ (fs++[f]) Q):bL E ms all st (⟨some d,op,ty,pos,bK,gd⟩::os) fr σ fs Q:=bL.skip hw (by rw[hf];exact h)
theorem bL.s0 {ms:List Nat} {all:List Oper} {st:Nat} {op:Op} {ty:TypeId} {pos:String} {bK:Array Edge} {gd:Option (Nat×Bool)} {os:List Oper} {fs:List eG} {f:eG} {Q:Fr→ah→Prop} (hw:Is (dZ all fr ⟨none,op,ty,pos,bK,gd⟩) (some false))
 (hf:Is (dA E all fr ⟨none,op,ty,pos,bK,gd⟩ false) f) (h:bL E ms all (st+1) os fr σ (fs++[f]) Q):bL E ms all st (⟨none,op,ty,pos,bK,gd⟩::os) fr σ fs Q:=bL.skip hw (by rw[hf];exact h)
theorem OW.g1 {all:List Oper} {st:Nat} {d:Tmp} {op:Op} {ty:TypeId} {pos:String} {bK:Array Edge} {gd:Option (Nat×Bool)} {os:List Oper} {v:V} {g:Bool} {Q:Fr→ah→Prop} (hw:Is (dZ all fr ⟨some d,op,ty,pos,bK,gd⟩) (some g)) (hop:g=true→∀S,Is (opC E S fr σ st ⟨some d,op,ty,pos,bK,gd⟩) (some (v,fr,σ)))
 (h:OW E all (st+1) os (fr.set d (cond g v ay)) σ Q):OW E all st (⟨some d,op,ty,pos,bK,gd⟩::os) fr σ Q:=by
 cases g with
 |true=>exact OW.op hw (hop rfl) h
 |false=>exact OW.skip hw h
theorem OW.pk {all:List Oper} {st:Nat} {d:Tmp} {c a b:Operand} {ty:TypeId} {pos:String} {bK:Array Edge} {gd:Option (Nat×Bool)} {os:List Oper} {t x y:Bool} {Q:Fr→ah→Prop} (hw:Is (dZ all fr ⟨some d,.pick c a b,ty,pos,bK,gd⟩) (some true)) (hc:Is (fr.ev E c) (.bool t)) (ha:t=true→Is (fr.ev E a) (.bool x)) (hb:t=false→Is (fr.ev E b) (.bool y))
 (h:OW E all (st+1) os (fr.set d (.bool (cond t x y))) σ Q):OW E all st (⟨some d,.pick c a b,ty,pos,bK,gd⟩::os) fr σ Q:=by
 have hc':fr.ev E c= .bool t:=hc
 refine OW.op (v:=.bool (cond t x y)) (σ1:=σ) hw (fun S=> ?_) h
 cases t with
 |true=>
  have ha':fr.ev E a= .bool x:=ha rfl
  simp only[opC,bE,hc',nP,Option.map_some,if_true,ha',cond_true]
 |false=>
  have hb':fr.ev E b= .bool y:=hb rfl
  simp only[opC,bE,hc',nP,Option.map_some,Bool.false_eq_true,if_false,hb',cond_false]
theorem bL.pk {ms:List Nat} {fs:List eG} {f:eG} {all:List Oper} {st:Nat} {d:Tmp} {c a b:Operand} {ty:TypeId} {pos:String} {bK:Array Edge} {gd:Option (Nat×Bool)} {os:List Oper} {t x y:Bool} {Q:Fr→ah→Prop} (hw:Is (dZ all fr ⟨some d,.pick c a b,ty,pos,bK,gd⟩) (some true)) (hc:Is (fr.ev E c) (.bool t)) (ha:t=true→Is (fr.ev E a) (.bool x)) (hb:t=false→Is (fr.ev E b) (.bool y))
 (hf:Is (dA E all fr ⟨some d,.pick c a b,ty,pos,bK,gd⟩ true) f) (h:bL E ms all (st+1) os (fr.set d (.bool (cond t x y))) σ (fs++[f]) Q):bL E ms all st (⟨some d,.pick c a b,ty,pos,bK,gd⟩::os) fr σ fs Q:=by
 have hc':fr.ev E c= .bool t:=hc
 refine bL.op (v:=.bool (cond t x y)) (σ1:=σ) hw (fun S=> ?_) (by rw[hf];exact h)
 cases t with
 |true=>
  have ha':fr.ev E a= .bool x:=ha rfl
  simp only[opC,bE,hc',nP,Option.map_some,if_true,ha',cond_true]
 |false=>
  have hb':fr.ev E b= .bool y:=hb rfl
  simp only[opC,bE,hc',nP,Option.map_some,Bool.false_eq_true,if_false,hb',cond_false]
theorem OW.Mq {all:List Oper} {st:Nat} {d:Option Tmp} {f:Operand} {args:Array Operand} {tys:Array TypeId} {ty:TypeId} {pos:String} {bK:Array Edge} {gd:Option (Nat×Bool)} {os:List Oper} {Q:Fr→ah→Prop} {g:FuncId} {a b as:List V} {v:V}
 (hp:Pure E g as v) (hf:Is (fr.ev E f) (.fn (.func g) a b)) (has:Is ((a++args.toList.map (fr.ev E)++b).mapM (aQ 20 σ)) (some as)) (hc:Is ((a++args.toList.map (fr.ev E)++b).all (fun x=>aA (er x))||flat v) true)
 (hw:Is (dZ all fr ⟨d,.call ⟨.value f,args,tys⟩,ty,pos,bK,gd⟩) (some true)) (h:OW E all (st+1) os (fr.put d v) σ Q) (hi:E.imp g=false:=by rfl) (gU:∀d',d=some d'→E.own g d'=false:=by intros;rfl):OW E all st (⟨d,.call ⟨.value f,args,tys⟩,ty,pos,bK,gd⟩::os) fr σ Q:=
 OW.call hw rfl rfl hf hi has hp hc h gU
theorem bL.Mq {ms:List Nat} {fs:List eG} {ft:eG} {all:List Oper} {st:Nat} {d:Option Tmp} {f:Operand} {args:Array Operand} {tys:Array TypeId} {ty:TypeId} {pos:String} {bK:Array Edge} {gd:Option (Nat×Bool)} {os:List Oper} {Q:Fr→ah→Prop} {g:FuncId} {a b as:List V} {v:V}
 (hp:Pure E g as v) (hf:Is (fr.ev E f) (.fn (.func g) a b)) (has:Is ((a++args.toList.map (fr.ev E)++b).mapM (aQ 20 σ)) (some as)) (hc:Is ((a++args.toList.map (fr.ev E)++b).all (fun x=>aA (er x))||flat v) true)
 (hw:Is (dZ all fr ⟨d,.call ⟨.value f,args,tys⟩,ty,pos,bK,gd⟩) (some true)) (hft:Is (dA E all fr ⟨d,.call ⟨.value f,args,tys⟩,ty,pos,bK,gd⟩ true) ft) (h:bL E ms all (st+1) os (fr.put d v) σ (fs++[ft]) Q)
 (hi:E.imp g=false:=by rfl) (gU:∀d',d=some d'→E.own g d'=false:=by intros;rfl):bL E ms all st (⟨d,.call ⟨.value f,args,tys⟩,ty,pos,bK,gd⟩::os) fr σ fs Q:=
 bL.call hw rfl rfl hf hi has hp hc (by rw[hft];exact h) gU
theorem mM.one {r:ResultVar} {e:Ex} {v0:V} {R:V→ah→Prop} (he:∀i,e≠ .exit i) (hv:Is (iD E fr σ r) (some v0)) (hr:R v0 σ):mM E [r] R e fr σ:=by
 have h1:[r].mapM (iD E fr σ)=some [v0]:=by rw[List.mapM_cons,hv];rfl
 cases e with
 |exit i=>exact absurd rfl (he i)
 |normal=>exact⟨[v0],h1,hr⟩
 |ret=>exact⟨[v0],h1,hr⟩
theorem mM.bJ {rs:List ResultVar} {e:Ex} {v1 v2:V} {vs:List V} {R:V→ah→Prop} (he:∀i,e≠ .exit i) (hv:Is (rs.mapM (iD E fr σ)) (some (v1::v2::vs))) (hr:R (.bJ (v1::v2::vs)) σ):mM E rs R e fr σ:=by
 cases e with
 |exit i=>exact absurd rfl (he i)
 |normal=>exact⟨_,hv,hr⟩
 |ret=>exact⟨_,hv,hr⟩
theorem Pure.of' {f:FuncId} {args:List V} {v:V} {fn:Func} {c:Code} (rs:List ResultVar) (hf:E.P.funcs[f]? =some fn) (hb:fn.body=some c)
 (h:∀fr σ,fr.d=1→fr.om=E.om f→(∀i,fr.tm i=args.getD i ay)→CW E c fr σ (mM E rs (fun v0 σ=>aQ 20 σ v0=some v))) (hrs:fn.results.toList=rs:=by rfl) (hok:(decide (args.length≤fn.ntmps)&& fE fn.ntmps c)=true:=by rfl) (hs:E.kX f=none:=by rfl):Pure E f args v:=
 Pure.of hs hf hb hok (by rw[hrs];exact h _ _ rfl rfl (fun _=>rfl))
theorem jQ {n:Nat} {x:V} (h:aA x=true):aQ (n+1) σ x=some x:=by unfold aQ;simp only[h,if_true]
theorem UF (n:Nat) (k:IntKind) (i:Int):aQ (n+1) σ (.int k i)=some (.int k i):=jQ (by simp[aA])
theorem UG (n:Nat) (b:Bool):aQ (n+1) σ (.bool b)=some (.bool b):=jQ (by simp[aA])
theorem UH (n:Nat) (s:List UInt8):aQ (n+1) σ (.str s)=some (.str s):=jQ (by simp[aA])
theorem uw {n:Nat} {α:Type} {f:α→V} (c:Cap) (l:List α) (h:∀x,aA (f x)=true):aQ (n+2) σ (.aj c (l.map f))=some (lv f l):=by
 by_cases hp:aA (.aj c (l.map f))=true
 ·rw[jQ hp]
  cases c<;>simp only[aA,Bool.false_eq_true] at hp
  rfl
 ·unfold aQ
  simp only[hp,if_false,Bool.false_eq_true]
  have:(l.map f).mapM (aQ (n+1) σ)=some (l.map f):=by
   induction l with
   |nil=>simp
   |cons a l ih=>simp[h a,jQ,ih (by cases c<;>simp_all[aA,bf])]
  rw[this];rfl
theorem alF (k:IntKind) (i:Int):er (.int k i)= .int k i:=rfl
theorem alG (b:Bool):er (.bool b)= .bool b:=rfl
theorem alH (s:List UInt8):er (.str s)= .str s:=rfl
theorem alI {α:Type} (f:α→V) (l:List α):er (lv f l)=lv f l:=rfl
theorem alJ (c:Cap) (l:List V):er (.aj c l)= .aj .sh l:=rfl
theorem alK (n:Int):iv n= .int .i64 n:=rfl
theorem UJ (k:IntKind) (i:Int):aA (.int k i)=true:=by simp[aA]
theorem UK (b:Bool):aA (.bool b)=true:=by simp[aA]
theorem abh (s:List UInt8):aA (.str s)=true:=by simp[aA]
theorem UL {P:Program} {α:Type} {t:TypeId} {c:Cap} {l:List α} {f:α→V} {k:IntKind} {i:Int}:
 mZ P t (.aj c (l.map f)) (.int k i)=if nV P t then (jy P t).bind fun e=>(bX P e).bind fun sz=>(aK l i).bind fun x=>if (f x).cells.length=sz then some (.aM (f x).cells 0) else none else none:=by
 unfold mZ nV jy
 cases hu:P.underlying t with
 |none=>rfl
 |some u=>
  cases u<;>try rfl
  rename_i e
  simp only[if_true,Option.bind_some]
  cases bX P e with
  |none=>rfl
  |some sz=>
   simp only[Option.bind_some,idx,kI,List.length_map,aK]
   split
   ·rename_i h
    simp only[Option.bind_some,List.getElem?_map]
    cases l[i.toNat]? with
    |none=>rfl
    |some x=>rfl
   ·rfl
theorem abj {P:Program} {α:Type} {t:TypeId} {l:List α} {f:α→V} {k:IntKind} {i:Int}:
 mZ P t (lv f l) (.int k i)=if nV P t then (jy P t).bind fun e=>(bX P e).bind fun sz=>(aK l i).bind fun x=>if (f x).cells.length=sz then some (.aM (f x).cells 0) else none else none:=UL
theorem alL {P:Program} {t:TypeId} {v:V} (h1:iK P t=some false) (h2:bX P t=some 1):gB P t [v] 0=some v:=by simp[gB,h1,h2,mY]
theorem alM {t:TypeId} {α:Type} (f:α→V) (l:List α) (h:nV E.P t=true):mG E σ t (lv f l)=some l.length:=by
 unfold nV at h;unfold mG
 split at h
 ·rename_i e he;rw[he];simp[lv]
 ·simp at h
theorem alN {t:TypeId} (c:Cap) (l:List V) (h:nV E.P t=true):mG E σ t (.aj c l)=some l.length:=by
 unfold nV at h;unfold mG
 split at h
 ·rename_i e he;rw[he]
 ·simp at h
theorem alO {t:TypeId} (l:List UInt8) (h:GA E.P t=true):mG E σ t (.str l)=some l.length:=by
 unfold GA at h;unfold mG
 split at h
 ·rename_i he;rw[he]
 ·simp at h
end
section
variable {E:Env} {S:je} {fr:Fr} {σ:ah} {st:Nat} {d:Option Tmp} {ty:TypeId} {pos:String} {bK:Array Edge} {gd:Option (Nat×Bool)}
theorem alP (all:List Oper) (op:Op):dZ all fr ⟨d,op,ty,pos,bK,none⟩=some true:=rfl
def UM (want:Bool):V→Option Bool
 |.bool b=>some (b==want)
 |.raw _=>none
 |_=>some false
theorem alQ (w b:Bool):UM w (.bool b)=some (b==w):=rfl
theorem alR (w:Bool):UM w ay=some false:=rfl
theorem alS (all:List Oper) (op:Op) (j:Nat) (want:Bool):dZ all fr ⟨d,op,ty,pos,bK,some (j,want)⟩=match (all[j]?).bind (·.dst) with
 |some t=>UM want (fr.tm t)
 |none=>some false:=by
 simp only[dZ]
 cases (all[j]?).bind (·.dst) with
 |none=>rfl
 |some t=>simp only;cases fr.tm t<;>rfl
theorem alT (cs:List V):V.cells (.agg cs)=cs:=rfl
theorem alU (k:IntKind) (n:Int):V.cells (.int k n)=[.int k n]:=rfl
theorem alV (k:IntKind) (n:Int):dW (.int k n)=true:=rfl
theorem alW (b:Bool):V.cells (.bool b)=[.bool b]:=rfl
theorem alX (b:Bool):dW (.bool b)=true:=rfl
theorem alY (s:List UInt8):V.cells (.str s)=[.str s]:=rfl
theorem alZ (s:List UInt8):dW (.str s)=true:=rfl
theorem al0 (c:Cap) (l:List V):V.cells (.aj c l)=[.aj c l]:=rfl
theorem al1 (c:Cap) (l:List V):dW (.aj c l)=true:=rfl
theorem al2 (l:Aq.Loc) (s o:Nat):V.cells (.ref l s o)=[.ref l s o]:=rfl
theorem al3 (l:Aq.Loc) (s o:Nat):dW (.ref l s o)=true:=rfl
theorem al4 (cs:List V) (o:Nat):V.cells (.aM cs o)=[.aM cs o]:=rfl
theorem al5 (cs:List V) (o:Nat):dW (.aM cs o)=true:=rfl
theorem al6 (f:Fn) (a b:List V):V.cells (.fn f a b)=[.fn f a b]:=rfl
theorem al7 (f:Fn) (a b:List V):dW (.fn f a b)=true:=rfl
theorem al8 {α:Type} (f:α→V) (l:List α):V.cells (lv f l)=[lv f l]:=rfl
theorem al9:bN []=true:=rfl
theorem abk (x:V) (l:List V):bN (x::l)=(oneCell x&& bN l):=rfl
theorem ama (k:IntKind) (n:Int):oneCell (.int k n)=true:=rfl
theorem amb (b:Bool):oneCell (.bool b)=true:=rfl
theorem amc (s:List UInt8):oneCell (.str s)=true:=rfl
theorem amd {α:Type} (f:α→V) (l:List α):oneCell (lv f l)=true:=rfl
theorem ame (c:Cap) (l:List V):oneCell (.aj c l)=true:=rfl
theorem amf (l:Aq.Loc) (s o:Nat):oneCell (.ref l s o)=true:=rfl
theorem amg (cs:List V) (o:Nat):oneCell (.aM cs o)=true:=rfl
theorem amh (cs:List V):dW (.agg cs)=true:=rfl
theorem ami {α:Type} (f:α→V) (l:List α):dW (lv f l)=true:=rfl
theorem amj (x:Operand):opC E S fr σ st ⟨d,.move x,ty,pos,bK,gd⟩=some (fr.ev E x,fr,σ):=rfl
theorem amk (x:Operand):opC E S fr σ st ⟨d,.assign x,ty,pos,bK,gd⟩=some (fr.ev E x,fr,σ):=rfl
theorem abl (c a b:Operand) (h:fr.ev E c= .bool true):opC E S fr σ st ⟨d,.pick c a b,ty,pos,bK,gd⟩=some (fr.ev E a,fr,σ):=by
 simp only[opC,bE,h,nP,Option.map_some,if_true]
theorem abm (c a b:Operand) (h:fr.ev E c= .bool false):opC E S fr σ st ⟨d,.pick c a b,ty,pos,bK,gd⟩=some (fr.ev E b,fr,σ):=by
 simp only[opC,bE,h,nP,Option.map_some,Bool.false_eq_true,if_false]
theorem aml (op:BinOp) (t u:TypeId) (x y:Operand):opC E S fr σ st ⟨d,.binOp op t x y u,ty,pos,bK,gd⟩=(oH E.P op t (fr.ev E x) (fr.ev E y)).map fun v=>(v,fr,σ):=by
 simp only[opC,bE];cases oH E.P op t (fr.ev E x) (fr.ev E y)<;>rfl
theorem amm (op:UnOp) (t:TypeId) (x:Operand):opC E S fr σ st ⟨d,.unOp op t x,ty,pos,bK,gd⟩=(zq op (fr.ev E x)).map fun v=>(v,fr,σ):=by
 simp only[opC,bE];cases zq op (fr.ev E x)<;>rfl
theorem amn (t:TypeId) (x:Operand) (f:Nat):opC E S fr σ st ⟨d,.fieldAddr t x f,ty,pos,bK,gd⟩=(tX E.P t f).bind fun p=>match fr.ev E x with
 |.ref loc s off=>some (.ref loc s (off+p.1),fr,σ)
 |.aM cs off=>some (.aM cs (off+p.1),fr,σ)
 |_=>none:=by
 simp only[opC,bE]
 cases tX E.P t f with
 |none=>rfl
 |some p=>obtain⟨o,u⟩:=p;simp only[Option.bind_some];cases fr.ev E x<;>rfl
theorem amo (t:TypeId) (x:Operand):opC E S fr σ st ⟨d,.load t x,ty,pos,bK,gd⟩=(match fr.ev E x with
 |.ref loc s off=>(σ.bY loc s).bind fun cs=>(gB E.P t cs off).map fun v=>(v,fr,σ)
 |.aM cs off=>(gB E.P t cs off).map fun v=>(v,fr,σ)
 |_=>none):=by
 simp only[opC,bE]
 cases fr.ev E x with
 |ref loc s off=>
  simp only
  cases σ.bY loc s with
  |none=>rfl
  |some cs=>simp only[Option.bind_some];cases gB E.P t cs off<;>rfl
 |aM cs off=>simp only;cases gB E.P t cs off<;>rfl
 |_=>rfl
theorem amq (t:TypeId) (x:Operand) (i:Nat):opC E S fr σ st ⟨some i,.box t x,ty,pos,bK,gd⟩=if bN (fr.ev E x).cells∧dW (fr.ev E x) then some (.ref (fr.d,i) st 0,fr,σ.setObj (fr.d,i) st (.cells (fr.ev E x).cells)) else none:=by
 simp only[opC,bE,Option.map_some,Option.bind_some];split<;>rfl
theorem amr (t:TypeId) (i:Nat):opC E S fr σ st ⟨some i,.alloc t,ty,pos,bK,gd⟩=(iC E.P t).bind fun z=>if bN z.cells then some (.ref (fr.d,i) st 0,fr,σ.setObj (fr.d,i) st (.cells z.cells)) else none:=by
 simp only[opC,bE,Option.map_some,Option.bind_some]
 cases iC E.P t with
 |none=>rfl
 |some z=>simp only[Option.bind_some];split<;>rfl
theorem abn (t:TypeId) (a x:Operand):opC E S fr σ st ⟨d,.store t a x,ty,pos,bK,gd⟩=(match fr.ev E a with
 |.ref loc s off=>(σ.bY loc s).bind fun cs=>
  if some (fr.ev E x).cells.length=bX E.P t∧off+(fr.ev E x).cells.length≤cs.length∧bN (fr.ev E x).cells then some (ay,fr,σ.setObj loc s (.cells (fK cs off (fr.ev E x).cells))) else none
 |_=>none):=by
 simp only[opC,bE]
 cases fr.ev E a with
 |ref loc s off=>
  simp only
  cases σ.bY loc s with
  |none=>rfl
  |some cs=>simp only[Option.bind_some];split<;>rfl
 |_=>rfl
theorem ams (t:TypeId) (x i:Operand):opC E S fr σ st ⟨d,.indexAddr t x i,ty,pos,bK,gd⟩=(mZ E.P t (fr.ev E x) (fr.ev E i)).map fun v=>(v,fr,σ):=by
 simp only[opC,bE];cases mZ E.P t (fr.ev E x) (fr.ev E i)<;>rfl
theorem amt (x:Operand) (i:Nat):opC E S fr σ st ⟨d,.extract x i,ty,pos,bK,gd⟩=(match fr.ev E x with
 |.bJ vs=>(vs[i]?).map fun v=>(v,fr,σ)
 |_=>none):=by
 simp only[opC,bE]
 cases fr.ev E x with
 |bJ vs=>simp only;cases vs[i]? <;>rfl
 |_=>rfl
theorem amu (x:Operand) (t:TypeId):opC E S fr σ st ⟨d,.call ⟨.builtin .len, #[x], #[t]⟩,ty,pos,bK,gd⟩=(mG E σ t (fr.ev E x)).map fun n=>(.int .i64 (n:Nat),fr,σ):=by
 show (Option.map _ (((#[t]:Array TypeId)[0]?).bind fun t=>(mG E σ t (fr.ev E x)).map fun n=>(V.int .i64 (n:Nat),σ)))=_
 rw[show (#[t]:Array TypeId)[0]? =some t from rfl,Option.bind_some]
 cases mG E σ t (fr.ev E x)<;>rfl
end
attribute [go_sem] Bool.false_eq_true oH jO wY zq decide_true decide_false List.getElem?_cons_succ List.getElem?_cons_zero beq_true beq_false Bool.not_true Bool.not_false UE Bool.false_and Bool.and_false Bool.true_and Bool.and_true alP alS alQ alR amj amk abl abm aml amm amn amo amq amr abn ams amt amu Cy aa9 abb aa8 vN xC alr qU als alu alv alx nU Cz Gy alA map_eq abe alB alC alD Gx Ml aly alz alK alL alM alN alO UL List.length_map abj UF UG UH alF alG alH alI alJ UJ UK abh Option.bind_some Option.map_some Option.getD_some nP ofValue jv if_true if_false alT alU alW alY al8 al0 al2 al4 al6 alV alX alZ al1 al3 al5 al7 al9 abk ama amb amc amd ame amf amg amh ami and_self and_true true_and
end Aq
