/- Part of the proof of a law. -/
import Derived.Test.YtgdialomgeijcaaGreatF3405
set_option linter.all false
set_option linter.unusedSimpArgs false
set_option linter.unusedSectionVars false
section
namespace Aq
open Go
def Is {α:Type} (a b:α):Prop:=a=b
theorem Is.rfl {α:Type} {a:α}:Is a a:=Eq.refl a
def iv (n:Int):V:=.int .i64 n
def lv {α:Type} (f:α→V) (l:List α):V:=.aj .sh (l.map f)
theorem Qu {α:Type} {f:α→V} (h:∀x,aD (f x)=true):∀l:List α,aY (l.map f)=true
 | []=>by simp[aY]
 |a::l=>by simp[aY,h a,Qu h l]
theorem Fx {α:Type} {f:α→V} (h:∀x,aD (f x)=true) (l:List α):aD (.aj .sh (l.map f))=true:=by
 simp only[aD];exact Qu h l
theorem p9 {α:Type} {f:α→V} (h:∀x,aD (f x)=true) (l:List α):aD (lv f l)=true:=Fx h l
theorem ZT (n:Int):aD (iv n)=true:=by simp[iv,aD]
theorem tO (l:List (List UInt8)):aD (lv V.str l)=true:=p9 (fun _=>by simp[aD]) l
theorem tQ (l:List Int):aD (lv iv l)=true:=p9 ZT l
theorem uY (k:IntKind) (l:List Int):aD (lv (V.int k) l)=true:=p9 (fun _=>by simp[aD]) l
theorem uZ (l:List Bool):aD (lv V.bool l)=true:=p9 (fun _=>by simp[aD]) l
attribute [go_sem] tO tQ uY uZ
def dX {α:Type} (l:List α) (i:Int):Option α:=if 0≤i∧i<l.length then l[i.toNat]? else none
def qb (P:Program) (t:TypeId):Bool:=match P.underlying t with
 |some (.slice _)=>true
 |_=>false
def Ct (P:Program) (t:TypeId):Bool:=match P.underlying t with
 |some .string=>true
 |_=>false
section
variable {E:Env} {fr:Fr} {σ:ah}
def NQ (Q:Ex→Fr→ah→Prop) (fr:Fr) (σ:ah):Prop:=Q .normal fr σ
theorem NQ.i {Q:Ex→Fr→ah→Prop} (h:Q .normal fr σ):NQ Q fr σ:=h
theorem gF.n {b:Code} {Q:Ex→Fr→ah→Prop} (h:CW E b fr σ Q):gF E b Q .normal fr σ:=h
theorem gF.x {b:Code} {i:Nat} {Q:Ex→Fr→ah→Prop} (h:Q (.exit i) fr σ):gF E b Q (.exit i) fr σ:=h
theorem gF.r {b:Code} {Q:Ex→Fr→ah→Prop} (h:Q .ret fr σ):gF E b Q .ret fr σ:=h
theorem mh.n {id:Nat} {Q:Ex→Fr→ah→Prop} (h:Q .normal fr σ):mh id Q .normal fr σ:=h
theorem mh.r {id:Nat} {Q:Ex→Fr→ah→Prop} (h:Q .ret fr σ):mh id Q .ret fr σ:=h
theorem mh.hit {id:Nat} {Q:Ex→Fr→ah→Prop} (h:Q .normal fr σ):mh id Q (.exit id) fr σ:=by simp only[mh,if_true];exact h
theorem pY.n {c:Code} {Q:Ex→Fr→ah→Prop} (h:CW E (.loop c) fr σ Q):pY E c Q .normal fr σ:=h
theorem pY.x {c:Code} {i:Nat} {Q:Ex→Fr→ah→Prop} (h:Q (.exit i) fr σ):pY E c Q (.exit i) fr σ:=h
theorem pY.r {c:Code} {Q:Ex→Fr→ah→Prop} (h:Q .ret fr σ):pY E c Q .ret fr σ:=h
theorem CW.J6 {c:Operand} {a b:Code} {Q:Ex→Fr→ah→Prop} (hc:Is (fr.ev E c) (.bool true)) (h:CW E a fr σ Q):CW E (.cond c a b) fr σ Q:=CW.cond hc (fun _=>h) (fun h=>by cases h)
theorem CW.J7 {c:Operand} {a b:Code} {Q:Ex→Fr→ah→Prop} (hc:Is (fr.ev E c) (.bool false)) (h:CW E b fr σ Q):CW E (.cond c a b) fr σ Q:=CW.cond hc (fun h=>by cases h) (fun _=>h)
theorem OW.o1 {all:List Oper} {st:Nat} {d:Tmp} {op:Op} {ty:TypeId} {pos:String} {bg:Array Edge} {gd:Option (Nat×Bool)} {os:List Oper} {v:V} {σ1:ah} {Q:Fr→ah→Prop} (hw:Is (bS all fr ⟨some d,op,ty,pos,bg,gd⟩) (some true))
 (hop:∀S,Is (opC E S fr σ st ⟨some d,op,ty,pos,bg,gd⟩) (some (v,fr,σ1))) (h:OW E all (st+1) os (fr.set d v) σ1 Q):OW E all st (⟨some d,op,ty,pos,bg,gd⟩::os) fr σ Q:=OW.op hw hop h
theorem OW.o0 {all:List Oper} {st:Nat} {op:Op} {ty:TypeId} {pos:String} {bg:Array Edge} {gd:Option (Nat×Bool)} {os:List Oper} {v:V} {σ1:ah} {Q:Fr→ah→Prop} (hw:Is (bS all fr ⟨none,op,ty,pos,bg,gd⟩) (some true))
 (hop:∀S,Is (opC E S fr σ st ⟨none,op,ty,pos,bg,gd⟩) (some (v,fr,σ1))) (h:OW E all (st+1) os fr σ1 Q):OW E all st (⟨none,op,ty,pos,bg,gd⟩::os) fr σ Q:=OW.op hw hop h
theorem OW.s1 {all:List Oper} {st:Nat} {d:Tmp} {op:Op} {ty:TypeId} {pos:String} {bg:Array Edge} {gd:Option (Nat×Bool)} {os:List Oper} {Q:Fr→ah→Prop} (hw:Is (bS all fr ⟨some d,op,ty,pos,bg,gd⟩) (some false))
 (h:OW E all (st+1) os (fr.set d aA) σ Q):OW E all st (⟨some d,op,ty,pos,bg,gd⟩::os) fr σ Q:=OW.skip hw h
theorem OW.s0 {all:List Oper} {st:Nat} {op:Op} {ty:TypeId} {pos:String} {bg:Array Edge} {gd:Option (Nat×Bool)} {os:List Oper} {Q:Fr→ah→Prop} (hw:Is (bS all fr ⟨none,op,ty,pos,bg,gd⟩) (some false))
 (h:OW E all (st+1) os fr σ Q):OW E all st (⟨none,op,ty,pos,bg,gd⟩::os) fr σ Q:=OW.skip hw h
theorem bJ.o1 {ms:List Nat} {all:List Oper} {st:Nat} {d:Tmp} {op:Op} {ty:TypeId} {pos:String} {bg:Array Edge} {gd:Option (Nat×Bool)} {os:List Oper} {v:V} {σ1:ah} {fs:List bA} {f:bA} {Q:Fr→ah→Prop} (hw:Is (bS all fr ⟨some d,op,ty,pos,bg,gd⟩) (some true))
 (hop:∀S,Is (opC E S fr σ st ⟨some d,op,ty,pos,bg,gd⟩) (some (v,fr,σ1))) (hf:Is (dA E all fr ⟨some d,op,ty,pos,bg,gd⟩ true) f) (h:bJ E ms all (st+1) os (fr.set d v) σ1 (fs++[f]) Q):bJ E ms all st (⟨some d,op,ty,pos,bg,gd⟩::os) fr σ fs Q:=
 bJ.op hw hop (by rw[hf];exact h)
theorem bJ.o0 {ms:List Nat} {all:List Oper} {st:Nat} {op:Op} {ty:TypeId} {pos:String} {bg:Array Edge} {gd:Option (Nat×Bool)} {os:List Oper} {v:V} {σ1:ah} {fs:List bA} {f:bA} {Q:Fr→ah→Prop} (hw:Is (bS all fr ⟨none,op,ty,pos,bg,gd⟩) (some true))
 (hop:∀S,Is (opC E S fr σ st ⟨none,op,ty,pos,bg,gd⟩) (some (v,fr,σ1))) (hf:Is (dA E all fr ⟨none,op,ty,pos,bg,gd⟩ true) f) (h:bJ E ms all (st+1) os fr σ1 (fs++[f]) Q):bJ E ms all st (⟨none,op,ty,pos,bg,gd⟩::os) fr σ fs Q:=
 bJ.op hw hop (by rw[hf];exact h)
theorem bJ.s1 {ms:List Nat} {all:List Oper} {st:Nat} {d:Tmp} {op:Op} {ty:TypeId} {pos:String} {bg:Array Edge} {gd:Option (Nat×Bool)} {os:List Oper} {fs:List bA} {f:bA} {Q:Fr→ah→Prop} (hw:Is (bS all fr ⟨some d,op,ty,pos,bg,gd⟩) (some false))
 (hf:Is (dA E all fr ⟨some d,op,ty,pos,bg,gd⟩ false) f) (h:bJ E ms all (st+1) os (fr.set d aA) σ (fs++[f]) Q):bJ E ms all st (⟨some d,op,ty,pos,bg,gd⟩::os) fr σ fs Q:=bJ.skip hw (by rw[hf];exact h)
theorem bJ.s0 {ms:List Nat} {all:List Oper} {st:Nat} {op:Op} {ty:TypeId} {pos:String} {bg:Array Edge} {gd:Option (Nat×Bool)} {os:List Oper} {fs:List bA} {f:bA} {Q:Fr→ah→Prop} (hw:Is (bS all fr ⟨none,op,ty,pos,bg,gd⟩) (some false))
 (hf:Is (dA E all fr ⟨none,op,ty,pos,bg,gd⟩ false) f) (h:bJ E ms all (st+1) os fr σ (fs++[f]) Q):bJ E ms all st (⟨none,op,ty,pos,bg,gd⟩::os) fr σ fs Q:=bJ.skip hw (by rw[hf];exact h)
theorem OW.g1 {all:List Oper} {st:Nat} {d:Tmp} {op:Op} {ty:TypeId} {pos:String} {bg:Array Edge} {gd:Option (Nat×Bool)} {os:List Oper} {v:V} {g:Bool} {Q:Fr→ah→Prop} (hw:Is (bS all fr ⟨some d,op,ty,pos,bg,gd⟩) (some g)) (hop:g=true→∀S,Is (opC E S fr σ st ⟨some d,op,ty,pos,bg,gd⟩) (some (v,fr,σ)))
 (h:OW E all (st+1) os (fr.set d (cond g v aA)) σ Q):OW E all st (⟨some d,op,ty,pos,bg,gd⟩::os) fr σ Q:=by
 cases g with
 |true=>exact OW.op hw (hop rfl) h
 |false=>exact OW.skip hw h
theorem OW.pk {all:List Oper} {st:Nat} {d:Tmp} {c a b:Operand} {ty:TypeId} {pos:String} {bg:Array Edge} {gd:Option (Nat×Bool)} {os:List Oper} {t x y:Bool} {Q:Fr→ah→Prop} (hw:Is (bS all fr ⟨some d,.pick c a b,ty,pos,bg,gd⟩) (some true)) (hc:Is (fr.ev E c) (.bool t)) (ha:t=true→Is (fr.ev E a) (.bool x)) (hb:t=false→Is (fr.ev E b) (.bool y))
 (h:OW E all (st+1) os (fr.set d (.bool (cond t x y))) σ Q):OW E all st (⟨some d,.pick c a b,ty,pos,bg,gd⟩::os) fr σ Q:=by
 have hc':fr.ev E c= .bool t:=hc
 refine OW.op (v:=.bool (cond t x y)) (σ1:=σ) hw (fun S=> ?_) h
 cases t with
 |true=>
  have ha':fr.ev E a= .bool x:=ha rfl
  simp only[opC,aS,hc',j6,Option.map_some,if_true,ha',cond_true]
 |false=>
  have hb':fr.ev E b= .bool y:=hb rfl
  simp only[opC,aS,hc',j6,Option.map_some,Bool.false_eq_true,if_false,hb',cond_false]
theorem bJ.pk {ms:List Nat} {fs:List bA} {f:bA} {all:List Oper} {st:Nat} {d:Tmp} {c a b:Operand} {ty:TypeId} {pos:String} {bg:Array Edge} {gd:Option (Nat×Bool)} {os:List Oper} {t x y:Bool} {Q:Fr→ah→Prop} (hw:Is (bS all fr ⟨some d,.pick c a b,ty,pos,bg,gd⟩) (some true)) (hc:Is (fr.ev E c) (.bool t)) (ha:t=true→Is (fr.ev E a) (.bool x)) (hb:t=false→Is (fr.ev E b) (.bool y))
 (hf:Is (dA E all fr ⟨some d,.pick c a b,ty,pos,bg,gd⟩ true) f) (h:bJ E ms all (st+1) os (fr.set d (.bool (cond t x y))) σ (fs++[f]) Q):bJ E ms all st (⟨some d,.pick c a b,ty,pos,bg,gd⟩::os) fr σ fs Q:=by
 have hc':fr.ev E c= .bool t:=hc
 refine bJ.op (v:=.bool (cond t x y)) (σ1:=σ) hw (fun S=> ?_) (by rw[hf];exact h)
 cases t with
 |true=>
  have ha':fr.ev E a= .bool x:=ha rfl
  simp only[opC,aS,hc',j6,Option.map_some,if_true,ha',cond_true]
 |false=>
  have hb':fr.ev E b= .bool y:=hb rfl
  simp only[opC,aS,hc',j6,Option.map_some,Bool.false_eq_true,if_false,hb',cond_false]
theorem OW.Cu {all:List Oper} {st:Nat} {d:Option Tmp} {f:Operand} {args:Array Operand} {tys:Array TypeId} {ty:TypeId} {pos:String} {bg:Array Edge} {gd:Option (Nat×Bool)} {os:List Oper} {Q:Fr→ah→Prop} {g:FuncId} {a b as:List V} {v:V}
 (hp:Pure E g as v) (hf:Is (fr.ev E f) (.fn (.func g) a b)) (has:Is ((a++args.toList.map (fr.ev E)++b).mapM (aJ 20 σ)) (some as)) (hc:Is ((a++args.toList.map (fr.ev E)++b).all (fun x=>aD (er x))||flat v) true)
 (hw:Is (bS all fr ⟨d,.call ⟨.value f,args,tys⟩,ty,pos,bg,gd⟩) (some true)) (h:OW E all (st+1) os (fr.put d v) σ Q) (hi:E.imp g=false:=by rfl) (cu:∀d',d=some d'→E.own g d'=false:=by intros;rfl):OW E all st (⟨d,.call ⟨.value f,args,tys⟩,ty,pos,bg,gd⟩::os) fr σ Q:=
 OW.call hw rfl rfl hf hi has hp hc h cu
theorem bJ.Cu {ms:List Nat} {fs:List bA} {ft:bA} {all:List Oper} {st:Nat} {d:Option Tmp} {f:Operand} {args:Array Operand} {tys:Array TypeId} {ty:TypeId} {pos:String} {bg:Array Edge} {gd:Option (Nat×Bool)} {os:List Oper} {Q:Fr→ah→Prop} {g:FuncId} {a b as:List V} {v:V}
 (hp:Pure E g as v) (hf:Is (fr.ev E f) (.fn (.func g) a b)) (has:Is ((a++args.toList.map (fr.ev E)++b).mapM (aJ 20 σ)) (some as)) (hc:Is ((a++args.toList.map (fr.ev E)++b).all (fun x=>aD (er x))||flat v) true)
 (hw:Is (bS all fr ⟨d,.call ⟨.value f,args,tys⟩,ty,pos,bg,gd⟩) (some true)) (hft:Is (dA E all fr ⟨d,.call ⟨.value f,args,tys⟩,ty,pos,bg,gd⟩ true) ft) (h:bJ E ms all (st+1) os (fr.put d v) σ (fs++[ft]) Q)
 (hi:E.imp g=false:=by rfl) (cu:∀d',d=some d'→E.own g d'=false:=by intros;rfl):bJ E ms all st (⟨d,.call ⟨.value f,args,tys⟩,ty,pos,bg,gd⟩::os) fr σ fs Q:=
 bJ.call hw rfl rfl hf hi has hp hc (by rw[hft];exact h) cu
theorem qX.one {r:ResultVar} {e:Ex} {v0:V} {R:V→ah→Prop} (he:∀i,e≠ .exit i) (hv:Is (gU E fr σ r) (some v0)) (hr:R v0 σ):qX E [r] R e fr σ:=by
 have h1:[r].mapM (gU E fr σ)=some [v0]:=by rw[List.mapM_cons,hv];rfl
 cases e with
 |exit i=>exact absurd rfl (he i)
 |normal=>exact⟨[v0],h1,hr⟩
 |ret=>exact⟨[v0],h1,hr⟩
theorem qX.aT {rs:List ResultVar} {e:Ex} {v1 v2:V} {vs:List V} {R:V→ah→Prop} (he:∀i,e≠ .exit i) (hv:Is (rs.mapM (gU E fr σ)) (some (v1::v2::vs))) (hr:R (.aT (v1::v2::vs)) σ):qX E rs R e fr σ:=by
 cases e with
 |exit i=>exact absurd rfl (he i)
 |normal=>exact⟨_,hv,hr⟩
 |ret=>exact⟨_,hv,hr⟩
theorem Pure.of' {f:FuncId} {args:List V} {v:V} {fn:Func} {c:Code} (rs:List ResultVar) (hf:E.P.funcs[f]? =some fn) (hb:fn.body=some c)
 (h:∀fr σ,fr.d=1→fr.om=E.om f→(∀i,fr.tm i=args.getD i aA)→CW E c fr σ (qX E rs (fun v0 σ=>aJ 20 σ v0=some v))) (hrs:fn.results.toList=rs:=by rfl) (hok:(decide (args.length≤fn.ntmps)&& bO fn.ntmps c)=true:=by rfl) (hs:E.mY f=none:=by rfl):Pure E f args v:=
 Pure.of hs hf hb hok (by rw[hrs];exact h _ _ rfl rfl (fun _=>rfl))
theorem iG {n:Nat} {x:V} (h:aD x=true):aJ (n+1) σ x=some x:=by unfold aJ;simp only[h,if_true]
theorem J8 (n:Nat) (k:IntKind) (i:Int):aJ (n+1) σ (.int k i)=some (.int k i):=iG (by simp[aD])
theorem J9 (n:Nat) (b:Bool):aJ (n+1) σ (.bool b)=some (.bool b):=iG (by simp[aD])
theorem Ka (n:Nat) (s:List UInt8):aJ (n+1) σ (.str s)=some (.str s):=iG (by simp[aD])
theorem wX {n:Nat} {α:Type} {f:α→V} (c:Cap) (l:List α) (h:∀x,aD (f x)=true):aJ (n+2) σ (.aj c (l.map f))=some (lv f l):=by
 by_cases hp:aD (.aj c (l.map f))=true
 ·rw[iG hp]
  cases c<;>simp only[aD,Bool.false_eq_true] at hp
  rfl
 ·unfold aJ
  simp only[hp,if_false,Bool.false_eq_true]
  have:(l.map f).mapM (aJ (n+1) σ)=some (l.map f):=by
   induction l with
   |nil=>simp
   |cons a l ih=>simp[h a,iG,ih (by cases c<;>simp_all[aD,aY])]
  rw[this];rfl
theorem ZU (k:IntKind) (i:Int):er (.int k i)= .int k i:=rfl
theorem ZV (b:Bool):er (.bool b)= .bool b:=rfl
theorem ZW (s:List UInt8):er (.str s)= .str s:=rfl
theorem ZX {α:Type} (f:α→V) (l:List α):er (lv f l)=lv f l:=rfl
theorem ZY (c:Cap) (l:List V):er (.aj c l)= .aj .sh l:=rfl
theorem Z0 (n:Int):iv n= .int .i64 n:=rfl
theorem Kc (k:IntKind) (i:Int):aD (.int k i)=true:=by simp[aD]
theorem Ke (b:Bool):aD (.bool b)=true:=by simp[aD]
theorem Qv (s:List UInt8):aD (.str s)=true:=by simp[aD]
theorem Kg {P:Program} {α:Type} {t:TypeId} {c:Cap} {l:List α} {f:α→V} {k:IntKind} {i:Int}:
 kM P t (.aj c (l.map f)) (.int k i)=if qb P t then (iA P t).bind fun e=>(bF P e).bind fun sz=>(dX l i).bind fun x=>if (f x).cells.length=sz then some (.aH (f x).cells 0) else none else none:=by
 unfold kM qb iA
 cases hu:P.underlying t with
 |none=>rfl
 |some u=>
  cases u<;>try rfl
  rename_i e
  simp only[if_true,Option.bind_some]
  cases bF P e with
  |none=>rfl
  |some sz=>
   simp only[Option.bind_some,idx,jO,List.length_map,dX]
   split
   ·rename_i h
    simp only[Option.bind_some,List.getElem?_map]
    cases l[i.toNat]? with
    |none=>rfl
    |some x=>rfl
   ·rfl
theorem Qw {P:Program} {α:Type} {t:TypeId} {l:List α} {f:α→V} {k:IntKind} {i:Int}:
 kM P t (lv f l) (.int k i)=if qb P t then (iA P t).bind fun e=>(bF P e).bind fun sz=>(dX l i).bind fun x=>if (f x).cells.length=sz then some (.aH (f x).cells 0) else none else none:=Kg
theorem Z4 {P:Program} {t:TypeId} {v:V} (h1:gB P t=some false) (h2:bF P t=some 1):eB P t [v] 0=some v:=by simp[eB,h1,h2,kK]
theorem Z5 {t:TypeId} {α:Type} (f:α→V) (l:List α) (h:qb E.P t=true):kg E σ t (lv f l)=some l.length:=by
 unfold qb at h;unfold kg
 split at h
 ·rename_i e he;rw[he];simp[lv]
 ·simp at h
theorem Z6 {t:TypeId} (c:Cap) (l:List V) (h:qb E.P t=true):kg E σ t (.aj c l)=some l.length:=by
 unfold qb at h;unfold kg
 split at h
 ·rename_i e he;rw[he]
 ·simp at h
theorem Z7 {t:TypeId} (l:List UInt8) (h:Ct E.P t=true):kg E σ t (.str l)=some l.length:=by
 unfold Ct at h;unfold kg
 split at h
 ·rename_i he;rw[he]
 ·simp at h
end
section
variable {E:Env} {S:dW} {fr:Fr} {σ:ah} {st:Nat} {d:Option Tmp} {ty:TypeId} {pos:String} {bg:Array Edge} {gd:Option (Nat×Bool)}
theorem Z8 (all:List Oper) (op:Op):bS all fr ⟨d,op,ty,pos,bg,none⟩=some true:=rfl
def Kh (want:Bool):V→Option Bool
 |.bool b=>some (b==want)
 |.raw _=>none
 |_=>some false
theorem Z9 (w b:Bool):Kh w (.bool b)=some (b==w):=rfl
theorem aac (w:Bool):Kh w aA=some false:=rfl
theorem aad (all:List Oper) (op:Op) (j:Nat) (want:Bool):bS all fr ⟨d,op,ty,pos,bg,some (j,want)⟩=match (all[j]?).bind (·.dst) with
 |some t=>Kh want (fr.tm t)
 |none=>some false:=by
 simp only[bS]
 cases (all[j]?).bind (·.dst) with
 |none=>rfl
 |some t=>simp only;cases fr.tm t<;>rfl
theorem aae (cs:List V):V.cells (.agg cs)=cs:=rfl
theorem aaf (k:IntKind) (n:Int):V.cells (.int k n)=[.int k n]:=rfl
theorem aag (k:IntKind) (n:Int):dL (.int k n)=true:=rfl
theorem aah (b:Bool):V.cells (.bool b)=[.bool b]:=rfl
theorem aai (b:Bool):dL (.bool b)=true:=rfl
theorem aaj (s:List UInt8):V.cells (.str s)=[.str s]:=rfl
theorem aak (s:List UInt8):dL (.str s)=true:=rfl
theorem aal (c:Cap) (l:List V):V.cells (.aj c l)=[.aj c l]:=rfl
theorem aam (c:Cap) (l:List V):dL (.aj c l)=true:=rfl
theorem aan (l:Aq.Loc) (s o:Nat):V.cells (.ref l s o)=[.ref l s o]:=rfl
theorem aao (l:Aq.Loc) (s o:Nat):dL (.ref l s o)=true:=rfl
theorem aap (cs:List V) (o:Nat):V.cells (.aH cs o)=[.aH cs o]:=rfl
theorem aaq (cs:List V) (o:Nat):dL (.aH cs o)=true:=rfl
theorem aar (f:Fn) (a b:List V):V.cells (.fn f a b)=[.fn f a b]:=rfl
theorem aas (f:Fn) (a b:List V):dL (.fn f a b)=true:=rfl
theorem aat {α:Type} (f:α→V) (l:List α):V.cells (lv f l)=[lv f l]:=rfl
theorem aau:bn []=true:=rfl
theorem Qx (x:V) (l:List V):bn (x::l)=(oneCell x&& bn l):=rfl
theorem aav (k:IntKind) (n:Int):oneCell (.int k n)=true:=rfl
theorem aaw (b:Bool):oneCell (.bool b)=true:=rfl
theorem aax (s:List UInt8):oneCell (.str s)=true:=rfl
theorem aay {α:Type} (f:α→V) (l:List α):oneCell (lv f l)=true:=rfl
theorem aaz (c:Cap) (l:List V):oneCell (.aj c l)=true:=rfl
theorem aaA (l:Aq.Loc) (s o:Nat):oneCell (.ref l s o)=true:=rfl
theorem aaB (cs:List V) (o:Nat):oneCell (.aH cs o)=true:=rfl
theorem aaC (cs:List V):dL (.agg cs)=true:=rfl
theorem aaD {α:Type} (f:α→V) (l:List α):dL (lv f l)=true:=rfl
theorem aaE (x:Operand) (h:qO E d=false):opC E S fr σ st ⟨d,.move x,ty,pos,bg,gd⟩=some (fr.ev E x,fr,σ):=by
 show Option.map _ (if qO E d=true then pG σ (fr.ev E x) else some (fr.ev E x,σ))=_
 rw[if_neg (by rw[h];simp)];rfl
theorem aaF (x:Operand):opC E S fr σ st ⟨d,.assign x,ty,pos,bg,gd⟩=some (fr.ev E x,fr,σ):=rfl
theorem aaG (c a b:Operand) (h:fr.ev E c= .bool true):opC E S fr σ st ⟨d,.pick c a b,ty,pos,bg,gd⟩=some (fr.ev E a,fr,σ):=by
 simp only[opC,aS,h,j6,Option.map_some,if_true]
theorem aaH (c a b:Operand) (h:fr.ev E c= .bool false):opC E S fr σ st ⟨d,.pick c a b,ty,pos,bg,gd⟩=some (fr.ev E b,fr,σ):=by
 simp only[opC,aS,h,j6,Option.map_some,Bool.false_eq_true,if_false]
theorem aaI (op:BinOp) (t u:TypeId) (x y:Operand):opC E S fr σ st ⟨d,.binOp op t x y u,ty,pos,bg,gd⟩=(l6 E.P op t (fr.ev E x) (fr.ev E y)).map fun v=>(v,fr,σ):=by
 simp only[opC,aS];cases l6 E.P op t (fr.ev E x) (fr.ev E y)<;>rfl
theorem aaJ (op:UnOp) (t:TypeId) (x:Operand):opC E S fr σ st ⟨d,.unOp op t x,ty,pos,bg,gd⟩=(wC op (fr.ev E x)).map fun v=>(v,fr,σ):=by
 simp only[opC,aS];cases wC op (fr.ev E x)<;>rfl
theorem aaK (t:TypeId) (x:Operand) (f:Nat):opC E S fr σ st ⟨d,.fieldAddr t x f,ty,pos,bg,gd⟩=(qK E.P t f).bind fun p=>match fr.ev E x with
 |.ref loc s off=>some (.ref loc s (off+p.1),fr,σ)
 |.aH cs off=>some (.aH cs (off+p.1),fr,σ)
 |_=>none:=by
 simp only[opC,aS]
 cases qK E.P t f with
 |none=>rfl
 |some p=>obtain⟨o,u⟩:=p;simp only[Option.bind_some];cases fr.ev E x<;>rfl
theorem aaL (t:TypeId) (x:Operand):opC E S fr σ st ⟨d,.load t x,ty,pos,bg,gd⟩=(match fr.ev E x with
 |.ref loc s off=>(σ.bD loc s).bind fun cs=>(eB E.P t cs off).map fun v=>(v,fr,σ)
 |.aH cs off=>(eB E.P t cs off).map fun v=>(v,fr,σ)
 |_=>none):=by
 simp only[opC,aS]
 cases fr.ev E x with
 |ref loc s off=>
  simp only
  cases σ.bD loc s with
  |none=>rfl
  |some cs=>simp only[Option.bind_some];cases eB E.P t cs off<;>rfl
 |aH cs off=>simp only;cases eB E.P t cs off<;>rfl
 |_=>rfl
theorem aaM (t:TypeId) (x:Operand) (i:Nat):opC E S fr σ st ⟨some i,.box t x,ty,pos,bg,gd⟩=if E.qN t=true then (if aD (fr.ev E x)=true∧dL (fr.ev E x)=true then some (.aH (fr.ev E x).cells 0,fr,σ) else none) else if bn (fr.ev E x).cells∧dL (fr.ev E x) then some (.ref (fr.d,i) st 0,fr,σ.setObj (fr.d,i) st (.cells (fr.ev E x).cells)) else none:=by
 show Option.map _ (if E.qN t=true then _ else (some (fr.d,i)).bind _)=_
 by_cases hz:E.qN t=true
 ·simp only[hz,if_true]
  split<;>rfl
 ·simp only[hz,Bool.false_eq_true,if_false,Option.bind_some]
  split<;>rfl
theorem aaN (t:TypeId) (i:Nat):opC E S fr σ st ⟨some i,.alloc t,ty,pos,bg,gd⟩=(fO E.P t).bind fun z=>if bn z.cells then some (.ref (fr.d,i) st 0,fr,σ.setObj (fr.d,i) st (.cells z.cells)) else none:=by
 simp only[opC,aS,Option.map_some,Option.bind_some]
 cases fO E.P t with
 |none=>rfl
 |some z=>simp only[Option.bind_some];split<;>rfl
theorem Qy (t:TypeId) (a x:Operand):opC E S fr σ st ⟨d,.store t a x,ty,pos,bg,gd⟩=(match fr.ev E a with
 |.ref loc s off=>(σ.bD loc s).bind fun cs=>
  if some (fr.ev E x).cells.length=bF E.P t∧off+(fr.ev E x).cells.length≤cs.length∧bn (fr.ev E x).cells then some (aA,fr,σ.setObj loc s (.cells (dR cs off (fr.ev E x).cells))) else none
 |_=>none):=by
 simp only[opC,aS]
 cases fr.ev E a with
 |ref loc s off=>
  simp only
  cases σ.bD loc s with
  |none=>rfl
  |some cs=>simp only[Option.bind_some];split<;>rfl
 |_=>rfl
theorem aaO (t:TypeId) (x i:Operand):opC E S fr σ st ⟨d,.indexAddr t x i,ty,pos,bg,gd⟩=(kM E.P t (fr.ev E x) (fr.ev E i)).map fun v=>(v,fr,σ):=by
 simp only[opC,aS];cases kM E.P t (fr.ev E x) (fr.ev E i)<;>rfl
theorem aaP (x:Operand) (i:Nat):opC E S fr σ st ⟨d,.extract x i,ty,pos,bg,gd⟩=(match fr.ev E x with
 |.aT vs=>(vs[i]?).map fun v=>(v,fr,σ)
 |_=>none):=by
 simp only[opC,aS]
 cases fr.ev E x with
 |aT vs=>simp only;cases vs[i]? <;>rfl
 |_=>rfl
theorem aaQ (x:Operand) (t:TypeId):opC E S fr σ st ⟨d,.call ⟨.builtin .len, #[x], #[t]⟩,ty,pos,bg,gd⟩=(kg E σ t (fr.ev E x)).map fun n=>(.int .i64 (n:Nat),fr,σ):=by
 show (Option.map _ (((#[t]:Array TypeId)[0]?).bind fun t=>(kg E σ t (fr.ev E x)).map fun n=>(V.int .i64 (n:Nat),σ)))=_
 rw[show (#[t]:Array TypeId)[0]? =some t from rfl,Option.bind_some]
 cases kg E σ t (fr.ev E x)<;>rfl
end
attribute [go_sem] Bool.false_eq_true l6 gZ uL wC decide_true decide_false List.getElem?_cons_succ List.getElem?_cons_zero beq_true beq_false Bool.not_true Bool.not_false J5 Bool.false_and Bool.and_false Bool.true_and Bool.and_true Z8 aad Z9 aac aaE aaF aaG aaH aaI aaJ aaK aaL aaM aaN Qy aaO aaP aaQ zm Qp Qq Qo tL Cq ZG tN ZH ZI ZJ ZK p8 Qs ZN ZO map_eq Qt ZP ZQ ZR zn Cr ZL ZM Z0 Z4 Z5 Z6 Z7 Kg List.length_map Qw J8 J9 Ka ZU ZV ZW ZX ZY Kc Ke Qv Option.bind_some Option.map_some Option.getD_some j6 ofValue gu if_true if_false aae aaf aah aaj aat aal aan aap aar aag aai aak aam aao aaq aas aau Qx aav aaw aax aay aaz aaA aaB aaC aaD and_self and_true true_and
end Aq
end
section
namespace Aq
open Go
def qY:Code→List Nat→Option Code
 |c,[]=>some c
 |.seq a b,i::l=>if i=0 then qY a l else qY b l
 |.cond _ a b,i::l=>if i=0 then qY a l else qY b l
 |.block _ a,_::l=>qY a l
 |.loop a,_::l=>qY a l
 |.scope a,_::l=>qY a l
 |.rangeFunc _ _ a b,i::l=>if i=0 then qY a l else qY b l
 |_,_=>none
def fZ (b:Option Code) (l:List Nat):Option Code:=b.bind fun c=>qY c l
section
variable {E:Env} {fr:Fr} {σ:ah}
def tT (E:Env) (c:Code) (fr:Fr) (σ:ah) (Q:Ex→Fr→ah→Prop):Prop:=CW E (.loop c) fr σ Q
theorem Is.e {α:Type} {a b:α} (h:Is a b):a=b:=h
theorem CW.lp {c:Code} {Q:Ex→Fr→ah→Prop} (h:tT E c fr σ Q):CW E (.loop c) fr σ Q:=h
theorem tT.in {b:Option Code} {p:List Nat} {c:Code} {Q:Ex→Fr→ah→Prop} (hs:fZ b p=some c) (h:CW E c fr σ (pY E c Q)):tT E ((fZ b p).getD .skip) fr σ Q:=by
 rw[hs];exact CW.loop h
theorem tT.ih {c:Code} {Q:Ex→Fr→ah→Prop} (h:tT E c fr σ Q):tT E c fr σ Q:=h
def Cv:Code→Nat
 |.region i _ _=>i
 |.seq a _=>Cv a
 |.loop a=>Cv a
 |.scope a=>Cv a
 |.block _ a=>Cv a
 |_=>0
theorem tT.at (k:Nat) {c:Code} {Q:Ex→Fr→ah→Prop} (_h:Is (Cv c) k) (h:tT E c fr σ Q):tT E c fr σ Q:=h
theorem aaR {n:Nat} (c:Cap):aJ (n+2) σ (.aj c [])=some (.aj .sh []):=wX (α:=V) (f:=fun x=>.int .i64 0) c [] (fun _=>by simp[aD])
theorem Qz {n:Nat} (cs:List V):aJ (n+2) σ (.agg cs)=(cs.mapM (aJ (n+1) σ)).map .agg:=by
 by_cases hp:aD (.agg cs)=true
 ·rw[iG hp]
  have:∀cs:List V,aY cs=true→cs.mapM (aJ (n+1) σ)=some cs:=by
   intro cs
   induction cs with
   |nil=>intro _;rfl
   |cons a l ih=>
    intro h
    simp only[aY,Bool.and_eq_true] at h
    rw[List.mapM_cons,iG h.1,ih h.2];rfl
  rw[this cs (by simpa [aD] using hp)];rfl
 ·conv=>lhs;unfold aJ
  simp only[hp,if_false,Bool.false_eq_true]
theorem Ki {n:Nat} (cs:List V):aJ (n+2) σ (.aT cs)=(cs.mapM (aJ (n+1) σ)).map .aT:=by
 by_cases hp:aD (.aT cs)=true
 ·rw[iG hp]
  have:∀cs:List V,aY cs=true→cs.mapM (aJ (n+1) σ)=some cs:=by
   intro cs
   induction cs with
   |nil=>intro _;rfl
   |cons a l ih=>
    intro h
    simp only[aY,Bool.and_eq_true] at h
    rw[List.mapM_cons,iG h.1,ih h.2];rfl
  rw[this cs (by simpa [aD] using hp)];rfl
 ·conv=>lhs;unfold aJ
  simp only[hp,if_false,Bool.false_eq_true]
def Fy (sz:Nat) (σ:ah) (c:Cap) (n:Nat):Prop:=c= .nil∨∃s,c= .own sz s∧σ.top s=n∧s<σ.next
theorem Fy.n {sz n:Nat}:Fy sz σ .nil n:=.inl rfl
theorem Fy.o {sz s n:Nat} (h1:Is (σ.top s) n) (h2:s<σ.next):Fy sz σ (.own sz s) n:=.inr ⟨s,rfl,h1,h2⟩
theorem own_ne {s n k:Nat} (h:s<n):(s==n+k)=false:=by simp;omega
theorem aaS {s n k:Nat} (h:s<n):(n+k==s)=false:=by simp;omega
theorem aaT {s n:Nat} (h:s<n):(s==n)=false:=by simp;omega
theorem aaU {s n:Nat} (h:s<n):(n==s)=false:=by simp;omega
theorem aaV (σ:ah) {s t:Nat} (n:Nat) (h:(t==s)=false):(σ.bE s n).top t=σ.top t:=Cr σ n (by simpa using h)
end
def QA (P:Program) (σ:ah) (st:Nat) (t u:TypeId) (x y:V):Option (V×ah):=
 match P.underlying u with
 |some (.int _)=>gT P false true σ st none t x y
 |some (.slice _)|some .string=>gT P false false σ st none t x y
 |_=>none
theorem aaW {P:Program} {z:Bool} {σ:ah} {st:Nat} {loc:Option Loc} {t:TypeId} {c:Cap} {l:List V} {y:V}:gT P false z σ st loc t (.aj c l) y=gT P false z σ st none t (.aj c l) y:=by
 unfold gT
 cases iA P t with
 |none=>rfl
 |some e=>cases c<;>rfl
section
variable {E:Env} {S:dW} {fr:Fr} {σ:ah} {st:Nat} {d:Option Tmp} {ty:TypeId} {pos:String} {bg:Array Edge} {gd:Option (Nat×Bool)}
theorem aaX {t u:TypeId} {x y:Operand} {c:Cap} {l:List V} (ho:fr.om=false) (hx:fr.ev E x= .aj c l):opC E S fr σ st ⟨d,.call ⟨.builtin .append, #[x,y], #[t,u]⟩,ty,pos,bg,gd⟩=(QA E.P σ st t u (.aj c l) (fr.ev E y)).map fun p=>(p.1,fr,p.2):=by
 show Option.map _ ((((#[t,u]:Array TypeId)[0]?).bind fun t=>(((#[t,u]:Array TypeId)[1]?).bind E.P.underlying).bind fun u=>match u with
  |.int _=>gT E.P fr.om true σ st (d.map fun t=>(fr.d,t)) t (fr.ev E x) (fr.ev E y)
  |.slice _|.string=>gT E.P fr.om false σ st (d.map fun t=>(fr.d,t)) t (fr.ev E x) (fr.ev E y)
  |_=>none))=_
 show Option.map _ ((E.P.underlying u).bind _)=_
 rw[ho,hx]
 unfold QA
 cases E.P.underlying u with
 |none=>rfl
 |some u=>
  cases u<;>try rfl
  all_goals (simp only[Option.bind_some];rw[aaW];first|rfl| (generalize gT _ _ _ _ _ _ _ _ _=o;cases o<;>rfl))
end
def QB (P:Program) (t u:TypeId) (sz dI:Nat) (z:V):Prop:=∃e ag,iA P t=some e∧bF P e=some sz∧pE P e=some dI∧gB P e=some ag∧fO P e=some z∧z.cells.length=sz∧0<sz∧(ag||sz==1)=true∧qb P u=true
theorem QB.mk {P:Program} {t u:TypeId} {sz dI:Nat} {z:V} (e:TypeId) (ag:Bool) (h1:iA P t=some e) (h2:bF P e=some sz) (h3:pE P e=some dI) (h4:gB P e=some ag) (h5:fO P e=some z)
 (h6:z.cells.length=sz) (h7:0<sz) (h8:(ag||sz==1)=true) (h9:qb P u=true):QB P t u sz dI z:=⟨e,ag,h1,h2,h3,h4,h5,h6,h7,h8,h9⟩
def QC (E:Env) (t:TypeId) (ps:List (Nat×V)):Option (List V):=(yF E t).bind fun pl=>(fO E.P t).bind fun z=>l5 pl z.cells ps
section
variable {E:Env} {S:dW} {fr:Fr} {σ:ah} {st:Nat} {d:Option Tmp} {ty:TypeId} {pos:String} {bg:Array Edge} {gd:Option (Nat×Bool)}
theorem aaY (t:TypeId) (l:List (Nat×Operand)):opC E S fr σ st ⟨d,.build t l.toArray,ty,pos,bg,gd⟩=(QC E t (l.map fun p=>(p.1,fr.ev E p.2))).map fun cs=>(.agg cs,fr,σ):=by
 simp only[opC,aS,QC]
 cases yF E t with
 |none=>rfl
 |some pl=>
  simp only[Option.bind_some]
  cases fO E.P t with
  |none=>rfl
  |some z=>
   simp only[Option.bind_some]
   cases l5 pl z.cells (l.map fun p=>(p.1,fr.ev E p.2))<;>rfl
theorem aaZ (t:TypeId) (n:Nat) (l:List (Nat×Operand)):opC E S fr σ st ⟨d,.buildSlice t n l.toArray,ty,pos,bg,gd⟩=(wF E t n (l.map fun p=>(p.1,fr.ev E p.2))).map fun v=>(v,fr,σ):=by
 simp only[opC,aS]
 cases wF E t n (l.map fun p=>(p.1,fr.ev E p.2))<;>rfl
end
section
variable {E:Env} {S:dW} {fr:Fr} {σ:ah} {st:Nat} {d:Option Tmp} {ty:TypeId} {pos:String} {bg:Array Edge} {gd:Option (Nat×Bool)}
theorem aa0 (t:TypeId) (x i:Operand):opC E S fr σ st ⟨d,.index t x i,ty,pos,bg,gd⟩=(sN E.P t (fr.ev E x) (fr.ev E i)).map fun v=>(v,fr,σ):=by
 simp only[opC,aS];cases sN E.P t (fr.ev E x) (fr.ev E i)<;>rfl
theorem QD {P:Program} {t:TypeId} {s:List UInt8} {k:IntKind} {i:Int} (h:Ct P t=true):sN P t (.str s) (.int k i)=(dX s i).map fun b=>.int .u8 (b.toNat:Nat):=by
 unfold Ct at h;unfold sN
 split at h
 ·rename_i he
  rw[he]
  simp only[idx,jO,Option.bind_some,dX]
  split
  ·simp only[Option.bind_some];rfl
  ·rfl
 ·simp at h
def imax (a b:Int):Int:=if b>a then b else a
def Kj (a b:Int):Int:=if b<a then b else a
theorem aa1 (x y:Operand) (tys:List TypeId):opC E S fr σ st ⟨d,.call ⟨.builtin .max, #[x,y],tys.toArray⟩,ty,pos,bg,gd⟩=(jc true (fr.ev E x) [fr.ev E y]).map fun v=>(v,fr,σ):=by
 show Option.map _ ((jc true (fr.ev E x) [fr.ev E y]).map fun v=>(v,σ))=_
 cases jc true (fr.ev E x) [fr.ev E y]<;>rfl
theorem aa2 (x y:Operand) (tys:List TypeId):opC E S fr σ st ⟨d,.call ⟨.builtin .min, #[x,y],tys.toArray⟩,ty,pos,bg,gd⟩=(jc false (fr.ev E x) [fr.ev E y]).map fun v=>(v,fr,σ):=by
 show Option.map _ ((jc false (fr.ev E x) [fr.ev E y]).map fun v=>(v,σ))=_
 cases jc false (fr.ev E x) [fr.ev E y]<;>rfl
theorem aa3 (k:IntKind) (a b:Int):jc true (.int k a) [.int k b]=some (.int k (imax a b)):=by simp[jc,imax]
theorem aa4 (k:IntKind) (a b:Int):jc false (.int k a) [.int k b]=some (.int k (Kj a b)):=by simp[jc,Kj]
end
theorem len1 (v:V):[v].length=1:=rfl
attribute [go_sem] aa0 QD aa1 aa2 aa3 aa4 own_ne aaS aaT aaU aaR Qz Ki aaY aaZ List.map_cons List.map_nil len1 aaV aaX wX implies_true eq_self
theorem aa5:aY []=true:=by simp only[aY]
theorem aa6 (v:V) (l:List V):aY (v::l)=(aD v&& aY l):=by simp only[aY]
attribute [go_sem] aa5 aa6
end Aq
end
section
namespace Aq
open Go
inductive Ty where
 |int (k:IntKind)
 |bool
 |str
 |slice (t:Ty)
 |st (n:Nat)
 deriving DecidableEq
inductive Cp where
 |any
 |sh
 |nil
 |full
 |own (t:Nat)
structure Vec (n:Nat) where
 l:List Int
 h:l.length=n
def Vec.at' {n:Nat} (v:Vec n) (i:Int):Int:=v.l.getD i.toNat 0
def Vec.nth {n:Nat} (v:Vec n) (j:Nat):Int:=v.l.getD j 0
def Vec.set {n:Nat} (v:Vec n) (i y:Int):Vec n:=⟨v.l.set i.toNat y,by rw[List.length_set,v.h]⟩
def Vec.rep (n:Nat) (y:Int):Vec n:=⟨List.replicate n y,List.length_replicate⟩
def Vec.lit (n:Nat) (l:List Int):Vec n:=if h:l.length=n then ⟨l,h⟩ else Vec.rep n 0
def Vec.slc {n:Nat} (v:Vec n) (i:Int) (m:Nat):Vec m:=Vec.lit m ((v.l.drop i.toNat).take m)
def Vec.Cw {n:Nat} (v:Vec n) (lo:Int) (l:List Int):Vec n:=Vec.lit n (v.l.take lo.toNat++l++v.l.drop (lo.toNat+l.length))
inductive gG where
 |i (k:IntKind)
 |a (k:IntKind) (n:Nat)
inductive Sg where
 |i (k:IntKind) (x:Int)
 |a (k:IntKind) (n:Nat) (v:Vec n)
def Sg.w:Sg→Nat
 |.i _ _=>1
 |.a _ n _=>n
def Sg.vs:Sg→List V
 |.i k x=>[.int k x]
 |.a k _ v=>v.l.map (V.int k)
def bf:List Sg→List V
 | []=>[]
 |s::l=>s.vs++bf l
def gq:List Sg→Nat
 | []=>0
 |s::l=>s.w+gq l
def zo:gG→Type
 |.i _=>Int
 |.a _ n=>Vec n
def wY:List gG→Type
 | []=>Unit
 | [k]=>zo k
 |k::h::l=>zo k×wY (h::l)
def Cy:(k:gG)→zo k→Sg
 |.i k,x=>.i k x
 |.a k n,x=>.a k n x
def qc:(l:List gG)→wY l→List Sg
 | [],_=>[]
 | [k],x=>[Cy k x]
 |k::h::l,p=>Cy k p.1::qc (h::l) p.2
def Fz {n m:Nat} (v:Vec n):Option (Vec m):=if h:n=m then some (h▸v) else none
def zq:(k:gG)→Sg→Option (zo k)
 |.i k,.i k' x=>if k'=k then some x else none
 |.a k n,.a k' _ v=>if k'=k then Fz (m:=n) v else none
 |_,_=>none
def tV:(l:List gG)→List Sg→Option (wY l)
 | []=>fun vs=>match vs with
   | []=>some ()
   |_::_=>none
 | [k]=>fun vs=>match vs with
   | [v]=>zq k v
   |_=>none
 |k::h::l=>fun vs=>match vs with
  | []=>none
  |v::vs=>match zq k v with
   |some x=>match tV (h::l) vs with
    |some p=>some (x,p)
    |none=>none
   |none=>none
section
variable (T:Nat→Type)
def Den:Ty→Type
 |.int _=>Int
 |.bool=>Bool
 |.str=>List UInt8
 |.slice t=>List (Den t)
 |.st n=>T n
def jS:List Ty→Type
 | []=>Unit
 | [t]=>Den T t
 |t::u::l=>Den T t×jS (u::l)
inductive TV where
 |int (k:IntKind) (n:Int)
 |bool (b:Bool)
 |fq (b:Bool)
 |str (s:List UInt8)
 |dQ
 |dJ
 |dF
 |dK
 |d9
 |agg (cs:List TV)
 |aT (cs:List TV)
 |aj (c:Cp) (t:Ty) (l:List (Den T t))
 |ref (o off:Nat)
 |aH (cs:List TV) (off:Nat)
 |bq (o:Nat)
 |bL (k e:Ty) (m:List (Den T k×Den T e))
 |fn (f:Nat) (a b:List TV)
 |opt (j:Nat) (w:Bool) (v:TV)
 |vw (o:Nat) (t:Ty)
 |iq (o:Nat) (t:Ty) (i:Int) (off:Nat)
 |sg (ss:List Sg)
 |sv (o off:Nat) (k:IntKind) (n:Nat) (lo hi:Option Int)
 |sel (o off:Nat) (k:IntKind) (n:Nat) (i:Int) (m:Nat)
 |nL (k:IntKind) (n:Nat) (v:Vec n) (i:Int)
 |undef
 |gone
inductive Ob where
 |cells (cs:List (TV T))
 |map (k e:Ty) (m:List (Den T k×Den T e))
 |smap (ks vs:List (TV T))
 |arr (t:Ty) (l:List (Den T t))
 |sg (ss:List Sg)
 |gone
 |ro (b:Ob)
structure MS where
 fr:List (Nat×TV T)
 ob:List (Nat×Ob T)
inductive Sk where
 |d (t:Ty)
 |l (c:Cp) (t:Ty)
 |agg (l:List Sk)
 |ref (o off:Nat)
 |aH (l:List Sk) (off:Nat)
 |bq (o:Nat)
 |bL (k e:Ty)
 |fn (f:Nat) (a b:List Sk)
 |d9
 |vw (o:Nat) (t:Ty)
 |sg (l:List gG)
 |undef
mutual
def nM:Sk→Type
 |.d t=>Den T t
 |.l _ t=>List (Den T t)
 |.agg l=>ak l
 |.ref _ _=>Unit
 |.aH l _=>ak l
 |.bq _=>Unit
 |.bL k e=>List (Den T k×Den T e)
 |.fn _ a b=>ak a×ak b
 |.d9=>Unit
 |.vw _ _=>Unit
 |.sg l=>wY l
 |.undef=>Unit
def ak:List Sk→Type
 | []=>Unit
 | [k]=>nM k
 |k::h::l=>nM k×ak (h::l)
end
inductive iT where
 |cells (l:List Sk)
 |st (n:Nat)
 |map (k e:Ty)
 |arr (t:Ty)
 |sg (l:List gG)
def u6:iT→Type
 |.cells l=>ak T l
 |.st n=>T n
 |.map k e=>List (Den T k×Den T e)
 |.arr t=>List (Den T t)
 |.sg l=>wY l
def lJ:List (Nat×iT)→Type
 | []=>Unit
 | [(_,k)]=>u6 T k
 | (_,k)::h::l=>u6 T k×lJ (h::l)
def wZ:List (Nat×Sk)→Type
 | []=>Unit
 | [(_,k)]=>nM T k
 | (_,k)::h::l=>nM T k×wZ (h::l)
structure Shape where
 sl:List (Nat×Sk)
 ob:List (Nat×iT)
def mo:Shape→Type
 | ⟨s,[]⟩=>wZ T s
 | ⟨s,o::os⟩=>wZ T s×lJ T (o::os)
def Out:List (Ex×Shape)→Type
 | []=>Empty
 | [(_,s)]=>mo T s
 | (_,s)::h::l=>mo T s⊕Out (h::l)
end
structure fI where
 T:Nat→Type
 d:(n:Nat)→T n
 lf:Nat→List Ty
 to:(n:Nat)→jS T (lf n)→T n
 of:(n:Nat)→T n→jS T (lf n)
 enc:(n:Nat)→T n→V
 ty:TypeId→Option Ty
 gl:Nat→Option ((k:IntKind)×(n:Nat)×Vec n)
structure FR (R:fI) where
 args:List Sk
 res:List Sk
 F:ak R.T args→Option (ak R.T res)
 d:ak R.T res
 own:Bool:=false
structure FI (R:fI) where
 a:List Sk
 b:List Sk
 el:List Sk
 F:ak R.T a→ak R.T b→Option (List (ak R.T el))
def F0:Nat:=1000000
structure FM (R:fI) where
 args:List Sk
 obs:List (Nat×iT)
 res:List Sk
 F:ak R.T args→lJ R.T obs→Option (ak R.T res×lJ R.T obs)
structure IR (R:fI) where
 it:Nat→List (FI R)
 im:Nat→List (FM R)
structure Note where
 K:List Nat
 O:List Nat
 sh:Shape
 outs:List (Ex×Shape)
structure dM where
 loops:List (Nat×Note)
 joins:List (Nat×Note)
def look {α:Type}:List (Nat×α)→Nat→Option α
 | [],_=>none
 | (j,x)::l,i=>bif Nat.beq j i then some x else look l i
section
variable (R:fI)
def aC:(t:Ty)→Den R.T t→V
 |.int k=>fun n=>.int k n
 |.bool=>fun b=>.bool b
 |.str=>fun s=>.str s
 |.slice t=>fun l=>.aj .sh (l.map (aC t))
 |.st n=>fun x=>R.enc n x
def encs:(l:List Ty)→jS R.T l→List V
 | [],_=>[]
 | [t],x=>[aC R t x]
 |t::u::l,p=>aC R t p.1::encs (u::l) p.2
def bR:Ty→Nat
 |.st n=>(R.lf n).length
 |_=>1
def zu:(t:Ty)→Den R.T t
 |.int _=>(0:Int)
 |.bool=>false
 |.str=>([]:List UInt8)
 |.slice t=>([]:List (Den R.T t))
 |.st n=>R.d n
def tX (c:Cp):(t:Ty)→Den R.T t→TV R.T
 |.int k=>fun n=>.int k n
 |.bool=>fun b=>.bool b
 |.str=>fun s=>.str s
 |.slice t=>fun l=>.aj c t l
 |.st _=>fun _=>.undef
def gM (c:Cp):(l:List Ty)→jS R.T l→List (TV R.T)
 | [],_=>[]
 | [t],x=>[tX R c t x]
 |t::u::l,p=>tX R c t p.1::gM c (u::l) p.2
def dN (c:Cp):(t:Ty)→Den R.T t→TV R.T
 |.st n=>fun x=>.agg (gM R c (R.lf n) (R.of n x))
 |.int k=>fun n=>.int k n
 |.bool=>fun b=>.bool b
 |.str=>fun s=>.str s
 |.slice t=>fun l=>.aj c t l
def mq {t u:Ty} (l:List (Den R.T t)):Option (List (Den R.T u)):=if h:t=u then some (h▸l) else none
def FB (k:IntKind):TV R.T→Option Int
 |.int k' n=>if k=k' then some n else none
 |_=>none
def FC:TV R.T→Option Bool
 |.bool b=>some b
 |.fq b=>some b
 |_=>none
def FD:TV R.T→Option (List UInt8)
 |.str s=>some s
 |_=>none
def FE (t:Ty):TV R.T→Option (List (Den R.T t))
 |.aj _ _ l=>mq R l
 |.d9=>some []
 |_=>none
def mD:(t:Ty)→TV R.T→Option (Den R.T t)
 |.int k=>fun v=>FB R k v
 |.bool=>fun v=>FC R v
 |.str=>fun v=>FD R v
 |.slice t=>fun v=>FE R t v
 |.st _=>fun _=>none
def hd1:List (TV R.T)→TV R.T
 | [v]=>v
 |_=>.gone
def u7:(l:List Ty)→List (TV R.T)→Option (jS R.T l)
 | []=>fun vs=>match vs with
   | []=>some ()
   |_::_=>none
 | [t]=>fun vs=>mD R t (hd1 R vs)
 |t::u::l=>fun vs=>match vs with
  | []=>none
  |v::vs=>match mD R t v with
   |some x=>match u7 (u::l) vs with
    |some p=>some (x,p)
    |none=>none
   |none=>none
def w9 (n:Nat):TV R.T→Option (R.T n)
 |.agg cs=>match u7 R (R.lf n) cs with
  |some p=>some (R.to n p)
  |none=>none
 |_=>none
def lK:(t:Ty)→TV R.T→Option (Den R.T t)
 |.st n=>fun v=>w9 R n v
 |.int k=>fun v=>FB R k v
 |.bool=>fun v=>FC R v
 |.str=>fun v=>FD R v
 |.slice t=>fun v=>FE R t v
def TV.cells {T:Nat→Type}:TV T→List (TV T)
 |.agg cs=>cs
 |v=>[v]
mutual
def jq {T:Nat→Type} (o:Nat):TV T→Bool
 |.ref p _=>Nat.beq p o
 |.bq p=>Nat.beq p o
 |.agg cs=>jT o cs
 |.aT cs=>jT o cs
 |.aH cs _=>jT o cs
 |.fn _ a b=>jT o a||jT o b
 |.opt _ _ v=>jq o v
 |.vw p _=>Nat.beq p o
 |.iq p _ _ _=>Nat.beq p o
 |.sv p _ _ _ _ _=>Nat.beq p o
 |.sel p _ _ _ _ _=>Nat.beq p o
 |_=>false
def jT {T:Nat→Type} (o:Nat):List (TV T)→Bool
 | []=>false
 |v::l=>jq o v||jT o l
end
def Ob.jq {T:Nat→Type} (o:Nat):Ob T→Bool
 |.cells cs=>jT o cs
 |.smap ks vs=>jT o ks||jT o vs
 |.ro b=>Ob.jq o b
 |_=>false
mutual
def wk {T:Nat→Type} (t:Nat):TV T→TV T
 |.aj (.own u) ty l=>bif Nat.beq u t then .aj .any ty l else .aj (.own u) ty l
 |.agg cs=>.agg (qZ t cs)
 |.aT cs=>.aT (qZ t cs)
 |.aH cs off=>.aH (qZ t cs) off
 |.fn f a b=>.fn f (qZ t a) (qZ t b)
 |.opt j w v=>.opt j w (wk t v)
 |v=>v
def qZ {T:Nat→Type} (t:Nat):List (TV T)→List (TV T)
 | []=>[]
 |v::l=>wk t v::qZ t l
end
def Ob.wk {T:Nat→Type} (t:Nat):Ob T→Ob T
 |.cells cs=>.cells (qZ t cs)
 |.smap ks vs=>.smap (qZ t ks) (qZ t vs)
 |.ro b=>.ro (Ob.wk t b)
 |o=>o
def jr {α:Type} (f:α→α):List (Nat×α)→List (Nat×α)
 | []=>[]
 | (i,x)::l=>(i,f x)::jr f l
def fJ {α:Type} (i:Nat):List (Nat×α)→List (Nat×α)
 | []=>[]
 | (j,x)::l=>bif Nat.beq j i then fJ i l else (j,x)::fJ i l
def MS.wk {T:Nat→Type} (t:Nat) (st:MS T):MS T:=⟨jr (Aq.wk t) st.fr,jr (Ob.wk t) st.ob⟩
def Kk {T:Nat→Type} (j:Nat):TV T→TV T
 |.opt i w v=>bif Nat.beq i j then .gone else .opt i w v
 |v=>v
def MS.put {T:Nat→Type} (st:MS T) (i:Nat) (v:TV T):MS T:={st with fr:=(i,v)::jr (Kk i) (fJ i st.fr)}
def MS.dH {T:Nat→Type} (st:MS T) (d:Option Nat) (v:TV T):MS T:=match d with
 |some i=>st.put i v
 |none=>st
def Kl {T:Nat→Type} (j:Nat) (b:Bool):TV T→TV T
 |.opt i w v=>bif Nat.beq i j then (bif (b==w) then v else .undef) else .opt i w v
 |v=>v
def MS.learn {T:Nat→Type} (st:MS T) (j:Nat) (b:Bool):MS T:={st with fr:=(j,.fq b)::jr (Kl j b) (fJ j st.fr)}
def MS.zw {T:Nat→Type} (st:MS T) (c:Operand) (b:Bool):MS T:=match c with
 |.tmp j=>st.learn j b
 |_=>st
def Cz {T:Nat→Type} (o:Nat) (v:TV T):TV T:=bif jq o v then .gone else v
def Ob.kill {T:Nat→Type} (o:Nat) (v:Ob T):Ob T:=bif Ob.jq o v then .gone else v
def MS.new {T:Nat→Type} (st:MS T) (o:Nat) (b:Ob T):MS T:=⟨jr (Cz o) st.fr,(o,b)::jr (Ob.kill o) (fJ o st.ob)⟩
def MS.set {T:Nat→Type} (st:MS T) (o:Nat) (b:Ob T):MS T:={st with ob:=(o,b)::fJ o st.ob}
def MS.del {T:Nat→Type} (st:MS T) (o:Nat):MS T:={st with ob:=fJ o st.ob}
def Km {T:Nat→Type}:Ob T→Ob T
 |.ro b=>Km b
 |b=>b
def jU {T:Nat→Type} (st:MS T) (o:Nat):Option (Ob T):=match look st.ob o with
 |some b=>some (Km b)
 |none=>none
def lM {T:Nat→Type}:Ob T→Bool
 |.ro _=>true
 |.gone=>true
 |_=>false
def aO (i:Nat):List Nat→Bool
 | []=>false
 |j::l=>Nat.beq i j||aO i l
mutual
def solid {T:Nat→Type} (W:List Nat):TV T→Bool
 |.aj (.own _) _ _=>false
 |.ref o _=> !(aO o W)
 |.bq o=> !(aO o W)
 |.agg cs=>nN W cs
 |.aT cs=>nN W cs
 |.aH cs _=>nN W cs
 |.fn _ a b=>nN W a&& nN W b
 |.opt _ _ _=>false
 |.vw o _=> !(aO o W)
 |.iq o _ _ _=> !(aO o W)
 |.sv o _ _ _ _ _=> !(aO o W)
 |.sel o _ _ _ _ _=> !(aO o W)
 |.gone=>false
 |_=>true
def nN {T:Nat→Type} (W:List Nat):List (TV T)→Bool
 | []=>true
 |v::l=>solid W v&& nN W l
end
def jV {T:Nat→Type} (W:List Nat):Ob T→Bool
 |.cells cs=>nN W cs
 |.map _ _ _=>true
 |.smap ks vs=>nN W ks&& nN W vs
 |.arr _ _=>true
 |.sg _=>true
 |.ro b=>jV W b
 |.gone=>false
def kD {α:Type} (p:Nat→α→Bool) (f:α→α) (l:List (Nat×α)):List Nat→List (Nat×α)
 | []=>[]
 |i::is=>match look l i with
  |some x=>bif p i x then (i,f x)::kD p f l is else kD p f l is
  |none=>kD p f l is
def Kn {T:Nat→Type}:TV T→TV T
 |.aj (.own _) t l=>.aj .any t l
 |v=>v
def base {T:Nat→Type} (W K O:List Nat) (mark:Ob T→Ob T) (st:MS T):MS T:=
 ⟨kD (fun i v=> !(aO i W)&& solid W (Kn v)) Kn st.fr K,kD (fun o b=> !(aO o W)&& jV W b) mark st.ob O⟩
def MS.over {T:Nat→Type} (st b:MS T):MS T:=⟨st.fr++b.fr,st.ob++b.ob⟩
def xg {T:Nat→Type}:Value→Option (TV T)
 |.bool b=>some (.fq b)
 |.int k n=>some (.int k n)
 |.string s=>some (.str s.data.toList)
 |.pointer none=>some .dQ
 |.slice none 0 0=>some .d9
 |.map none=>some .dF
 |.nilFunc=>some .dJ
 |.nilIface=>some .dK
 |_=>none
def zx {T:Nat→Type}:List Value→Option (List (TV T))
 | []=>some []
 |v::l=>match xg v with
  |some x=>match zx l with
   |some y=>some (x::y)
   |none=>none
  |none=>none
def zy {T:Nat→Type}:Value→Option (TV T)
 |.agg cs=>match zx cs.toList with
  |some l=>some (.agg l)
  |none=>none
 |v=>xg v
def FH {T:Nat→Type} (g:List (Nat×Bool)):TV T→Option (TV T)
 |.opt j w v=>match look g j with
  |some u=>some (bif u==w then v else .undef)
  |none=>none
 |v=>some v
def aV {T:Nat→Type} (g:List (Nat×Bool)) (st:MS T):Operand→Option (TV T)
 |.tmp t=>match look st.fr t with
  |some v=>FH g v
  |none=>none
 |.const v=>zy v
 |.func f=>some (.fn f [] [])
 |.global _=>none
def kE {T:Nat→Type} (g:List (Nat×Bool)) (st:MS T):List Operand→Option (List (TV T))
 | []=>some []
 |x::l=>match aV g st x with
  |some v=>match kE g st l with
   |some vs=>some (v::vs)
   |none=>none
  |none=>none
def zA {T:Nat→Type} (g:List (Nat×Bool)) (st:MS T):List (Nat×Operand)→Option (List (Nat×TV T))
 | []=>some []
 | (i,x)::l=>match aV g st x with
   |some v=>match zA g st l with
    |some vs=>some ((i,v)::vs)
    |none=>none
   |none=>none
def lN:List Sg→Nat→Option (List Sg×List Sg)
 |ss,0=>some ([],ss)
 | [],_+1=>none
 |s::ss,n+1=>bif Nat.ble s.w (n+1) then (match lN ss (n+1-s.w) with
  |some (a,b)=>some (s::a,b)
  |none=>none) else none
def vg {T:Nat→Type} (k:IntKind):List (TV T)→Option (List Int)
 | []=>some []
 |.int k' x::l=>if k'=k then (match vg k l with
  |some xs=>some (x::xs)
  |none=>none) else none
 |_=>none
def zB {α:Type} (l:List α):Option Int→Option Int→List α
 |none,none=>l
 |some i,none=>l.drop i.toNat
 |none,some j=>l.take j.toNat
 |some i,some j=>(l.take j.toNat).drop i.toNat
def FJ {T:Nat→Type} (st:MS T) (o off:Nat) (k:IntKind) (n:Nat) (lo hi:Option Int):Option (List Int):=
 match jU st o with
 |some (.sg ss)=>match lN ss off with
  |some (_,.a k' n' v::_)=>if k'=k then (bif Nat.beq n' n then some (zB v.l lo hi) else none) else none
  |_=>none
 |some (.cells cs)=>bif Nat.ble (off+n) cs.length then (match vg k ((cs.drop off).take n) with
  |some l=>some (zB l lo hi)
  |none=>none) else none
 |_=>none
def ru {T:Nat→Type} (st:MS T):TV T→TV T
 |.ref o off=>match jU st o with
  |some (.cells cs)=>.aH cs off
  |_=>.ref o off
 |.bq o=>match jU st o with
  |some (.map k e m)=>.bL k e m
  |_=>.bq o
 |.vw o t=>match jU st o with
  |some (.arr t' l)=>if t'=t then .aj .sh t' l else .vw o t
  |_=>.vw o t
 |.sv o off k n lo hi=>match FJ st o off k n lo hi with
  |some l=>.aj .sh (.int k) l
  |none=>.sv o off k n lo hi
 |v=>v
def CB {T:Nat→Type} (st:MS T):List (TV T)→List (TV T)
 | []=>[]
 |v::l=>ru st v::CB st l
def xk {T:Nat→Type} (st:MS T):TV T→TV T
 |.fn f a b=>.fn f (CB st a) (CB st b)
 |.agg cs=>.agg (CB st cs)
 |v=>ru st v
def kV {T:Nat→Type} (st:MS T):List (TV T)→List (TV T)
 | []=>[]
 |v::l=>xk st v::kV st l
def Ko {T:Nat→Type}:TV T→Bool
 |.agg _=>false
 |.sg _=>false
 |.aT _=>false
 |.gone=>false
 |.undef=>false
 |.opt _ _ _=>false
 |_=>true
def vk {T:Nat→Type}:List (TV T)→Bool
 | []=>true
 |v::l=>Ko v&& vk l
def vo {T:Nat→Type}:TV T→Bool
 |.gone=>false
 |.sg _=>false
 |.opt _ _ _=>false
 |_=>true
mutual
def iH {T:Nat→Type}:TV T→Bool
 |.int _ _=>true
 |.bool _=>true
 |.fq _=>true
 |.str _=>true
 |.dQ=>true
 |.dJ=>true
 |.dF=>true
 |.dK=>true
 |.aj .sh _ _=>true
 |.agg cs=>mE cs
 |.aT cs=>mE cs
 |.bL _ _ _=>true
 |.aH cs _=>mE cs
 |.fn _ a b=>mE a&& mE b
 |.sg _=>true
 |_=>false
def mE {T:Nat→Type}:List (TV T)→Bool
 | []=>true
 |v::l=>iH v&& mE l
end
def CF {T:Nat→Type}:TV T→Bool
 |.aj _ _ _=>true
 |.d9=>true
 |v=>iH v
def FK {T:Nat→Type}:List (TV T)→Bool
 | []=>true
 |v::l=>CF v&& FK l
def QE {T:Nat→Type}:TV T→Bool
 |.agg cs=>FK cs
 |v=>CF v
def vv {T:Nat→Type}:List (TV T)→Bool
 | []=>true
 |v::l=>QE v&& vv l
mutual
def jv:Sk→Bool
 |.d _=>true
 |.l c _=>match c with
  |.any=>true
  |.sh=>true
  |_=>false
 |.agg l=>gH l
 |.aH l _=>gH l
 |.bL _ _=>true
 |.fn _ a b=>gH a&& gH b
 |.sg _=>true
 |_=>false
def gH:List Sk→Bool
 | []=>true
 |k::l=>jv k&& gH l
def dep:Sk→Nat
 |.agg l=>lQ l+3
 |.aH l _=>lQ l+3
 |.fn _ a b=>max (lQ a) (lQ b)+3
 |_=>3
def lQ:List Sk→Nat
 | []=>0
 |k::l=>max (dep k) (lQ l)
end
def Kq:Ty→Bool
 |.int _=>true
 |.bool=>true
 |.str=>true
 |_=>false
def zC:List Sk→Bool
 | []=>true
 |.d t::l=>Kq t&& zC l
 |.sg _::l=>zC l
 |_=>false
mutual
def encS:(k:Sk)→nM R.T k→V
 |.d t,x=>aC R t x
 |.l _ t,x=>aC R (.slice t) x
 |.agg l,x=>.agg (aI l x)
 |.aH l off,x=>.aH (aI l x) off
 |.bL k e,x=>.bL (List.map (fun p=>aC R k p.1) x) (List.map (fun p=>aC R e p.2) x)
 |.fn f a b,x=>.fn (.func f) (aI a x.1) (aI b x.2)
 |.d9,_=>.aj .sh []
 |.ref _ _,_=>aA
 |.bq _,_=>aA
 |.vw _ _,_=>aA
 |.sg l,x=>.agg (bf (qc l x))
 |.undef,_=>aA
def aI:(l:List Sk)→ak R.T l→List V
 | [],_=>[]
 | [k],x=>[encS k x]
 |k::h::l,p=>encS k p.1::aI (h::l) p.2
end
def bT:List V→V
 | [v]=>v
 |vs=>.aT vs
def zD:Cp→Cp→Bool
 |_,.any=>true
 |.sh,.sh=>true
 |.nil,.nil=>true
 |.nil,.own _=>true
 |.full,.own _=>true
 |.full,.full=>true
 |.own t,.own u=>Nat.beq t u
 |_,_=>false
def FL (c:Cp) (t:Ty):TV R.T→Option (List (Den R.T t))
 |.aj c' _ l=>bif zD c' c then mq R l else none
 |.d9=>bif zD .nil c then some [] else none
 |_=>none
def zF {k e k' e':Ty} (m:List (Den R.T k'×Den R.T e')):Option (List (Den R.T k×Den R.T e)):=if h:k'=k∧e'=e then some (by rw[←h.1,←h.2];exact m) else none
mutual
def pk:(k:Sk)→TV R.T→Option (nM R.T k)
 |.d t=>fun v=>lK R t v
 |.l c t=>fun v=>FL R c t v
 |.agg l=>fun v=>match v with
  |.agg cs=>eF l cs
  |_=>none
 |.ref o off=>fun v=>match v with
  |.ref p off'=>bif Nat.beq p o&& Nat.beq off' off then some () else none
  |_=>none
 |.aH l off=>fun v=>match v with
  |.aH cs off'=>bif Nat.beq off' off then eF l cs else none
  |_=>none
 |.bq o=>fun v=>match v with
  |.bq p=>bif Nat.beq p o then some () else none
  |_=>none
 |.bL k e=>fun v=>match v with
  |.bL _ _ m=>zF R m
  |_=>none
 |.fn f a b=>fun v=>match v with
  |.fn f' a' b'=>bif Nat.beq f' f then (match eF a a' with
   |some x=>match eF b b' with
    |some y=>some (x,y)
    |none=>none
   |none=>none) else none
  |_=>none
 |.d9=>fun v=>match v with
  |.d9=>some ()
  |_=>none
 |.vw o t=>fun v=>match v with
  |.vw p t'=>bif Nat.beq p o then (if t'=t then some () else none) else none
  |_=>none
 |.sg l=>fun v=>match v with
  |.sg ss=>tV l ss
  |_=>none
 |.undef=>fun v=>match v with
  |.undef=>some ()
  |_=>none
def eF:(l:List Sk)→List (TV R.T)→Option (ak R.T l)
 | []=>fun vs=>match vs with
   | []=>some ()
   |_::_=>none
 | [k]=>fun vs=>match vs with
   | [v]=>pk k v
   |_=>none
 |k::h::l=>fun vs=>match vs with
  | []=>none
  |v::vs=>match pk k v with
   |some x=>match eF (h::l) vs with
    |some p=>some (x,p)
    |none=>none
   |none=>none
end
mutual
def up (c:Cp):(k:Sk)→nM R.T k→TV R.T
 |.d t,x=>dN R c t x
 |.l c t,x=>.aj c t x
 |.agg l,x=>.agg (gN c l x)
 |.ref o off,_=>.ref o off
 |.aH l off,x=>.aH (gN c l x) off
 |.bq o,_=>.bq o
 |.bL k e,x=>.bL k e x
 |.fn f a b,x=>.fn f (gN c a x.1) (gN c b x.2)
 |.d9,_=>.d9
 |.vw o t,_=>.vw o t
 |.sg l,x=>.sg (qc l x)
 |.undef,_=>.undef
def gN (c:Cp):(l:List Sk)→ak R.T l→List (TV R.T)
 | [],_=>[]
 | [k],x=>[up c k x]
 |k::h::l,p=>up c k p.1::gN c (h::l) p.2
end
def vB:(k:iT)→Ob R.T→Option (u6 R.T k)
 |.cells l=>fun o=>match o with
  |.cells cs=>eF R l cs
  |_=>none
 |.st n=>fun o=>match o with
  |.cells cs=>w9 R n (.agg cs)
  |_=>none
 |.map k e=>fun o=>match o with
  |.map _ _ m=>zF R m
  |_=>none
 |.arr t=>fun o=>match o with
  |.arr _ l=>mq R l
  |_=>none
 |.sg l=>fun o=>match o with
  |.sg ss=>tV l ss
  |_=>none
def jd:(k:iT)→u6 R.T k→Ob R.T
 |.cells l,x=>.cells (gN R .any l x)
 |.st n,x=>.cells (gM R .any (R.lf n) (R.of n x))
 |.map k e,x=>.map k e x
 |.arr t,x=>.arr t x
 |.sg l,x=>.sg (qc l x)
def nO (st:List (Nat×TV R.T)):(l:List (Nat×Sk))→Option (wZ R.T l)
 | []=>some ()
 | [(i,k)]=>match look st i with
   |some v=>pk R k v
   |none=>none
 | (i,k)::h::l=>match look st i with
   |some v=>match pk R k v with
    |some x=>match nO st (h::l) with
     |some p=>some (x,p)
     |none=>none
    |none=>none
   |none=>none
def CG:(l:List (Nat×Sk))→wZ R.T l→List (Nat×TV R.T)
 | [],_=>[]
 | [(i,k)],x=>[(i,up R .any k x)]
 | (i,k)::h::l,p=>(i,up R .any k p.1)::CG (h::l) p.2
def jW (st:List (Nat×Ob R.T)):(l:List (Nat×iT))→Option (lJ R.T l)
 | []=>some ()
 | [(i,k)]=>match look st i with
   |some v=>vB R k v
   |none=>none
 | (i,k)::h::l=>match look st i with
   |some v=>match vB R k v with
    |some x=>match jW st (h::l) with
     |some p=>some (x,p)
     |none=>none
    |none=>none
   |none=>none
def je:(l:List (Nat×iT))→lJ R.T l→List (Nat×Ob R.T)
 | [],_=>[]
 | [(i,k)],x=>[(i,jd R k x)]
 | (i,k)::h::l,p=>(i,jd R k p.1)::je (h::l) p.2
def pack (st:MS R.T):(s:Shape)→Option (mo R.T s)
 | ⟨s,[]⟩=>nO R st.fr s
 | ⟨s,o::os⟩=>match nO R st.fr s with
   |some x=>match jW R st.ob (o::os) with
    |some y=>some (x,y)
    |none=>none
   |none=>none
def zG {T:Nat→Type}:TV T→Bool
 |.d9=>true
 |.aj .nil _ l=>l.isEmpty
 |.aj .full _ l=>l.isEmpty
 |_=>false
def mG {T:Nat→Type} (W:List Nat):List (Nat×Sk)→MS T→MS T
 | [],st=>st
 | (i,.vw o t)::l,st=>match look st.fr i with
   |some v=>bif zG v&& aO o W then mG W l ⟨(i,.vw o t)::(st.new o (.arr t [])).fr,(st.new o (.arr t [])).ob⟩ else mG W l st
   |none=>mG W l st
 |_::l,st=>mG W l st
def jf (W:List Nat) (st:MS R.T) (s:Shape):Option (mo R.T s):=pack R (mG W s.sl st) s
def unpack:(s:Shape)→mo R.T s→MS R.T
 | ⟨s,[]⟩,x=>⟨CG R s x,[]⟩
 | ⟨s,o::os⟩,x=>⟨CG R s x.1,je R (o::os) x.2⟩
def xq:Ex→Ex→Bool
 |.normal,.normal=>true
 |.ret,.ret=>true
 |.exit i,.exit j=>Nat.beq i j
 |_,_=>false
def oJ (W:List Nat) (e:Ex) (st:MS R.T):(l:List (Ex×Shape))→Option (Out R.T l)
 | []=>none
 | [(x,s)]=>bif xq e x then jf R W st s else none
 | (x,s)::h::l=>bif xq e x then (match jf R W st s with
   |some p=>some (.inl p)
   |none=>none) else (match oJ W e st (h::l) with
   |some p=>some (.inr p)
   |none=>none)
def rz {β:Type} (b:MS R.T) (k:Ex→MS R.T→Option β):(l:List (Ex×Shape))→Out R.T l→Option β
 | [],_=>none
 | [(x,s)],p=>k x (b.over (unpack R s p))
 | (x,s)::h::l,p=>Sum.elim (fun q=>k x (b.over (unpack R s q))) (fun q=>rz b k (h::l) q) p
end
end Aq
end
