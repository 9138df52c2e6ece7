/- Part of the proof of a law. -/
import Derived.Test.YtdcnajadcbedkaaGreatDoorS1105
set_option linter.all false
set_option linter.unusedSimpArgs false
set_option linter.unusedSectionVars false
section
namespace Aq
open Go
def Is {α:Type} (a b:α):Prop:=a=b
theorem Is.rfl {α:Type} {a:α}:Is a a:=Eq.refl a
def iv (n:Int):V:=.int .i64 n
def lv {α:Type} (f:α→V) (l:List α):V:=.aj .sh (l.map f)
theorem TP {α:Type} {f:α→V} (h:∀x,aF (f x)=true):∀l:List α,aR (l.map f)=true
 | []=>by simp[aR]
 |a::l=>by simp[aR,h a,TP h l]
theorem Ae {α:Type} {f:α→V} (h:∀x,aF (f x)=true) (l:List α):aF (.aj .sh (l.map f))=true:=by
 simp only[aF];exact TP h l
theorem iW {α:Type} {f:α→V} (h:∀x,aF (f x)=true) (l:List α):aF (lv f l)=true:=Ae h l
theorem acT (n:Int):aF (iv n)=true:=by simp[iv,aF]
theorem jr (l:List (List UInt8)):aF (lv V.str l)=true:=iW (fun _=>by simp[aF]) l
theorem jv (l:List Int):aF (lv iv l)=true:=iW acT l
theorem jw (k:IntKind) (l:List Int):aF (lv (V.int k) l)=true:=iW (fun _=>by simp[aF]) l
theorem jy (l:List Bool):aF (lv V.bool l)=true:=iW (fun _=>by simp[aF]) l
attribute [go_sem] jr jv jw jy
def aQ {α:Type} (l:List α) (i:Int):Option α:=if 0≤i∧i<l.length then l[i.toNat]? else none
def mK (P:Program) (t:TypeId):Bool:=match P.underlying t with
 |some (.slice _)=>true
 |_=>false
def DX (P:Program) (t:TypeId):Bool:=match P.underlying t with
 |some .string=>true
 |_=>false
section
variable {E:Env} {fr:Fr} {σ:ah}
def NQ (Q:Ex→Fr→ah→Prop) (fr:Fr) (σ:ah):Prop:=Q .normal fr σ
theorem NQ.i {Q:Ex→Fr→ah→Prop} (h:Q .normal fr σ):NQ Q fr σ:=h
theorem bO.n {b:Code} {Q:Ex→Fr→ah→Prop} (h:CW E b fr σ Q):bO E b Q .normal fr σ:=h
theorem bO.x {b:Code} {i:Nat} {Q:Ex→Fr→ah→Prop} (h:Q (.exit i) fr σ):bO E b Q (.exit i) fr σ:=h
theorem bO.r {b:Code} {Q:Ex→Fr→ah→Prop} (h:Q .ret fr σ):bO E b Q .ret fr σ:=h
theorem kX.n {id:Nat} {Q:Ex→Fr→ah→Prop} (h:Q .normal fr σ):kX id Q .normal fr σ:=h
theorem kX.r {id:Nat} {Q:Ex→Fr→ah→Prop} (h:Q .ret fr σ):kX id Q .ret fr σ:=h
theorem kX.hit {id:Nat} {Q:Ex→Fr→ah→Prop} (h:Q .normal fr σ):kX id Q (.exit id) fr σ:=by simp only[kX,if_true];exact h
theorem nA.n {c:Code} {Q:Ex→Fr→ah→Prop} (h:CW E (.loop c) fr σ Q):nA E c Q .normal fr σ:=h
theorem nA.x {c:Code} {i:Nat} {Q:Ex→Fr→ah→Prop} (h:Q (.exit i) fr σ):nA E c Q (.exit i) fr σ:=h
theorem nA.r {c:Code} {Q:Ex→Fr→ah→Prop} (h:Q .ret fr σ):nA E c Q .ret fr σ:=h
theorem CW.wo {c:Operand} {a b:Code} {Q:Ex→Fr→ah→Prop} (hc:Is (fr.ev E c) (.bool true)) (h:CW E a fr σ Q):CW E (.cond c a b) fr σ Q:=CW.cond hc (fun _=>h) (fun h=>by cases h)
theorem CW.sN {c:Operand} {a b:Code} {Q:Ex→Fr→ah→Prop} (hc:Is (fr.ev E c) (.bool false)) (h:CW E b fr σ Q):CW E (.cond c a b) fr σ Q:=CW.cond hc (fun h=>by cases h) (fun _=>h)
theorem OW.o1 {all:List Oper} {st:Nat} {d:Tmp} {op:Op} {ty:TypeId} {pos:String} {bE:Array Edge} {gd:Option (Nat×Bool)} {os:List Oper} {v:V} {σ1:ah} {Q:Fr→ah→Prop} (hw:Is (dJ all fr ⟨some d,op,ty,pos,bE,gd⟩) (some true))
 (hop:∀S,Is (opC E S fr σ st ⟨some d,op,ty,pos,bE,gd⟩) (some (v,fr,σ1))) (h:OW E all (st+1) os (fr.set d v) σ1 Q):OW E all st (⟨some d,op,ty,pos,bE,gd⟩::os) fr σ Q:=OW.op hw hop h
theorem OW.o0 {all:List Oper} {st:Nat} {op:Op} {ty:TypeId} {pos:String} {bE:Array Edge} {gd:Option (Nat×Bool)} {os:List Oper} {v:V} {σ1:ah} {Q:Fr→ah→Prop} (hw:Is (dJ all fr ⟨none,op,ty,pos,bE,gd⟩) (some true))
 (hop:∀S,Is (opC E S fr σ st ⟨none,op,ty,pos,bE,gd⟩) (some (v,fr,σ1))) (h:OW E all (st+1) os fr σ1 Q):OW E all st (⟨none,op,ty,pos,bE,gd⟩::os) fr σ Q:=OW.op hw hop h
theorem OW.s1 {all:List Oper} {st:Nat} {d:Tmp} {op:Op} {ty:TypeId} {pos:String} {bE:Array Edge} {gd:Option (Nat×Bool)} {os:List Oper} {Q:Fr→ah→Prop} (hw:Is (dJ all fr ⟨some d,op,ty,pos,bE,gd⟩) (some false))
 (h:OW E all (st+1) os (fr.set d aD) σ Q):OW E all st (⟨some d,op,ty,pos,bE,gd⟩::os) fr σ Q:=OW.skip hw h
theorem OW.s0 {all:List Oper} {st:Nat} {op:Op} {ty:TypeId} {pos:String} {bE:Array Edge} {gd:Option (Nat×Bool)} {os:List Oper} {Q:Fr→ah→Prop} (hw:Is (dJ all fr ⟨none,op,ty,pos,bE,gd⟩) (some false))
 (h:OW E all (st+1) os fr σ Q):OW E all st (⟨none,op,ty,pos,bE,gd⟩::os) fr σ Q:=OW.skip hw h
theorem cK.o1 {ms:List Nat} {all:List Oper} {st:Nat} {d:Tmp} {op:Op} {ty:TypeId} {pos:String} {bE:Array Edge} {gd:Option (Nat×Bool)} {os:List Oper} {v:V} {σ1:ah} {fs:List bG} {f:bG} {Q:Fr→ah→Prop} (hw:Is (dJ all fr ⟨some d,op,ty,pos,bE,gd⟩) (some true))
 (hop:∀S,Is (opC E S fr σ st ⟨some d,op,ty,pos,bE,gd⟩) (some (v,fr,σ1))) (hf:Is (dV E all fr ⟨some d,op,ty,pos,bE,gd⟩ true) f) (h:cK E ms all (st+1) os (fr.set d v) σ1 (fs++[f]) Q):cK E ms all st (⟨some d,op,ty,pos,bE,gd⟩::os) fr σ fs Q:=
 cK.op hw hop (by rw[hf];exact h)
theorem cK.o0 {ms:List Nat} {all:List Oper} {st:Nat} {op:Op} {ty:TypeId} {pos:String} {bE:Array Edge} {gd:Option (Nat×Bool)} {os:List Oper} {v:V} {σ1:ah} {fs:List bG} {f:bG} {Q:Fr→ah→Prop} (hw:Is (dJ all fr ⟨none,op,ty,pos,bE,gd⟩) (some true))
 (hop:∀S,Is (opC E S fr σ st ⟨none,op,ty,pos,bE,gd⟩) (some (v,fr,σ1))) (hf:Is (dV E all fr ⟨none,op,ty,pos,bE,gd⟩ true) f) (h:cK E ms all (st+1) os fr σ1 (fs++[f]) Q):cK E ms all st (⟨none,op,ty,pos,bE,gd⟩::os) fr σ fs Q:=
 cK.op hw hop (by rw[hf];exact h)
theorem cK.s1 {ms:List Nat} {all:List Oper} {st:Nat} {d:Tmp} {op:Op} {ty:TypeId} {pos:String} {bE:Array Edge} {gd:Option (Nat×Bool)} {os:List Oper} {fs:List bG} {f:bG} {Q:Fr→ah→Prop} (hw:Is (dJ all fr ⟨some d,op,ty,pos,bE,gd⟩) (some false))
 (hf:Is (dV E all fr ⟨some d,op,ty,pos,bE,gd⟩ false) f) (h:cK E ms all (st+1) os (fr.set d aD) σ (fs++[f]) Q):cK E ms all st (⟨some d,op,ty,pos,bE,gd⟩::os) fr σ fs Q:=cK.skip hw (by rw[hf];exact h)
theorem cK.s0 {ms:List Nat} {all:List Oper} {st:Nat} {op:Op} {ty:TypeId} {pos:String} {bE:Array Edge} {gd:Option (Nat×Bool)} {os:List Oper} {fs:List bG} {f:bG} {Q:Fr→ah→Prop} (hw:Is (dJ all fr ⟨none,op,ty,pos,bE,gd⟩) (some false))
 (hf:Is (dV E all fr ⟨none,op,ty,pos,bE,gd⟩ false) f) (h:cK E ms all (st+1) os fr σ (fs++[f]) Q):cK E ms all st (⟨none,op,ty,pos,bE,gd⟩::os) fr σ fs Q:=cK.skip hw (by rw[hf];exact h)
theorem OW.g1 {all:List Oper} {st:Nat} {d:Tmp} {op:Op} {ty:TypeId} {pos:String} {bE:Array Edge} {gd:Option (Nat×Bool)} {os:List Oper} {v:V} {g:Bool} {Q:Fr→ah→Prop} (hw:Is (dJ all fr ⟨some d,op,ty,pos,bE,gd⟩) (some g)) (hop:g=true→∀S,Is (opC E S fr σ st ⟨some d,op,ty,pos,bE,gd⟩) (some (v,fr,σ)))
 (h:OW E all (st+1) os (fr.set d (cond g v aD)) σ Q):OW E all st (⟨some d,op,ty,pos,bE,gd⟩::os) fr σ Q:=by
 cases g with
 |true=>exact OW.op hw (hop rfl) h
 |false=>exact OW.skip hw h
theorem OW.pk {all:List Oper} {st:Nat} {d:Tmp} {c a b:Operand} {ty:TypeId} {pos:String} {bE:Array Edge} {gd:Option (Nat×Bool)} {os:List Oper} {t x y:Bool} {Q:Fr→ah→Prop} (hw:Is (dJ all fr ⟨some d,.pick c a b,ty,pos,bE,gd⟩) (some true)) (hc:Is (fr.ev E c) (.bool t)) (ha:t=true→Is (fr.ev E a) (.bool x)) (hb:t=false→Is (fr.ev E b) (.bool y))
 (h:OW E all (st+1) os (fr.set d (.bool (cond t x y))) σ Q):OW E all st (⟨some d,.pick c a b,ty,pos,bE,gd⟩::os) fr σ Q:=by
 have hc':fr.ev E c= .bool t:=hc
 refine OW.op (v:=.bool (cond t x y)) (σ1:=σ) hw (fun S=> ?_) h
 cases t with
 |true=>
  have ha':fr.ev E a= .bool x:=ha rfl
  simp only[opC,aW,hc',mZ,Option.map_some,if_true,ha',cond_true]
 |false=>
  have hb':fr.ev E b= .bool y:=hb rfl
  simp only[opC,aW,hc',mZ,Option.map_some,Bool.false_eq_true,if_false,hb',cond_false]
theorem cK.pk {ms:List Nat} {fs:List bG} {f:bG} {all:List Oper} {st:Nat} {d:Tmp} {c a b:Operand} {ty:TypeId} {pos:String} {bE:Array Edge} {gd:Option (Nat×Bool)} {os:List Oper} {t x y:Bool} {Q:Fr→ah→Prop} (hw:Is (dJ all fr ⟨some d,.pick c a b,ty,pos,bE,gd⟩) (some true)) (hc:Is (fr.ev E c) (.bool t)) (ha:t=true→Is (fr.ev E a) (.bool x)) (hb:t=false→Is (fr.ev E b) (.bool y))
 (hf:Is (dV E all fr ⟨some d,.pick c a b,ty,pos,bE,gd⟩ true) f) (h:cK E ms all (st+1) os (fr.set d (.bool (cond t x y))) σ (fs++[f]) Q):cK E ms all st (⟨some d,.pick c a b,ty,pos,bE,gd⟩::os) fr σ fs Q:=by
 have hc':fr.ev E c= .bool t:=hc
 refine cK.op (v:=.bool (cond t x y)) (σ1:=σ) hw (fun S=> ?_) (by rw[hf];exact h)
 cases t with
 |true=>
  have ha':fr.ev E a= .bool x:=ha rfl
  simp only[opC,aW,hc',mZ,Option.map_some,if_true,ha',cond_true]
 |false=>
  have hb':fr.ev E b= .bool y:=hb rfl
  simp only[opC,aW,hc',mZ,Option.map_some,Bool.false_eq_true,if_false,hb',cond_false]
theorem oo.one {r:ResultVar} {e:Ex} {v0:V} {R:V→ah→Prop} (he:∀i,e≠ .exit i) (hv:Is (jh E fr σ r) (some v0)) (hr:R v0 σ):oo E [r] R e fr σ:=by
 have h1:[r].mapM (jh E fr σ)=some [v0]:=by rw[List.mapM_cons,hv];rfl
 cases e with
 |exit i=>exact absurd rfl (he i)
 |normal=>exact⟨[v0],h1,hr⟩
 |ret=>exact⟨[v0],h1,hr⟩
theorem oo.bg {rs:List ResultVar} {e:Ex} {v1 v2:V} {vs:List V} {R:V→ah→Prop} (he:∀i,e≠ .exit i) (hv:Is (rs.mapM (jh E fr σ)) (some (v1::v2::vs))) (hr:R (.bg (v1::v2::vs)) σ):oo E rs R e fr σ:=by
 cases e with
 |exit i=>exact absurd rfl (he i)
 |normal=>exact⟨_,hv,hr⟩
 |ret=>exact⟨_,hv,hr⟩
theorem Pure.of' {f:FuncId} {args:List V} {v:V} {fn:Func} {c:Code} (rs:List ResultVar) (hf:E.P.funcs[f]? =some fn) (hb:fn.body=some c)
 (h:∀fr σ,fr.d=1→fr.om=E.om f→(∀i,fr.tm i=args.getD i aD)→CW E c fr σ (oo E rs (fun v0 σ=>aN 20 σ v0=some v))) (hrs:fn.results.toList=rs:=by rfl) (hok:(decide (args.length≤fn.ntmps)&& iA fn.ntmps c)=true:=by rfl) (hs:E.je f=none:=by rfl):Pure E f args v:=
 Pure.of hs hf hb hok (by rw[hrs];exact h _ _ rfl rfl (fun _=>rfl))
theorem jA {n:Nat} {x:V} (h:aF x=true):aN (n+1) σ x=some x:=by unfold aN;simp only[h,if_true]
theorem Nr (n:Nat) (k:IntKind) (i:Int):aN (n+1) σ (.int k i)=some (.int k i):=jA (by simp[aF])
theorem Ns (n:Nat) (b:Bool):aN (n+1) σ (.bool b)=some (.bool b):=jA (by simp[aF])
theorem Nt (n:Nat) (s:List UInt8):aN (n+1) σ (.str s)=some (.str s):=jA (by simp[aF])
theorem wu {n:Nat} {α:Type} {f:α→V} (c:Cap) (l:List α) (h:∀x,aF (f x)=true):aN (n+2) σ (.aj c (l.map f))=some (lv f l):=by
 by_cases hp:aF (.aj c (l.map f))=true
 ·rw[jA hp]
  cases c<;>simp only[aF,Bool.false_eq_true] at hp
  rfl
 ·unfold aN
  simp only[hp,if_false,Bool.false_eq_true]
  have:(l.map f).mapM (aN (n+1) σ)=some (l.map f):=by
   induction l with
   |nil=>simp
   |cons a l ih=>simp[h a,jA,ih (by cases c<;>simp_all[aF,aR])]
  rw[this];rfl
theorem acU (k:IntKind) (i:Int):er (.int k i)= .int k i:=rfl
theorem acV (b:Bool):er (.bool b)= .bool b:=rfl
theorem acW (s:List UInt8):er (.str s)= .str s:=rfl
theorem acX {α:Type} (f:α→V) (l:List α):er (lv f l)=lv f l:=rfl
theorem acY (c:Cap) (l:List V):er (.aj c l)= .aj .sh l:=rfl
theorem acZ (n:Int):iv n= .int .i64 n:=rfl
theorem Nu (k:IntKind) (i:Int):aF (.int k i)=true:=by simp[aF]
theorem Nv (b:Bool):aF (.bool b)=true:=by simp[aF]
theorem TQ (s:List UInt8):aF (.str s)=true:=by simp[aF]
theorem Ih {P:Program} {α:Type} {t:TypeId} {c:Cap} {l:List α} {f:α→V} {k:IntKind} {i:Int}:
 lT P t (.aj c (l.map f)) (.int k i)=if mK P t then (iw P t).bind fun e=>(bC P e).bind fun sz=>(aQ l i).bind fun x=>if (f x).cells.length=sz then some (.aK (f x).cells 0) else none else none:=by
 unfold lT mK iw
 cases hu:P.underlying t with
 |none=>rfl
 |some u=>
  cases u<;>try rfl
  rename_i e
  simp only[if_true,Option.bind_some]
  cases bC P e with
  |none=>rfl
  |some sz=>
   simp only[Option.bind_some,idx,kU,List.length_map,aQ]
   split
   ·rename_i h
    simp only[Option.bind_some,List.getElem?_map]
    cases l[i.toNat]? with
    |none=>rfl
    |some x=>rfl
   ·rfl
theorem TR {P:Program} {α:Type} {t:TypeId} {l:List α} {f:α→V} {k:IntKind} {i:Int}:
 lT P t (lv f l) (.int k i)=if mK P t then (iw P t).bind fun e=>(bC P e).bind fun sz=>(aQ l i).bind fun x=>if (f x).cells.length=sz then some (.aK (f x).cells 0) else none else none:=Ih
theorem ac0 {P:Program} {t:TypeId} {v:V} (h1:gH P t=some false) (h2:bC P t=some 1):dI P t [v] 0=some v:=by simp[dI,h1,h2,mq]
theorem ac1 {t:TypeId} {α:Type} (f:α→V) (l:List α) (h:mK E.P t=true):lU E σ t (lv f l)=some l.length:=by
 unfold mK at h;unfold lU
 split at h
 ·rename_i e he;rw[he];simp[lv]
 ·simp at h
theorem ac2 {t:TypeId} (c:Cap) (l:List V) (h:mK E.P t=true):lU E σ t (.aj c l)=some l.length:=by
 unfold mK at h;unfold lU
 split at h
 ·rename_i e he;rw[he]
 ·simp at h
theorem ac3 {t:TypeId} (l:List UInt8) (h:DX E.P t=true):lU E σ t (.str l)=some l.length:=by
 unfold DX at h;unfold lU
 split at h
 ·rename_i he;rw[he]
 ·simp at h
end
section
variable {E:Env} {S:jc} {fr:Fr} {σ:ah} {st:Nat} {d:Option Tmp} {ty:TypeId} {pos:String} {bE:Array Edge} {gd:Option (Nat×Bool)}
theorem ac4 (all:List Oper) (op:Op):dJ all fr ⟨d,op,ty,pos,bE,none⟩=some true:=rfl
def Nw (want:Bool):V→Option Bool
 |.bool b=>some (b==want)
 |.raw _=>none
 |_=>some false
theorem ac5 (w b:Bool):Nw w (.bool b)=some (b==w):=rfl
theorem ac6 (w:Bool):Nw w aD=some false:=rfl
theorem ac7 (all:List Oper) (op:Op) (j:Nat) (want:Bool):dJ all fr ⟨d,op,ty,pos,bE,some (j,want)⟩=match (all[j]?).bind (·.dst) with
 |some t=>Nw want (fr.tm t)
 |none=>some false:=by
 simp only[dJ]
 cases (all[j]?).bind (·.dst) with
 |none=>rfl
 |some t=>simp only;cases fr.tm t<;>rfl
theorem ac8 (cs:List V):V.cells (.agg cs)=cs:=rfl
theorem ac9 (k:IntKind) (n:Int):V.cells (.int k n)=[.int k n]:=rfl
theorem ada (k:IntKind) (n:Int):cu (.int k n)=true:=rfl
theorem adb (b:Bool):V.cells (.bool b)=[.bool b]:=rfl
theorem ade (b:Bool):cu (.bool b)=true:=rfl
theorem adf (s:List UInt8):V.cells (.str s)=[.str s]:=rfl
theorem adg (s:List UInt8):cu (.str s)=true:=rfl
theorem adh (c:Cap) (l:List V):V.cells (.aj c l)=[.aj c l]:=rfl
theorem adi (c:Cap) (l:List V):cu (.aj c l)=true:=rfl
theorem adj (l:Aq.Loc) (s o:Nat):V.cells (.ref l s o)=[.ref l s o]:=rfl
theorem adk (l:Aq.Loc) (s o:Nat):cu (.ref l s o)=true:=rfl
theorem adl (cs:List V) (o:Nat):V.cells (.aK cs o)=[.aK cs o]:=rfl
theorem adn (cs:List V) (o:Nat):cu (.aK cs o)=true:=rfl
theorem ado (f:Fn) (a b:List V):V.cells (.fn f a b)=[.fn f a b]:=rfl
theorem adp (f:Fn) (a b:List V):cu (.fn f a b)=true:=rfl
theorem adq {α:Type} (f:α→V) (l:List α):V.cells (lv f l)=[lv f l]:=rfl
theorem adr:bf []=true:=rfl
theorem TS (x:V) (l:List V):bf (x::l)=(oneCell x&& bf l):=rfl
theorem ads (k:IntKind) (n:Int):oneCell (.int k n)=true:=rfl
theorem adt (b:Bool):oneCell (.bool b)=true:=rfl
theorem adu (s:List UInt8):oneCell (.str s)=true:=rfl
theorem adv {α:Type} (f:α→V) (l:List α):oneCell (lv f l)=true:=rfl
theorem adw (c:Cap) (l:List V):oneCell (.aj c l)=true:=rfl
theorem adx (l:Aq.Loc) (s o:Nat):oneCell (.ref l s o)=true:=rfl
theorem ady (cs:List V) (o:Nat):oneCell (.aK cs o)=true:=rfl
theorem adz (cs:List V):cu (.agg cs)=true:=rfl
theorem adA {α:Type} (f:α→V) (l:List α):cu (lv f l)=true:=rfl
theorem adB (x:Operand):opC E S fr σ st ⟨d,.move x,ty,pos,bE,gd⟩=some (fr.ev E x,fr,σ):=rfl
theorem adC (x:Operand):opC E S fr σ st ⟨d,.assign x,ty,pos,bE,gd⟩=some (fr.ev E x,fr,σ):=rfl
theorem TT (c a b:Operand) (h:fr.ev E c= .bool true):opC E S fr σ st ⟨d,.pick c a b,ty,pos,bE,gd⟩=some (fr.ev E a,fr,σ):=by
 simp only[opC,aW,h,mZ,Option.map_some,if_true]
theorem TU (c a b:Operand) (h:fr.ev E c= .bool false):opC E S fr σ st ⟨d,.pick c a b,ty,pos,bE,gd⟩=some (fr.ev E b,fr,σ):=by
 simp only[opC,aW,h,mZ,Option.map_some,Bool.false_eq_true,if_false]
theorem TW (op:BinOp) (t u:TypeId) (x y:Operand):opC E S fr σ st ⟨d,.binOp op t x y u,ty,pos,bE,gd⟩=(mD E.P op t (fr.ev E x) (fr.ev E y)).map fun v=>(v,fr,σ):=by
 simp only[opC,aW];cases mD E.P op t (fr.ev E x) (fr.ev E y)<;>rfl
theorem adD (op:UnOp) (t:TypeId) (x:Operand):opC E S fr σ st ⟨d,.unOp op t x,ty,pos,bE,gd⟩=(xC op (fr.ev E x)).map fun v=>(v,fr,σ):=by
 simp only[opC,aW];cases xC op (fr.ev E x)<;>rfl
theorem adE (t:TypeId) (x:Operand) (f:Nat):opC E S fr σ st ⟨d,.fieldAddr t x f,ty,pos,bE,gd⟩=(mo E.P t f).bind fun p=>match fr.ev E x with
 |.ref loc s off=>some (.ref loc s (off+p.1),fr,σ)
 |.aK cs off=>some (.aK cs (off+p.1),fr,σ)
 |_=>none:=by
 simp only[opC,aW]
 cases mo E.P t f with
 |none=>rfl
 |some p=>obtain⟨o,u⟩:=p;simp only[Option.bind_some];cases fr.ev E x<;>rfl
theorem adF (t:TypeId) (x:Operand):opC E S fr σ st ⟨d,.load t x,ty,pos,bE,gd⟩=(match fr.ev E x with
 |.ref loc s off=>(σ.bK loc s).bind fun cs=>(dI E.P t cs off).map fun v=>(v,fr,σ)
 |.aK cs off=>(dI E.P t cs off).map fun v=>(v,fr,σ)
 |_=>none):=by
 simp only[opC,aW]
 cases fr.ev E x with
 |ref loc s off=>
  simp only
  cases σ.bK loc s with
  |none=>rfl
  |some cs=>simp only[Option.bind_some];cases dI E.P t cs off<;>rfl
 |aK cs off=>simp only;cases dI E.P t cs off<;>rfl
 |_=>rfl
theorem adG (t:TypeId) (x:Operand) (i:Nat):opC E S fr σ st ⟨some i,.box t x,ty,pos,bE,gd⟩=if E.tN t=true then (if aF (fr.ev E x)=true∧cu (fr.ev E x)=true then some (.aK (fr.ev E x).cells 0,fr,σ) else none) else if bf (fr.ev E x).cells∧cu (fr.ev E x) then some (.ref (fr.d,i) st 0,fr,σ.setObj (fr.d,i) st (.cells (fr.ev E x).cells)) else none:=by
 show Option.map _ (if E.tN t=true then _ else (some (fr.d,i)).bind _)=_
 by_cases hz:E.tN t=true
 ·simp only[hz,if_true]
  split<;>rfl
 ·simp only[hz,Bool.false_eq_true,if_false,Option.bind_some]
  split<;>rfl
theorem adH (t:TypeId) (i:Nat):opC E S fr σ st ⟨some i,.alloc t,ty,pos,bE,gd⟩=(fZ E.P t).bind fun z=>if bf z.cells then some (.ref (fr.d,i) st 0,fr,σ.setObj (fr.d,i) st (.cells z.cells)) else none:=by
 simp only[opC,aW,Option.map_some,Option.bind_some]
 cases fZ E.P t with
 |none=>rfl
 |some z=>simp only[Option.bind_some];split<;>rfl
theorem Ny (t:TypeId) (a x:Operand):opC E S fr σ st ⟨d,.store t a x,ty,pos,bE,gd⟩=(match fr.ev E a with
 |.ref loc s off=>(σ.bK loc s).bind fun cs=>
  if some (fr.ev E x).cells.length=bC E.P t∧off+(fr.ev E x).cells.length≤cs.length∧bf (fr.ev E x).cells then some (aD,fr,σ.setObj loc s (.cells (eO cs off (fr.ev E x).cells))) else none
 |_=>none):=by
 simp only[opC,aW]
 cases fr.ev E a with
 |ref loc s off=>
  simp only
  cases σ.bK loc s with
  |none=>rfl
  |some cs=>simp only[Option.bind_some];split<;>rfl
 |_=>rfl
theorem adI (t:TypeId) (x i:Operand):opC E S fr σ st ⟨d,.indexAddr t x i,ty,pos,bE,gd⟩=(lT E.P t (fr.ev E x) (fr.ev E i)).map fun v=>(v,fr,σ):=by
 simp only[opC,aW];cases lT E.P t (fr.ev E x) (fr.ev E i)<;>rfl
theorem adJ (x:Operand) (i:Nat):opC E S fr σ st ⟨d,.extract x i,ty,pos,bE,gd⟩=(match fr.ev E x with
 |.bg vs=>(vs[i]?).map fun v=>(v,fr,σ)
 |_=>none):=by
 simp only[opC,aW]
 cases fr.ev E x with
 |bg vs=>simp only;cases vs[i]? <;>rfl
 |_=>rfl
theorem adK (x:Operand) (t:TypeId):opC E S fr σ st ⟨d,.call ⟨.builtin .len, #[x], #[t]⟩,ty,pos,bE,gd⟩=(lU E σ t (fr.ev E x)).map fun n=>(.int .i64 (n:Nat),fr,σ):=by
 show (Option.map _ (((#[t]:Array TypeId)[0]?).bind fun t=>(lU E σ t (fr.ev E x)).map fun n=>(V.int .i64 (n:Nat),σ)))=_
 rw[show (#[t]:Array TypeId)[0]? =some t from rfl,Option.bind_some]
 cases lU E σ t (fr.ev E x)<;>rfl
end
attribute [go_sem] Bool.false_eq_true mD jl vP xC decide_true decide_false List.getElem?_cons_succ List.getElem?_cons_zero beq_true beq_false Bool.not_true Bool.not_false Nq Bool.false_and Bool.and_false Bool.true_and Bool.and_true ac4 ac7 ac5 ac6 adB adC TT TU TW adD adE adF adG adH Ny adI adJ adK Ac TJ TK Ig DV Aa acJ Ab acK Nn Np acL tX TM acO acP map_eq TN acQ acR acS Ad DW acM acN acZ ac0 ac1 ac2 ac3 Ih List.length_map TR Nr Ns Nt acU acV acW acX acY Nu Nv TQ Option.bind_some Option.map_some Option.getD_some mZ ofValue iU if_true if_false ac8 ac9 adb adf adq adh adj adl ado ada ade adg adi adk adn adp adr TS ads adt adu adv adw adx ady adz adA and_self and_true true_and
end Aq
end
section
namespace Aq
open Go
def tY:Code→List Nat→Option Code
 |c,[]=>some c
 |.seq a b,i::l=>if i=0 then tY a l else tY b l
 |.cond _ a b,i::l=>if i=0 then tY a l else tY b l
 |.block _ a,_::l=>tY a l
 |.loop a,_::l=>tY a l
 |.scope a,_::l=>tY a l
 |.rangeFunc _ _ a b,i::l=>if i=0 then tY a l else tY b l
 |_,_=>none
def bU (b:Option Code) (l:List Nat):Option Code:=b.bind fun c=>tY c l
section
variable {E:Env} {fr:Fr} {σ:ah}
def uT (E:Env) (c:Code) (fr:Fr) (σ:ah) (Q:Ex→Fr→ah→Prop):Prop:=CW E (.loop c) fr σ Q
theorem Is.e {α:Type} {a b:α} (h:Is a b):a=b:=h
theorem CW.lp {c:Code} {Q:Ex→Fr→ah→Prop} (h:uT E c fr σ Q):CW E (.loop c) fr σ Q:=h
theorem uT.in {b:Option Code} {p:List Nat} {c:Code} {Q:Ex→Fr→ah→Prop} (hs:bU b p=some c) (h:CW E c fr σ (nA E c Q)):uT E ((bU b p).getD .skip) fr σ Q:=by
 rw[hs];exact CW.loop h
theorem uT.ih {c:Code} {Q:Ex→Fr→ah→Prop} (h:uT E c fr σ Q):uT E c fr σ Q:=h
def DY:Code→Nat
 |.region i _ _=>i
 |.seq a _=>DY a
 |.loop a=>DY a
 |.scope a=>DY a
 |.block _ a=>DY a
 |_=>0
theorem uT.at (k:Nat) {c:Code} {Q:Ex→Fr→ah→Prop} (_h:Is (DY c) k) (h:uT E c fr σ Q):uT E c fr σ Q:=h
theorem adL {n:Nat} (c:Cap):aN (n+2) σ (.aj c [])=some (.aj .sh []):=wu (α:=V) (f:=fun x=>.int .i64 0) c [] (fun _=>by simp[aF])
theorem TY {n:Nat} (cs:List V):aN (n+2) σ (.agg cs)=(cs.mapM (aN (n+1) σ)).map .agg:=by
 by_cases hp:aF (.agg cs)=true
 ·rw[jA hp]
  have:∀cs:List V,aR cs=true→cs.mapM (aN (n+1) σ)=some cs:=by
   intro cs
   induction cs with
   |nil=>intro _;rfl
   |cons a l ih=>
    intro h
    simp only[aR,Bool.and_eq_true] at h
    rw[List.mapM_cons,jA h.1,ih h.2];rfl
  rw[this cs (by simpa [aF] using hp)];rfl
 ·conv=>lhs;unfold aN
  simp only[hp,if_false,Bool.false_eq_true]
theorem Nz {n:Nat} (cs:List V):aN (n+2) σ (.bg cs)=(cs.mapM (aN (n+1) σ)).map .bg:=by
 by_cases hp:aF (.bg cs)=true
 ·rw[jA hp]
  have:∀cs:List V,aR cs=true→cs.mapM (aN (n+1) σ)=some cs:=by
   intro cs
   induction cs with
   |nil=>intro _;rfl
   |cons a l ih=>
    intro h
    simp only[aR,Bool.and_eq_true] at h
    rw[List.mapM_cons,jA h.1,ih h.2];rfl
  rw[this cs (by simpa [aF] using hp)];rfl
 ·conv=>lhs;unfold aN
  simp only[hp,if_false,Bool.false_eq_true]
def Ii (sz:Nat) (σ:ah) (c:Cap) (n:Nat):Prop:=c= .nil∨∃s,c= .own sz s∧σ.top s=n∧s<σ.next
theorem Ii.n {sz n:Nat}:Ii sz σ .nil n:=.inl rfl
theorem Ii.o {sz s n:Nat} (h1:Is (σ.top s) n) (h2:s<σ.next):Ii sz σ (.own sz s) n:=.inr ⟨s,rfl,h1,h2⟩
theorem own_ne {s n k:Nat} (h:s<n):(s==n+k)=false:=by simp;omega
theorem adM {s n k:Nat} (h:s<n):(n+k==s)=false:=by simp;omega
theorem adN {s n:Nat} (h:s<n):(s==n)=false:=by simp;omega
theorem adO {s n:Nat} (h:s<n):(n==s)=false:=by simp;omega
theorem adP (σ:ah) {s t:Nat} (n:Nat) (h:(t==s)=false):(σ.bJ s n).top t=σ.top t:=DW σ n (by simpa using h)
end
def Af (P:Program) (σ:ah) (st:Nat) (t u:TypeId) (x y:V):Option (V×ah):=
 match P.underlying u with
 |some (.int _)=>gV P false true σ st none t x y
 |some (.slice _)|some .string=>gV P false false σ st none t x y
 |_=>none
theorem adQ {P:Program} {z:Bool} {σ:ah} {st:Nat} {loc:Option Loc} {t:TypeId} {c:Cap} {l:List V} {y:V}:gV P false z σ st loc t (.aj c l) y=gV P false z σ st none t (.aj c l) y:=by
 unfold gV
 cases iw P t with
 |none=>rfl
 |some e=>cases c<;>rfl
section
variable {E:Env} {S:jc} {fr:Fr} {σ:ah} {st:Nat} {d:Option Tmp} {ty:TypeId} {pos:String} {bE:Array Edge} {gd:Option (Nat×Bool)}
theorem T9 {t u:TypeId} {x y:Operand} {c:Cap} {l:List V} (ho:fr.om=false) (hx:fr.ev E x= .aj c l):opC E S fr σ st ⟨d,.call ⟨.builtin .append, #[x,y], #[t,u]⟩,ty,pos,bE,gd⟩=(Af E.P σ st t u (.aj c l) (fr.ev E y)).map fun p=>(p.1,fr,p.2):=by
 show Option.map _ ((((#[t,u]:Array TypeId)[0]?).bind fun t=>(((#[t,u]:Array TypeId)[1]?).bind E.P.underlying).bind fun u=>match u with
  |.int _=>gV E.P fr.om true σ st (d.map fun t=>(fr.d,t)) t (fr.ev E x) (fr.ev E y)
  |.slice _|.string=>gV E.P fr.om false σ st (d.map fun t=>(fr.d,t)) t (fr.ev E x) (fr.ev E y)
  |_=>none))=_
 show Option.map _ ((E.P.underlying u).bind _)=_
 rw[ho,hx]
 unfold Af
 cases E.P.underlying u with
 |none=>rfl
 |some u=>
  cases u<;>try rfl
  all_goals (simp only[Option.bind_some];rw[adQ];first|rfl| (generalize gV _ _ _ _ _ _ _ _ _=o;cases o<;>rfl))
end
def Ah (P:Program) (t u:TypeId) (sz bY:Nat) (z:V):Prop:=∃e ag,iw P t=some e∧bC P e=some sz∧nU P e=some bY∧gH P e=some ag∧fZ P e=some z∧z.cells.length=sz∧0<sz∧(ag||sz==1)=true∧mK P u=true
theorem Ah.mk {P:Program} {t u:TypeId} {sz bY:Nat} {z:V} (e:TypeId) (ag:Bool) (h1:iw P t=some e) (h2:bC P e=some sz) (h3:nU P e=some bY) (h4:gH P e=some ag) (h5:fZ P e=some z)
 (h6:z.cells.length=sz) (h7:0<sz) (h8:(ag||sz==1)=true) (h9:mK P u=true):Ah P t u sz bY z:=⟨e,ag,h1,h2,h3,h4,h5,h6,h7,h8,h9⟩
def uU (sz:Nat) (l:List V):Bool:=l.all fun v=>v.cells.length==sz&& bf v.cells
theorem Ua {sz:Nat} {l:List V} (h:uU sz l=true):lC sz l=true:=by
 cases l with
 |nil=>rfl
 |cons a l=>simp[uU] at h;simp[lC,h.1.1]
theorem adR {sz:Nat} {l:List V} (h:uU sz l=true):l.all (fun v=>bf v.cells)=true:=by
 simp[uU] at h;simpa using fun x hx=>(h x hx).2
theorem adS {P:Program} {σ:ah} {st t u sz bY:Nat} {z:V} {x:V} {c2:Cap} {ys:List V} (ha:Ah P t u sz bY z) (hy:uU sz ys=true):
 Af P σ st t u x (.aj c2 ys)=match x with
 |.aj c l=>if bX (l.length+ys.length) bY=true∧lC sz l=true then
  match c with
  |.own n s=>if n=sz∧σ.top s=l.length then some (.aj (.own n s) (l++ys),σ.bJ s (l.length+ys.length)) else none
  |.nil|.full=>some (.aj (.own sz st) (l++ys),σ.bJ st (l.length+ys.length))
  |_=>none
  else none
 |_=>Af P σ st t u x (.aj c2 ys):=by
 obtain⟨e,ag,h1,h2,h3,h4,h5,h6,h7,h8,h9⟩:=ha
 cases x<;>try rfl
 rename_i c l
 unfold mK at h9
 split at h9
 ·rename_i e' he
  simp only[Af,he,gV,h1,h2,h3,h4,h5,Option.bind_some,tK,true_and,if_pos (show z.cells.length=sz∧0<sz∧(ag||sz==1)=true from ⟨h6,h7,h8⟩),jE,Ua hy,if_true,adR hy]
  cases c<;>rfl
 ·simp at h9
theorem adT {P:Program} {σ:ah} {st t u sz bY:Nat} {z:V} {l:List V} {c2:Cap} {ys:List V} (ha:Ah P t u sz bY z) (hy:uU sz ys=true) (hl:uU sz l=true)
 (hr:bX (l.length+ys.length) bY=true):Af P σ st t u (.aj .full l) (.aj c2 ys)=some (.aj (.own sz st) (l++ys),σ.bJ st (l.length+ys.length)):=by
 rw[adS ha hy];simp only[hr,Ua hl,and_self,if_true]
def Ub (E:Env) (t:TypeId) (ps:List (Nat×V)):Option (List V):=(zF E t).bind fun pl=>(fZ E.P t).bind fun z=>nV pl z.cells ps
section
variable {E:Env} {S:jc} {fr:Fr} {σ:ah} {st:Nat} {d:Option Tmp} {ty:TypeId} {pos:String} {bE:Array Edge} {gd:Option (Nat×Bool)}
theorem adU (t:TypeId) (l:List (Nat×Operand)):opC E S fr σ st ⟨d,.build t l.toArray,ty,pos,bE,gd⟩=(Ub E t (l.map fun p=>(p.1,fr.ev E p.2))).map fun cs=>(.agg cs,fr,σ):=by
 simp only[opC,aW,Ub]
 cases zF E t with
 |none=>rfl
 |some pl=>
  simp only[Option.bind_some]
  cases fZ E.P t with
  |none=>rfl
  |some z=>
   simp only[Option.bind_some]
   cases nV pl z.cells (l.map fun p=>(p.1,fr.ev E p.2))<;>rfl
theorem Uc (t:TypeId) (n:Nat) (l:List (Nat×Operand)):opC E S fr σ st ⟨d,.buildSlice t n l.toArray,ty,pos,bE,gd⟩=(tO E t n (l.map fun p=>(p.1,fr.ev E p.2))).map fun v=>(v,fr,σ):=by
 simp only[opC,aW]
 cases tO E t n (l.map fun p=>(p.1,fr.ev E p.2))<;>rfl
end
section
variable {E:Env} {S:jc} {fr:Fr} {σ:ah} {st:Nat} {d:Option Tmp} {ty:TypeId} {pos:String} {bE:Array Edge} {gd:Option (Nat×Bool)}
theorem adV (t:TypeId) (x i:Operand):opC E S fr σ st ⟨d,.index t x i,ty,pos,bE,gd⟩=(uO E.P t (fr.ev E x) (fr.ev E i)).map fun v=>(v,fr,σ):=by
 simp only[opC,aW];cases uO E.P t (fr.ev E x) (fr.ev E i)<;>rfl
theorem Ud {P:Program} {t:TypeId} {s:List UInt8} {k:IntKind} {i:Int} (h:DX P t=true):uO P t (.str s) (.int k i)=(aQ s i).map fun b=>.int .u8 (b.toNat:Nat):=by
 unfold DX at h;unfold uO
 split at h
 ·rename_i he
  rw[he]
  simp only[idx,kU,Option.bind_some,aQ]
  split
  ·simp only[Option.bind_some];rfl
  ·rfl
 ·simp at h
def imax (a b:Int):Int:=if b>a then b else a
def NA (a b:Int):Int:=if b<a then b else a
theorem adW (x y:Operand) (tys:List TypeId):opC E S fr σ st ⟨d,.call ⟨.builtin .max, #[x,y],tys.toArray⟩,ty,pos,bE,gd⟩=(kg true (fr.ev E x) [fr.ev E y]).map fun v=>(v,fr,σ):=by
 show Option.map _ ((kg true (fr.ev E x) [fr.ev E y]).map fun v=>(v,σ))=_
 cases kg true (fr.ev E x) [fr.ev E y]<;>rfl
theorem adX (x y:Operand) (tys:List TypeId):opC E S fr σ st ⟨d,.call ⟨.builtin .min, #[x,y],tys.toArray⟩,ty,pos,bE,gd⟩=(kg false (fr.ev E x) [fr.ev E y]).map fun v=>(v,fr,σ):=by
 show Option.map _ ((kg false (fr.ev E x) [fr.ev E y]).map fun v=>(v,σ))=_
 cases kg false (fr.ev E x) [fr.ev E y]<;>rfl
theorem adY (k:IntKind) (a b:Int):kg true (.int k a) [.int k b]=some (.int k (imax a b)):=by simp[kg,imax]
theorem adZ (k:IntKind) (a b:Int):kg false (.int k a) [.int k b]=some (.int k (NA a b)):=by simp[kg,NA]
end
theorem len1 (v:V):[v].length=1:=rfl
attribute [go_sem] adV Ud adW adX adY adZ own_ne adM adN adO adL TY Nz adU Uc List.map_cons List.map_nil len1 adP T9 wu implies_true eq_self
theorem ad1:aR []=true:=by simp only[aR]
theorem ad2 (v:V) (l:List V):aR (v::l)=(aF v&& aR l):=by simp only[aR]
attribute [go_sem] ad1 ad2
end Aq
end
section
namespace Aq
open Go
inductive Ty where
 |int (k:IntKind)
 |bool
 |str
 |slice (t:Ty)
 |st (n:Nat)
 deriving DecidableEq
inductive Cp where
 |any
 |sh
 |nil
 |full
 |own (t:Nat)
structure Vec (n:Nat) where
 l:List Int
 h:l.length=n
def Vec.at' {n:Nat} (v:Vec n) (i:Int):Int:=v.l.getD i.toNat 0
def Vec.nth {n:Nat} (v:Vec n) (j:Nat):Int:=v.l.getD j 0
def Vec.set {n:Nat} (v:Vec n) (i y:Int):Vec n:=⟨v.l.set i.toNat y,by rw[List.length_set,v.h]⟩
def Vec.rep (n:Nat) (y:Int):Vec n:=⟨List.replicate n y,List.length_replicate⟩
def Vec.lit (n:Nat) (l:List Int):Vec n:=if h:l.length=n then ⟨l,h⟩ else Vec.rep n 0
def Vec.slc {n:Nat} (v:Vec n) (i:Int) (m:Nat):Vec m:=Vec.lit m ((v.l.drop i.toNat).take m)
def Vec.rM {n:Nat} (v:Vec n) (lo:Int) (l:List Int):Vec n:=Vec.lit n (v.l.take lo.toNat++l++v.l.drop (lo.toNat+l.length))
inductive iX where
 |i (k:IntKind)
 |a (k:IntKind) (n:Nat)
inductive Sg where
 |i (k:IntKind) (x:Int)
 |a (k:IntKind) (n:Nat) (v:Vec n)
def Sg.w:Sg→Nat
 |.i _ _=>1
 |.a _ n _=>n
def Sg.vs:Sg→List V
 |.i k x=>[.int k x]
 |.a k _ v=>v.l.map (V.int k)
def bB:List Sg→List V
 | []=>[]
 |s::l=>s.vs++bB l
def iO:List Sg→Nat
 | []=>0
 |s::l=>s.w+iO l
def Ai:iX→Type
 |.i _=>Int
 |.a _ n=>Vec n
def xQ:List iX→Type
 | []=>Unit
 | [k]=>Ai k
 |k::h::l=>Ai k×xQ (h::l)
def DZ:(k:iX)→Ai k→Sg
 |.i k,x=>.i k x
 |.a k n,x=>.a k n x
def sO:(l:List iX)→xQ l→List Sg
 | [],_=>[]
 | [k],x=>[DZ k x]
 |k::h::l,p=>DZ k p.1::sO (h::l) p.2
def Ij {n m:Nat} (v:Vec n):Option (Vec m):=if h:n=m then some (h▸v) else none
def Aj:(k:iX)→Sg→Option (Ai k)
 |.i k,.i k' x=>if k'=k then some x else none
 |.a k n,.a k' _ v=>if k'=k then Ij (m:=n) v else none
 |_,_=>none
def uV:(l:List iX)→List Sg→Option (xQ l)
 | []=>fun vs=>match vs with
   | []=>some ()
   |_::_=>none
 | [k]=>fun vs=>match vs with
   | [v]=>Aj k v
   |_=>none
 |k::h::l=>fun vs=>match vs with
  | []=>none
  |v::vs=>match Aj k v with
   |some x=>match uV (h::l) vs with
    |some p=>some (x,p)
    |none=>none
   |none=>none
section
variable (T:Nat→Type)
def Den:Ty→Type
 |.int _=>Int
 |.bool=>Bool
 |.str=>List UInt8
 |.slice t=>List (Den t)
 |.st n=>T n
def lY:List Ty→Type
 | []=>Unit
 | [t]=>Den T t
 |t::u::l=>Den T t×lY (u::l)
inductive TV where
 |int (k:IntKind) (n:Int)
 |bool (b:Bool)
 |gy (b:Bool)
 |str (s:List UInt8)
 |eH
 |eB
 |dU
 |fM
 |dN
 |agg (cs:List TV)
 |bg (cs:List TV)
 |aj (c:Cp) (t:Ty) (l:List (Den T t))
 |ref (o off:Nat)
 |aK (cs:List TV) (off:Nat)
 |bD (o:Nat)
 |bV (k e:Ty) (m:List (Den T k×Den T e))
 |fn (f:Nat) (a b:List TV)
 |opt (j:Nat) (w:Bool) (v:TV)
 |vw (o:Nat) (t:Ty)
 |jB (o:Nat) (t:Ty) (i:Int) (off:Nat)
 |sg (ss:List Sg)
 |sv (o off:Nat) (k:IntKind) (n:Nat) (lo hi:Option Int)
 |sel (o off:Nat) (k:IntKind) (n:Nat) (i:Int) (m:Nat)
 |pz (k:IntKind) (n:Nat) (v:Vec n) (i:Int)
 |undef
 |gone
inductive Ob where
 |cells (cs:List (TV T))
 |map (k e:Ty) (m:List (Den T k×Den T e))
 |smap (ks vs:List (TV T))
 |arr (t:Ty) (l:List (Den T t))
 |sg (ss:List Sg)
 |gone
 |ro (b:Ob)
structure MS where
 fr:List (Nat×TV T)
 ob:List (Nat×Ob T)
inductive Sk where
 |d (t:Ty)
 |l (c:Cp) (t:Ty)
 |agg (l:List Sk)
 |ref (o off:Nat)
 |aK (l:List Sk) (off:Nat)
 |bD (o:Nat)
 |bV (k e:Ty)
 |fn (f:Nat) (a b:List Sk)
 |dN
 |vw (o:Nat) (t:Ty)
 |sg (l:List iX)
 |undef
mutual
def pE:Sk→Type
 |.d t=>Den T t
 |.l _ t=>List (Den T t)
 |.agg l=>aJ l
 |.ref _ _=>Unit
 |.aK l _=>aJ l
 |.bD _=>Unit
 |.bV k e=>List (Den T k×Den T e)
 |.fn _ a b=>aJ a×aJ b
 |.dN=>Unit
 |.vw _ _=>Unit
 |.sg l=>xQ l
 |.undef=>Unit
def aJ:List Sk→Type
 | []=>Unit
 | [k]=>pE k
 |k::h::l=>pE k×aJ (h::l)
end
inductive jY where
 |cells (l:List Sk)
 |st (n:Nat)
 |map (k e:Ty)
 |arr (t:Ty)
 |sg (l:List iX)
def wz:jY→Type
 |.cells l=>aJ T l
 |.st n=>T n
 |.map k e=>List (Den T k×Den T e)
 |.arr t=>List (Den T t)
 |.sg l=>xQ l
def nC:List (Nat×jY)→Type
 | []=>Unit
 | [(_,k)]=>wz T k
 | (_,k)::h::l=>wz T k×nC (h::l)
def xR:List (Nat×Sk)→Type
 | []=>Unit
 | [(_,k)]=>pE T k
 | (_,k)::h::l=>pE T k×xR (h::l)
structure Shape where
 sl:List (Nat×Sk)
 ob:List (Nat×jY)
def oq:Shape→Type
 | ⟨s,[]⟩=>xR T s
 | ⟨s,o::os⟩=>xR T s×nC T (o::os)
def Out:List (Ex×Shape)→Type
 | []=>Empty
 | [(_,s)]=>oq T s
 | (_,s)::h::l=>oq T s⊕Out (h::l)
end
structure gM where
 T:Nat→Type
 d:(n:Nat)→T n
 lf:Nat→List Ty
 to:(n:Nat)→lY T (lf n)→T n
 of:(n:Nat)→T n→lY T (lf n)
 enc:(n:Nat)→T n→V
 ty:TypeId→Option Ty
 gl:Nat→Option ((k:IntKind)×(n:Nat)×Vec n)
structure FR (R:gM) where
 args:List Sk
 res:List Sk
 F:aJ R.T args→Option (aJ R.T res)
 d:aJ R.T res
 own:Bool:=false
structure FI (R:gM) where
 a:List Sk
 b:List Sk
 el:List Sk
 F:aJ R.T a→aJ R.T b→Option (List (aJ R.T el))
def F0:Nat:=1000000
structure FM (R:gM) where
 args:List Sk
 obs:List (Nat×jY)
 res:List Sk
 F:aJ R.T args→nC R.T obs→Option (aJ R.T res×nC R.T obs)
structure IR (R:gM) where
 it:Nat→List (FI R)
 im:Nat→List (FM R)
structure Note where
 K:List Nat
 O:List Nat
 sh:Shape
 outs:List (Ex×Shape)
structure dP where
 loops:List (Nat×Note)
 joins:List (Nat×Note)
def look {α:Type}:List (Nat×α)→Nat→Option α
 | [],_=>none
 | (j,x)::l,i=>bif Nat.beq j i then some x else look l i
section
variable (R:gM)
def aG:(t:Ty)→Den R.T t→V
 |.int k=>fun n=>.int k n
 |.bool=>fun b=>.bool b
 |.str=>fun s=>.str s
 |.slice t=>fun l=>.aj .sh (l.map (aG t))
 |.st n=>fun x=>R.enc n x
def encs:(l:List Ty)→lY R.T l→List V
 | [],_=>[]
 | [t],x=>[aG R t x]
 |t::u::l,p=>aG R t p.1::encs (u::l) p.2
def bI:Ty→Nat
 |.st n=>(R.lf n).length
 |_=>1
def Ak:(t:Ty)→Den R.T t
 |.int _=>(0:Int)
 |.bool=>false
 |.str=>([]:List UInt8)
 |.slice t=>([]:List (Den R.T t))
 |.st n=>R.d n
def wB (c:Cp):(t:Ty)→Den R.T t→TV R.T
 |.int k=>fun n=>.int k n
 |.bool=>fun b=>.bool b
 |.str=>fun s=>.str s
 |.slice t=>fun l=>.aj c t l
 |.st _=>fun _=>.undef
def ji (c:Cp):(l:List Ty)→lY R.T l→List (TV R.T)
 | [],_=>[]
 | [t],x=>[wB R c t x]
 |t::u::l,p=>wB R c t p.1::ji c (u::l) p.2
def eZ (c:Cp):(t:Ty)→Den R.T t→TV R.T
 |.st n=>fun x=>.agg (ji R c (R.lf n) (R.of n x))
 |.int k=>fun n=>.int k n
 |.bool=>fun b=>.bool b
 |.str=>fun s=>.str s
 |.slice t=>fun l=>.aj c t l
def pF {t u:Ty} (l:List (Den R.T t)):Option (List (Den R.T u)):=if h:t=u then some (h▸l) else none
def Ik (k:IntKind):TV R.T→Option Int
 |.int k' n=>if k=k' then some n else none
 |_=>none
def Il:TV R.T→Option Bool
 |.bool b=>some b
 |.gy b=>some b
 |_=>none
def Im:TV R.T→Option (List UInt8)
 |.str s=>some s
 |_=>none
def uW (t:Ty):TV R.T→Option (List (Den R.T t))
 |.aj _ _ l=>pF R l
 |.dN=>some []
 |_=>none
def ou:(t:Ty)→TV R.T→Option (Den R.T t)
 |.int k=>fun v=>Ik R k v
 |.bool=>fun v=>Il R v
 |.str=>fun v=>Im R v
 |.slice t=>fun v=>uW R t v
 |.st _=>fun _=>none
def hd1:List (TV R.T)→TV R.T
 | [v]=>v
 |_=>.gone
def wC:(l:List Ty)→List (TV R.T)→Option (lY R.T l)
 | []=>fun vs=>match vs with
   | []=>some ()
   |_::_=>none
 | [t]=>fun vs=>ou R t (hd1 R vs)
 |t::u::l=>fun vs=>match vs with
  | []=>none
  |v::vs=>match ou R t v with
   |some x=>match wC (u::l) vs with
    |some p=>some (x,p)
    |none=>none
   |none=>none
def xS (n:Nat):TV R.T→Option (R.T n)
 |.agg cs=>match wC R (R.lf n) cs with
  |some p=>some (R.to n p)
  |none=>none
 |_=>none
def nD:(t:Ty)→TV R.T→Option (Den R.T t)
 |.st n=>fun v=>xS R n v
 |.int k=>fun v=>Ik R k v
 |.bool=>fun v=>Il R v
 |.str=>fun v=>Im R v
 |.slice t=>fun v=>uW R t v
def TV.cells {T:Nat→Type}:TV T→List (TV T)
 |.agg cs=>cs
 |v=>[v]
mutual
def kJ {T:Nat→Type} (o:Nat):TV T→Bool
 |.ref p _=>Nat.beq p o
 |.bD p=>Nat.beq p o
 |.agg cs=>lG o cs
 |.bg cs=>lG o cs
 |.aK cs _=>lG o cs
 |.fn _ a b=>lG o a||lG o b
 |.opt _ _ v=>kJ o v
 |.vw p _=>Nat.beq p o
 |.jB p _ _ _=>Nat.beq p o
 |.sv p _ _ _ _ _=>Nat.beq p o
 |.sel p _ _ _ _ _=>Nat.beq p o
 |_=>false
def lG {T:Nat→Type} (o:Nat):List (TV T)→Bool
 | []=>false
 |v::l=>kJ o v||lG o l
end
def Ob.kJ {T:Nat→Type} (o:Nat):Ob T→Bool
 |.cells cs=>lG o cs
 |.smap ks vs=>lG o ks||lG o vs
 |.ro b=>Ob.kJ o b
 |_=>false
mutual
def wk {T:Nat→Type} (t:Nat):TV T→TV T
 |.aj (.own u) ty l=>bif Nat.beq u t then .aj .any ty l else .aj (.own u) ty l
 |.agg cs=>.agg (tZ t cs)
 |.bg cs=>.bg (tZ t cs)
 |.aK cs off=>.aK (tZ t cs) off
 |.fn f a b=>.fn f (tZ t a) (tZ t b)
 |.opt j w v=>.opt j w (wk t v)
 |v=>v
def tZ {T:Nat→Type} (t:Nat):List (TV T)→List (TV T)
 | []=>[]
 |v::l=>wk t v::tZ t l
end
def Ob.wk {T:Nat→Type} (t:Nat):Ob T→Ob T
 |.cells cs=>.cells (tZ t cs)
 |.smap ks vs=>.smap (tZ t ks) (tZ t vs)
 |.ro b=>.ro (Ob.wk t b)
 |o=>o
def kK {α:Type} (f:α→α):List (Nat×α)→List (Nat×α)
 | []=>[]
 | (i,x)::l=>(i,f x)::kK f l
def gN {α:Type} (i:Nat):List (Nat×α)→List (Nat×α)
 | []=>[]
 | (j,x)::l=>bif Nat.beq j i then gN i l else (j,x)::gN i l
def MS.wk {T:Nat→Type} (t:Nat) (st:MS T):MS T:=⟨kK (Aq.wk t) st.fr,kK (Ob.wk t) st.ob⟩
def NC {T:Nat→Type} (j:Nat):TV T→TV T
 |.opt i w v=>bif Nat.beq i j then .gone else .opt i w v
 |v=>v
def MS.put {T:Nat→Type} (st:MS T) (i:Nat) (v:TV T):MS T:={st with fr:=(i,v)::kK (NC i) (gN i st.fr)}
def MS.dY {T:Nat→Type} (st:MS T) (d:Option Nat) (v:TV T):MS T:=match d with
 |some i=>st.put i v
 |none=>st
def ND {T:Nat→Type} (j:Nat) (b:Bool):TV T→TV T
 |.opt i w v=>bif Nat.beq i j then (bif (b==w) then v else .undef) else .opt i w v
 |v=>v
def MS.learn {T:Nat→Type} (st:MS T) (j:Nat) (b:Bool):MS T:={st with fr:=(j,.gy b)::kK (ND j b) (gN j st.fr)}
def MS.Al {T:Nat→Type} (st:MS T) (c:Operand) (b:Bool):MS T:=match c with
 |.tmp j=>st.learn j b
 |_=>st
def D5 {T:Nat→Type} (o:Nat) (v:TV T):TV T:=bif kJ o v then .gone else v
def Ob.kill {T:Nat→Type} (o:Nat) (v:Ob T):Ob T:=bif Ob.kJ o v then .gone else v
def MS.new {T:Nat→Type} (st:MS T) (o:Nat) (b:Ob T):MS T:=⟨kK (D5 o) st.fr,(o,b)::kK (Ob.kill o) (gN o st.ob)⟩
def MS.set {T:Nat→Type} (st:MS T) (o:Nat) (b:Ob T):MS T:={st with ob:=(o,b)::gN o st.ob}
def MS.del {T:Nat→Type} (st:MS T) (o:Nat):MS T:={st with ob:=gN o st.ob}
def NG {T:Nat→Type}:Ob T→Ob T
 |.ro b=>NG b
 |b=>b
def lH {T:Nat→Type} (st:MS T) (o:Nat):Option (Ob T):=match look st.ob o with
 |some b=>some (NG b)
 |none=>none
def nE {T:Nat→Type}:Ob T→Bool
 |.ro _=>true
 |.gone=>true
 |_=>false
def aP (i:Nat):List Nat→Bool
 | []=>false
 |j::l=>Nat.beq i j||aP i l
mutual
def solid {T:Nat→Type} (W:List Nat):TV T→Bool
 |.aj (.own _) _ _=>false
 |.ref o _=> !(aP o W)
 |.bD o=> !(aP o W)
 |.agg cs=>pG W cs
 |.bg cs=>pG W cs
 |.aK cs _=>pG W cs
 |.fn _ a b=>pG W a&& pG W b
 |.opt _ _ _=>false
 |.vw o _=> !(aP o W)
 |.jB o _ _ _=> !(aP o W)
 |.sv o _ _ _ _ _=> !(aP o W)
 |.sel o _ _ _ _ _=> !(aP o W)
 |.gone=>false
 |_=>true
def pG {T:Nat→Type} (W:List Nat):List (TV T)→Bool
 | []=>true
 |v::l=>solid W v&& pG W l
end
def lI {T:Nat→Type} (W:List Nat):Ob T→Bool
 |.cells cs=>pG W cs
 |.map _ _ _=>true
 |.smap ks vs=>pG W ks&& pG W vs
 |.arr _ _=>true
 |.sg _=>true
 |.ro b=>lI W b
 |.gone=>false
def lZ {α:Type} (p:Nat→α→Bool) (f:α→α) (l:List (Nat×α)):List Nat→List (Nat×α)
 | []=>[]
 |i::is=>match look l i with
  |some x=>bif p i x then (i,f x)::lZ p f l is else lZ p f l is
  |none=>lZ p f l is
def NH {T:Nat→Type}:TV T→TV T
 |.aj (.own _) t l=>.aj .any t l
 |v=>v
def base {T:Nat→Type} (W K O:List Nat) (mark:Ob T→Ob T) (st:MS T):MS T:=
 ⟨lZ (fun i v=> !(aP i W)&& solid W (NH v)) NH st.fr K,lZ (fun o b=> !(aP o W)&& lI W b) mark st.ob O⟩
def MS.over {T:Nat→Type} (st b:MS T):MS T:=⟨st.fr++b.fr,st.ob++b.ob⟩
def xU {T:Nat→Type}:Value→Option (TV T)
 |.bool b=>some (.gy b)
 |.int k n=>some (.int k n)
 |.string s=>some (.str s.data.toList)
 |.pointer none=>some .eH
 |.slice none 0 0=>some .dN
 |.map none=>some .dU
 |.nilFunc=>some .eB
 |.nilIface=>some .fM
 |_=>none
def Am {T:Nat→Type}:List Value→Option (List (TV T))
 | []=>some []
 |v::l=>match xU v with
  |some x=>match Am l with
   |some y=>some (x::y)
   |none=>none
  |none=>none
def Ao {T:Nat→Type}:Value→Option (TV T)
 |.agg cs=>match Am cs.toList with
  |some l=>some (.agg l)
  |none=>none
 |v=>xU v
def Io {T:Nat→Type} (g:List (Nat×Bool)):TV T→Option (TV T)
 |.opt j w v=>match look g j with
  |some u=>some (bif u==w then v else .undef)
  |none=>none
 |v=>some v
def aZ {T:Nat→Type} (g:List (Nat×Bool)) (st:MS T):Operand→Option (TV T)
 |.tmp t=>match look st.fr t with
  |some v=>Io g v
  |none=>none
 |.const v=>Ao v
 |.func f=>some (.fn f [] [])
 |.global _=>none
def l5 {T:Nat→Type} (g:List (Nat×Bool)) (st:MS T):List Operand→Option (List (TV T))
 | []=>some []
 |x::l=>match aZ g st x with
  |some v=>match l5 g st l with
   |some vs=>some (v::vs)
   |none=>none
  |none=>none
def Ap {T:Nat→Type} (g:List (Nat×Bool)) (st:MS T):List (Nat×Operand)→Option (List (Nat×TV T))
 | []=>some []
 | (i,x)::l=>match aZ g st x with
   |some v=>match Ap g st l with
    |some vs=>some ((i,v)::vs)
    |none=>none
   |none=>none
def nG:List Sg→Nat→Option (List Sg×List Sg)
 |ss,0=>some ([],ss)
 | [],_+1=>none
 |s::ss,n+1=>bif Nat.ble s.w (n+1) then (match nG ss (n+1-s.w) with
  |some (a,b)=>some (s::a,b)
  |none=>none) else none
def wD {T:Nat→Type} (k:IntKind):List (TV T)→Option (List Int)
 | []=>some []
 |.int k' x::l=>if k'=k then (match wD k l with
  |some xs=>some (x::xs)
  |none=>none) else none
 |_=>none
def Ar {α:Type} (l:List α):Option Int→Option Int→List α
 |none,none=>l
 |some i,none=>l.drop i.toNat
 |none,some j=>l.take j.toNat
 |some i,some j=>(l.take j.toNat).drop i.toNat
def Ip {T:Nat→Type} (st:MS T) (o off:Nat) (k:IntKind) (n:Nat) (lo hi:Option Int):Option (List Int):=
 match lH st o with
 |some (.sg ss)=>match nG ss off with
  |some (_,.a k' n' v::_)=>if k'=k then (bif Nat.beq n' n then some (Ar v.l lo hi) else none) else none
  |_=>none
 |some (.cells cs)=>bif Nat.ble (off+n) cs.length then (match wD k ((cs.drop off).take n) with
  |some l=>some (Ar l lo hi)
  |none=>none) else none
 |_=>none
def uf {T:Nat→Type} (st:MS T):TV T→TV T
 |.ref o off=>match lH st o with
  |some (.cells cs)=>.aK cs off
  |_=>.ref o off
 |.bD o=>match lH st o with
  |some (.map k e m)=>.bV k e m
  |_=>.bD o
 |.vw o t=>match lH st o with
  |some (.arr t' l)=>if t'=t then .aj .sh t' l else .vw o t
  |_=>.vw o t
 |.sv o off k n lo hi=>match Ip st o off k n lo hi with
  |some l=>.aj .sh (.int k) l
  |none=>.sv o off k n lo hi
 |v=>v
def D6 {T:Nat→Type} (st:MS T):List (TV T)→List (TV T)
 | []=>[]
 |v::l=>uf st v::D6 st l
def xV {T:Nat→Type} (st:MS T):TV T→TV T
 |.fn f a b=>.fn f (D6 st a) (D6 st b)
 |.agg cs=>.agg (D6 st cs)
 |v=>uf st v
def mM {T:Nat→Type} (st:MS T):List (TV T)→List (TV T)
 | []=>[]
 |v::l=>xV st v::mM st l
def NI {T:Nat→Type}:TV T→Bool
 |.agg _=>false
 |.sg _=>false
 |.bg _=>false
 |.gone=>false
 |.undef=>false
 |.opt _ _ _=>false
 |_=>true
def wE {T:Nat→Type}:List (TV T)→Bool
 | []=>true
 |v::l=>NI v&& wE l
def wF {T:Nat→Type}:TV T→Bool
 |.gone=>false
 |.sg _=>false
 |.opt _ _ _=>false
 |_=>true
mutual
def jK {T:Nat→Type}:TV T→Bool
 |.int _ _=>true
 |.bool _=>true
 |.gy _=>true
 |.str _=>true
 |.eH=>true
 |.eB=>true
 |.dU=>true
 |.fM=>true
 |.aj .sh _ _=>true
 |.agg cs=>ow cs
 |.bg cs=>ow cs
 |.bV _ _ _=>true
 |.aK cs _=>ow cs
 |.fn _ a b=>ow a&& ow b
 |.sg _=>true
 |_=>false
def ow {T:Nat→Type}:List (TV T)→Bool
 | []=>true
 |v::l=>jK v&& ow l
end
def D7 {T:Nat→Type}:TV T→Bool
 |.aj _ _ _=>true
 |.dN=>true
 |v=>jK v
def Iq {T:Nat→Type}:List (TV T)→Bool
 | []=>true
 |v::l=>D7 v&& Iq l
def Ue {T:Nat→Type}:TV T→Bool
 |.agg cs=>Iq cs
 |v=>D7 v
def wG {T:Nat→Type}:List (TV T)→Bool
 | []=>true
 |v::l=>Ue v&& wG l
mutual
def kL:Sk→Bool
 |.d _=>true
 |.l c _=>match c with
  |.any=>true
  |.sh=>true
  |_=>false
 |.agg l=>gZ l
 |.aK l _=>gZ l
 |.bV _ _=>true
 |.fn _ a b=>gZ a&& gZ b
 |.sg _=>true
 |_=>false
def gZ:List Sk→Bool
 | []=>true
 |k::l=>kL k&& gZ l
def dep:Sk→Nat
 |.agg l=>nH l+3
 |.aK l _=>nH l+3
 |.fn _ a b=>max (nH a) (nH b)+3
 |_=>3
def nH:List Sk→Nat
 | []=>0
 |k::l=>max (dep k) (nH l)
end
def NJ:Ty→Bool
 |.int _=>true
 |.bool=>true
 |.str=>true
 |_=>false
def Au:List Sk→Bool
 | []=>true
 |.d t::l=>NJ t&& Au l
 |.sg _::l=>Au l
 |_=>false
mutual
def encS:(k:Sk)→pE R.T k→V
 |.d t,x=>aG R t x
 |.l _ t,x=>aG R (.slice t) x
 |.agg l,x=>.agg (aY l x)
 |.aK l off,x=>.aK (aY l x) off
 |.bV k e,x=>.bV (List.map (fun p=>aG R k p.1) x) (List.map (fun p=>aG R e p.2) x)
 |.fn f a b,x=>.fn (.func f) (aY a x.1) (aY b x.2)
 |.dN,_=>.aj .sh []
 |.ref _ _,_=>aD
 |.bD _,_=>aD
 |.vw _ _,_=>aD
 |.sg l,x=>.agg (bB (sO l x))
 |.undef,_=>aD
def aY:(l:List Sk)→aJ R.T l→List V
 | [],_=>[]
 | [k],x=>[encS k x]
 |k::h::l,p=>encS k p.1::aY (h::l) p.2
end
def mO:List V→V
 | [v]=>v
 |vs=>.bg vs
def Av:Cp→Cp→Bool
 |_,.any=>true
 |.sh,.sh=>true
 |.nil,.nil=>true
 |.nil,.own _=>true
 |.full,.own _=>true
 |.full,.full=>true
 |.own t,.own u=>Nat.beq t u
 |_,_=>false
def Ir (c:Cp) (t:Ty):TV R.T→Option (List (Den R.T t))
 |.aj c' _ l=>bif Av c' c then pF R l else none
 |.dN=>bif Av .nil c then some [] else none
 |_=>none
def Aw {k e k' e':Ty} (m:List (Den R.T k'×Den R.T e')):Option (List (Den R.T k×Den R.T e)):=if h:k'=k∧e'=e then some (by rw[←h.1,←h.2];exact m) else none
mutual
def pk:(k:Sk)→TV R.T→Option (pE R.T k)
 |.d t=>fun v=>nD R t v
 |.l c t=>fun v=>Ir R c t v
 |.agg l=>fun v=>match v with
  |.agg cs=>fF l cs
  |_=>none
 |.ref o off=>fun v=>match v with
  |.ref p off'=>bif Nat.beq p o&& Nat.beq off' off then some () else none
  |_=>none
 |.aK l off=>fun v=>match v with
  |.aK cs off'=>bif Nat.beq off' off then fF l cs else none
  |_=>none
 |.bD o=>fun v=>match v with
  |.bD p=>bif Nat.beq p o then some () else none
  |_=>none
 |.bV k e=>fun v=>match v with
  |.bV _ _ m=>Aw R m
  |_=>none
 |.fn f a b=>fun v=>match v with
  |.fn f' a' b'=>bif Nat.beq f' f then (match fF a a' with
   |some x=>match fF b b' with
    |some y=>some (x,y)
    |none=>none
   |none=>none) else none
  |_=>none
 |.dN=>fun v=>match v with
  |.dN=>some ()
  |_=>none
 |.vw o t=>fun v=>match v with
  |.vw p t'=>bif Nat.beq p o then (if t'=t then some () else none) else none
  |_=>none
 |.sg l=>fun v=>match v with
  |.sg ss=>uV l ss
  |_=>none
 |.undef=>fun v=>match v with
  |.undef=>some ()
  |_=>none
def fF:(l:List Sk)→List (TV R.T)→Option (aJ R.T l)
 | []=>fun vs=>match vs with
   | []=>some ()
   |_::_=>none
 | [k]=>fun vs=>match vs with
   | [v]=>pk k v
   |_=>none
 |k::h::l=>fun vs=>match vs with
  | []=>none
  |v::vs=>match pk k v with
   |some x=>match fF (h::l) vs with
    |some p=>some (x,p)
    |none=>none
   |none=>none
end
mutual
def up (c:Cp):(k:Sk)→pE R.T k→TV R.T
 |.d t,x=>eZ R c t x
 |.l c t,x=>.aj c t x
 |.agg l,x=>.agg (iC c l x)
 |.ref o off,_=>.ref o off
 |.aK l off,x=>.aK (iC c l x) off
 |.bD o,_=>.bD o
 |.bV k e,x=>.bV k e x
 |.fn f a b,x=>.fn f (iC c a x.1) (iC c b x.2)
 |.dN,_=>.dN
 |.vw o t,_=>.vw o t
 |.sg l,x=>.sg (sO l x)
 |.undef,_=>.undef
def iC (c:Cp):(l:List Sk)→aJ R.T l→List (TV R.T)
 | [],_=>[]
 | [k],x=>[up c k x]
 |k::h::l,p=>up c k p.1::iC c (h::l) p.2
end
def wH:(k:jY)→Ob R.T→Option (wz R.T k)
 |.cells l=>fun o=>match o with
  |.cells cs=>fF R l cs
  |_=>none
 |.st n=>fun o=>match o with
  |.cells cs=>xS R n (.agg cs)
  |_=>none
 |.map k e=>fun o=>match o with
  |.map _ _ m=>Aw R m
  |_=>none
 |.arr t=>fun o=>match o with
  |.arr _ l=>pF R l
  |_=>none
 |.sg l=>fun o=>match o with
  |.sg ss=>uV l ss
  |_=>none
def ku:(k:jY)→wz R.T k→Ob R.T
 |.cells l,x=>.cells (iC R .any l x)
 |.st n,x=>.cells (ji R .any (R.lf n) (R.of n x))
 |.map k e,x=>.map k e x
 |.arr t,x=>.arr t x
 |.sg l,x=>.sg (sO l x)
def pI (st:List (Nat×TV R.T)):(l:List (Nat×Sk))→Option (xR R.T l)
 | []=>some ()
 | [(i,k)]=>match look st i with
   |some v=>pk R k v
   |none=>none
 | (i,k)::h::l=>match look st i with
   |some v=>match pk R k v with
    |some x=>match pI st (h::l) with
     |some p=>some (x,p)
     |none=>none
    |none=>none
   |none=>none
def D8:(l:List (Nat×Sk))→xR R.T l→List (Nat×TV R.T)
 | [],_=>[]
 | [(i,k)],x=>[(i,up R .any k x)]
 | (i,k)::h::l,p=>(i,up R .any k p.1)::D8 (h::l) p.2
def lJ (st:List (Nat×Ob R.T)):(l:List (Nat×jY))→Option (nC R.T l)
 | []=>some ()
 | [(i,k)]=>match look st i with
   |some v=>wH R k v
   |none=>none
 | (i,k)::h::l=>match look st i with
   |some v=>match wH R k v with
    |some x=>match lJ st (h::l) with
     |some p=>some (x,p)
     |none=>none
    |none=>none
   |none=>none
def kC:(l:List (Nat×jY))→nC R.T l→List (Nat×Ob R.T)
 | [],_=>[]
 | [(i,k)],x=>[(i,ku R k x)]
 | (i,k)::h::l,p=>(i,ku R k p.1)::kC (h::l) p.2
def pack (st:MS R.T):(s:Shape)→Option (oq R.T s)
 | ⟨s,[]⟩=>pI R st.fr s
 | ⟨s,o::os⟩=>match pI R st.fr s with
   |some x=>match lJ R st.ob (o::os) with
    |some y=>some (x,y)
    |none=>none
   |none=>none
def Ay {T:Nat→Type}:TV T→Bool
 |.dN=>true
 |.aj .nil _ l=>l.isEmpty
 |.aj .full _ l=>l.isEmpty
 |_=>false
def oz {T:Nat→Type} (W:List Nat):List (Nat×Sk)→MS T→MS T
 | [],st=>st
 | (i,.vw o t)::l,st=>match look st.fr i with
   |some v=>bif Ay v&& aP o W then oz W l ⟨(i,.vw o t)::(st.new o (.arr t [])).fr,(st.new o (.arr t [])).ob⟩ else oz W l st
   |none=>oz W l st
 |_::l,st=>oz W l st
def kD (W:List Nat) (st:MS R.T) (s:Shape):Option (oq R.T s):=pack R (oz W s.sl st) s
def unpack:(s:Shape)→oq R.T s→MS R.T
 | ⟨s,[]⟩,x=>⟨D8 R s x,[]⟩
 | ⟨s,o::os⟩,x=>⟨D8 R s x.1,kC R (o::os) x.2⟩
def xW:Ex→Ex→Bool
 |.normal,.normal=>true
 |.ret,.ret=>true
 |.exit i,.exit j=>Nat.beq i j
 |_,_=>false
def rO (W:List Nat) (e:Ex) (st:MS R.T):(l:List (Ex×Shape))→Option (Out R.T l)
 | []=>none
 | [(x,s)]=>bif xW e x then kD R W st s else none
 | (x,s)::h::l=>bif xW e x then (match kD R W st s with
   |some p=>some (.inl p)
   |none=>none) else (match rO W e st (h::l) with
   |some p=>some (.inr p)
   |none=>none)
def ug {β:Type} (b:MS R.T) (k:Ex→MS R.T→Option β):(l:List (Ex×Shape))→Out R.T l→Option β
 | [],_=>none
 | [(x,s)],p=>k x (b.over (unpack R s p))
 | (x,s)::h::l,p=>Sum.elim (fun q=>k x (b.over (unpack R s q))) (fun q=>ug b k (h::l) q) p
end
end Aq
end
