/- Part of the proof of a law. -/
import Derived.Test.YteniejlbjfigdaaGreatDoorX05
set_option linter.all false
set_option linter.unusedSimpArgs false
set_option linter.unusedSectionVars false
namespace Aq
open Go
def Is {α:Type} (a b:α):Prop:=a=b
theorem Is.rfl {α:Type} {a:α}:Is a a:=Eq.refl a
def iv (n:Int):V:=.int .i64 n
def lv {α:Type} (f:α→V) (l:List α):V:=.ak .sh (l.map f)
theorem Wn {α:Type} {f:α→V} (h:∀x,aC (f x)=true):∀l:List α,aX (l.map f)=true
 | []=>by simp[aX]
 |a::l=>by simp[aX,h a,Wn h l]
theorem Fw {α:Type} {f:α→V} (h:∀x,aC (f x)=true) (l:List α):aC (.ak .sh (l.map f))=true:=by
 simp only[aC];exact Wn h l
theorem jk {α:Type} {f:α→V} (h:∀x,aC (f x)=true) (l:List α):aC (lv f l)=true:=Fw h l
theorem afJ (n:Int):aC (iv n)=true:=by simp[iv,aC]
theorem jC (l:List (List UInt8)):aC (lv V.str l)=true:=jk (fun _=>by simp[aC]) l
theorem jD (l:List Int):aC (lv iv l)=true:=jk afJ l
theorem jH (k:IntKind) (l:List Int):aC (lv (V.int k) l)=true:=jk (fun _=>by simp[aC]) l
theorem jI (l:List Bool):aC (lv V.bool l)=true:=jk (fun _=>by simp[aC]) l
attribute [go_sem] jC jD jH jI
def aL {α:Type} (l:List α) (i:Int):Option α:=if 0≤i∧i<l.length then l[i.toNat]? else none
def oF (P:Program) (t:TypeId):Bool:=match P.underlying t with
 |some (.slice _)=>true
 |_=>false
def Fx (P:Program) (t:TypeId):Bool:=match P.underlying t with
 |some .string=>true
 |_=>false
section
variable {E:Env} {fr:Fr} {σ:ah}
def NQ (Q:Ex→Fr→ah→Prop) (fr:Fr) (σ:ah):Prop:=Q .normal fr σ
theorem NQ.i {Q:Ex→Fr→ah→Prop} (h:Q .normal fr σ):NQ Q fr σ:=h
theorem dP.n {b:Code} {Q:Ex→Fr→ah→Prop} (h:CW E b fr σ Q):dP E b Q .normal fr σ:=h
theorem dP.x {b:Code} {i:Nat} {Q:Ex→Fr→ah→Prop} (h:Q (.exit i) fr σ):dP E b Q (.exit i) fr σ:=h
theorem dP.r {b:Code} {Q:Ex→Fr→ah→Prop} (h:Q .ret fr σ):dP E b Q .ret fr σ:=h
theorem nL.n {id:Nat} {Q:Ex→Fr→ah→Prop} (h:Q .normal fr σ):nL id Q .normal fr σ:=h
theorem nL.r {id:Nat} {Q:Ex→Fr→ah→Prop} (h:Q .ret fr σ):nL id Q .ret fr σ:=h
theorem nL.hit {id:Nat} {Q:Ex→Fr→ah→Prop} (h:Q .normal fr σ):nL id Q (.exit id) fr σ:=by simp only[nL,if_true];exact h
theorem qB.n {c:Code} {Q:Ex→Fr→ah→Prop} (h:CW E (.loop c) fr σ Q):qB E c Q .normal fr σ:=h
theorem qB.x {c:Code} {i:Nat} {Q:Ex→Fr→ah→Prop} (h:Q (.exit i) fr σ):qB E c Q (.exit i) fr σ:=h
theorem qB.r {c:Code} {Q:Ex→Fr→ah→Prop} (h:Q .ret fr σ):qB E c Q .ret fr σ:=h
theorem CW.Fy {c:Operand} {a b:Code} {Q:Ex→Fr→ah→Prop} (hc:Is (fr.ev E c) (.bool true)) (h:CW E a fr σ Q):CW E (.cond c a b) fr σ Q:=CW.cond hc (fun _=>h) (fun h=>by cases h)
theorem CW.w9 {c:Operand} {a b:Code} {Q:Ex→Fr→ah→Prop} (hc:Is (fr.ev E c) (.bool false)) (h:CW E b fr σ Q):CW E (.cond c a b) fr σ Q:=CW.cond hc (fun h=>by cases h) (fun _=>h)
theorem OW.o1 {all:List Oper} {st:Nat} {d:Tmp} {op:Op} {ty:TypeId} {pos:String} {bW:Array Edge} {gd:Option (Nat×Bool)} {os:List Oper} {v:V} {σ1:ah} {Q:Fr→ah→Prop} (hw:Is (dU all fr ⟨some d,op,ty,pos,bW,gd⟩) (some true))
 (hop:∀S,Is (opC E S fr σ st ⟨some d,op,ty,pos,bW,gd⟩) (some (v,fr,σ1))) (h:OW E all (st+1) os (fr.set d v) σ1 Q):OW E all st (⟨some d,op,ty,pos,bW,gd⟩::os) fr σ Q:=OW.op hw hop h
theorem OW.o0 {all:List Oper} {st:Nat} {op:Op} {ty:TypeId} {pos:String} {bW:Array Edge} {gd:Option (Nat×Bool)} {os:List Oper} {v:V} {σ1:ah} {Q:Fr→ah→Prop} (hw:Is (dU all fr ⟨none,op,ty,pos,bW,gd⟩) (some true))
 (hop:∀S,Is (opC E S fr σ st ⟨none,op,ty,pos,bW,gd⟩) (some (v,fr,σ1))) (h:OW E all (st+1) os fr σ1 Q):OW E all st (⟨none,op,ty,pos,bW,gd⟩::os) fr σ Q:=OW.op hw hop h
theorem OW.s1 {all:List Oper} {st:Nat} {d:Tmp} {op:Op} {ty:TypeId} {pos:String} {bW:Array Edge} {gd:Option (Nat×Bool)} {os:List Oper} {Q:Fr→ah→Prop} (hw:Is (dU all fr ⟨some d,op,ty,pos,bW,gd⟩) (some false))
 (h:OW E all (st+1) os (fr.set d ay) σ Q):OW E all st (⟨some d,op,ty,pos,bW,gd⟩::os) fr σ Q:=OW.skip hw h
theorem OW.s0 {all:List Oper} {st:Nat} {op:Op} {ty:TypeId} {pos:String} {bW:Array Edge} {gd:Option (Nat×Bool)} {os:List Oper} {Q:Fr→ah→Prop} (hw:Is (dU all fr ⟨none,op,ty,pos,bW,gd⟩) (some false))
 (h:OW E all (st+1) os fr σ Q):OW E all st (⟨none,op,ty,pos,bW,gd⟩::os) fr σ Q:=OW.skip hw h
theorem eu.o1 {ms:List Nat} {all:List Oper} {st:Nat} {d:Tmp} {op:Op} {ty:TypeId} {pos:String} {bW:Array Edge} {gd:Option (Nat×Bool)} {os:List Oper} {v:V} {σ1:ah} {fs:List eT} {f:eT} {Q:Fr→ah→Prop} (hw:Is (dU all fr ⟨some d,op,ty,pos,bW,gd⟩) (some true))
 (hop:∀S,Is (opC E S fr σ st ⟨some d,op,ty,pos,bW,gd⟩) (some (v,fr,σ1))) (hf:Is (gy E all fr ⟨some d,op,ty,pos,bW,gd⟩ true) f) (h:eu E ms all (st+1) os (fr.set d v) σ1 (fs++[f]) Q):eu E ms all st (⟨some d,op,ty,pos,bW,gd⟩::os) fr σ fs Q:=
 eu.op hw hop (by rw[hf];exact h)
theorem eu.o0 {ms:List Nat} {all:List Oper} {st:Nat} {op:Op} {ty:TypeId} {pos:String} {bW:Array Edge} {gd:Option (Nat×Bool)} {os:List Oper} {v:V} {σ1:ah} {fs:List eT} {f:eT} {Q:Fr→ah→Prop} (hw:Is (dU all fr ⟨none,op,ty,pos,bW,gd⟩) (some true))
 (hop:∀S,Is (opC E S fr σ st ⟨none,op,ty,pos,bW,gd⟩) (some (v,fr,σ1))) (hf:Is (gy E all fr ⟨none,op,ty,pos,bW,gd⟩ true) f) (h:eu E ms all (st+1) os fr σ1 (fs++[f]) Q):eu E ms all st (⟨none,op,ty,pos,bW,gd⟩::os) fr σ fs Q:=
 eu.op hw hop (by rw[hf];exact h)
theorem eu.s1 {ms:List Nat} {all:List Oper} {st:Nat} {d:Tmp} {op:Op} {ty:TypeId} {pos:String} {bW:Array Edge} {gd:Option (Nat×Bool)} {os:List Oper} {fs:List eT} {f:eT} {Q:Fr→ah→Prop} (hw:Is (dU all fr ⟨some d,op,ty,pos,bW,gd⟩) (some false))
 (hf:Is (gy E all fr ⟨some d,op,ty,pos,bW,gd⟩ false) f) (h:eu E ms all (st+1) os (fr.set d ay) σ (fs++[f]) Q):eu E ms all st (⟨some d,op,ty,pos,bW,gd⟩::os) fr σ fs Q:=eu.skip hw (by rw[hf];exact h)
theorem eu.s0 {ms:List Nat} {all:List Oper} {st:Nat} {op:Op} {ty:TypeId} {pos:String} {bW:Array Edge} {gd:Option (Nat×Bool)} {os:List Oper} {fs:List eT} {f:eT} {Q:Fr→ah→Prop} (hw:Is (dU all fr ⟨none,op,ty,pos,bW,gd⟩) (some false))
 (hf:Is (gy E all fr ⟨none,op,ty,pos,bW,gd⟩ false) f) (h:eu E ms all (st+1) os fr σ (fs++[f]) Q):eu E ms all st (⟨none,op,ty,pos,bW,gd⟩::os) fr σ fs Q:=eu.skip hw (by rw[hf];exact h)
theorem OW.g1 {all:List Oper} {st:Nat} {d:Tmp} {op:Op} {ty:TypeId} {pos:String} {bW:Array Edge} {gd:Option (Nat×Bool)} {os:List Oper} {v:V} {g:Bool} {Q:Fr→ah→Prop} (hw:Is (dU all fr ⟨some d,op,ty,pos,bW,gd⟩) (some g)) (hop:g=true→∀S,Is (opC E S fr σ st ⟨some d,op,ty,pos,bW,gd⟩) (some (v,fr,σ)))
 (h:OW E all (st+1) os (fr.set d (cond g v ay)) σ Q):OW E all st (⟨some d,op,ty,pos,bW,gd⟩::os) fr σ Q:=by
 cases g with
 |true=>exact OW.op hw (hop rfl) h
 |false=>exact OW.skip hw h
theorem OW.pk {all:List Oper} {st:Nat} {d:Tmp} {c a b:Operand} {ty:TypeId} {pos:String} {bW:Array Edge} {gd:Option (Nat×Bool)} {os:List Oper} {t x y:Bool} {Q:Fr→ah→Prop} (hw:Is (dU all fr ⟨some d,.pick c a b,ty,pos,bW,gd⟩) (some true)) (hc:Is (fr.ev E c) (.bool t)) (ha:t=true→Is (fr.ev E a) (.bool x)) (hb:t=false→Is (fr.ev E b) (.bool y))
 (h:OW E all (st+1) os (fr.set d (.bool (cond t x y))) σ Q):OW E all st (⟨some d,.pick c a b,ty,pos,bW,gd⟩::os) fr σ Q:=by
 have hc':fr.ev E c= .bool t:=hc
 refine OW.op (v:=.bool (cond t x y)) (σ1:=σ) hw (fun S=> ?_) h
 cases t with
 |true=>
  have ha':fr.ev E a= .bool x:=ha rfl
  simp only[opC,bq,hc',mJ,Option.map_some,if_true,ha',cond_true]
 |false=>
  have hb':fr.ev E b= .bool y:=hb rfl
  simp only[opC,bq,hc',mJ,Option.map_some,Bool.false_eq_true,if_false,hb',cond_false]
theorem eu.pk {ms:List Nat} {fs:List eT} {f:eT} {all:List Oper} {st:Nat} {d:Tmp} {c a b:Operand} {ty:TypeId} {pos:String} {bW:Array Edge} {gd:Option (Nat×Bool)} {os:List Oper} {t x y:Bool} {Q:Fr→ah→Prop} (hw:Is (dU all fr ⟨some d,.pick c a b,ty,pos,bW,gd⟩) (some true)) (hc:Is (fr.ev E c) (.bool t)) (ha:t=true→Is (fr.ev E a) (.bool x)) (hb:t=false→Is (fr.ev E b) (.bool y))
 (hf:Is (gy E all fr ⟨some d,.pick c a b,ty,pos,bW,gd⟩ true) f) (h:eu E ms all (st+1) os (fr.set d (.bool (cond t x y))) σ (fs++[f]) Q):eu E ms all st (⟨some d,.pick c a b,ty,pos,bW,gd⟩::os) fr σ fs Q:=by
 have hc':fr.ev E c= .bool t:=hc
 refine eu.op (v:=.bool (cond t x y)) (σ1:=σ) hw (fun S=> ?_) (by rw[hf];exact h)
 cases t with
 |true=>
  have ha':fr.ev E a= .bool x:=ha rfl
  simp only[opC,bq,hc',mJ,Option.map_some,if_true,ha',cond_true]
 |false=>
  have hb':fr.ev E b= .bool y:=hb rfl
  simp only[opC,bq,hc',mJ,Option.map_some,Bool.false_eq_true,if_false,hb',cond_false]
theorem nM.one {r:ResultVar} {e:Ex} {v0:V} {R:V→ah→Prop} (he:∀i,e≠ .exit i) (hv:Is (iD E fr σ r) (some v0)) (hr:R v0 σ):nM E [r] R e fr σ:=by
 have h1:[r].mapM (iD E fr σ)=some [v0]:=by rw[List.mapM_cons,hv];rfl
 cases e with
 |exit i=>exact absurd rfl (he i)
 |normal=>exact⟨[v0],h1,hr⟩
 |ret=>exact⟨[v0],h1,hr⟩
theorem nM.bP {rs:List ResultVar} {e:Ex} {v1 v2:V} {vs:List V} {R:V→ah→Prop} (he:∀i,e≠ .exit i) (hv:Is (rs.mapM (iD E fr σ)) (some (v1::v2::vs))) (hr:R (.bP (v1::v2::vs)) σ):nM E rs R e fr σ:=by
 cases e with
 |exit i=>exact absurd rfl (he i)
 |normal=>exact⟨_,hv,hr⟩
 |ret=>exact⟨_,hv,hr⟩
theorem Pure.of' {f:FuncId} {args:List V} {v:V} {fn:Func} {c:Code} (rs:List ResultVar) (hf:E.P.funcs[f]? =some fn) (hb:fn.body=some c)
 (h:∀fr σ,fr.d=1→fr.om=E.om f→(∀i,fr.tm i=args.getD i ay)→CW E c fr σ (nM E rs (fun v0 σ=>aP 20 σ v0=some v))) (hrs:fn.results.toList=rs:=by rfl) (hok:(decide (args.length≤fn.ntmps)&& fC fn.ntmps c)=true:=by rfl) (hs:E.kJ f=none:=by rfl):Pure E f args v:=
 Pure.of hs hf hb hok (by rw[hrs];exact h _ _ rfl rfl (fun _=>rfl))
theorem jE {n:Nat} {x:V} (h:aC x=true):aP (n+1) σ x=some x:=by unfold aP;simp only[h,if_true]
theorem P5 (n:Nat) (k:IntKind) (i:Int):aP (n+1) σ (.int k i)=some (.int k i):=jE (by simp[aC])
theorem P6 (n:Nat) (b:Bool):aP (n+1) σ (.bool b)=some (.bool b):=jE (by simp[aC])
theorem P7 (n:Nat) (s:List UInt8):aP (n+1) σ (.str s)=some (.str s):=jE (by simp[aC])
theorem uY {n:Nat} {α:Type} {f:α→V} (c:Cap) (l:List α) (h:∀x,aC (f x)=true):aP (n+2) σ (.ak c (l.map f))=some (lv f l):=by
 by_cases hp:aC (.ak c (l.map f))=true
 ·rw[jE hp]
  cases c<;>simp only[aC,Bool.false_eq_true] at hp
  rfl
 ·unfold aP
  simp only[hp,if_false,Bool.false_eq_true]
  have:(l.map f).mapM (aP (n+1) σ)=some (l.map f):=by
   induction l with
   |nil=>simp
   |cons a l ih=>simp[h a,jE,ih (by cases c<;>simp_all[aC,aX])]
  rw[this];rfl
theorem afK (k:IntKind) (i:Int):er (.int k i)= .int k i:=rfl
theorem afL (b:Bool):er (.bool b)= .bool b:=rfl
theorem afM (s:List UInt8):er (.str s)= .str s:=rfl
theorem afN {α:Type} (f:α→V) (l:List α):er (lv f l)=lv f l:=rfl
theorem afO (c:Cap) (l:List V):er (.ak c l)= .ak .sh l:=rfl
theorem afP (n:Int):iv n= .int .i64 n:=rfl
theorem P8 (k:IntKind) (i:Int):aC (.int k i)=true:=by simp[aC]
theorem P9 (b:Bool):aC (.bool b)=true:=by simp[aC]
theorem Wo (s:List UInt8):aC (.str s)=true:=by simp[aC]
theorem Qa {P:Program} {α:Type} {t:TypeId} {c:Cap} {l:List α} {f:α→V} {k:IntKind} {i:Int}:
 lU P t (.ak c (l.map f)) (.int k i)=if oF P t then (iY P t).bind fun e=>(bX P e).bind fun sz=>(aL l i).bind fun x=>if (f x).cells.length=sz then some (.aK (f x).cells 0) else none else none:=by
 unfold lU oF iY
 cases hu:P.underlying t with
 |none=>rfl
 |some u=>
  cases u<;>try rfl
  rename_i e
  simp only[if_true,Option.bind_some]
  cases bX P e with
  |none=>rfl
  |some sz=>
   simp only[Option.bind_some,idx,kI,List.length_map,aL]
   split
   ·rename_i h
    simp only[Option.bind_some,List.getElem?_map]
    cases l[i.toNat]? with
    |none=>rfl
    |some x=>rfl
   ·rfl
theorem Wp {P:Program} {α:Type} {t:TypeId} {l:List α} {f:α→V} {k:IntKind} {i:Int}:
 lU P t (lv f l) (.int k i)=if oF P t then (iY P t).bind fun e=>(bX P e).bind fun sz=>(aL l i).bind fun x=>if (f x).cells.length=sz then some (.aK (f x).cells 0) else none else none:=Qa
theorem afQ {P:Program} {t:TypeId} {v:V} (h1:gY P t=some false) (h2:bX P t=some 1):fJ P t [v] 0=some v:=by simp[fJ,h1,h2,lT]
theorem afR {t:TypeId} {α:Type} (f:α→V) (l:List α) (h:oF E.P t=true):lq E σ t (lv f l)=some l.length:=by
 unfold oF at h;unfold lq
 split at h
 ·rename_i e he;rw[he];simp[lv]
 ·simp at h
theorem afS {t:TypeId} (c:Cap) (l:List V) (h:oF E.P t=true):lq E σ t (.ak c l)=some l.length:=by
 unfold oF at h;unfold lq
 split at h
 ·rename_i e he;rw[he]
 ·simp at h
theorem afT {t:TypeId} (l:List UInt8) (h:Fx E.P t=true):lq E σ t (.str l)=some l.length:=by
 unfold Fx at h;unfold lq
 split at h
 ·rename_i he;rw[he]
 ·simp at h
end
section
variable {E:Env} {S:iJ} {fr:Fr} {σ:ah} {st:Nat} {d:Option Tmp} {ty:TypeId} {pos:String} {bW:Array Edge} {gd:Option (Nat×Bool)}
theorem afU (all:List Oper) (op:Op):dU all fr ⟨d,op,ty,pos,bW,none⟩=some true:=rfl
def Qb (want:Bool):V→Option Bool
 |.bool b=>some (b==want)
 |.raw _=>none
 |_=>some false
theorem afV (w b:Bool):Qb w (.bool b)=some (b==w):=rfl
theorem afW (w:Bool):Qb w ay=some false:=rfl
theorem afX (all:List Oper) (op:Op) (j:Nat) (want:Bool):dU all fr ⟨d,op,ty,pos,bW,some (j,want)⟩=match (all[j]?).bind (·.dst) with
 |some t=>Qb want (fr.tm t)
 |none=>some false:=by
 simp only[dU]
 cases (all[j]?).bind (·.dst) with
 |none=>rfl
 |some t=>simp only;cases fr.tm t<;>rfl
theorem afY (cs:List V):V.cells (.agg cs)=cs:=rfl
theorem afZ (k:IntKind) (n:Int):V.cells (.int k n)=[.int k n]:=rfl
theorem af0 (k:IntKind) (n:Int):dN (.int k n)=true:=rfl
theorem af2 (b:Bool):V.cells (.bool b)=[.bool b]:=rfl
theorem af3 (b:Bool):dN (.bool b)=true:=rfl
theorem af4 (s:List UInt8):V.cells (.str s)=[.str s]:=rfl
theorem af5 (s:List UInt8):dN (.str s)=true:=rfl
theorem af6 (c:Cap) (l:List V):V.cells (.ak c l)=[.ak c l]:=rfl
theorem af7 (c:Cap) (l:List V):dN (.ak c l)=true:=rfl
theorem af8 (l:Aq.Loc) (s o:Nat):V.cells (.ref l s o)=[.ref l s o]:=rfl
theorem af9 (l:Aq.Loc) (s o:Nat):dN (.ref l s o)=true:=rfl
theorem aga (cs:List V) (o:Nat):V.cells (.aK cs o)=[.aK cs o]:=rfl
theorem agb (cs:List V) (o:Nat):dN (.aK cs o)=true:=rfl
theorem agc (f:Fn) (a b:List V):V.cells (.fn f a b)=[.fn f a b]:=rfl
theorem agd (f:Fn) (a b:List V):dN (.fn f a b)=true:=rfl
theorem agf {α:Type} (f:α→V) (l:List α):V.cells (lv f l)=[lv f l]:=rfl
theorem agh:bL []=true:=rfl
theorem Wq (x:V) (l:List V):bL (x::l)=(oneCell x&& bL l):=rfl
theorem agi (k:IntKind) (n:Int):oneCell (.int k n)=true:=rfl
theorem agj (b:Bool):oneCell (.bool b)=true:=rfl
theorem agk (s:List UInt8):oneCell (.str s)=true:=rfl
theorem agl {α:Type} (f:α→V) (l:List α):oneCell (lv f l)=true:=rfl
theorem agm (c:Cap) (l:List V):oneCell (.ak c l)=true:=rfl
theorem agn (l:Aq.Loc) (s o:Nat):oneCell (.ref l s o)=true:=rfl
theorem agp (cs:List V) (o:Nat):oneCell (.aK cs o)=true:=rfl
theorem agq (cs:List V):dN (.agg cs)=true:=rfl
theorem agr {α:Type} (f:α→V) (l:List α):dN (lv f l)=true:=rfl
theorem ags (x:Operand):opC E S fr σ st ⟨d,.move x,ty,pos,bW,gd⟩=some (fr.ev E x,fr,σ):=rfl
theorem agt (x:Operand):opC E S fr σ st ⟨d,.assign x,ty,pos,bW,gd⟩=some (fr.ev E x,fr,σ):=rfl
theorem agu (c a b:Operand) (h:fr.ev E c= .bool true):opC E S fr σ st ⟨d,.pick c a b,ty,pos,bW,gd⟩=some (fr.ev E a,fr,σ):=by
 simp only[opC,bq,h,mJ,Option.map_some,if_true]
theorem agv (c a b:Operand) (h:fr.ev E c= .bool false):opC E S fr σ st ⟨d,.pick c a b,ty,pos,bW,gd⟩=some (fr.ev E b,fr,σ):=by
 simp only[opC,bq,h,mJ,Option.map_some,Bool.false_eq_true,if_false]
theorem agw (op:BinOp) (t u:TypeId) (x y:Operand):opC E S fr σ st ⟨d,.binOp op t x y u,ty,pos,bW,gd⟩=(nA E.P op t (fr.ev E x) (fr.ev E y)).map fun v=>(v,fr,σ):=by
 simp only[opC,bq];cases nA E.P op t (fr.ev E x) (fr.ev E y)<;>rfl
theorem agx (op:UnOp) (t:TypeId) (x:Operand):opC E S fr σ st ⟨d,.unOp op t x,ty,pos,bW,gd⟩=(wM op (fr.ev E x)).map fun v=>(v,fr,σ):=by
 simp only[opC,bq];cases wM op (fr.ev E x)<;>rfl
theorem agy (t:TypeId) (x:Operand) (f:Nat):opC E S fr σ st ⟨d,.fieldAddr t x f,ty,pos,bW,gd⟩=(rC E.P t f).bind fun p=>match fr.ev E x with
 |.ref loc s off=>some (.ref loc s (off+p.1),fr,σ)
 |.aK cs off=>some (.aK cs (off+p.1),fr,σ)
 |_=>none:=by
 simp only[opC,bq]
 cases rC E.P t f with
 |none=>rfl
 |some p=>obtain⟨o,u⟩:=p;simp only[Option.bind_some];cases fr.ev E x<;>rfl
theorem agz (t:TypeId) (x:Operand):opC E S fr σ st ⟨d,.load t x,ty,pos,bW,gd⟩=(match fr.ev E x with
 |.ref loc s off=>(σ.cu loc s).bind fun cs=>(fJ E.P t cs off).map fun v=>(v,fr,σ)
 |.aK cs off=>(fJ E.P t cs off).map fun v=>(v,fr,σ)
 |_=>none):=by
 simp only[opC,bq]
 cases fr.ev E x with
 |ref loc s off=>
  simp only
  cases σ.cu loc s with
  |none=>rfl
  |some cs=>simp only[Option.bind_some];cases fJ E.P t cs off<;>rfl
 |aK cs off=>simp only;cases fJ E.P t cs off<;>rfl
 |_=>rfl
theorem agA (t:TypeId) (x:Operand) (i:Nat):opC E S fr σ st ⟨some i,.box t x,ty,pos,bW,gd⟩=if bL (fr.ev E x).cells∧dN (fr.ev E x) then some (.ref (fr.d,i) st 0,fr,σ.setObj (fr.d,i) st (.cells (fr.ev E x).cells)) else none:=by
 simp only[opC,bq,Option.map_some,Option.bind_some];split<;>rfl
theorem agB (t:TypeId) (i:Nat):opC E S fr σ st ⟨some i,.alloc t,ty,pos,bW,gd⟩=(gZ E.P t).bind fun z=>if bL z.cells then some (.ref (fr.d,i) st 0,fr,σ.setObj (fr.d,i) st (.cells z.cells)) else none:=by
 simp only[opC,bq,Option.map_some,Option.bind_some]
 cases gZ E.P t with
 |none=>rfl
 |some z=>simp only[Option.bind_some];split<;>rfl
theorem Ws (t:TypeId) (a x:Operand):opC E S fr σ st ⟨d,.store t a x,ty,pos,bW,gd⟩=(match fr.ev E a with
 |.ref loc s off=>(σ.cu loc s).bind fun cs=>
  if some (fr.ev E x).cells.length=bX E.P t∧off+(fr.ev E x).cells.length≤cs.length∧bL (fr.ev E x).cells then some (ay,fr,σ.setObj loc s (.cells (fB cs off (fr.ev E x).cells))) else none
 |_=>none):=by
 simp only[opC,bq]
 cases fr.ev E a with
 |ref loc s off=>
  simp only
  cases σ.cu loc s with
  |none=>rfl
  |some cs=>simp only[Option.bind_some];split<;>rfl
 |_=>rfl
theorem agC (t:TypeId) (x i:Operand):opC E S fr σ st ⟨d,.indexAddr t x i,ty,pos,bW,gd⟩=(lU E.P t (fr.ev E x) (fr.ev E i)).map fun v=>(v,fr,σ):=by
 simp only[opC,bq];cases lU E.P t (fr.ev E x) (fr.ev E i)<;>rfl
theorem agD (x:Operand) (i:Nat):opC E S fr σ st ⟨d,.extract x i,ty,pos,bW,gd⟩=(match fr.ev E x with
 |.bP vs=>(vs[i]?).map fun v=>(v,fr,σ)
 |_=>none):=by
 simp only[opC,bq]
 cases fr.ev E x with
 |bP vs=>simp only;cases vs[i]? <;>rfl
 |_=>rfl
theorem agE (x:Operand) (t:TypeId):opC E S fr σ st ⟨d,.call ⟨.builtin .len, #[x], #[t]⟩,ty,pos,bW,gd⟩=(lq E σ t (fr.ev E x)).map fun n=>(.int .i64 (n:Nat),fr,σ):=by
 show (Option.map _ (((#[t]:Array TypeId)[0]?).bind fun t=>(lq E σ t (fr.ev E x)).map fun n=>(V.int .i64 (n:Nat),σ)))=_
 rw[show (#[t]:Array TypeId)[0]? =some t from rfl,Option.bind_some]
 cases lq E σ t (fr.ev E x)<;>rfl
end
attribute [go_sem] Bool.false_eq_true nA jm uO wM decide_true decide_false List.getElem?_cons_succ List.getElem?_cons_zero beq_true beq_false Bool.not_true Bool.not_false PZ Bool.false_and Bool.and_false Bool.true_and Bool.and_true afU afX afV afW ags agt agu agv agw agx agy agz agA agB Ws agC agD agE zL Wd Wh V9 tV Fu afx tX afy afz afA afB qC Wj afE afF map_eq Wm afG afH afI Fv KO afC afD afP afQ afR afS afT Qa List.length_map Wp P5 P6 P7 afK afL afM afN afO P8 P9 Wo Option.bind_some Option.map_some Option.getD_some mJ ofValue iW if_true if_false afY afZ af2 af4 agf af6 af8 aga agc af0 af3 af5 af7 af9 agb agd agh Wq agi agj agk agl agm agn agp agq agr and_self and_true true_and
end Aq
