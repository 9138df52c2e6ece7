/- Part of the proof of a law. -/
import Derived.Test.YtdcnajadcbedkaaGreatDoorS605
set_option linter.all false
set_option linter.unusedSimpArgs false
set_option linter.unusedSectionVars false
section
namespace Aq
open Go
def Is {α:Type} (a b:α):Prop:=a=b
theorem Is.rfl {α:Type} {a:α}:Is a a:=Eq.refl a
def iv (n:Int):V:=.int .i64 n
def lv {α:Type} (f:α→V) (l:List α):V:=.aj .sh (l.map f)
theorem VG {α:Type} {f:α→V} (h:∀x,aF (f x)=true):∀l:List α,aQ (l.map f)=true
 | []=>by simp[aQ]
 |a::l=>by simp[aQ,h a,VG h l]
theorem Dx {α:Type} {f:α→V} (h:∀x,aF (f x)=true) (l:List α):aF (.aj .sh (l.map f))=true:=by
 simp only[aF];exact VG h l
theorem iK {α:Type} {f:α→V} (h:∀x,aF (f x)=true) (l:List α):aF (lv f l)=true:=Dx h l
theorem aeR (n:Int):aF (iv n)=true:=by simp[iv,aF]
theorem ji (l:List (List UInt8)):aF (lv V.str l)=true:=iK (fun _=>by simp[aF]) l
theorem jk (l:List Int):aF (lv iv l)=true:=iK aeR l
theorem jl (k:IntKind) (l:List Int):aF (lv (V.int k) l)=true:=iK (fun _=>by simp[aF]) l
theorem jm (l:List Bool):aF (lv V.bool l)=true:=iK (fun _=>by simp[aF]) l
attribute [go_sem] ji jk jl jm
def dw {α:Type} (l:List α) (i:Int):Option α:=if 0≤i∧i<l.length then l[i.toNat]? else none
def l7 (P:Program) (t:TypeId):Bool:=match P.underlying t with
 |some (.slice _)=>true
 |_=>false
def Dy (P:Program) (t:TypeId):Bool:=match P.underlying t with
 |some .string=>true
 |_=>false
section
variable {E:Env} {fr:Fr} {σ:ah}
def NQ (Q:Ex→Fr→ah→Prop) (fr:Fr) (σ:ah):Prop:=Q .normal fr σ
theorem NQ.i {Q:Ex→Fr→ah→Prop} (h:Q .normal fr σ):NQ Q fr σ:=h
theorem bW.n {b:Code} {Q:Ex→Fr→ah→Prop} (h:CW E b fr σ Q):bW E b Q .normal fr σ:=h
theorem bW.x {b:Code} {i:Nat} {Q:Ex→Fr→ah→Prop} (h:Q (.exit i) fr σ):bW E b Q (.exit i) fr σ:=h
theorem bW.r {b:Code} {Q:Ex→Fr→ah→Prop} (h:Q .ret fr σ):bW E b Q .ret fr σ:=h
theorem kM.n {id:Nat} {Q:Ex→Fr→ah→Prop} (h:Q .normal fr σ):kM id Q .normal fr σ:=h
theorem kM.r {id:Nat} {Q:Ex→Fr→ah→Prop} (h:Q .ret fr σ):kM id Q .ret fr σ:=h
theorem kM.hit {id:Nat} {Q:Ex→Fr→ah→Prop} (h:Q .normal fr σ):kM id Q (.exit id) fr σ:=by simp only[kM,if_true];exact h
theorem mP.n {c:Code} {Q:Ex→Fr→ah→Prop} (h:CW E (.loop c) fr σ Q):mP E c Q .normal fr σ:=h
theorem mP.x {c:Code} {i:Nat} {Q:Ex→Fr→ah→Prop} (h:Q (.exit i) fr σ):mP E c Q (.exit i) fr σ:=h
theorem mP.r {c:Code} {Q:Ex→Fr→ah→Prop} (h:Q .ret fr σ):mP E c Q .ret fr σ:=h
theorem CW.vk {c:Operand} {a b:Code} {Q:Ex→Fr→ah→Prop} (hc:Is (fr.ev E c) (.bool true)) (h:CW E a fr σ Q):CW E (.cond c a b) fr σ Q:=CW.cond hc (fun _=>h) (fun h=>by cases h)
theorem CW.qJ {c:Operand} {a b:Code} {Q:Ex→Fr→ah→Prop} (hc:Is (fr.ev E c) (.bool false)) (h:CW E b fr σ Q):CW E (.cond c a b) fr σ Q:=CW.cond hc (fun h=>by cases h) (fun _=>h)
theorem OW.o1 {all:List Oper} {st:Nat} {d:Tmp} {op:Op} {ty:TypeId} {pos:String} {bJ:Array Edge} {gd:Option (Nat×Bool)} {os:List Oper} {v:V} {σ1:ah} {Q:Fr→ah→Prop} (hw:Is (dN all fr ⟨some d,op,ty,pos,bJ,gd⟩) (some true))
 (hop:∀S,Is (opC E S fr σ st ⟨some d,op,ty,pos,bJ,gd⟩) (some (v,fr,σ1))) (h:OW E all (st+1) os (fr.set d v) σ1 Q):OW E all st (⟨some d,op,ty,pos,bJ,gd⟩::os) fr σ Q:=OW.op hw hop h
theorem OW.o0 {all:List Oper} {st:Nat} {op:Op} {ty:TypeId} {pos:String} {bJ:Array Edge} {gd:Option (Nat×Bool)} {os:List Oper} {v:V} {σ1:ah} {Q:Fr→ah→Prop} (hw:Is (dN all fr ⟨none,op,ty,pos,bJ,gd⟩) (some true))
 (hop:∀S,Is (opC E S fr σ st ⟨none,op,ty,pos,bJ,gd⟩) (some (v,fr,σ1))) (h:OW E all (st+1) os fr σ1 Q):OW E all st (⟨none,op,ty,pos,bJ,gd⟩::os) fr σ Q:=OW.op hw hop h
theorem OW.s1 {all:List Oper} {st:Nat} {d:Tmp} {op:Op} {ty:TypeId} {pos:String} {bJ:Array Edge} {gd:Option (Nat×Bool)} {os:List Oper} {Q:Fr→ah→Prop} (hw:Is (dN all fr ⟨some d,op,ty,pos,bJ,gd⟩) (some false))
 (h:OW E all (st+1) os (fr.set d aC) σ Q):OW E all st (⟨some d,op,ty,pos,bJ,gd⟩::os) fr σ Q:=OW.skip hw h
theorem OW.s0 {all:List Oper} {st:Nat} {op:Op} {ty:TypeId} {pos:String} {bJ:Array Edge} {gd:Option (Nat×Bool)} {os:List Oper} {Q:Fr→ah→Prop} (hw:Is (dN all fr ⟨none,op,ty,pos,bJ,gd⟩) (some false))
 (h:OW E all (st+1) os fr σ Q):OW E all st (⟨none,op,ty,pos,bJ,gd⟩::os) fr σ Q:=OW.skip hw h
theorem dP.o1 {ms:List Nat} {all:List Oper} {st:Nat} {d:Tmp} {op:Op} {ty:TypeId} {pos:String} {bJ:Array Edge} {gd:Option (Nat×Bool)} {os:List Oper} {v:V} {σ1:ah} {fs:List bQ} {f:bQ} {Q:Fr→ah→Prop} (hw:Is (dN all fr ⟨some d,op,ty,pos,bJ,gd⟩) (some true))
 (hop:∀S,Is (opC E S fr σ st ⟨some d,op,ty,pos,bJ,gd⟩) (some (v,fr,σ1))) (hf:Is (eX E all fr ⟨some d,op,ty,pos,bJ,gd⟩ true) f) (h:dP E ms all (st+1) os (fr.set d v) σ1 (fs++[f]) Q):dP E ms all st (⟨some d,op,ty,pos,bJ,gd⟩::os) fr σ fs Q:=
 dP.op hw hop (by rw[hf];exact h)
theorem dP.o0 {ms:List Nat} {all:List Oper} {st:Nat} {op:Op} {ty:TypeId} {pos:String} {bJ:Array Edge} {gd:Option (Nat×Bool)} {os:List Oper} {v:V} {σ1:ah} {fs:List bQ} {f:bQ} {Q:Fr→ah→Prop} (hw:Is (dN all fr ⟨none,op,ty,pos,bJ,gd⟩) (some true))
 (hop:∀S,Is (opC E S fr σ st ⟨none,op,ty,pos,bJ,gd⟩) (some (v,fr,σ1))) (hf:Is (eX E all fr ⟨none,op,ty,pos,bJ,gd⟩ true) f) (h:dP E ms all (st+1) os fr σ1 (fs++[f]) Q):dP E ms all st (⟨none,op,ty,pos,bJ,gd⟩::os) fr σ fs Q:=
 dP.op hw hop (by rw[hf];exact h)
theorem dP.s1 {ms:List Nat} {all:List Oper} {st:Nat} {d:Tmp} {op:Op} {ty:TypeId} {pos:String} {bJ:Array Edge} {gd:Option (Nat×Bool)} {os:List Oper} {fs:List bQ} {f:bQ} {Q:Fr→ah→Prop} (hw:Is (dN all fr ⟨some d,op,ty,pos,bJ,gd⟩) (some false))
 (hf:Is (eX E all fr ⟨some d,op,ty,pos,bJ,gd⟩ false) f) (h:dP E ms all (st+1) os (fr.set d aC) σ (fs++[f]) Q):dP E ms all st (⟨some d,op,ty,pos,bJ,gd⟩::os) fr σ fs Q:=dP.skip hw (by rw[hf];exact h)
theorem dP.s0 {ms:List Nat} {all:List Oper} {st:Nat} {op:Op} {ty:TypeId} {pos:String} {bJ:Array Edge} {gd:Option (Nat×Bool)} {os:List Oper} {fs:List bQ} {f:bQ} {Q:Fr→ah→Prop} (hw:Is (dN all fr ⟨none,op,ty,pos,bJ,gd⟩) (some false))
 (hf:Is (eX E all fr ⟨none,op,ty,pos,bJ,gd⟩ false) f) (h:dP E ms all (st+1) os fr σ (fs++[f]) Q):dP E ms all st (⟨none,op,ty,pos,bJ,gd⟩::os) fr σ fs Q:=dP.skip hw (by rw[hf];exact h)
theorem OW.g1 {all:List Oper} {st:Nat} {d:Tmp} {op:Op} {ty:TypeId} {pos:String} {bJ:Array Edge} {gd:Option (Nat×Bool)} {os:List Oper} {v:V} {g:Bool} {Q:Fr→ah→Prop} (hw:Is (dN all fr ⟨some d,op,ty,pos,bJ,gd⟩) (some g)) (hop:g=true→∀S,Is (opC E S fr σ st ⟨some d,op,ty,pos,bJ,gd⟩) (some (v,fr,σ)))
 (h:OW E all (st+1) os (fr.set d (cond g v aC)) σ Q):OW E all st (⟨some d,op,ty,pos,bJ,gd⟩::os) fr σ Q:=by
 cases g with
 |true=>exact OW.op hw (hop rfl) h
 |false=>exact OW.skip hw h
theorem OW.pk {all:List Oper} {st:Nat} {d:Tmp} {c a b:Operand} {ty:TypeId} {pos:String} {bJ:Array Edge} {gd:Option (Nat×Bool)} {os:List Oper} {t x y:Bool} {Q:Fr→ah→Prop} (hw:Is (dN all fr ⟨some d,.pick c a b,ty,pos,bJ,gd⟩) (some true)) (hc:Is (fr.ev E c) (.bool t)) (ha:t=true→Is (fr.ev E a) (.bool x)) (hb:t=false→Is (fr.ev E b) (.bool y))
 (h:OW E all (st+1) os (fr.set d (.bool (cond t x y))) σ Q):OW E all st (⟨some d,.pick c a b,ty,pos,bJ,gd⟩::os) fr σ Q:=by
 have hc':fr.ev E c= .bool t:=hc
 refine OW.op (v:=.bool (cond t x y)) (σ1:=σ) hw (fun S=> ?_) h
 cases t with
 |true=>
  have ha':fr.ev E a= .bool x:=ha rfl
  simp only[opC,aW,hc',mG,Option.map_some,if_true,ha',cond_true]
 |false=>
  have hb':fr.ev E b= .bool y:=hb rfl
  simp only[opC,aW,hc',mG,Option.map_some,Bool.false_eq_true,if_false,hb',cond_false]
theorem dP.pk {ms:List Nat} {fs:List bQ} {f:bQ} {all:List Oper} {st:Nat} {d:Tmp} {c a b:Operand} {ty:TypeId} {pos:String} {bJ:Array Edge} {gd:Option (Nat×Bool)} {os:List Oper} {t x y:Bool} {Q:Fr→ah→Prop} (hw:Is (dN all fr ⟨some d,.pick c a b,ty,pos,bJ,gd⟩) (some true)) (hc:Is (fr.ev E c) (.bool t)) (ha:t=true→Is (fr.ev E a) (.bool x)) (hb:t=false→Is (fr.ev E b) (.bool y))
 (hf:Is (eX E all fr ⟨some d,.pick c a b,ty,pos,bJ,gd⟩ true) f) (h:dP E ms all (st+1) os (fr.set d (.bool (cond t x y))) σ (fs++[f]) Q):dP E ms all st (⟨some d,.pick c a b,ty,pos,bJ,gd⟩::os) fr σ fs Q:=by
 have hc':fr.ev E c= .bool t:=hc
 refine dP.op (v:=.bool (cond t x y)) (σ1:=σ) hw (fun S=> ?_) (by rw[hf];exact h)
 cases t with
 |true=>
  have ha':fr.ev E a= .bool x:=ha rfl
  simp only[opC,aW,hc',mG,Option.map_some,if_true,ha',cond_true]
 |false=>
  have hb':fr.ev E b= .bool y:=hb rfl
  simp only[opC,aW,hc',mG,Option.map_some,Bool.false_eq_true,if_false,hb',cond_false]
theorem nN.one {r:ResultVar} {e:Ex} {v0:V} {R:V→ah→Prop} (he:∀i,e≠ .exit i) (hv:Is (jg E fr σ r) (some v0)) (hr:R v0 σ):nN E [r] R e fr σ:=by
 have h1:[r].mapM (jg E fr σ)=some [v0]:=by rw[List.mapM_cons,hv];rfl
 cases e with
 |exit i=>exact absurd rfl (he i)
 |normal=>exact⟨[v0],h1,hr⟩
 |ret=>exact⟨[v0],h1,hr⟩
theorem nN.bB {rs:List ResultVar} {e:Ex} {v1 v2:V} {vs:List V} {R:V→ah→Prop} (he:∀i,e≠ .exit i) (hv:Is (rs.mapM (jg E fr σ)) (some (v1::v2::vs))) (hr:R (.bB (v1::v2::vs)) σ):nN E rs R e fr σ:=by
 cases e with
 |exit i=>exact absurd rfl (he i)
 |normal=>exact⟨_,hv,hr⟩
 |ret=>exact⟨_,hv,hr⟩
theorem Pure.of' {f:FuncId} {args:List V} {v:V} {fn:Func} {c:Code} (rs:List ResultVar) (hf:E.P.funcs[f]? =some fn) (hb:fn.body=some c)
 (h:∀fr σ,fr.d=1→fr.om=E.om f→(∀i,fr.tm i=args.getD i aC)→CW E c fr σ (nN E rs (fun v0 σ=>aM 20 σ v0=some v))) (hrs:fn.results.toList=rs:=by rfl) (hok:(decide (args.length≤fn.ntmps)&& iC fn.ntmps c)=true:=by rfl) (hs:E.iV f=none:=by rfl):Pure E f args v:=
 Pure.of hs hf hb hok (by rw[hrs];exact h _ _ rfl rfl (fun _=>rfl))
theorem jo {n:Nat} {x:V} (h:aF x=true):aM (n+1) σ x=some x:=by unfold aM;simp only[h,if_true]
theorem OU (n:Nat) (k:IntKind) (i:Int):aM (n+1) σ (.int k i)=some (.int k i):=jo (by simp[aF])
theorem OV (n:Nat) (b:Bool):aM (n+1) σ (.bool b)=some (.bool b):=jo (by simp[aF])
theorem OX (n:Nat) (s:List UInt8):aM (n+1) σ (.str s)=some (.str s):=jo (by simp[aF])
theorem vo {n:Nat} {α:Type} {f:α→V} (c:Cap) (l:List α) (h:∀x,aF (f x)=true):aM (n+2) σ (.aj c (l.map f))=some (lv f l):=by
 by_cases hp:aF (.aj c (l.map f))=true
 ·rw[jo hp]
  cases c<;>simp only[aF,Bool.false_eq_true] at hp
  rfl
 ·unfold aM
  simp only[hp,if_false,Bool.false_eq_true]
  have:(l.map f).mapM (aM (n+1) σ)=some (l.map f):=by
   induction l with
   |nil=>simp
   |cons a l ih=>simp[h a,jo,ih (by cases c<;>simp_all[aF,aQ])]
  rw[this];rfl
theorem aeS (k:IntKind) (i:Int):er (.int k i)= .int k i:=rfl
theorem aeT (b:Bool):er (.bool b)= .bool b:=rfl
theorem aeU (s:List UInt8):er (.str s)= .str s:=rfl
theorem aeV {α:Type} (f:α→V) (l:List α):er (lv f l)=lv f l:=rfl
theorem aeW (c:Cap) (l:List V):er (.aj c l)= .aj .sh l:=rfl
theorem aeX (n:Int):iv n= .int .i64 n:=rfl
theorem OY (k:IntKind) (i:Int):aF (.int k i)=true:=by simp[aF]
theorem OZ (b:Bool):aF (.bool b)=true:=by simp[aF]
theorem VH (s:List UInt8):aF (.str s)=true:=by simp[aF]
theorem IZ {P:Program} {α:Type} {t:TypeId} {c:Cap} {l:List α} {f:α→V} {k:IntKind} {i:Int}:
 lG P t (.aj c (l.map f)) (.int k i)=if l7 P t then (gQ P t).bind fun e=>(bG P e).bind fun sz=>(dw l i).bind fun x=>if (f x).cells.length=sz then some (.aJ (f x).cells 0) else none else none:=by
 unfold lG l7 gQ
 cases hu:P.underlying t with
 |none=>rfl
 |some u=>
  cases u<;>try rfl
  rename_i e
  simp only[if_true,Option.bind_some]
  cases bG P e with
  |none=>rfl
  |some sz=>
   simp only[Option.bind_some,idx,kF,List.length_map,dw]
   split
   ·rename_i h
    simp only[Option.bind_some,List.getElem?_map]
    cases l[i.toNat]? with
    |none=>rfl
    |some x=>rfl
   ·rfl
theorem VI {P:Program} {α:Type} {t:TypeId} {l:List α} {f:α→V} {k:IntKind} {i:Int}:
 lG P t (lv f l) (.int k i)=if l7 P t then (gQ P t).bind fun e=>(bG P e).bind fun sz=>(dw l i).bind fun x=>if (f x).cells.length=sz then some (.aJ (f x).cells 0) else none else none:=IZ
theorem aeY {P:Program} {t:TypeId} {v:V} (h1:gq P t=some false) (h2:bG P t=some 1):dM P t [v] 0=some v:=by simp[dM,h1,h2,lW]
theorem aeZ {t:TypeId} {α:Type} (f:α→V) (l:List α) (h:l7 E.P t=true):lH E σ t (lv f l)=some l.length:=by
 unfold l7 at h;unfold lH
 split at h
 ·rename_i e he;rw[he];simp[lv]
 ·simp at h
theorem ae0 {t:TypeId} (c:Cap) (l:List V) (h:l7 E.P t=true):lH E σ t (.aj c l)=some l.length:=by
 unfold l7 at h;unfold lH
 split at h
 ·rename_i e he;rw[he]
 ·simp at h
theorem ae1 {t:TypeId} (l:List UInt8) (h:Dy E.P t=true):lH E σ t (.str l)=some l.length:=by
 unfold Dy at h;unfold lH
 split at h
 ·rename_i he;rw[he]
 ·simp at h
end
section
variable {E:Env} {S:iN} {fr:Fr} {σ:ah} {st:Nat} {d:Option Tmp} {ty:TypeId} {pos:String} {bJ:Array Edge} {gd:Option (Nat×Bool)}
theorem ae2 (all:List Oper) (op:Op):dN all fr ⟨d,op,ty,pos,bJ,none⟩=some true:=rfl
def O1 (want:Bool):V→Option Bool
 |.bool b=>some (b==want)
 |.raw _=>none
 |_=>some false
theorem ae3 (w b:Bool):O1 w (.bool b)=some (b==w):=rfl
theorem ae4 (w:Bool):O1 w aC=some false:=rfl
theorem ae5 (all:List Oper) (op:Op) (j:Nat) (want:Bool):dN all fr ⟨d,op,ty,pos,bJ,some (j,want)⟩=match (all[j]?).bind (·.dst) with
 |some t=>O1 want (fr.tm t)
 |none=>some false:=by
 simp only[dN]
 cases (all[j]?).bind (·.dst) with
 |none=>rfl
 |some t=>simp only;cases fr.tm t<;>rfl
theorem ae6 (cs:List V):V.cells (.agg cs)=cs:=rfl
theorem ae7 (k:IntKind) (n:Int):V.cells (.int k n)=[.int k n]:=rfl
theorem ae8 (k:IntKind) (n:Int):dx (.int k n)=true:=rfl
theorem ae9 (b:Bool):V.cells (.bool b)=[.bool b]:=rfl
theorem afa (b:Bool):dx (.bool b)=true:=rfl
theorem afb (s:List UInt8):V.cells (.str s)=[.str s]:=rfl
theorem afc (s:List UInt8):dx (.str s)=true:=rfl
theorem afd (c:Cap) (l:List V):V.cells (.aj c l)=[.aj c l]:=rfl
theorem afe (c:Cap) (l:List V):dx (.aj c l)=true:=rfl
theorem aff (l:Aq.Loc) (s o:Nat):V.cells (.ref l s o)=[.ref l s o]:=rfl
theorem afg (l:Aq.Loc) (s o:Nat):dx (.ref l s o)=true:=rfl
theorem afh (cs:List V) (o:Nat):V.cells (.aJ cs o)=[.aJ cs o]:=rfl
theorem afi (cs:List V) (o:Nat):dx (.aJ cs o)=true:=rfl
theorem afj (f:Fn) (a b:List V):V.cells (.fn f a b)=[.fn f a b]:=rfl
theorem afk (f:Fn) (a b:List V):dx (.fn f a b)=true:=rfl
theorem afl {α:Type} (f:α→V) (l:List α):V.cells (lv f l)=[lv f l]:=rfl
theorem afm:bg []=true:=rfl
theorem VJ (x:V) (l:List V):bg (x::l)=(oneCell x&& bg l):=rfl
theorem afn (k:IntKind) (n:Int):oneCell (.int k n)=true:=rfl
theorem afo (b:Bool):oneCell (.bool b)=true:=rfl
theorem afp (s:List UInt8):oneCell (.str s)=true:=rfl
theorem afq {α:Type} (f:α→V) (l:List α):oneCell (lv f l)=true:=rfl
theorem afr (c:Cap) (l:List V):oneCell (.aj c l)=true:=rfl
theorem afs (l:Aq.Loc) (s o:Nat):oneCell (.ref l s o)=true:=rfl
theorem afu (cs:List V) (o:Nat):oneCell (.aJ cs o)=true:=rfl
theorem afv (cs:List V):dx (.agg cs)=true:=rfl
theorem afw {α:Type} (f:α→V) (l:List α):dx (lv f l)=true:=rfl
theorem afx (x:Operand):opC E S fr σ st ⟨d,.move x,ty,pos,bJ,gd⟩=some (fr.ev E x,fr,σ):=rfl
theorem afy (x:Operand):opC E S fr σ st ⟨d,.assign x,ty,pos,bJ,gd⟩=some (fr.ev E x,fr,σ):=rfl
theorem VK (c a b:Operand) (h:fr.ev E c= .bool true):opC E S fr σ st ⟨d,.pick c a b,ty,pos,bJ,gd⟩=some (fr.ev E a,fr,σ):=by
 simp only[opC,aW,h,mG,Option.map_some,if_true]
theorem VL (c a b:Operand) (h:fr.ev E c= .bool false):opC E S fr σ st ⟨d,.pick c a b,ty,pos,bJ,gd⟩=some (fr.ev E b,fr,σ):=by
 simp only[opC,aW,h,mG,Option.map_some,Bool.false_eq_true,if_false]
theorem VN (op:BinOp) (t u:TypeId) (x y:Operand):opC E S fr σ st ⟨d,.binOp op t x y u,ty,pos,bJ,gd⟩=(lX E.P op t (fr.ev E x) (fr.ev E y)).map fun v=>(v,fr,σ):=by
 simp only[opC,aW];cases lX E.P op t (fr.ev E x) (fr.ev E y)<;>rfl
theorem afz (op:UnOp) (t:TypeId) (x:Operand):opC E S fr σ st ⟨d,.unOp op t x,ty,pos,bJ,gd⟩=(wJ op (fr.ev E x)).map fun v=>(v,fr,σ):=by
 simp only[opC,aW];cases wJ op (fr.ev E x)<;>rfl
theorem afA (t:TypeId) (x:Operand) (f:Nat):opC E S fr σ st ⟨d,.fieldAddr t x f,ty,pos,bJ,gd⟩=(lV E.P t f).bind fun p=>match fr.ev E x with
 |.ref loc s off=>some (.ref loc s (off+p.1),fr,σ)
 |.aJ cs off=>some (.aJ cs (off+p.1),fr,σ)
 |_=>none:=by
 simp only[opC,aW]
 cases lV E.P t f with
 |none=>rfl
 |some p=>obtain⟨o,u⟩:=p;simp only[Option.bind_some];cases fr.ev E x<;>rfl
theorem afB (t:TypeId) (x:Operand):opC E S fr σ st ⟨d,.load t x,ty,pos,bJ,gd⟩=(match fr.ev E x with
 |.ref loc s off=>(σ.bO loc s).bind fun cs=>(dM E.P t cs off).map fun v=>(v,fr,σ)
 |.aJ cs off=>(dM E.P t cs off).map fun v=>(v,fr,σ)
 |_=>none):=by
 simp only[opC,aW]
 cases fr.ev E x with
 |ref loc s off=>
  simp only
  cases σ.bO loc s with
  |none=>rfl
  |some cs=>simp only[Option.bind_some];cases dM E.P t cs off<;>rfl
 |aJ cs off=>simp only;cases dM E.P t cs off<;>rfl
 |_=>rfl
theorem afC (t:TypeId) (x:Operand) (i:Nat):opC E S fr σ st ⟨some i,.box t x,ty,pos,bJ,gd⟩=if E.qZ t=true then (if aF (fr.ev E x)=true∧dx (fr.ev E x)=true then some (.aJ (fr.ev E x).cells 0,fr,σ) else none) else if bg (fr.ev E x).cells∧dx (fr.ev E x) then some (.ref (fr.d,i) st 0,fr,σ.setObj (fr.d,i) st (.cells (fr.ev E x).cells)) else none:=by
 show Option.map _ (if E.qZ t=true then _ else (some (fr.d,i)).bind _)=_
 by_cases hz:E.qZ t=true
 ·simp only[hz,if_true]
  split<;>rfl
 ·simp only[hz,Bool.false_eq_true,if_false,Option.bind_some]
  split<;>rfl
theorem afD (t:TypeId) (i:Nat):opC E S fr σ st ⟨some i,.alloc t,ty,pos,bJ,gd⟩=(fP E.P t).bind fun z=>if bg z.cells then some (.ref (fr.d,i) st 0,fr,σ.setObj (fr.d,i) st (.cells z.cells)) else none:=by
 simp only[opC,aW,Option.map_some,Option.bind_some]
 cases fP E.P t with
 |none=>rfl
 |some z=>simp only[Option.bind_some];split<;>rfl
theorem O4 (t:TypeId) (a x:Operand):opC E S fr σ st ⟨d,.store t a x,ty,pos,bJ,gd⟩=(match fr.ev E a with
 |.ref loc s off=>(σ.bO loc s).bind fun cs=>
  if some (fr.ev E x).cells.length=bG E.P t∧off+(fr.ev E x).cells.length≤cs.length∧bg (fr.ev E x).cells then some (aC,fr,σ.setObj loc s (.cells (eu cs off (fr.ev E x).cells))) else none
 |_=>none):=by
 simp only[opC,aW]
 cases fr.ev E a with
 |ref loc s off=>
  simp only
  cases σ.bO loc s with
  |none=>rfl
  |some cs=>simp only[Option.bind_some];split<;>rfl
 |_=>rfl
theorem afE (t:TypeId) (x i:Operand):opC E S fr σ st ⟨d,.indexAddr t x i,ty,pos,bJ,gd⟩=(lG E.P t (fr.ev E x) (fr.ev E i)).map fun v=>(v,fr,σ):=by
 simp only[opC,aW];cases lG E.P t (fr.ev E x) (fr.ev E i)<;>rfl
theorem afF (x:Operand) (i:Nat):opC E S fr σ st ⟨d,.extract x i,ty,pos,bJ,gd⟩=(match fr.ev E x with
 |.bB vs=>(vs[i]?).map fun v=>(v,fr,σ)
 |_=>none):=by
 simp only[opC,aW]
 cases fr.ev E x with
 |bB vs=>simp only;cases vs[i]? <;>rfl
 |_=>rfl
theorem afG (x:Operand) (t:TypeId):opC E S fr σ st ⟨d,.call ⟨.builtin .len, #[x], #[t]⟩,ty,pos,bJ,gd⟩=(lH E σ t (fr.ev E x)).map fun n=>(.int .i64 (n:Nat),fr,σ):=by
 show (Option.map _ (((#[t]:Array TypeId)[0]?).bind fun t=>(lH E σ t (fr.ev E x)).map fun n=>(V.int .i64 (n:Nat),σ)))=_
 rw[show (#[t]:Array TypeId)[0]? =some t from rfl,Option.bind_some]
 cases lH E σ t (fr.ev E x)<;>rfl
end
attribute [go_sem] Bool.false_eq_true lX je uP wJ decide_true decide_false List.getElem?_cons_succ List.getElem?_cons_zero beq_true beq_false Bool.not_true Bool.not_false OT Bool.false_and Bool.and_false Bool.true_and Bool.and_true ae2 ae5 ae3 ae4 afx afy VK VL VN afz afA afB afC afD O4 afE afF afG zo VA VB IY Du zm aeH zn aeI OP OQ aeJ rE VE aeM aeN map_eq VF aeO aeP aeQ Dv Dw aeK aeL aeX aeY aeZ ae0 ae1 IZ List.length_map VI OU OV OX aeS aeT aeU aeV aeW OY OZ VH Option.bind_some Option.map_some Option.getD_some mG ofValue iI if_true if_false ae6 ae7 ae9 afb afl afd aff afh afj ae8 afa afc afe afg afi afk afm VJ afn afo afp afq afr afs afu afv afw and_self and_true true_and
end Aq
end
section
namespace Aq
open Go
def tu:Code→List Nat→Option Code
 |c,[]=>some c
 |.seq a b,i::l=>if i=0 then tu a l else tu b l
 |.cond _ a b,i::l=>if i=0 then tu a l else tu b l
 |.block _ a,_::l=>tu a l
 |.loop a,_::l=>tu a l
 |.rangeFunc _ _ a b,i::l=>if i=0 then tu a l else tu b l
 |_,_=>none
def bL (b:Option Code) (l:List Nat):Option Code:=b.bind fun c=>tu c l
section
variable {E:Env} {fr:Fr} {σ:ah}
def tC (E:Env) (c:Code) (fr:Fr) (σ:ah) (Q:Ex→Fr→ah→Prop):Prop:=CW E (.loop c) fr σ Q
theorem Is.e {α:Type} {a b:α} (h:Is a b):a=b:=h
theorem CW.lp {c:Code} {Q:Ex→Fr→ah→Prop} (h:tC E c fr σ Q):CW E (.loop c) fr σ Q:=h
theorem tC.in {b:Option Code} {p:List Nat} {c:Code} {Q:Ex→Fr→ah→Prop} (hs:bL b p=some c) (h:CW E c fr σ (mP E c Q)):tC E ((bL b p).getD .skip) fr σ Q:=by
 rw[hs];exact CW.loop h
theorem tC.ih {c:Code} {Q:Ex→Fr→ah→Prop} (h:tC E c fr σ Q):tC E c fr σ Q:=h
def I4:Code→Nat
 |.region i _ _=>i
 |.seq a _=>I4 a
 |.loop a=>I4 a
 |.block _ a=>I4 a
 |_=>0
theorem tC.at (k:Nat) {c:Code} {Q:Ex→Fr→ah→Prop} (_h:Is (I4 c) k) (h:tC E c fr σ Q):tC E c fr σ Q:=h
theorem afH {n:Nat} (c:Cap):aM (n+2) σ (.aj c [])=some (.aj .sh []):=vo (α:=V) (f:=fun x=>.int .i64 0) c [] (fun _=>by simp[aF])
theorem VO {n:Nat} (cs:List V):aM (n+2) σ (.agg cs)=(cs.mapM (aM (n+1) σ)).map .agg:=by
 by_cases hp:aF (.agg cs)=true
 ·rw[jo hp]
  have:∀cs:List V,aQ cs=true→cs.mapM (aM (n+1) σ)=some cs:=by
   intro cs
   induction cs with
   |nil=>intro _;rfl
   |cons a l ih=>
    intro h
    simp only[aQ,Bool.and_eq_true] at h
    rw[List.mapM_cons,jo h.1,ih h.2];rfl
  rw[this cs (by simpa [aF] using hp)];rfl
 ·conv=>lhs;unfold aM
  simp only[hp,if_false,Bool.false_eq_true]
theorem O5 {n:Nat} (cs:List V):aM (n+2) σ (.bB cs)=(cs.mapM (aM (n+1) σ)).map .bB:=by
 by_cases hp:aF (.bB cs)=true
 ·rw[jo hp]
  have:∀cs:List V,aQ cs=true→cs.mapM (aM (n+1) σ)=some cs:=by
   intro cs
   induction cs with
   |nil=>intro _;rfl
   |cons a l ih=>
    intro h
    simp only[aQ,Bool.and_eq_true] at h
    rw[List.mapM_cons,jo h.1,ih h.2];rfl
  rw[this cs (by simpa [aF] using hp)];rfl
 ·conv=>lhs;unfold aM
  simp only[hp,if_false,Bool.false_eq_true]
def I5 (sz:Nat) (σ:ah) (c:Cap) (n:Nat):Prop:=c= .nil∨∃s,c= .own sz s∧σ.top s=n∧s<σ.next
theorem I5.n {sz n:Nat}:I5 sz σ .nil n:=.inl rfl
theorem I5.o {sz s n:Nat} (h1:Is (σ.top s) n) (h2:s<σ.next):I5 sz σ (.own sz s) n:=.inr ⟨s,rfl,h1,h2⟩
theorem own_ne {s n k:Nat} (h:s<n):(s==n+k)=false:=by simp;omega
theorem afI {s n k:Nat} (h:s<n):(n+k==s)=false:=by simp;omega
theorem afJ {s n:Nat} (h:s<n):(s==n)=false:=by simp;omega
theorem afK {s n:Nat} (h:s<n):(n==s)=false:=by simp;omega
theorem afL (σ:ah) {s t:Nat} (n:Nat) (h:(t==s)=false):(σ.bZ s n).top t=σ.top t:=Dw σ n (by simpa using h)
end
def zq (P:Program) (σ:ah) (st:Nat) (t u:TypeId) (x y:V):Option (V×ah):=
 match P.underlying u with
 |some (.int _)=>gJ P false true σ st none t x y
 |some (.slice _)|some .string=>gJ P false false σ st none t x y
 |_=>none
theorem afM {P:Program} {z:Bool} {σ:ah} {st:Nat} {loc:Option Loc} {t:TypeId} {c:Cap} {l:List V} {y:V}:gJ P false z σ st loc t (.aj c l) y=gJ P false z σ st none t (.aj c l) y:=by
 unfold gJ
 cases gQ P t with
 |none=>rfl
 |some e=>cases c<;>rfl
section
variable {E:Env} {S:iN} {fr:Fr} {σ:ah} {st:Nat} {d:Option Tmp} {ty:TypeId} {pos:String} {bJ:Array Edge} {gd:Option (Nat×Bool)}
theorem VP {t u:TypeId} {x y:Operand} {c:Cap} {l:List V} (ho:fr.om=false) (hx:fr.ev E x= .aj c l):opC E S fr σ st ⟨d,.call ⟨.builtin .append, #[x,y], #[t,u]⟩,ty,pos,bJ,gd⟩=(zq E.P σ st t u (.aj c l) (fr.ev E y)).map fun p=>(p.1,fr,p.2):=by
 show Option.map _ ((((#[t,u]:Array TypeId)[0]?).bind fun t=>(((#[t,u]:Array TypeId)[1]?).bind E.P.underlying).bind fun u=>match u with
  |.int _=>gJ E.P fr.om true σ st (d.map fun t=>(fr.d,t)) t (fr.ev E x) (fr.ev E y)
  |.slice _|.string=>gJ E.P fr.om false σ st (d.map fun t=>(fr.d,t)) t (fr.ev E x) (fr.ev E y)
  |_=>none))=_
 show Option.map _ ((E.P.underlying u).bind _)=_
 rw[ho,hx]
 unfold zq
 cases E.P.underlying u with
 |none=>rfl
 |some u=>
  cases u<;>try rfl
  all_goals (simp only[Option.bind_some];rw[afM];first|rfl| (generalize gJ _ _ _ _ _ _ _ _ _=o;cases o<;>rfl))
end
def zu (P:Program) (t u:TypeId) (sz dB:Nat) (z:V):Prop:=∃e ag,gQ P t=some e∧bG P e=some sz∧nC P e=some dB∧gq P e=some ag∧fP P e=some z∧z.cells.length=sz∧0<sz∧(ag||sz==1)=true∧l7 P u=true
theorem zu.mk {P:Program} {t u:TypeId} {sz dB:Nat} {z:V} (e:TypeId) (ag:Bool) (h1:gQ P t=some e) (h2:bG P e=some sz) (h3:nC P e=some dB) (h4:gq P e=some ag) (h5:fP P e=some z)
 (h6:z.cells.length=sz) (h7:0<sz) (h8:(ag||sz==1)=true) (h9:l7 P u=true):zu P t u sz dB z:=⟨e,ag,h1,h2,h3,h4,h5,h6,h7,h8,h9⟩
def pW (sz:Nat) (l:List V):Bool:=l.all fun v=>v.cells.length==sz&& bg v.cells
theorem afN {α:Type} {f:α→V} {sz:Nat} (h:∀x,(f x).cells.length=sz∧bg (f x).cells=true) (l:List α):pW sz (l.map f)=true:=by
 simp[pW,h]
theorem VQ {sz:Nat} {l:List V} (h:pW sz l=true):kU sz l=true:=by
 cases l with
 |nil=>rfl
 |cons a l=>simp[pW] at h;simp[kU,h.1.1]
theorem afO {sz:Nat} {l:List V} (h:pW sz l=true):l.all (fun v=>bg v.cells)=true:=by
 simp[pW] at h;simpa using fun x hx=>(h x hx).2
theorem afP {P:Program} {σ:ah} {st t u sz dB:Nat} {z:V} {x:V} {c2:Cap} {ys:List V} (ha:zu P t u sz dB z) (hy:pW sz ys=true):
 zq P σ st t u x (.aj c2 ys)=match x with
 |.aj c l=>if dG (l.length+ys.length) dB=true∧kU sz l=true then
  match c with
  |.own n s=>if n=sz∧σ.top s=l.length then some (.aj (.own n s) (l++ys),σ.bZ s (l.length+ys.length)) else none
  |.nil|.full=>some (.aj (.own sz st) (l++ys),σ.bZ st (l.length+ys.length))
  |_=>none
  else none
 |_=>zq P σ st t u x (.aj c2 ys):=by
 obtain⟨e,ag,h1,h2,h3,h4,h5,h6,h7,h8,h9⟩:=ha
 cases x<;>try rfl
 rename_i c l
 unfold l7 at h9
 split at h9
 ·rename_i e' he
  simp only[zq,he,gJ,h1,h2,h3,h4,h5,Option.bind_some,qY,true_and,if_pos (show z.cells.length=sz∧0<sz∧(ag||sz==1)=true from ⟨h6,h7,h8⟩),jB,VQ hy,if_true,afO hy]
  cases c<;>rfl
 ·simp at h9
theorem afQ {P:Program} {σ:ah} {st t u sz dB:Nat} {z:V} {l:List V} {c2:Cap} {ys:List V} (ha:zu P t u sz dB z) (hy:pW sz ys=true) (hl:pW sz l=true)
 (hr:dG (l.length+ys.length) dB=true):zq P σ st t u (.aj .full l) (.aj c2 ys)=some (.aj (.own sz st) (l++ys),σ.bZ st (l.length+ys.length)):=by
 rw[afP ha hy];simp only[hr,VQ hl,and_self,if_true]
def VR (E:Env) (t:TypeId) (ps:List (Nat×V)):Option (List V):=(yQ E t).bind fun pl=>(fP E.P t).bind fun z=>nD pl z.cells ps
section
variable {E:Env} {S:iN} {fr:Fr} {σ:ah} {st:Nat} {d:Option Tmp} {ty:TypeId} {pos:String} {bJ:Array Edge} {gd:Option (Nat×Bool)}
theorem afR (t:TypeId) (l:List (Nat×Operand)):opC E S fr σ st ⟨d,.build t l.toArray,ty,pos,bJ,gd⟩=(VR E t (l.map fun p=>(p.1,fr.ev E p.2))).map fun cs=>(.agg cs,fr,σ):=by
 simp only[opC,aW,VR]
 cases yQ E t with
 |none=>rfl
 |some pl=>
  simp only[Option.bind_some]
  cases fP E.P t with
  |none=>rfl
  |some z=>
   simp only[Option.bind_some]
   cases nD pl z.cells (l.map fun p=>(p.1,fr.ev E p.2))<;>rfl
theorem VT (t:TypeId) (n:Nat) (l:List (Nat×Operand)):opC E S fr σ st ⟨d,.buildSlice t n l.toArray,ty,pos,bJ,gd⟩=(ru E t n (l.map fun p=>(p.1,fr.ev E p.2))).map fun v=>(v,fr,σ):=by
 simp only[opC,aW]
 cases ru E t n (l.map fun p=>(p.1,fr.ev E p.2))<;>rfl
end
section
variable {E:Env} {S:iN} {fr:Fr} {σ:ah} {st:Nat} {d:Option Tmp} {ty:TypeId} {pos:String} {bJ:Array Edge} {gd:Option (Nat×Bool)}
theorem afS (t:TypeId) (x i:Operand):opC E S fr σ st ⟨d,.index t x i,ty,pos,bJ,gd⟩=(sQ E.P t (fr.ev E x) (fr.ev E i)).map fun v=>(v,fr,σ):=by
 simp only[opC,aW];cases sQ E.P t (fr.ev E x) (fr.ev E i)<;>rfl
theorem VU {P:Program} {t:TypeId} {s:List UInt8} {k:IntKind} {i:Int} (h:Dy P t=true):sQ P t (.str s) (.int k i)=(dw s i).map fun b=>.int .u8 (b.toNat:Nat):=by
 unfold Dy at h;unfold sQ
 split at h
 ·rename_i he
  rw[he]
  simp only[idx,kF,Option.bind_some,dw]
  split
  ·simp only[Option.bind_some];rfl
  ·rfl
 ·simp at h
def imax (a b:Int):Int:=if b>a then b else a
def O6 (a b:Int):Int:=if b<a then b else a
theorem afT (x y:Operand) (tys:List TypeId):opC E S fr σ st ⟨d,.call ⟨.builtin .max, #[x,y],tys.toArray⟩,ty,pos,bJ,gd⟩=(jP true (fr.ev E x) [fr.ev E y]).map fun v=>(v,fr,σ):=by
 show Option.map _ ((jP true (fr.ev E x) [fr.ev E y]).map fun v=>(v,σ))=_
 cases jP true (fr.ev E x) [fr.ev E y]<;>rfl
theorem afU (x y:Operand) (tys:List TypeId):opC E S fr σ st ⟨d,.call ⟨.builtin .min, #[x,y],tys.toArray⟩,ty,pos,bJ,gd⟩=(jP false (fr.ev E x) [fr.ev E y]).map fun v=>(v,fr,σ):=by
 show Option.map _ ((jP false (fr.ev E x) [fr.ev E y]).map fun v=>(v,σ))=_
 cases jP false (fr.ev E x) [fr.ev E y]<;>rfl
theorem afV (k:IntKind) (a b:Int):jP true (.int k a) [.int k b]=some (.int k (imax a b)):=by simp[jP,imax]
theorem afW (k:IntKind) (a b:Int):jP false (.int k a) [.int k b]=some (.int k (O6 a b)):=by simp[jP,O6]
end
theorem len1 (v:V):[v].length=1:=rfl
attribute [go_sem] afS VU afT afU afV afW own_ne afI afJ afK afH VO O5 afR VT List.map_cons List.map_nil len1 afL VP vo implies_true eq_self
theorem afX:aQ []=true:=by simp only[aQ]
theorem afY (v:V) (l:List V):aQ (v::l)=(aF v&& aQ l):=by simp only[aQ]
attribute [go_sem] afX afY
end Aq
end
section
namespace Aq
open Go
inductive Ty where
 |int (k:IntKind)
 |bool
 |str
 |slice (t:Ty)
 |st (n:Nat)
 deriving DecidableEq
inductive Cp where
 |any
 |sh
 |nil
 |full
 |own (t:Nat)
structure Vec (n:Nat) where
 l:List Int
 h:l.length=n
def Vec.at' {n:Nat} (v:Vec n) (i:Int):Int:=v.l.getD i.toNat 0
def Vec.nth {n:Nat} (v:Vec n) (j:Nat):Int:=v.l.getD j 0
def Vec.set {n:Nat} (v:Vec n) (i y:Int):Vec n:=⟨v.l.set i.toNat y,by rw[List.length_set,v.h]⟩
def Vec.rep (n:Nat) (y:Int):Vec n:=⟨List.replicate n y,List.length_replicate⟩
def Vec.lit (n:Nat) (l:List Int):Vec n:=if h:l.length=n then ⟨l,h⟩ else Vec.rep n 0
def Vec.slc {n:Nat} (v:Vec n) (i:Int) (m:Nat):Vec m:=Vec.lit m ((v.l.drop i.toNat).take m)
def Vec.pX {n:Nat} (v:Vec n) (lo:Int) (l:List Int):Vec n:=Vec.lit n (v.l.take lo.toNat++l++v.l.drop (lo.toNat+l.length))
inductive iL where
 |i (k:IntKind)
 |a (k:IntKind) (n:Nat)
inductive Sg where
 |i (k:IntKind) (x:Int)
 |a (k:IntKind) (n:Nat) (v:Vec n)
def Sg.w:Sg→Nat
 |.i _ _=>1
 |.a _ n _=>n
def Sg.vs:Sg→List V
 |.i k x=>[.int k x]
 |.a k _ v=>v.l.map (V.int k)
def bE:List Sg→List V
 | []=>[]
 |s::l=>s.vs++bE l
def iF:List Sg→Nat
 | []=>0
 |s::l=>s.w+iF l
def zw:iL→Type
 |.i _=>Int
 |.a _ n=>Vec n
def wV:List iL→Type
 | []=>Unit
 | [k]=>zw k
 |k::h::l=>zw k×wV (h::l)
def Dz:(k:iL)→zw k→Sg
 |.i k,x=>.i k x
 |.a k n,x=>.a k n x
def qK:(l:List iL)→wV l→List Sg
 | [],_=>[]
 | [k],x=>[Dz k x]
 |k::h::l,p=>Dz k p.1::qK (h::l) p.2
def I6 {n m:Nat} (v:Vec n):Option (Vec m):=if h:n=m then some (h▸v) else none
def zx:(k:iL)→Sg→Option (zw k)
 |.i k,.i k' x=>if k'=k then some x else none
 |.a k n,.a k' _ v=>if k'=k then I6 (m:=n) v else none
 |_,_=>none
def tH:(l:List iL)→List Sg→Option (wV l)
 | []=>fun vs=>match vs with
   | []=>some ()
   |_::_=>none
 | [k]=>fun vs=>match vs with
   | [v]=>zx k v
   |_=>none
 |k::h::l=>fun vs=>match vs with
  | []=>none
  |v::vs=>match zx k v with
   |some x=>match tH (h::l) vs with
    |some p=>some (x,p)
    |none=>none
   |none=>none
section
variable (T:Nat→Type)
def Den:Ty→Type
 |.int _=>Int
 |.bool=>Bool
 |.str=>List UInt8
 |.slice t=>List (Den t)
 |.st n=>T n
def lK:List Ty→Type
 | []=>Unit
 | [t]=>Den T t
 |t::u::l=>Den T t×lK (u::l)
inductive TV where
 |int (k:IntKind) (n:Int)
 |bool (b:Bool)
 |fT (b:Bool)
 |str (s:List UInt8)
 |eD
 |dX
 |dS
 |fH
 |dZ
 |agg (cs:List TV)
 |bB (cs:List TV)
 |aj (c:Cp) (t:Ty) (l:List (Den T t))
 |ref (o off:Nat)
 |aJ (cs:List TV) (off:Nat)
 |bK (o:Nat)
 |dn (k e:Ty) (m:List (Den T k×Den T e))
 |fn (f:Nat) (a b:List TV)
 |opt (j:Nat) (w:Bool) (v:TV)
 |vw (o:Nat) (t:Ty)
 |jq (o:Nat) (t:Ty) (i:Int) (off:Nat)
 |sg (ss:List Sg)
 |sv (o off:Nat) (k:IntKind) (n:Nat) (lo hi:Option Int)
 |sel (o off:Nat) (k:IntKind) (n:Nat) (i:Int) (m:Nat)
 |oL (k:IntKind) (n:Nat) (v:Vec n) (i:Int)
 |undef
 |gone
inductive Ob where
 |cells (cs:List (TV T))
 |map (k e:Ty) (m:List (Den T k×Den T e))
 |smap (ks vs:List (TV T))
 |arr (t:Ty) (l:List (Den T t))
 |sg (ss:List Sg)
 |gone
 |ro (b:Ob)
structure MS where
 fr:List (Nat×TV T)
 ob:List (Nat×Ob T)
inductive Sk where
 |d (t:Ty)
 |l (c:Cp) (t:Ty)
 |agg (l:List Sk)
 |ref (o off:Nat)
 |aJ (l:List Sk) (off:Nat)
 |bK (o:Nat)
 |dn (k e:Ty)
 |fn (f:Nat) (a b:List Sk)
 |dZ
 |vw (o:Nat) (t:Ty)
 |sg (l:List iL)
 |undef
mutual
def oM:Sk→Type
 |.d t=>Den T t
 |.l _ t=>List (Den T t)
 |.agg l=>aB l
 |.ref _ _=>Unit
 |.aJ l _=>aB l
 |.bK _=>Unit
 |.dn k e=>List (Den T k×Den T e)
 |.fn _ a b=>aB a×aB b
 |.dZ=>Unit
 |.vw _ _=>Unit
 |.sg l=>wV l
 |.undef=>Unit
def aB:List Sk→Type
 | []=>Unit
 | [k]=>oM k
 |k::h::l=>oM k×aB (h::l)
end
inductive jJ where
 |cells (l:List Sk)
 |st (n:Nat)
 |map (k e:Ty)
 |arr (t:Ty)
 |sg (l:List iL)
def vB:jJ→Type
 |.cells l=>aB T l
 |.st n=>T n
 |.map k e=>List (Den T k×Den T e)
 |.arr t=>List (Den T t)
 |.sg l=>wV l
def mQ:List (Nat×jJ)→Type
 | []=>Unit
 | [(_,k)]=>vB T k
 | (_,k)::h::l=>vB T k×mQ (h::l)
def wW:List (Nat×Sk)→Type
 | []=>Unit
 | [(_,k)]=>oM T k
 | (_,k)::h::l=>oM T k×wW (h::l)
structure Shape where
 sl:List (Nat×Sk)
 ob:List (Nat×jJ)
def nO:Shape→Type
 | ⟨s,[]⟩=>wW T s
 | ⟨s,o::os⟩=>wW T s×mQ T (o::os)
def Out:List (Ex×Shape)→Type
 | []=>Empty
 | [(_,s)]=>nO T s
 | (_,s)::h::l=>nO T s⊕Out (h::l)
end
structure gB where
 T:Nat→Type
 d:(n:Nat)→T n
 lf:Nat→List Ty
 to:(n:Nat)→lK T (lf n)→T n
 of:(n:Nat)→T n→lK T (lf n)
 enc:(n:Nat)→T n→V
 ty:TypeId→Option Ty
 gl:Nat→Option ((k:IntKind)×(n:Nat)×Vec n)
structure FR (R:gB) where
 args:List Sk
 res:List Sk
 F:aB R.T args→Option (aB R.T res)
 d:aB R.T res
 own:Bool:=false
structure FI (R:gB) where
 a:List Sk
 b:List Sk
 el:List Sk
 F:aB R.T a→aB R.T b→Option (List (aB R.T el))
def F0:Nat:=1000000
structure FM (R:gB) where
 args:List Sk
 obs:List (Nat×jJ)
 res:List Sk
 F:aB R.T args→mQ R.T obs→Option (aB R.T res×mQ R.T obs)
structure IR (R:gB) where
 it:Nat→List (FI R)
 im:Nat→List (FM R)
structure Note where
 K:List Nat
 O:List Nat
 sh:Shape
 outs:List (Ex×Shape)
structure bH where
 loops:List (Nat×Note)
 joins:List (Nat×Note)
def look {α:Type}:List (Nat×α)→Nat→Option α
 | [],_=>none
 | (j,x)::l,i=>bif Nat.beq j i then some x else look l i
section
variable (R:gB)
def aG:(t:Ty)→Den R.T t→V
 |.int k=>fun n=>.int k n
 |.bool=>fun b=>.bool b
 |.str=>fun s=>.str s
 |.slice t=>fun l=>.aj .sh (l.map (aG t))
 |.st n=>fun x=>R.enc n x
def encs:(l:List Ty)→lK R.T l→List V
 | [],_=>[]
 | [t],x=>[aG R t x]
 |t::u::l,p=>aG R t p.1::encs (u::l) p.2
def cB:Ty→Nat
 |.st n=>(R.lf n).length
 |_=>1
def zy:(t:Ty)→Den R.T t
 |.int _=>(0:Int)
 |.bool=>false
 |.str=>([]:List UInt8)
 |.slice t=>([]:List (Den R.T t))
 |.st n=>R.d n
def vC (c:Cp):(t:Ty)→Den R.T t→TV R.T
 |.int k=>fun n=>.int k n
 |.bool=>fun b=>.bool b
 |.str=>fun s=>.str s
 |.slice t=>fun l=>.aj c t l
 |.st _=>fun _=>.undef
def iY (c:Cp):(l:List Ty)→lK R.T l→List (TV R.T)
 | [],_=>[]
 | [t],x=>[vC R c t x]
 |t::u::l,p=>vC R c t p.1::iY c (u::l) p.2
def eO (c:Cp):(t:Ty)→Den R.T t→TV R.T
 |.st n=>fun x=>.agg (iY R c (R.lf n) (R.of n x))
 |.int k=>fun n=>.int k n
 |.bool=>fun b=>.bool b
 |.str=>fun s=>.str s
 |.slice t=>fun l=>.aj c t l
def oN {t u:Ty} (l:List (Den R.T t)):Option (List (Den R.T u)):=if h:t=u then some (h▸l) else none
def I7 (k:IntKind):TV R.T→Option Int
 |.int k' n=>if k=k' then some n else none
 |_=>none
def I8:TV R.T→Option Bool
 |.bool b=>some b
 |.fT b=>some b
 |_=>none
def I9:TV R.T→Option (List UInt8)
 |.str s=>some s
 |_=>none
def wX (t:Ty):TV R.T→Option (List (Den R.T t))
 |.aj _ _ l=>oN R l
 |.dZ=>some []
 |_=>none
def nP:(t:Ty)→TV R.T→Option (Den R.T t)
 |.int k=>fun v=>I7 R k v
 |.bool=>fun v=>I8 R v
 |.str=>fun v=>I9 R v
 |.slice t=>fun v=>wX R t v
 |.st _=>fun _=>none
def hd1:List (TV R.T)→TV R.T
 | [v]=>v
 |_=>.gone
def vD:(l:List Ty)→List (TV R.T)→Option (lK R.T l)
 | []=>fun vs=>match vs with
   | []=>some ()
   |_::_=>none
 | [t]=>fun vs=>nP R t (hd1 R vs)
 |t::u::l=>fun vs=>match vs with
  | []=>none
  |v::vs=>match nP R t v with
   |some x=>match vD (u::l) vs with
    |some p=>some (x,p)
    |none=>none
   |none=>none
def wY (n:Nat):TV R.T→Option (R.T n)
 |.agg cs=>match vD R (R.lf n) cs with
  |some p=>some (R.to n p)
  |none=>none
 |_=>none
def mR:(t:Ty)→TV R.T→Option (Den R.T t)
 |.st n=>fun v=>wY R n v
 |.int k=>fun v=>I7 R k v
 |.bool=>fun v=>I8 R v
 |.str=>fun v=>I9 R v
 |.slice t=>fun v=>wX R t v
def TV.cells {T:Nat→Type}:TV T→List (TV T)
 |.agg cs=>cs
 |v=>[v]
mutual
def j5 {T:Nat→Type} (o:Nat):TV T→Bool
 |.ref p _=>Nat.beq p o
 |.bK p=>Nat.beq p o
 |.agg cs=>kX o cs
 |.bB cs=>kX o cs
 |.aJ cs _=>kX o cs
 |.fn _ a b=>kX o a||kX o b
 |.opt _ _ v=>j5 o v
 |.vw p _=>Nat.beq p o
 |.jq p _ _ _=>Nat.beq p o
 |.sv p _ _ _ _ _=>Nat.beq p o
 |.sel p _ _ _ _ _=>Nat.beq p o
 |_=>false
def kX {T:Nat→Type} (o:Nat):List (TV T)→Bool
 | []=>false
 |v::l=>j5 o v||kX o l
end
def Ob.j5 {T:Nat→Type} (o:Nat):Ob T→Bool
 |.cells cs=>kX o cs
 |.smap ks vs=>kX o ks||kX o vs
 |.ro b=>Ob.j5 o b
 |_=>false
mutual
def wk {T:Nat→Type} (t:Nat):TV T→TV T
 |.aj (.own u) ty l=>bif Nat.beq u t then .aj .any ty l else .aj (.own u) ty l
 |.agg cs=>.agg (rF t cs)
 |.bB cs=>.bB (rF t cs)
 |.aJ cs off=>.aJ (rF t cs) off
 |.fn f a b=>.fn f (rF t a) (rF t b)
 |.opt j w v=>.opt j w (wk t v)
 |v=>v
def rF {T:Nat→Type} (t:Nat):List (TV T)→List (TV T)
 | []=>[]
 |v::l=>wk t v::rF t l
end
def Ob.wk {T:Nat→Type} (t:Nat):Ob T→Ob T
 |.cells cs=>.cells (rF t cs)
 |.smap ks vs=>.smap (rF t ks) (rF t vs)
 |.ro b=>.ro (Ob.wk t b)
 |o=>o
def j6 {α:Type} (f:α→α):List (Nat×α)→List (Nat×α)
 | []=>[]
 | (i,x)::l=>(i,f x)::j6 f l
def gD {α:Type} (i:Nat):List (Nat×α)→List (Nat×α)
 | []=>[]
 | (j,x)::l=>bif Nat.beq j i then gD i l else (j,x)::gD i l
def MS.wk {T:Nat→Type} (t:Nat) (st:MS T):MS T:=⟨j6 (Aq.wk t) st.fr,j6 (Ob.wk t) st.ob⟩
def O7 {T:Nat→Type} (j:Nat):TV T→TV T
 |.opt i w v=>bif Nat.beq i j then .gone else .opt i w v
 |v=>v
def MS.put {T:Nat→Type} (st:MS T) (i:Nat) (v:TV T):MS T:={st with fr:=(i,v)::j6 (O7 i) (gD i st.fr)}
def MS.dU {T:Nat→Type} (st:MS T) (d:Option Nat) (v:TV T):MS T:=match d with
 |some i=>st.put i v
 |none=>st
def O8 {T:Nat→Type} (j:Nat) (b:Bool):TV T→TV T
 |.opt i w v=>bif Nat.beq i j then (bif (b==w) then v else .undef) else .opt i w v
 |v=>v
def MS.learn {T:Nat→Type} (st:MS T) (j:Nat) (b:Bool):MS T:={st with fr:=(j,.fT b)::j6 (O8 j b) (gD j st.fr)}
def MS.zA {T:Nat→Type} (st:MS T) (c:Operand) (b:Bool):MS T:=match c with
 |.tmp j=>st.learn j b
 |_=>st
def DC {T:Nat→Type} (o:Nat) (v:TV T):TV T:=bif j5 o v then .gone else v
def Ob.kill {T:Nat→Type} (o:Nat) (v:Ob T):Ob T:=bif Ob.j5 o v then .gone else v
def MS.new {T:Nat→Type} (st:MS T) (o:Nat) (b:Ob T):MS T:=⟨j6 (DC o) st.fr,(o,b)::j6 (Ob.kill o) (gD o st.ob)⟩
def MS.set {T:Nat→Type} (st:MS T) (o:Nat) (b:Ob T):MS T:={st with ob:=(o,b)::gD o st.ob}
def MS.del {T:Nat→Type} (st:MS T) (o:Nat):MS T:={st with ob:=gD o st.ob}
def O9 {T:Nat→Type}:Ob T→Ob T
 |.ro b=>O9 b
 |b=>b
def kY {T:Nat→Type} (st:MS T) (o:Nat):Option (Ob T):=match look st.ob o with
 |some b=>some (O9 b)
 |none=>none
def mU {T:Nat→Type}:Ob T→Bool
 |.ro _=>true
 |.gone=>true
 |_=>false
def aP (i:Nat):List Nat→Bool
 | []=>false
 |j::l=>Nat.beq i j||aP i l
mutual
def solid {T:Nat→Type} (W:List Nat):TV T→Bool
 |.aj (.own _) _ _=>false
 |.ref o _=> !(aP o W)
 |.bK o=> !(aP o W)
 |.agg cs=>oO W cs
 |.bB cs=>oO W cs
 |.aJ cs _=>oO W cs
 |.fn _ a b=>oO W a&& oO W b
 |.opt _ _ _=>false
 |.vw o _=> !(aP o W)
 |.jq o _ _ _=> !(aP o W)
 |.sv o _ _ _ _ _=> !(aP o W)
 |.sel o _ _ _ _ _=> !(aP o W)
 |.gone=>false
 |_=>true
def oO {T:Nat→Type} (W:List Nat):List (TV T)→Bool
 | []=>true
 |v::l=>solid W v&& oO W l
end
def kZ {T:Nat→Type} (W:List Nat):Ob T→Bool
 |.cells cs=>oO W cs
 |.map _ _ _=>true
 |.smap ks vs=>oO W ks&& oO W vs
 |.arr _ _=>true
 |.sg _=>true
 |.ro b=>kZ W b
 |.gone=>false
def lM {α:Type} (p:Nat→α→Bool) (f:α→α) (l:List (Nat×α)):List Nat→List (Nat×α)
 | []=>[]
 |i::is=>match look l i with
  |some x=>bif p i x then (i,f x)::lM p f l is else lM p f l is
  |none=>lM p f l is
def Pb {T:Nat→Type}:TV T→TV T
 |.aj (.own _) t l=>.aj .any t l
 |v=>v
def base {T:Nat→Type} (W K O:List Nat) (mark:Ob T→Ob T) (st:MS T):MS T:=
 ⟨lM (fun i v=> !(aP i W)&& solid W (Pb v)) Pb st.fr K,lM (fun o b=> !(aP o W)&& kZ W b) mark st.ob O⟩
def MS.over {T:Nat→Type} (st b:MS T):MS T:=⟨st.fr++b.fr,st.ob++b.ob⟩
def wZ {T:Nat→Type}:Value→Option (TV T)
 |.bool b=>some (.fT b)
 |.int k n=>some (.int k n)
 |.string s=>some (.str s.data.toList)
 |.pointer none=>some .eD
 |.slice none 0 0=>some .dZ
 |.map none=>some .dS
 |.nilFunc=>some .dX
 |.nilIface=>some .fH
 |_=>none
def zB {T:Nat→Type}:List Value→Option (List (TV T))
 | []=>some []
 |v::l=>match wZ v with
  |some x=>match zB l with
   |some y=>some (x::y)
   |none=>none
  |none=>none
def zC {T:Nat→Type}:Value→Option (TV T)
 |.agg cs=>match zB cs.toList with
  |some l=>some (.agg l)
  |none=>none
 |v=>wZ v
def Ja {T:Nat→Type} (g:List (Nat×Bool)):TV T→Option (TV T)
 |.opt j w v=>match look g j with
  |some u=>some (bif u==w then v else .undef)
  |none=>none
 |v=>some v
def bf {T:Nat→Type} (g:List (Nat×Bool)) (st:MS T):Operand→Option (TV T)
 |.tmp t=>match look st.fr t with
  |some v=>Ja g v
  |none=>none
 |.const v=>zC v
 |.func f=>some (.fn f [] [])
 |.global _=>none
def lN {T:Nat→Type} (g:List (Nat×Bool)) (st:MS T):List Operand→Option (List (TV T))
 | []=>some []
 |x::l=>match bf g st x with
  |some v=>match lN g st l with
   |some vs=>some (v::vs)
   |none=>none
  |none=>none
def zD {T:Nat→Type} (g:List (Nat×Bool)) (st:MS T):List (Nat×Operand)→Option (List (Nat×TV T))
 | []=>some []
 | (i,x)::l=>match bf g st x with
   |some v=>match zD g st l with
    |some vs=>some ((i,v)::vs)
    |none=>none
   |none=>none
def mV:List Sg→Nat→Option (List Sg×List Sg)
 |ss,0=>some ([],ss)
 | [],_+1=>none
 |s::ss,n+1=>bif Nat.ble s.w (n+1) then (match mV ss (n+1-s.w) with
  |some (a,b)=>some (s::a,b)
  |none=>none) else none
def w9 {T:Nat→Type} (k:IntKind):List (TV T)→Option (List Int)
 | []=>some []
 |.int k' x::l=>if k'=k then (match w9 k l with
  |some xs=>some (x::xs)
  |none=>none) else none
 |_=>none
def zF {α:Type} (l:List α):Option Int→Option Int→List α
 |none,none=>l
 |some i,none=>l.drop i.toNat
 |none,some j=>l.take j.toNat
 |some i,some j=>(l.take j.toNat).drop i.toNat
def Jb {T:Nat→Type} (st:MS T) (o off:Nat) (k:IntKind) (n:Nat) (lo hi:Option Int):Option (List Int):=
 match kY st o with
 |some (.sg ss)=>match mV ss off with
  |some (_,.a k' n' v::_)=>if k'=k then (bif Nat.beq n' n then some (zF v.l lo hi) else none) else none
  |_=>none
 |some (.cells cs)=>bif Nat.ble (off+n) cs.length then (match w9 k ((cs.drop off).take n) with
  |some l=>some (zF l lo hi)
  |none=>none) else none
 |_=>none
def rG {T:Nat→Type} (st:MS T):TV T→TV T
 |.ref o off=>match kY st o with
  |some (.cells cs)=>.aJ cs off
  |_=>.ref o off
 |.bK o=>match kY st o with
  |some (.map k e m)=>.dn k e m
  |_=>.bK o
 |.vw o t=>match kY st o with
  |some (.arr t' l)=>if t'=t then .aj .sh t' l else .vw o t
  |_=>.vw o t
 |.sv o off k n lo hi=>match Jb st o off k n lo hi with
  |some l=>.aj .sh (.int k) l
  |none=>.sv o off k n lo hi
 |v=>v
def DF {T:Nat→Type} (st:MS T):List (TV T)→List (TV T)
 | []=>[]
 |v::l=>rG st v::DF st l
def xg {T:Nat→Type} (st:MS T):TV T→TV T
 |.fn f a b=>.fn f (DF st a) (DF st b)
 |.agg cs=>.agg (DF st cs)
 |v=>rG st v
def l8 {T:Nat→Type} (st:MS T):List (TV T)→List (TV T)
 | []=>[]
 |v::l=>xg st v::l8 st l
def Pd {T:Nat→Type}:TV T→Bool
 |.agg _=>false
 |.sg _=>false
 |.bB _=>false
 |.gone=>false
 |.undef=>false
 |.opt _ _ _=>false
 |_=>true
def vE {T:Nat→Type}:List (TV T)→Bool
 | []=>true
 |v::l=>Pd v&& vE l
def vF {T:Nat→Type}:TV T→Bool
 |.gone=>false
 |.sg _=>false
 |.opt _ _ _=>false
 |_=>true
mutual
def jF {T:Nat→Type}:TV T→Bool
 |.int _ _=>true
 |.bool _=>true
 |.fT _=>true
 |.str _=>true
 |.eD=>true
 |.dX=>true
 |.dS=>true
 |.fH=>true
 |.aj .sh _ _=>true
 |.agg cs=>nQ cs
 |.bB cs=>nQ cs
 |.dn _ _ _=>true
 |.aJ cs _=>nQ cs
 |.fn _ a b=>nQ a&& nQ b
 |.sg _=>true
 |_=>false
def nQ {T:Nat→Type}:List (TV T)→Bool
 | []=>true
 |v::l=>jF v&& nQ l
end
def DI {T:Nat→Type}:TV T→Bool
 |.aj _ _ _=>true
 |.dZ=>true
 |v=>jF v
def Jc {T:Nat→Type}:List (TV T)→Bool
 | []=>true
 |v::l=>DI v&& Jc l
def VW {T:Nat→Type}:TV T→Bool
 |.agg cs=>Jc cs
 |v=>DI v
def vG {T:Nat→Type}:List (TV T)→Bool
 | []=>true
 |v::l=>VW v&& vG l
mutual
def kg:Sk→Bool
 |.d _=>true
 |.l c _=>match c with
  |.any=>true
  |.sh=>true
  |_=>false
 |.agg l=>gN l
 |.aJ l _=>gN l
 |.dn _ _=>true
 |.fn _ a b=>gN a&& gN b
 |.sg _=>true
 |_=>false
def gN:List Sk→Bool
 | []=>true
 |k::l=>kg k&& gN l
def dep:Sk→Nat
 |.agg l=>mW l+3
 |.aJ l _=>mW l+3
 |.fn _ a b=>max (mW a) (mW b)+3
 |_=>3
def mW:List Sk→Nat
 | []=>0
 |k::l=>max (dep k) (mW l)
end
def Pe:Ty→Bool
 |.int _=>true
 |.bool=>true
 |.str=>true
 |_=>false
def zG:List Sk→Bool
 | []=>true
 |.d t::l=>Pe t&& zG l
 |.sg _::l=>zG l
 |_=>false
mutual
def encS:(k:Sk)→oM R.T k→V
 |.d t,x=>aG R t x
 |.l _ t,x=>aG R (.slice t) x
 |.agg l,x=>.agg (bA l x)
 |.aJ l off,x=>.aJ (bA l x) off
 |.dn k e,x=>.dn (List.map (fun p=>aG R k p.1) x) (List.map (fun p=>aG R e p.2) x)
 |.fn f a b,x=>.fn (.func f) (bA a x.1) (bA b x.2)
 |.dZ,_=>.aj .sh []
 |.ref _ _,_=>aC
 |.bK _,_=>aC
 |.vw _ _,_=>aC
 |.sg l,x=>.agg (bE (qK l x))
 |.undef,_=>aC
def bA:(l:List Sk)→aB R.T l→List V
 | [],_=>[]
 | [k],x=>[encS k x]
 |k::h::l,p=>encS k p.1::bA (h::l) p.2
end
def ko:List V→V
 | [v]=>v
 |vs=>.bB vs
def zH:Cp→Cp→Bool
 |_,.any=>true
 |.sh,.sh=>true
 |.nil,.nil=>true
 |.nil,.own _=>true
 |.full,.own _=>true
 |.full,.full=>true
 |.own t,.own u=>Nat.beq t u
 |_,_=>false
def Jd (c:Cp) (t:Ty):TV R.T→Option (List (Den R.T t))
 |.aj c' _ l=>bif zH c' c then oN R l else none
 |.dZ=>bif zH .nil c then some [] else none
 |_=>none
def zI {k e k' e':Ty} (m:List (Den R.T k'×Den R.T e')):Option (List (Den R.T k×Den R.T e)):=if h:k'=k∧e'=e then some (by rw[←h.1,←h.2];exact m) else none
mutual
def pk:(k:Sk)→TV R.T→Option (oM R.T k)
 |.d t=>fun v=>mR R t v
 |.l c t=>fun v=>Jd R c t v
 |.agg l=>fun v=>match v with
  |.agg cs=>fA l cs
  |_=>none
 |.ref o off=>fun v=>match v with
  |.ref p off'=>bif Nat.beq p o&& Nat.beq off' off then some () else none
  |_=>none
 |.aJ l off=>fun v=>match v with
  |.aJ cs off'=>bif Nat.beq off' off then fA l cs else none
  |_=>none
 |.bK o=>fun v=>match v with
  |.bK p=>bif Nat.beq p o then some () else none
  |_=>none
 |.dn k e=>fun v=>match v with
  |.dn _ _ m=>zI R m
  |_=>none
 |.fn f a b=>fun v=>match v with
  |.fn f' a' b'=>bif Nat.beq f' f then (match fA a a' with
   |some x=>match fA b b' with
    |some y=>some (x,y)
    |none=>none
   |none=>none) else none
  |_=>none
 |.dZ=>fun v=>match v with
  |.dZ=>some ()
  |_=>none
 |.vw o t=>fun v=>match v with
  |.vw p t'=>bif Nat.beq p o then (if t'=t then some () else none) else none
  |_=>none
 |.sg l=>fun v=>match v with
  |.sg ss=>tH l ss
  |_=>none
 |.undef=>fun v=>match v with
  |.undef=>some ()
  |_=>none
def fA:(l:List Sk)→List (TV R.T)→Option (aB R.T l)
 | []=>fun vs=>match vs with
   | []=>some ()
   |_::_=>none
 | [k]=>fun vs=>match vs with
   | [v]=>pk k v
   |_=>none
 |k::h::l=>fun vs=>match vs with
  | []=>none
  |v::vs=>match pk k v with
   |some x=>match fA (h::l) vs with
    |some p=>some (x,p)
    |none=>none
   |none=>none
end
mutual
def up (c:Cp):(k:Sk)→oM R.T k→TV R.T
 |.d t,x=>eO R c t x
 |.l c t,x=>.aj c t x
 |.agg l,x=>.agg (iG c l x)
 |.ref o off,_=>.ref o off
 |.aJ l off,x=>.aJ (iG c l x) off
 |.bK o,_=>.bK o
 |.dn k e,x=>.dn k e x
 |.fn f a b,x=>.fn f (iG c a x.1) (iG c b x.2)
 |.dZ,_=>.dZ
 |.vw o t,_=>.vw o t
 |.sg l,x=>.sg (qK l x)
 |.undef,_=>.undef
def iG (c:Cp):(l:List Sk)→aB R.T l→List (TV R.T)
 | [],_=>[]
 | [k],x=>[up c k x]
 |k::h::l,p=>up c k p.1::iG c (h::l) p.2
end
def vH:(k:jJ)→Ob R.T→Option (vB R.T k)
 |.cells l=>fun o=>match o with
  |.cells cs=>fA R l cs
  |_=>none
 |.st n=>fun o=>match o with
  |.cells cs=>wY R n (.agg cs)
  |_=>none
 |.map k e=>fun o=>match o with
  |.map _ _ m=>zI R m
  |_=>none
 |.arr t=>fun o=>match o with
  |.arr _ l=>oN R l
  |_=>none
 |.sg l=>fun o=>match o with
  |.sg ss=>tH l ss
  |_=>none
def jR:(k:jJ)→vB R.T k→Ob R.T
 |.cells l,x=>.cells (iG R .any l x)
 |.st n,x=>.cells (iY R .any (R.lf n) (R.of n x))
 |.map k e,x=>.map k e x
 |.arr t,x=>.arr t x
 |.sg l,x=>.sg (qK l x)
def oP (st:List (Nat×TV R.T)):(l:List (Nat×Sk))→Option (wW R.T l)
 | []=>some ()
 | [(i,k)]=>match look st i with
   |some v=>pk R k v
   |none=>none
 | (i,k)::h::l=>match look st i with
   |some v=>match pk R k v with
    |some x=>match oP st (h::l) with
     |some p=>some (x,p)
     |none=>none
    |none=>none
   |none=>none
def DJ:(l:List (Nat×Sk))→wW R.T l→List (Nat×TV R.T)
 | [],_=>[]
 | [(i,k)],x=>[(i,up R .any k x)]
 | (i,k)::h::l,p=>(i,up R .any k p.1)::DJ (h::l) p.2
def lg (st:List (Nat×Ob R.T)):(l:List (Nat×jJ))→Option (mQ R.T l)
 | []=>some ()
 | [(i,k)]=>match look st i with
   |some v=>vH R k v
   |none=>none
 | (i,k)::h::l=>match look st i with
   |some v=>match vH R k v with
    |some x=>match lg st (h::l) with
     |some p=>some (x,p)
     |none=>none
    |none=>none
   |none=>none
def jS:(l:List (Nat×jJ))→mQ R.T l→List (Nat×Ob R.T)
 | [],_=>[]
 | [(i,k)],x=>[(i,jR R k x)]
 | (i,k)::h::l,p=>(i,jR R k p.1)::jS (h::l) p.2
def pack (st:MS R.T):(s:Shape)→Option (nO R.T s)
 | ⟨s,[]⟩=>oP R st.fr s
 | ⟨s,o::os⟩=>match oP R st.fr s with
   |some x=>match lg R st.ob (o::os) with
    |some y=>some (x,y)
    |none=>none
   |none=>none
def zJ {T:Nat→Type}:TV T→Bool
 |.dZ=>true
 |.aj .nil _ l=>l.isEmpty
 |.aj .full _ l=>l.isEmpty
 |_=>false
def nR {T:Nat→Type} (W:List Nat):List (Nat×Sk)→MS T→MS T
 | [],st=>st
 | (i,.vw o t)::l,st=>match look st.fr i with
   |some v=>bif zJ v&& aP o W then nR W l ⟨(i,.vw o t)::(st.new o (.arr t [])).fr,(st.new o (.arr t [])).ob⟩ else nR W l st
   |none=>nR W l st
 |_::l,st=>nR W l st
def jT (W:List Nat) (st:MS R.T) (s:Shape):Option (nO R.T s):=pack R (nR W s.sl st) s
def unpack:(s:Shape)→nO R.T s→MS R.T
 | ⟨s,[]⟩,x=>⟨DJ R s x,[]⟩
 | ⟨s,o::os⟩,x=>⟨DJ R s x.1,jS R (o::os) x.2⟩
def xk:Ex→Ex→Bool
 |.normal,.normal=>true
 |.ret,.ret=>true
 |.exit i,.exit j=>Nat.beq i j
 |_,_=>false
def pY (W:List Nat) (e:Ex) (st:MS R.T):(l:List (Ex×Shape))→Option (Out R.T l)
 | []=>none
 | [(x,s)]=>bif xk e x then jT R W st s else none
 | (x,s)::h::l=>bif xk e x then (match jT R W st s with
   |some p=>some (.inl p)
   |none=>none) else (match pY W e st (h::l) with
   |some p=>some (.inr p)
   |none=>none)
def rH {β:Type} (b:MS R.T) (k:Ex→MS R.T→Option β):(l:List (Ex×Shape))→Out R.T l→Option β
 | [],_=>none
 | [(x,s)],p=>k x (b.over (unpack R s p))
 | (x,s)::h::l,p=>Sum.elim (fun q=>k x (b.over (unpack R s q))) (fun q=>rH b k (h::l) q) p
end
end Aq
end
