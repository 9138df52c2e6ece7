/- Part of the proof of a law. -/
import Derived.Test.YtdcnajadcbedkaaGreatDoorS1205
set_option linter.all false
section
namespace Aq
open Go
def Is {α:Type} (a b:α):Prop:=a=b
theorem Is.rfl {α:Type} {a:α}:Is a a:=Eq.refl a
def iv (n:Int):V:=.int .i64 n
def lv {α:Type} (f:α->V) (l:List α):V:=.aj .sh (l.map f)
theorem XK {α:Type} {f:α->V} (h:∀x,aF (f x)=true):∀l:List α,aX (l.map f)=true
 | []=>by simp[aX]
 |a::l=>by simp[aX,h a,XK h l]
theorem FZ {α:Type} {f:α->V} (h:∀x,aF (f x)=true) (l:List α):aF (.aj .sh (l.map f))=true:=by
 simp only[aF];exact XK h l
theorem jm {α:Type} {f:α->V} (h:∀x,aF (f x)=true) (l:List α):aF (lv f l)=true:=FZ h l
theorem agN (n:Int):aF (iv n)=true:=by simp[iv,aF]
theorem jR (l:List (List UInt8)):aF (lv V.str l)=true:=jm (fun _=>by simp[aF]) l
theorem jS (l:List Int):aF (lv iv l)=true:=jm agN l
theorem jT (k:IntKind) (l:List Int):aF (lv (V.int k) l)=true:=jm (fun _=>by simp[aF]) l
theorem jU (l:List Bool):aF (lv V.bool l)=true:=jm (fun _=>by simp[aF]) l
attribute [go_sem] jR jS jT jU
def aB {α:Type} (l:List α) (i:Int):Option α:=if 0<=i/\i<l.length then l[i.toNat]? else none
def sZ (P:Program) (t:TypeId):Bool:=match P.underlying t with
 |some (.slice _)=>true
 |_=>false
def F3 (P:Program) (t:TypeId):Bool:=match P.underlying t with
 |some .string=>true
 |_=>false
section
variable {E:Env} {fr:Fr} {σ:ah}
def NQ (Q:Ex->Fr->ah->Prop) (fr:Fr) (σ:ah):Prop:=Q .normal fr σ
theorem NQ.i {Q:Ex->Fr->ah->Prop} (h:Q .normal fr σ):NQ Q fr σ:=h
theorem rJ.n {b:Code} {Q:Ex->Fr->ah->Prop} (h:CW E b fr σ Q):rJ E b Q .normal fr σ:=h
theorem rJ.x {b:Code} {i:Nat} {Q:Ex->Fr->ah->Prop} (h:Q (.exit i) fr σ):rJ E b Q (.exit i) fr σ:=h
theorem rJ.r {b:Code} {Q:Ex->Fr->ah->Prop} (h:Q .ret fr σ):rJ E b Q .ret fr σ:=h
theorem uw.n {id:Nat} {Q:Ex->Fr->ah->Prop} (h:Q .normal fr σ):uw id Q .normal fr σ:=h
theorem uw.r {id:Nat} {Q:Ex->Fr->ah->Prop} (h:Q .ret fr σ):uw id Q .ret fr σ:=h
theorem uw.hit {id:Nat} {Q:Ex->Fr->ah->Prop} (h:Q .normal fr σ):uw id Q (.exit id) fr σ:=by simp only[uw,if_true];exact h
theorem xB.n {c:Code} {Q:Ex->Fr->ah->Prop} (h:CW E (.loop c) fr σ Q):xB E c Q .normal fr σ:=h
theorem xB.x {c:Code} {i:Nat} {Q:Ex->Fr->ah->Prop} (h:Q (.exit i) fr σ):xB E c Q (.exit i) fr σ:=h
theorem xB.r {c:Code} {Q:Ex->Fr->ah->Prop} (h:Q .ret fr σ):xB E c Q .ret fr σ:=h
theorem CW.agO {c:Operand} {a b:Code} {Q:Ex->Fr->ah->Prop} (hc:Is (fr.ev E c) (.bool false)) (h:CW E b fr σ Q):CW E (.cond c a b) fr σ Q:=CW.cond hc (fun h=>by cases h) (fun _=>h)
theorem OW.o1 {all:List Oper} {st:Nat} {d:Tmp} {op:Op} {ty:TypeId} {pos:String} {dF:Array Edge} {gd:Option (Nat×Bool)} {os:List Oper} {v:V} {σ1:ah} {Q:Fr->ah->Prop} (hw:Is (eT all fr ⟨some d,op,ty,pos,dF,gd⟩) (some true))
 (hop:∀S,Is (opC E S fr σ st ⟨some d,op,ty,pos,dF,gd⟩) (some (v,fr,σ1))) (h:OW E all (st+1) os (fr.set d v) σ1 Q):OW E all st (⟨some d,op,ty,pos,dF,gd⟩::os) fr σ Q:=OW.op hw hop h
theorem OW.s1 {all:List Oper} {st:Nat} {d:Tmp} {op:Op} {ty:TypeId} {pos:String} {dF:Array Edge} {gd:Option (Nat×Bool)} {os:List Oper} {Q:Fr->ah->Prop} (hw:Is (eT all fr ⟨some d,op,ty,pos,dF,gd⟩) (some false))
 (h:OW E all (st+1) os (fr.set d aC) σ Q):OW E all st (⟨some d,op,ty,pos,dF,gd⟩::os) fr σ Q:=OW.skip hw h
theorem OW.s0 {all:List Oper} {st:Nat} {op:Op} {ty:TypeId} {pos:String} {dF:Array Edge} {gd:Option (Nat×Bool)} {os:List Oper} {Q:Fr->ah->Prop} (hw:Is (eT all fr ⟨none,op,ty,pos,dF,gd⟩) (some false))
 (h:OW E all (st+1) os fr σ Q):OW E all st (⟨none,op,ty,pos,dF,gd⟩::os) fr σ Q:=OW.skip hw h
theorem dU.o1 {ms:List Nat} {all:List Oper} {st:Nat} {d:Tmp} {op:Op} {ty:TypeId} {pos:String} {dF:Array Edge} {gd:Option (Nat×Bool)} {os:List Oper} {v:V} {σ1:ah} {fs:List bV} {f:bV} {Q:Fr->ah->Prop} (hw:Is (eT all fr ⟨some d,op,ty,pos,dF,gd⟩) (some true))
 (hop:∀S,Is (opC E S fr σ st ⟨some d,op,ty,pos,dF,gd⟩) (some (v,fr,σ1))) (hf:Is (fq E all fr ⟨some d,op,ty,pos,dF,gd⟩ true) f) (h:dU E ms all (st+1) os (fr.set d v) σ1 (fs++[f]) Q):dU E ms all st (⟨some d,op,ty,pos,dF,gd⟩::os) fr σ fs Q:=
 dU.op hw hop (by rw[hf];exact h)
theorem dU.s1 {ms:List Nat} {all:List Oper} {st:Nat} {d:Tmp} {op:Op} {ty:TypeId} {pos:String} {dF:Array Edge} {gd:Option (Nat×Bool)} {os:List Oper} {fs:List bV} {f:bV} {Q:Fr->ah->Prop} (hw:Is (eT all fr ⟨some d,op,ty,pos,dF,gd⟩) (some false))
 (hf:Is (fq E all fr ⟨some d,op,ty,pos,dF,gd⟩ false) f) (h:dU E ms all (st+1) os (fr.set d aC) σ (fs++[f]) Q):dU E ms all st (⟨some d,op,ty,pos,dF,gd⟩::os) fr σ fs Q:=dU.skip hw (by rw[hf];exact h)
theorem dU.s0 {ms:List Nat} {all:List Oper} {st:Nat} {op:Op} {ty:TypeId} {pos:String} {dF:Array Edge} {gd:Option (Nat×Bool)} {os:List Oper} {fs:List bV} {f:bV} {Q:Fr->ah->Prop} (hw:Is (eT all fr ⟨none,op,ty,pos,dF,gd⟩) (some false))
 (hf:Is (fq E all fr ⟨none,op,ty,pos,dF,gd⟩ false) f) (h:dU E ms all (st+1) os fr σ (fs++[f]) Q):dU E ms all st (⟨none,op,ty,pos,dF,gd⟩::os) fr σ fs Q:=dU.skip hw (by rw[hf];exact h)
theorem OW.g1 {all:List Oper} {st:Nat} {d:Tmp} {op:Op} {ty:TypeId} {pos:String} {dF:Array Edge} {gd:Option (Nat×Bool)} {os:List Oper} {v:V} {g:Bool} {Q:Fr->ah->Prop} (hw:Is (eT all fr ⟨some d,op,ty,pos,dF,gd⟩) (some g)) (hop:g=true->∀S,Is (opC E S fr σ st ⟨some d,op,ty,pos,dF,gd⟩) (some (v,fr,σ)))
 (h:OW E all (st+1) os (fr.set d (cond g v aC)) σ Q):OW E all st (⟨some d,op,ty,pos,dF,gd⟩::os) fr σ Q:=by
 cases g with
 |true=>exact OW.op hw (hop rfl) h
 |false=>exact OW.skip hw h
theorem OW.pk {all:List Oper} {st:Nat} {d:Tmp} {c a b:Operand} {ty:TypeId} {pos:String} {dF:Array Edge} {gd:Option (Nat×Bool)} {os:List Oper} {t x y:Bool} {Q:Fr->ah->Prop} (hw:Is (eT all fr ⟨some d,.pick c a b,ty,pos,dF,gd⟩) (some true)) (hc:Is (fr.ev E c) (.bool t)) (ha:t=true->Is (fr.ev E a) (.bool x)) (hb:t=false->Is (fr.ev E b) (.bool y))
 (h:OW E all (st+1) os (fr.set d (.bool (cond t x y))) σ Q):OW E all st (⟨some d,.pick c a b,ty,pos,dF,gd⟩::os) fr σ Q:=by
 have hc':fr.ev E c= .bool t:=hc
 refine OW.op (v:=.bool (cond t x y)) (σ1:=σ) hw (fun S=> ?_) h
 cases t with
 |true=>
  have ha':fr.ev E a= .bool x:=ha rfl
  simp only[opC,bg,hc',oh,Option.map_some,if_true,ha',cond_true]
 |false=>
  have hb':fr.ev E b= .bool y:=hb rfl
  simp only[opC,bg,hc',oh,Option.map_some,aap,if_false,hb',cond_false]
theorem dU.pk {ms:List Nat} {fs:List bV} {f:bV} {all:List Oper} {st:Nat} {d:Tmp} {c a b:Operand} {ty:TypeId} {pos:String} {dF:Array Edge} {gd:Option (Nat×Bool)} {os:List Oper} {t x y:Bool} {Q:Fr->ah->Prop} (hw:Is (eT all fr ⟨some d,.pick c a b,ty,pos,dF,gd⟩) (some true)) (hc:Is (fr.ev E c) (.bool t)) (ha:t=true->Is (fr.ev E a) (.bool x)) (hb:t=false->Is (fr.ev E b) (.bool y))
 (hf:Is (fq E all fr ⟨some d,.pick c a b,ty,pos,dF,gd⟩ true) f) (h:dU E ms all (st+1) os (fr.set d (.bool (cond t x y))) σ (fs++[f]) Q):dU E ms all st (⟨some d,.pick c a b,ty,pos,dF,gd⟩::os) fr σ fs Q:=by
 have hc':fr.ev E c= .bool t:=hc
 refine dU.op (v:=.bool (cond t x y)) (σ1:=σ) hw (fun S=> ?_) (by rw[hf];exact h)
 cases t with
 |true=>
  have ha':fr.ev E a= .bool x:=ha rfl
  simp only[opC,bg,hc',oh,Option.map_some,if_true,ha',cond_true]
 |false=>
  have hb':fr.ev E b= .bool y:=hb rfl
  simp only[opC,bg,hc',oh,Option.map_some,aap,if_false,hb',cond_false]
theorem xC.one {r:ResultVar} {e:Ex} {v0:V} {R:V->ah->Prop} (he:∀i,e≠ .exit i) (hv:Is (lX E fr σ r) (some v0)) (hr:R v0 σ):xC E [r] R e fr σ:=by
 have h1:[r].mapM (lX E fr σ)=some [v0]:=by rw[adi,hv];rfl
 cases e with
 |exit i=>exact absurd rfl (he i)
 |normal=>exact⟨[v0],h1,hr⟩
 |ret=>exact⟨[v0],h1,hr⟩
theorem xC.bE {rs:List ResultVar} {e:Ex} {v1 v2:V} {vs:List V} {R:V->ah->Prop} (he:∀i,e≠ .exit i) (hv:Is (rs.mapM (lX E fr σ)) (some (v1::v2::vs))) (hr:R (.bE (v1::v2::vs)) σ):xC E rs R e fr σ:=by
 cases e with
 |exit i=>exact absurd rfl (he i)
 |normal=>exact⟨_,hv,hr⟩
 |ret=>exact⟨_,hv,hr⟩
theorem Pure.of' {f:FuncId} {args:List V} {v:V} {fn:Func} {c:Code} (rs:List ResultVar) (hf:E.P.funcs[f]? =some fn) (hb:fn.body=some c)
 (h:∀fr σ,fr.d=1->fr.om=E.om f->(∀i,fr.tm i=args.getD i aC)->CW E c fr σ (xC E rs (fun v0 σ=>aQ 20 σ v0=some v))) (hrs:fn.results.toList=rs:=by rfl) (hok:(decide (args.length<=fn.ntmps)&& iM fn.ntmps c)=true:=by rfl) (hs:E.jO f=none:=by rfl):Pure E f args v:=
 Pure.of hs hf hb hok (by rw[hrs];exact h _ _ rfl rfl (fun _=>rfl))
theorem jV {n:Nat} {x:V} (h:aF x=true):aQ (n+1) σ x=some x:=by unfold aQ;simp only[h,if_true]
theorem Rk (n:Nat) (k:IntKind) (i:Int):aQ (n+1) σ (.int k i)=some (.int k i):=jV (by simp[aF])
theorem Rm (n:Nat) (b:Bool):aQ (n+1) σ (.bool b)=some (.bool b):=jV (by simp[aF])
theorem Rn (n:Nat) (s:List UInt8):aQ (n+1) σ (.str s)=some (.str s):=jV (by simp[aF])
theorem xD {n:Nat} {α:Type} {f:α->V} (c:Cap) (l:List α) (h:∀x,aF (f x)=true):aQ (n+2) σ (.aj c (l.map f))=some (lv f l):=by
 by_cases hp:aF (.aj c (l.map f))=true
 ·rw[jV hp]
  cases c<;>simp only[aF,aap] at hp
  rfl
 ·unfold aQ
  simp only[hp,if_false,aap]
  have:(l.map f).mapM (aQ (n+1) σ)=some (l.map f):=by
   induction l with
   |nil=>simp
   |cons a l ih=>simp[h a,jV,ih (by cases c<;>simp_all[aF,aX])]
  rw[this];rfl
theorem agP (k:IntKind) (i:Int):er (.int k i)= .int k i:=rfl
theorem agQ (b:Bool):er (.bool b)= .bool b:=rfl
theorem agR (s:List UInt8):er (.str s)= .str s:=rfl
theorem agS {α:Type} (f:α->V) (l:List α):er (lv f l)=lv f l:=rfl
theorem agT (c:Cap) (l:List V):er (.aj c l)= .aj .sh l:=rfl
theorem agU (n:Int):iv n= .int .i64 n:=rfl
theorem Ro (k:IntKind) (i:Int):aF (.int k i)=true:=by simp[aF]
theorem Rp (b:Bool):aF (.bool b)=true:=by simp[aF]
theorem XL (s:List UInt8):aF (.str s)=true:=by simp[aF]
theorem Rq {P:Program} {α:Type} {t:TypeId} {c:Cap} {l:List α} {f:α->V} {k:IntKind} {i:Int}:
 nZ P t (.aj c (l.map f)) (.int k i)=if sZ P t then (kU P t).bind fun e=>(cO P e).bind fun sz=>(aB l i).bind fun x=>if (f x).cells.length=sz then some (.aK (f x).cells 0) else none else none:=by
 unfold nZ sZ kU
 cases hu:P.underlying t with
 |none=>rfl
 |some u=>
  cases u<;>try rfl
  rename_i e
  simp only[if_true,Option.bind_some]
  cases cO P e with
  |none=>rfl
  |some sz=>
   simp only[Option.bind_some,idx,mq,aau,aB]
   split
   ·rename_i h
    simp only[Option.bind_some,List.getElem?_map]
    cases l[i.toNat]? with
    |none=>rfl
    |some x=>rfl
   ·rfl
theorem agV {P:Program} {α:Type} {t:TypeId} {l:List α} {f:α->V} {k:IntKind} {i:Int}:
 nZ P t (lv f l) (.int k i)=if sZ P t then (kU P t).bind fun e=>(cO P e).bind fun sz=>(aB l i).bind fun x=>if (f x).cells.length=sz then some (.aK (f x).cells 0) else none else none:=Rq
theorem agW {P:Program} {t:TypeId} {v:V} (h1:jl P t=some false) (h2:cO P t=some 1):gK P t [v] 0=some v:=by simp[gK,h1,h2,nJ]
theorem agX {t:TypeId} {α:Type} (f:α->V) (l:List α) (h:sZ E.P t=true):mV E σ t (lv f l)=some l.length:=by
 unfold sZ at h;unfold mV
 split at h
 ·rename_i e he;rw[he];simp[lv]
 ·simp at h
theorem agY {t:TypeId} (c:Cap) (l:List V) (h:sZ E.P t=true):mV E σ t (.aj c l)=some l.length:=by
 unfold sZ at h;unfold mV
 split at h
 ·rename_i e he;rw[he]
 ·simp at h
theorem agZ {t:TypeId} (l:List UInt8) (h:F3 E.P t=true):mV E σ t (.str l)=some l.length:=by
 unfold F3 at h;unfold mV
 split at h
 ·rename_i he;rw[he]
 ·simp at h
end
section
variable {E:Env} {S:jI} {fr:Fr} {σ:ah} {st:Nat} {d:Option Tmp} {ty:TypeId} {pos:String} {dF:Array Edge} {gd:Option (Nat×Bool)}
theorem ag0 (all:List Oper) (op:Op):eT all fr ⟨d,op,ty,pos,dF,none⟩=some true:=rfl
def Rs (want:Bool):V->Option Bool
 |.bool b=>some (b==want)
 |.raw _=>none
 |_=>some false
theorem ag1 (w b:Bool):Rs w (.bool b)=some (b==w):=rfl
theorem ag2 (w:Bool):Rs w aC=some false:=rfl
theorem ag3 (all:List Oper) (op:Op) (j:Nat) (want:Bool):eT all fr ⟨d,op,ty,pos,dF,some (j,want)⟩=match (all[j]?).bind (·.dst) with
 |some t=>Rs want (fr.tm t)
 |none=>some false:=by
 simp only[eT]
 cases (all[j]?).bind (·.dst) with
 |none=>rfl
 |some t=>simp only;cases fr.tm t<;>rfl
theorem ag4 (cs:List V):V.cells (.agg cs)=cs:=rfl
theorem ag5 (k:IntKind) (n:Int):V.cells (.int k n)=[.int k n]:=rfl
theorem ag6 (k:IntKind) (n:Int):dJ (.int k n)=true:=rfl
theorem ag7 (b:Bool):V.cells (.bool b)=[.bool b]:=rfl
theorem ag8 (b:Bool):dJ (.bool b)=true:=rfl
theorem ag9 (s:List UInt8):V.cells (.str s)=[.str s]:=rfl
theorem aha (s:List UInt8):dJ (.str s)=true:=rfl
theorem ahb (c:Cap) (l:List V):V.cells (.aj c l)=[.aj c l]:=rfl
theorem ahc (c:Cap) (l:List V):dJ (.aj c l)=true:=rfl
theorem ahd (l:Aq.Loc) (s o:Nat):V.cells (.ref l s o)=[.ref l s o]:=rfl
theorem ahe (l:Aq.Loc) (s o:Nat):dJ (.ref l s o)=true:=rfl
theorem ahf (cs:List V) (o:Nat):V.cells (.aK cs o)=[.aK cs o]:=rfl
theorem ahg (cs:List V) (o:Nat):dJ (.aK cs o)=true:=rfl
theorem ahh (f:Fn) (a b:List V):V.cells (.fn f a b)=[.fn f a b]:=rfl
theorem ahi (f:Fn) (a b:List V):dJ (.fn f a b)=true:=rfl
theorem ahj {α:Type} (f:α->V) (l:List α):V.cells (lv f l)=[lv f l]:=rfl
theorem ahk:bC []=true:=rfl
theorem XM (x:V) (l:List V):bC (x::l)=(oneCell x&& bC l):=rfl
theorem ahl (k:IntKind) (n:Int):oneCell (.int k n)=true:=rfl
theorem ahm (b:Bool):oneCell (.bool b)=true:=rfl
theorem ahn (s:List UInt8):oneCell (.str s)=true:=rfl
theorem aho {α:Type} (f:α->V) (l:List α):oneCell (lv f l)=true:=rfl
theorem ahp (c:Cap) (l:List V):oneCell (.aj c l)=true:=rfl
theorem ahq (l:Aq.Loc) (s o:Nat):oneCell (.ref l s o)=true:=rfl
theorem ahr (cs:List V) (o:Nat):oneCell (.aK cs o)=true:=rfl
theorem ahs (cs:List V):dJ (.agg cs)=true:=rfl
theorem aht {α:Type} (f:α->V) (l:List α):dJ (lv f l)=true:=rfl
theorem ahu (x:Operand) (h:qA E d=false):opC E S fr σ st ⟨d,.move x,ty,pos,dF,gd⟩=some (fr.ev E x,fr,σ):=by
 show Option.map _ (if qA E d=true then sM σ (fr.ev E x) else some (fr.ev E x,σ))=_
 rw[if_neg (by rw[h];simp)];rfl
theorem ahv (x:Operand):opC E S fr σ st ⟨d,.assign x,ty,pos,dF,gd⟩=some (fr.ev E x,fr,σ):=rfl
theorem ahw (c a b:Operand) (h:fr.ev E c= .bool true):opC E S fr σ st ⟨d,.pick c a b,ty,pos,dF,gd⟩=some (fr.ev E a,fr,σ):=by
 simp only[opC,bg,h,oh,Option.map_some,if_true]
theorem ahx (c a b:Operand) (h:fr.ev E c= .bool false):opC E S fr σ st ⟨d,.pick c a b,ty,pos,dF,gd⟩=some (fr.ev E b,fr,σ):=by
 simp only[opC,bg,h,oh,Option.map_some,aap,if_false]
theorem XO (op:BinOp) (t u:TypeId) (x y:Operand):opC E S fr σ st ⟨d,.binOp op t x y u,ty,pos,dF,gd⟩=(nK E.P op t (fr.ev E x) (fr.ev E y)).map fun v=>(v,fr,σ):=by
 simp only[opC,bg];cases nK E.P op t (fr.ev E x) (fr.ev E y)<;>rfl
theorem ahy (op:UnOp) (t:TypeId) (x:Operand):opC E S fr σ st ⟨d,.unOp op t x,ty,pos,dF,gd⟩=(ze op (fr.ev E x)).map fun v=>(v,fr,σ):=by
 simp only[opC,bg];cases ze op (fr.ev E x)<;>rfl
theorem ahz (t:TypeId) (x:Operand) (f:Nat):opC E S fr σ st ⟨d,.fieldAddr t x f,ty,pos,dF,gd⟩=(vg E.P t f).bind fun p=>match fr.ev E x with
 |.ref loc s off=>some (.ref loc s (off+p.1),fr,σ)
 |.aK cs off=>some (.aK cs (off+p.1),fr,σ)
 |_=>none:=by
 simp only[opC,bg]
 cases vg E.P t f with
 |none=>rfl
 |some p=>obtain⟨o,u⟩:=p;simp only[Option.bind_some];cases fr.ev E x<;>rfl
theorem ahA (t:TypeId) (x:Operand):opC E S fr σ st ⟨d,.load t x,ty,pos,dF,gd⟩=(match fr.ev E x with
 |.ref loc s off=>(σ.cB loc s).bind fun cs=>(gK E.P t cs off).map fun v=>(v,fr,σ)
 |.aK cs off=>(gK E.P t cs off).map fun v=>(v,fr,σ)
 |_=>none):=by
 simp only[opC,bg]
 cases fr.ev E x with
 |ref loc s off=>
  simp only
  cases σ.cB loc s with
  |none=>rfl
  |some cs=>simp only[Option.bind_some];cases gK E.P t cs off<;>rfl
 |aK cs off=>simp only;cases gK E.P t cs off<;>rfl
 |_=>rfl
theorem ahB (t:TypeId) (x:Operand) (i:Nat):opC E S fr σ st ⟨some i,.box t x,ty,pos,dF,gd⟩=if E.uj t=true then (if aF (fr.ev E x)=true/\dJ (fr.ev E x)=true then some (.aK (fr.ev E x).cells 0,fr,σ) else none) else if bC (fr.ev E x).cells/\dJ (fr.ev E x) then some (.ref (fr.d,i) st 0,fr,σ.setObj (fr.d,i) st (.cells (fr.ev E x).cells)) else none:=by
 show Option.map _ (if E.uj t=true then _ else (some (fr.d,i)).bind _)=_
 by_cases hz:E.uj t=true
 ·simp only[hz,if_true]
  split<;>rfl
 ·simp only[hz,aap,if_false,Option.bind_some]
  split<;>rfl
theorem ahC (t:TypeId) (i:Nat):opC E S fr σ st ⟨some i,.alloc t,ty,pos,dF,gd⟩=(jA E.P t).bind fun z=>if bC z.cells then some (.ref (fr.d,i) st 0,fr,σ.setObj (fr.d,i) st (.cells z.cells)) else none:=by
 simp only[opC,bg,Option.map_some,Option.bind_some]
 cases jA E.P t with
 |none=>rfl
 |some z=>simp only[Option.bind_some];split<;>rfl
theorem ahD (t:TypeId) (a x:Operand):opC E S fr σ st ⟨d,.store t a x,ty,pos,dF,gd⟩=(match fr.ev E a with
 |.ref loc s off=>(σ.cB loc s).bind fun cs=>
  if some (fr.ev E x).cells.length=cO E.P t/\off+(fr.ev E x).cells.length<=cs.length/\bC (fr.ev E x).cells then some (aC,fr,σ.setObj loc s (.cells (fT cs off (fr.ev E x).cells))) else none
 |_=>none):=by
 simp only[opC,bg]
 cases fr.ev E a with
 |ref loc s off=>
  simp only
  cases σ.cB loc s with
  |none=>rfl
  |some cs=>simp only[Option.bind_some];split<;>rfl
 |_=>rfl
theorem ahE (t:TypeId) (x i:Operand):opC E S fr σ st ⟨d,.indexAddr t x i,ty,pos,dF,gd⟩=(nZ E.P t (fr.ev E x) (fr.ev E i)).map fun v=>(v,fr,σ):=by
 simp only[opC,bg];cases nZ E.P t (fr.ev E x) (fr.ev E i)<;>rfl
theorem ahF (x:Operand) (i:Nat):opC E S fr σ st ⟨d,.extract x i,ty,pos,dF,gd⟩=(match fr.ev E x with
 |.bE vs=>(vs[i]?).map fun v=>(v,fr,σ)
 |_=>none):=by
 simp only[opC,bg]
 cases fr.ev E x with
 |bE vs=>simp only;cases vs[i]? <;>rfl
 |_=>rfl
theorem ahG (x:Operand) (t:TypeId):opC E S fr σ st ⟨d,.call ⟨.builtin .len, #[x], #[t]⟩,ty,pos,dF,gd⟩=(mV E σ t (fr.ev E x)).map fun n=>(.int .i64 (n:Nat),fr,σ):=by
 show (Option.map _ (((#[t]:Array TypeId)[0]?).bind fun t=>(mV E σ t (fr.ev E x)).map fun n=>(V.int .i64 (n:Nat),σ)))=_
 rw[show (#[t]:Array TypeId)[0]? =some t from rfl,Option.bind_some]
 cases mV E σ t (fr.ev E x)<;>rfl
end
attribute [go_sem] aap nK jN wT ze decide_true decide_false List.getElem?_cons_succ List.getElem?_cons_zero beq_true beq_false Bool.not_true Bool.not_false Rj Bool.false_and Bool.and_false Bool.true_and Bool.and_true ag0 ag3 ag1 ag2 ahu ahv ahw ahx XO ahy ahz ahA ahB ahC ahD ahE ahF ahG BR XF XG KX FX XE agA agB agC agD agE agF vG XI agI agJ map_eq XJ agK agL agM BS FY agG agH agU agW agX agY agZ Rq aau agV Rk Rm Rn agP agQ agR agS agT Ro Rp XL Option.bind_some Option.map_some Option.getD_some oh ofValue ji if_true if_false ag4 ag5 ag7 ag9 ahj ahb ahd ahf ahh ag6 ag8 aha ahc ahe ahg ahi ahk XM ahl ahm ahn aho ahp ahq ahr ahs aht and_self and_true true_and
end Aq
end
section
namespace Aq
open Go
def uy:Code->List Nat->Option Code
 |c,[]=>some c
 |.seq a b,i::l=>if i=0 then uy a l else uy b l
 |.cond _ a b,i::l=>if i=0 then uy a l else uy b l
 |.block _ a,_::l=>uy a l
 |.loop a,_::l=>uy a l
 |.scope a,_::l=>uy a l
 |.rangeFunc _ _ a b,i::l=>if i=0 then uy a l else uy b l
 |_,_=>none
def aT (b:Option Code) (l:List Nat):Option Code:=b.bind fun c=>uy c l
section
variable {E:Env} {fr:Fr} {σ:ah}
def vH (E:Env) (c:Code) (fr:Fr) (σ:ah) (Q:Ex->Fr->ah->Prop):Prop:=CW E (.loop c) fr σ Q
theorem Is.e {α:Type} {a b:α} (h:Is a b):a=b:=h
theorem CW.lp {c:Code} {Q:Ex->Fr->ah->Prop} (h:vH E c fr σ Q):CW E (.loop c) fr σ Q:=h
theorem vH.in {b:Option Code} {p:List Nat} {c:Code} {Q:Ex->Fr->ah->Prop} (hs:aT b p=some c) (h:CW E c fr σ (xB E c Q)):vH E ((aT b p).getD .skip) fr σ Q:=by
 rw[hs];exact CW.loop h
theorem vH.ih {c:Code} {Q:Ex->Fr->ah->Prop} (h:vH E c fr σ Q):vH E c fr σ Q:=h
def F4:Code->Nat
 |.region i _ _=>i
 |.seq a _=>F4 a
 |.loop a=>F4 a
 |.scope a=>F4 a
 |.block _ a=>F4 a
 |_=>0
theorem vH.at (k:Nat) {c:Code} {Q:Ex->Fr->ah->Prop} (_h:Is (F4 c) k) (h:vH E c fr σ Q):vH E c fr σ Q:=h
theorem ahH {n:Nat} (c:Cap):aQ (n+2) σ (.aj c [])=some (.aj .sh []):=xD (α:=V) (f:=fun x=>.int .i64 0) c [] (fun _=>by simp[aF])
theorem XP {n:Nat} (cs:List V):aQ (n+2) σ (.agg cs)=(cs.mapM (aQ (n+1) σ)).map .agg:=by
 by_cases hp:aF (.agg cs)=true
 ·rw[jV hp]
  have:∀cs:List V,aX cs=true->cs.mapM (aQ (n+1) σ)=some cs:=by
   intro cs
   induction cs with
   |nil=>intro _;rfl
   |cons a l ih=>
    intro h
    simp only[aX,aan] at h
    rw[adi,jV h.1,ih h.2];rfl
  rw[this cs (by simpa [aF] using hp)];rfl
 ·conv=>lhs;unfold aQ
  simp only[hp,if_false,aap]
theorem Rt {n:Nat} (cs:List V):aQ (n+2) σ (.bE cs)=(cs.mapM (aQ (n+1) σ)).map .bE:=by
 by_cases hp:aF (.bE cs)=true
 ·rw[jV hp]
  have:∀cs:List V,aX cs=true->cs.mapM (aQ (n+1) σ)=some cs:=by
   intro cs
   induction cs with
   |nil=>intro _;rfl
   |cons a l ih=>
    intro h
    simp only[aX,aan] at h
    rw[adi,jV h.1,ih h.2];rfl
  rw[this cs (by simpa [aF] using hp)];rfl
 ·conv=>lhs;unfold aQ
  simp only[hp,if_false,aap]
def KY (sz:Nat) (σ:ah) (c:Cap) (n:Nat):Prop:=c= .nil\/∃s,c= .own sz s/\σ.top s=n/\s<σ.next
theorem KY.n {sz n:Nat}:KY sz σ .nil n:=.inl rfl
theorem KY.o {sz s n:Nat} (h1:Is (σ.top s) n) (h2:s<σ.next):KY sz σ (.own sz s) n:=.inr ⟨s,rfl,h1,h2⟩
theorem own_ne {s n k:Nat} (h:s<n):(s==n+k)=false:=by simp;omega
theorem ahI {s n k:Nat} (h:s<n):(n+k==s)=false:=by simp;omega
theorem ahJ {s n:Nat} (h:s<n):(s==n)=false:=by simp;omega
theorem ahK {s n:Nat} (h:s<n):(n==s)=false:=by simp;omega
theorem ahL (σ:ah) {s t:Nat} (n:Nat) (h:(t==s)=false):(σ.bU s n).top t=σ.top t:=FY σ n (by simpa using h)
end
def BU (P:Program) (σ:ah) (st:Nat) (t u:TypeId) (x y:V):Option (V×ah):=
 match P.underlying u with
 |some (.int _)=>jB P false true σ st none t x y
 |some (.slice _)|some .string=>jB P false false σ st none t x y
 |_=>none
theorem ahM {P:Program} {z:Bool} {σ:ah} {st:Nat} {loc:Option Loc} {t:TypeId} {c:Cap} {l:List V} {y:V}:jB P false z σ st loc t (.aj c l) y=jB P false z σ st none t (.aj c l) y:=by
 unfold jB
 cases kU P t with
 |none=>rfl
 |some e=>cases c<;>rfl
section
variable {E:Env} {S:jI} {fr:Fr} {σ:ah} {st:Nat} {d:Option Tmp} {ty:TypeId} {pos:String} {dF:Array Edge} {gd:Option (Nat×Bool)}
theorem XQ {t u:TypeId} {x y:Operand} {c:Cap} {l:List V} (ho:fr.om=false) (hx:fr.ev E x= .aj c l):opC E S fr σ st ⟨d,.call ⟨.builtin .append, #[x,y], #[t,u]⟩,ty,pos,dF,gd⟩=(BU E.P σ st t u (.aj c l) (fr.ev E y)).map fun p=>(p.1,fr,p.2):=by
 show Option.map _ ((((#[t,u]:Array TypeId)[0]?).bind fun t=>(((#[t,u]:Array TypeId)[1]?).bind E.P.underlying).bind fun u=>match u with
  |.int _=>jB E.P fr.om true σ st (d.map fun t=>(fr.d,t)) t (fr.ev E x) (fr.ev E y)
  |.slice _|.string=>jB E.P fr.om false σ st (d.map fun t=>(fr.d,t)) t (fr.ev E x) (fr.ev E y)
  |_=>none))=_
 show Option.map _ ((E.P.underlying u).bind _)=_
 rw[ho,hx]
 unfold BU
 cases E.P.underlying u with
 |none=>rfl
 |some u=>
  cases u<;>try rfl
  all_goals (simp only[Option.bind_some];rw[ahM];first|rfl| (generalize jB _ _ _ _ _ _ _ _ _=o;cases o<;>rfl))
end
def BX (P:Program) (t u:TypeId) (sz dZ:Nat) (z:V):Prop:=∃e ag,kU P t=some e/\cO P e=some sz/\tZ P e=some dZ/\jl P e=some ag/\jA P e=some z/\z.cells.length=sz/\0<sz/\(ag||sz==1)=true/\sZ P u=true
theorem BX.mk {P:Program} {t u:TypeId} {sz dZ:Nat} {z:V} (e:TypeId) (ag:Bool) (h1:kU P t=some e) (h2:cO P e=some sz) (h3:tZ P e=some dZ) (h4:jl P e=some ag) (h5:jA P e=some z)
 (h6:z.cells.length=sz) (h7:0<sz) (h8:(ag||sz==1)=true) (h9:sZ P u=true):BX P t u sz dZ z:=⟨e,ag,h1,h2,h3,h4,h5,h6,h7,h8,h9⟩
def vI (sz:Nat) (l:List V):Bool:=l.all fun v=>v.cells.length==sz&& bC v.cells
theorem XR {sz:Nat} {l:List V} (h:vI sz l=true):mD sz l=true:=by
 cases l with
 |nil=>rfl
 |cons a l=>simp[vI] at h;simp[mD,h.1.1]
theorem ahN {sz:Nat} {l:List V} (h:vI sz l=true):l.all (fun v=>bC v.cells)=true:=by
 simp[vI] at h;simpa using fun x hx=>(h x hx).2
theorem ahO {P:Program} {σ:ah} {st t u sz dZ:Nat} {z:V} {x:V} {c2:Cap} {ys:List V} (ha:BX P t u sz dZ z) (hy:vI sz ys=true):
 BU P σ st t u x (.aj c2 ys)=match x with
 |.aj c l=>if bJ (l.length+ys.length) dZ=true/\mD sz l=true then
  match c with
  |.own n s=>if n=sz/\σ.top s=l.length then some (.aj (.own n s) (l++ys),σ.bU s (l.length+ys.length)) else none
  |.nil|.full=>some (.aj (.own sz st) (l++ys),σ.bU st (l.length+ys.length))
  |_=>none
  else none
 |_=>BU P σ st t u x (.aj c2 ys):=by
 obtain⟨e,ag,h1,h2,h3,h4,h5,h6,h7,h8,h9⟩:=ha
 cases x<;>try rfl
 rename_i c l
 unfold sZ at h9
 split at h9
 ·rename_i e' he
  simp only[BU,he,jB,h1,h2,h3,h4,h5,Option.bind_some,uh,true_and,if_pos (show z.cells.length=sz/\0<sz/\(ag||sz==1)=true from ⟨h6,h7,h8⟩),kP,XR hy,if_true,ahN hy]
  cases c<;>rfl
 ·simp at h9
theorem ahP {P:Program} {σ:ah} {st t u sz dZ:Nat} {z:V} {l:List V} {c2:Cap} {ys:List V} (ha:BX P t u sz dZ z) (hy:vI sz ys=true) (hl:vI sz l=true)
 (hr:bJ (l.length+ys.length) dZ=true):BU P σ st t u (.aj .full l) (.aj c2 ys)=some (.aj (.own sz st) (l++ys),σ.bU st (l.length+ys.length)):=by
 rw[ahO ha hy];simp only[hr,XR hl,and_self,if_true]
def XT (E:Env) (t:TypeId) (ps:List (Nat×V)):Option (List V):=(Bh E t).bind fun pl=>(jA E.P t).bind fun z=>o7 pl z.cells ps
section
variable {E:Env} {S:jI} {fr:Fr} {σ:ah} {st:Nat} {d:Option Tmp} {ty:TypeId} {pos:String} {dF:Array Edge} {gd:Option (Nat×Bool)}
theorem ahQ (t:TypeId) (l:List (Nat×Operand)):opC E S fr σ st ⟨d,.build t l.toArray,ty,pos,dF,gd⟩=(XT E t (l.map fun p=>(p.1,fr.ev E p.2))).map fun cs=>(.agg cs,fr,σ):=by
 simp only[opC,bg,XT]
 cases Bh E t with
 |none=>rfl
 |some pl=>
  simp only[Option.bind_some]
  cases jA E.P t with
  |none=>rfl
  |some z=>
   simp only[Option.bind_some]
   cases o7 pl z.cells (l.map fun p=>(p.1,fr.ev E p.2))<;>rfl
theorem XU (t:TypeId) (n:Nat) (l:List (Nat×Operand)):opC E S fr σ st ⟨d,.buildSlice t n l.toArray,ty,pos,dF,gd⟩=(vC E t n (l.map fun p=>(p.1,fr.ev E p.2))).map fun v=>(v,fr,σ):=by
 simp only[opC,bg]
 cases vC E t n (l.map fun p=>(p.1,fr.ev E p.2))<;>rfl
end
section
variable {E:Env} {S:jI} {fr:Fr} {σ:ah} {st:Nat} {d:Option Tmp} {ty:TypeId} {pos:String} {dF:Array Edge} {gd:Option (Nat×Bool)}
theorem ahR (t:TypeId) (x i:Operand):opC E S fr σ st ⟨d,.index t x i,ty,pos,dF,gd⟩=(vo E.P t (fr.ev E x) (fr.ev E i)).map fun v=>(v,fr,σ):=by
 simp only[opC,bg];cases vo E.P t (fr.ev E x) (fr.ev E i)<;>rfl
theorem XV {P:Program} {t:TypeId} {s:List UInt8} {k:IntKind} {i:Int} (h:F3 P t=true):vo P t (.str s) (.int k i)=(aB s i).map fun b=>.int .u8 (b.toNat:Nat):=by
 unfold F3 at h;unfold vo
 split at h
 ·rename_i he
  rw[he]
  simp only[idx,mq,Option.bind_some,aB]
  split
  ·simp only[Option.bind_some];rfl
  ·rfl
 ·simp at h
def imax (a b:Int):Int:=if b>a then b else a
def rM (a b:Int):Int:=if b<a then b else a
theorem ahS (x y:Operand) (tys:List TypeId):opC E S fr σ st ⟨d,.call ⟨.builtin .max, #[x,y],tys.toArray⟩,ty,pos,dF,gd⟩=(kX true (fr.ev E x) [fr.ev E y]).map fun v=>(v,fr,σ):=by
 show Option.map _ ((kX true (fr.ev E x) [fr.ev E y]).map fun v=>(v,σ))=_
 cases kX true (fr.ev E x) [fr.ev E y]<;>rfl
theorem ahT (x y:Operand) (tys:List TypeId):opC E S fr σ st ⟨d,.call ⟨.builtin .min, #[x,y],tys.toArray⟩,ty,pos,dF,gd⟩=(kX false (fr.ev E x) [fr.ev E y]).map fun v=>(v,fr,σ):=by
 show Option.map _ ((kX false (fr.ev E x) [fr.ev E y]).map fun v=>(v,σ))=_
 cases kX false (fr.ev E x) [fr.ev E y]<;>rfl
theorem ahU (k:IntKind) (a b:Int):kX true (.int k a) [.int k b]=some (.int k (imax a b)):=by simp[kX,imax]
theorem ahV (k:IntKind) (a b:Int):kX false (.int k a) [.int k b]=some (.int k (rM a b)):=by simp[kX,rM]
end
theorem len1 (v:V):[v].length=1:=rfl
attribute [go_sem] ahR XV ahS ahT ahU ahV own_ne ahI ahJ ahK ahH XP Rt ahQ XU ac7 List.map_nil len1 ahL XQ xD implies_true eq_self
theorem ahW:aX []=true:=by simp only[aX]
theorem ahX (v:V) (l:List V):aX (v::l)=(aF v&& aX l):=by simp only[aX]
attribute [go_sem] ahW ahX
end Aq
end
section
namespace Aq
open Go
inductive Ty where
 |int (k:IntKind)
 |bool
 |str
 |slice (t:Ty)
 |st (n:Nat)
 deriving DecidableEq
inductive Cp where
 |any
 |sh
 |nil
 |full
 |own (t:Nat)
structure Vec (n:Nat) where
 l:List Int
 h:l.length=n
def Vec.at' {n:Nat} (v:Vec n) (i:Int):Int:=v.l.getD i.toNat 0
def Vec.nth {n:Nat} (v:Vec n) (j:Nat):Int:=v.l.getD j 0
def Vec.set {n:Nat} (v:Vec n) (i y:Int):Vec n:=⟨v.l.set i.toNat y,by rw[List.length_set,v.h]⟩
def Vec.rep (n:Nat) (y:Int):Vec n:=⟨List.replicate n y,List.length_replicate⟩
def Vec.lit (n:Nat) (l:List Int):Vec n:=if h:l.length=n then ⟨l,h⟩ else Vec.rep n 0
def Vec.slc {n:Nat} (v:Vec n) (i:Int) (m:Nat):Vec m:=Vec.lit m ((v.l.drop i.toNat).take m)
def Vec.rO {n:Nat} (v:Vec n) (lo:Int) (l:List Int):Vec n:=Vec.lit n (v.l.take lo.toNat++l++v.l.drop (lo.toNat+l.length))
inductive jo where
 |i (k:IntKind)
 |a (k:IntKind) (n:Nat)
inductive Sg where
 |i (k:IntKind) (x:Int)
 |a (k:IntKind) (n:Nat) (v:Vec n)
def Sg.w:Sg->Nat
 |.i _ _=>1
 |.a _ n _=>n
def Sg.vs:Sg->List V
 |.i k x=>[.int k x]
 |.a k _ v=>v.l.map (V.int k)
def bN:List Sg->List V
 | []=>[]
 |s::l=>s.vs++bN l
def je:List Sg->Nat
 | []=>0
 |s::l=>s.w+je l
def BZ:jo->Type
 |.i _=>Int
 |.a _ n=>Vec n
def zw:List jo->Type
 | []=>Unit
 | [k]=>BZ k
 |k::h::l=>BZ k×zw (h::l)
def F5:(k:jo)->BZ k->Sg
 |.i k,x=>.i k x
 |.a k n,x=>.a k n x
def tq:(l:List jo)->zw l->List Sg
 | [],_=>[]
 | [k],x=>[F5 k x]
 |k::h::l,p=>F5 k p.1::tq (h::l) p.2
def KZ {n m:Nat} (v:Vec n):Option (Vec m):=if h:n=m then some (h▸v) else none
def Ca:(k:jo)->Sg->Option (BZ k)
 |.i k,.i k' x=>if k'=k then some x else none
 |.a k n,.a k' _ v=>if k'=k then KZ (m:=n) v else none
 |_,_=>none
def vJ:(l:List jo)->List Sg->Option (zw l)
 | []=>fun vs=>match vs with
   | []=>some ()
   |_::_=>none
 | [k]=>fun vs=>match vs with
   | [v]=>Ca k v
   |_=>none
 |k::h::l=>fun vs=>match vs with
  | []=>none
  |v::vs=>match Ca k v with
   |some x=>match vJ (h::l) vs with
    |some p=>some (x,p)
    |none=>none
   |none=>none
section
variable (T:Nat->Type)
def Den:Ty->Type
 |.int _=>Int
 |.bool=>Bool
 |.str=>List UInt8
 |.slice t=>List (Den t)
 |.st n=>T n
def mI:List Ty->Type
 | []=>Unit
 | [t]=>Den T t
 |t::u::l=>Den T t×mI (u::l)
inductive TV where
 |int (k:IntKind) (n:Int)
 |bool (b:Bool)
 |gQ (b:Bool)
 |str (s:List UInt8)
 |fJ
 |fF
 |eZ
 |gH
 |dX
 |agg (cs:List TV)
 |bE (cs:List TV)
 |aj (c:Cp) (t:Ty) (l:List (Den T t))
 |ref (o off:Nat)
 |aK (cs:List TV) (off:Nat)
 |bP (o:Nat)
 |dG (k e:Ty) (m:List (Den T k×Den T e))
 |fn (f:Nat) (a b:List TV)
 |opt (j:Nat) (w:Bool) (v:TV)
 |vw (o:Nat) (t:Ty)
 |jW (o:Nat) (t:Ty) (i:Int) (off:Nat)
 |sg (ss:List Sg)
 |sv (o off:Nat) (k:IntKind) (n:Nat) (lo hi:Option Int)
 |sel (o off:Nat) (k:IntKind) (n:Nat) (i:Int) (m:Nat)
 |qK (k:IntKind) (n:Nat) (v:Vec n) (i:Int)
 |undef
 |gone
inductive Ob where
 |cells (cs:List (TV T))
 |map (k e:Ty) (m:List (Den T k×Den T e))
 |smap (ks vs:List (TV T))
 |arr (t:Ty) (l:List (Den T t))
 |sg (ss:List Sg)
 |gone
 |ro (b:Ob)
structure MS where
 fr:List (Nat×TV T)
 ob:List (Nat×Ob T)
inductive Sk where
 |d (t:Ty)
 |l (c:Cp) (t:Ty)
 |agg (l:List Sk)
 |ref (o off:Nat)
 |aK (l:List Sk) (off:Nat)
 |bP (o:Nat)
 |dG (k e:Ty)
 |fn (f:Nat) (a b:List Sk)
 |dX
 |vw (o:Nat) (t:Ty)
 |sg (l:List jo)
 |undef
mutual
def qL:Sk->Type
 |.d t=>Den T t
 |.l _ t=>List (Den T t)
 |.agg l=>aA l
 |.ref _ _=>Unit
 |.aK l _=>aA l
 |.bP _=>Unit
 |.dG k e=>List (Den T k×Den T e)
 |.fn _ a b=>aA a×aA b
 |.dX=>Unit
 |.vw _ _=>Unit
 |.sg l=>zw l
 |.undef=>Unit
def aA:List Sk->Type
 | []=>Unit
 | [k]=>qL k
 |k::h::l=>qL k×aA (h::l)
end
inductive gU where
 |cells (l:List Sk)
 |st (n:Nat)
 |map (k e:Ty)
 |arr (t:Ty)
 |sg (l:List jo)
def xE:gU->Type
 |.cells l=>aA T l
 |.st n=>T n
 |.map k e=>List (Den T k×Den T e)
 |.arr t=>List (Den T t)
 |.sg l=>zw l
def gy:List (Nat×gU)->Type
 | []=>Unit
 | [(_,k)]=>xE T k
 | (_,k)::h::l=>xE T k×gy (h::l)
def zx:List (Nat×Sk)->Type
 | []=>Unit
 | [(_,k)]=>qL T k
 | (_,k)::h::l=>qL T k×zx (h::l)
structure Shape where
 sl:List (Nat×Sk)
 ob:List (Nat×gU)
def pI:Shape->Type
 | ⟨s,[]⟩=>zx T s
 | ⟨s,o::os⟩=>zx T s×gy T (o::os)
def Out:List (Ex×Shape)->Type
 | []=>Empty
 | [(_,s)]=>pI T s
 | (_,s)::h::l=>pI T s⊕Out (h::l)
end
structure iH where
 T:Nat->Type
 d:(n:Nat)->T n
 lf:Nat->List Ty
 to:(n:Nat)->mI T (lf n)->T n
 of:(n:Nat)->T n->mI T (lf n)
 enc:(n:Nat)->T n->V
 ty:TypeId->Option Ty
 gl:Nat->Option ((k:IntKind)×(n:Nat)×Vec n)
structure FR (R:iH) where
 args:List Sk
 res:List Sk
 F:aA R.T args->Option (aA R.T res)
 d:aA R.T res
 own:Bool:=false
structure FI (R:iH) where
 a:List Sk
 b:List Sk
 el:List Sk
 F:aA R.T a->aA R.T b->Option (List (aA R.T el))
def F0:Nat:=1000000
structure FM (R:iH) where
 args:List Sk
 obs:List (Nat×gU)
 res:List Sk
 F:aA R.T args->gy R.T obs->Option (aA R.T res×gy R.T obs)
structure IR (R:iH) where
 it:Nat->List (FI R)
 im:Nat->List (FM R)
structure Note where
 K:List Nat
 O:List Nat
 sh:Shape
 outs:List (Ex×Shape)
structure bR where
 loops:List (Nat×Note)
 joins:List (Nat×Note)
def look {α:Type}:List (Nat×α)->Nat->Option α
 | [],_=>none
 | (j,x)::l,i=>bif Nat.beq j i then some x else look l i
section
variable (R:iH)
def aG:(t:Ty)->Den R.T t->V
 |.int k=>fun n=>.int k n
 |.bool=>fun b=>.bool b
 |.str=>fun s=>.str s
 |.slice t=>fun l=>.aj .sh (l.map (aG t))
 |.st n=>fun x=>R.enc n x
def encs:(l:List Ty)->mI R.T l->List V
 | [],_=>[]
 | [t],x=>[aG R t x]
 |t::u::l,p=>aG R t p.1::encs (u::l) p.2
def dx:Ty->Nat
 |.st n=>(R.lf n).length
 |_=>1
def Cb:(t:Ty)->Den R.T t
 |.int _=>(0:Int)
 |.bool=>false
 |.str=>([]:List UInt8)
 |.slice t=>([]:List (Den R.T t))
 |.st n=>R.d n
def vK (c:Cp):(t:Ty)->Den R.T t->TV R.T
 |.int k=>fun n=>.int k n
 |.bool=>fun b=>.bool b
 |.str=>fun s=>.str s
 |.slice t=>fun l=>.aj c t l
 |.st _=>fun _=>.undef
def jf (c:Cp):(l:List Ty)->mI R.T l->List (TV R.T)
 | [],_=>[]
 | [t],x=>[vK R c t x]
 |t::u::l,p=>vK R c t p.1::jf c (u::l) p.2
def fG (c:Cp):(t:Ty)->Den R.T t->TV R.T
 |.st n=>fun x=>.agg (jf R c (R.lf n) (R.of n x))
 |.int k=>fun n=>.int k n
 |.bool=>fun b=>.bool b
 |.str=>fun s=>.str s
 |.slice t=>fun l=>.aj c t l
def pJ {t u:Ty} (l:List (Den R.T t)):Option (List (Den R.T u)):=if h:t=u then some (h▸l) else none
def K4 (k:IntKind):TV R.T->Option Int
 |.int k' n=>if k=k' then some n else none
 |_=>none
def K5:TV R.T->Option Bool
 |.bool b=>some b
 |.gQ b=>some b
 |_=>none
def K6:TV R.T->Option (List UInt8)
 |.str s=>some s
 |_=>none
def zy (t:Ty):TV R.T->Option (List (Den R.T t))
 |.aj _ _ l=>pJ R l
 |.dX=>some []
 |_=>none
def pK:(t:Ty)->TV R.T->Option (Den R.T t)
 |.int k=>fun v=>K4 R k v
 |.bool=>fun v=>K5 R v
 |.str=>fun v=>K6 R v
 |.slice t=>fun v=>zy R t v
 |.st _=>fun _=>none
def hd1:List (TV R.T)->TV R.T
 | [v]=>v
 |_=>.gone
def xG:(l:List Ty)->List (TV R.T)->Option (mI R.T l)
 | []=>fun vs=>match vs with
   | []=>some ()
   |_::_=>none
 | [t]=>fun vs=>pK R t (hd1 R vs)
 |t::u::l=>fun vs=>match vs with
  | []=>none
  |v::vs=>match pK R t v with
   |some x=>match xG (u::l) vs with
    |some p=>some (x,p)
    |none=>none
   |none=>none
def zA (n:Nat):TV R.T->Option (R.T n)
 |.agg cs=>match xG R (R.lf n) cs with
  |some p=>some (R.to n p)
  |none=>none
 |_=>none
def oD:(t:Ty)->TV R.T->Option (Den R.T t)
 |.st n=>fun v=>zA R n v
 |.int k=>fun v=>K4 R k v
 |.bool=>fun v=>K5 R v
 |.str=>fun v=>K6 R v
 |.slice t=>fun v=>zy R t v
def TV.cells {T:Nat->Type}:TV T->List (TV T)
 |.agg cs=>cs
 |v=>[v]
mutual
def lG {T:Nat->Type} (o:Nat):TV T->Bool
 |.ref p _=>Nat.beq p o
 |.bP p=>Nat.beq p o
 |.agg cs=>mJ o cs
 |.bE cs=>mJ o cs
 |.aK cs _=>mJ o cs
 |.fn _ a b=>mJ o a||mJ o b
 |.opt _ _ v=>lG o v
 |.vw p _=>Nat.beq p o
 |.jW p _ _ _=>Nat.beq p o
 |.sv p _ _ _ _ _=>Nat.beq p o
 |.sel p _ _ _ _ _=>Nat.beq p o
 |_=>false
def mJ {T:Nat->Type} (o:Nat):List (TV T)->Bool
 | []=>false
 |v::l=>lG o v||mJ o l
end
def Ob.lG {T:Nat->Type} (o:Nat):Ob T->Bool
 |.cells cs=>mJ o cs
 |.smap ks vs=>mJ o ks||mJ o vs
 |.ro b=>Ob.lG o b
 |_=>false
mutual
def wk {T:Nat->Type} (t:Nat):TV T->TV T
 |.aj (.own u) ty l=>bif Nat.beq u t then .aj .any ty l else .aj (.own u) ty l
 |.agg cs=>.agg (uz t cs)
 |.bE cs=>.bE (uz t cs)
 |.aK cs off=>.aK (uz t cs) off
 |.fn f a b=>.fn f (uz t a) (uz t b)
 |.opt j w v=>.opt j w (wk t v)
 |v=>v
def uz {T:Nat->Type} (t:Nat):List (TV T)->List (TV T)
 | []=>[]
 |v::l=>wk t v::uz t l
end
def Ob.wk {T:Nat->Type} (t:Nat):Ob T->Ob T
 |.cells cs=>.cells (uz t cs)
 |.smap ks vs=>.smap (uz t ks) (uz t vs)
 |.ro b=>.ro (Ob.wk t b)
 |o=>o
def lH {α:Type} (f:α->α):List (Nat×α)->List (Nat×α)
 | []=>[]
 | (i,x)::l=>(i,f x)::lH f l
def iy {α:Type} (i:Nat):List (Nat×α)->List (Nat×α)
 | []=>[]
 | (j,x)::l=>bif Nat.beq j i then iy i l else (j,x)::iy i l
def MS.wk {T:Nat->Type} (t:Nat) (st:MS T):MS T:=⟨lH (Aq.wk t) st.fr,lH (Ob.wk t) st.ob⟩
def Ru {T:Nat->Type} (j:Nat):TV T->TV T
 |.opt i w v=>bif Nat.beq i j then .gone else .opt i w v
 |v=>v
def MS.put {T:Nat->Type} (st:MS T) (i:Nat) (v:TV T):MS T:={st with fr:=(i,v)::lH (Ru i) (iy i st.fr)}
def MS.fA {T:Nat->Type} (st:MS T) (d:Option Nat) (v:TV T):MS T:=match d with
 |some i=>st.put i v
 |none=>st
def Rv {T:Nat->Type} (j:Nat) (b:Bool):TV T->TV T
 |.opt i w v=>bif Nat.beq i j then (bif (b==w) then v else .undef) else .opt i w v
 |v=>v
def MS.learn {T:Nat->Type} (st:MS T) (j:Nat) (b:Bool):MS T:={st with fr:=(j,.gQ b)::lH (Rv j b) (iy j st.fr)}
def MS.Cc {T:Nat->Type} (st:MS T) (c:Operand) (b:Bool):MS T:=match c with
 |.tmp j=>st.learn j b
 |_=>st
def F6 {T:Nat->Type} (o:Nat) (v:TV T):TV T:=bif lG o v then .gone else v
def Ob.kill {T:Nat->Type} (o:Nat) (v:Ob T):Ob T:=bif Ob.lG o v then .gone else v
def MS.new {T:Nat->Type} (st:MS T) (o:Nat) (b:Ob T):MS T:=⟨lH (F6 o) st.fr,(o,b)::lH (Ob.kill o) (iy o st.ob)⟩
def MS.set {T:Nat->Type} (st:MS T) (o:Nat) (b:Ob T):MS T:={st with ob:=(o,b)::iy o st.ob}
def MS.del {T:Nat->Type} (st:MS T) (o:Nat):MS T:={st with ob:=iy o st.ob}
def Rw {T:Nat->Type}:Ob T->Ob T
 |.ro b=>Rw b
 |b=>b
def mK {T:Nat->Type} (st:MS T) (o:Nat):Option (Ob T):=match look st.ob o with
 |some b=>some (Rw b)
 |none=>none
def oF {T:Nat->Type}:Ob T->Bool
 |.ro _=>true
 |.gone=>true
 |_=>false
def aR (i:Nat):List Nat->Bool
 | []=>false
 |j::l=>Nat.beq i j||aR i l
mutual
def solid {T:Nat->Type} (W:List Nat):TV T->Bool
 |.aj (.own _) _ _=>false
 |.ref o _=> !(aR o W)
 |.bP o=> !(aR o W)
 |.agg cs=>qM W cs
 |.bE cs=>qM W cs
 |.aK cs _=>qM W cs
 |.fn _ a b=>qM W a&& qM W b
 |.opt _ _ _=>false
 |.vw o _=> !(aR o W)
 |.jW o _ _ _=> !(aR o W)
 |.sv o _ _ _ _ _=> !(aR o W)
 |.sel o _ _ _ _ _=> !(aR o W)
 |.gone=>false
 |_=>true
def qM {T:Nat->Type} (W:List Nat):List (TV T)->Bool
 | []=>true
 |v::l=>solid W v&& qM W l
end
def mM {T:Nat->Type} (W:List Nat):Ob T->Bool
 |.cells cs=>qM W cs
 |.map _ _ _=>true
 |.smap ks vs=>qM W ks&& qM W vs
 |.arr _ _=>true
 |.sg _=>true
 |.ro b=>mM W b
 |.gone=>false
def mZ {α:Type} (p:Nat->α->Bool) (f:α->α) (l:List (Nat×α)):List Nat->List (Nat×α)
 | []=>[]
 |i::is=>match look l i with
  |some x=>bif p i x then (i,f x)::mZ p f l is else mZ p f l is
  |none=>mZ p f l is
def Rx {T:Nat->Type}:TV T->TV T
 |.aj (.own _) t l=>.aj .any t l
 |v=>v
def base {T:Nat->Type} (W K O:List Nat) (mark:Ob T->Ob T) (st:MS T):MS T:=
 ⟨mZ (fun i v=> !(aR i W)&& solid W (Rx v)) Rx st.fr K,mZ (fun o b=> !(aR o W)&& mM W b) mark st.ob O⟩
def MS.over {T:Nat->Type} (st b:MS T):MS T:=⟨st.fr++b.fr,st.ob++b.ob⟩
def zB {T:Nat->Type}:Value->Option (TV T)
 |.bool b=>some (.gQ b)
 |.int k n=>some (.int k n)
 |.string s=>some (.str s.data.toList)
 |.pointer none=>some .fJ
 |.slice none 0 0=>some .dX
 |.map none=>some .eZ
 |.nilFunc=>some .fF
 |.nilIface=>some .gH
 |_=>none
def Ce {T:Nat->Type}:List Value->Option (List (TV T))
 | []=>some []
 |v::l=>match zB v with
  |some x=>match Ce l with
   |some y=>some (x::y)
   |none=>none
  |none=>none
def Cg {T:Nat->Type}:Value->Option (TV T)
 |.agg cs=>match Ce cs.toList with
  |some l=>some (.agg l)
  |none=>none
 |v=>zB v
def K7 {T:Nat->Type} (g:List (Nat×Bool)):TV T->Option (TV T)
 |.opt j w v=>match look g j with
  |some u=>some (bif u==w then v else .undef)
  |none=>none
 |v=>some v
def bB {T:Nat->Type} (g:List (Nat×Bool)) (st:MS T):Operand->Option (TV T)
 |.tmp t=>match look st.fr t with
  |some v=>K7 g v
  |none=>none
 |.const v=>Cg v
 |.func f=>some (.fn f [] [])
 |.global _=>none
def ng {T:Nat->Type} (g:List (Nat×Bool)) (st:MS T):List Operand->Option (List (TV T))
 | []=>some []
 |x::l=>match bB g st x with
  |some v=>match ng g st l with
   |some vs=>some (v::vs)
   |none=>none
  |none=>none
def Ch {T:Nat->Type} (g:List (Nat×Bool)) (st:MS T):List (Nat×Operand)->Option (List (Nat×TV T))
 | []=>some []
 | (i,x)::l=>match bB g st x with
   |some v=>match Ch g st l with
    |some vs=>some ((i,v)::vs)
    |none=>none
   |none=>none
def oG:List Sg->Nat->Option (List Sg×List Sg)
 |ss,0=>some ([],ss)
 | [],_+1=>none
 |s::ss,n+1=>bif Nat.ble s.w (n+1) then (match oG ss (n+1-s.w) with
  |some (a,b)=>some (s::a,b)
  |none=>none) else none
def xH {T:Nat->Type} (k:IntKind):List (TV T)->Option (List Int)
 | []=>some []
 |.int k' x::l=>if k'=k then (match xH k l with
  |some xs=>some (x::xs)
  |none=>none) else none
 |_=>none
def Ci {α:Type} (l:List α):Option Int->Option Int->List α
 |none,none=>l
 |some i,none=>l.drop i.toNat
 |none,some j=>l.take j.toNat
 |some i,some j=>(l.take j.toNat).drop i.toNat
def K8 {T:Nat->Type} (st:MS T) (o off:Nat) (k:IntKind) (n:Nat) (lo hi:Option Int):Option (List Int):=
 match mK st o with
 |some (.sg ss)=>match oG ss off with
  |some (_,.a k' n' v::_)=>if k'=k then (bif Nat.beq n' n then some (Ci v.l lo hi) else none) else none
  |_=>none
 |some (.cells cs)=>bif Nat.ble (off+n) cs.length then (match xH k ((cs.drop off).take n) with
  |some l=>some (Ci l lo hi)
  |none=>none) else none
 |_=>none
def uD {T:Nat->Type} (st:MS T):TV T->TV T
 |.ref o off=>match mK st o with
  |some (.cells cs)=>.aK cs off
  |_=>.ref o off
 |.bP o=>match mK st o with
  |some (.map k e m)=>.dG k e m
  |_=>.bP o
 |.vw o t=>match mK st o with
  |some (.arr t' l)=>if t'=t then .aj .sh t' l else .vw o t
  |_=>.vw o t
 |.sv o off k n lo hi=>match K8 st o off k n lo hi with
  |some l=>.aj .sh (.int k) l
  |none=>.sv o off k n lo hi
 |v=>v
def F7 {T:Nat->Type} (st:MS T):List (TV T)->List (TV T)
 | []=>[]
 |v::l=>uD st v::F7 st l
def zC {T:Nat->Type} (st:MS T):TV T->TV T
 |.fn f a b=>.fn f (F7 st a) (F7 st b)
 |.agg cs=>.agg (F7 st cs)
 |v=>uD st v
def nQ {T:Nat->Type} (st:MS T):List (TV T)->List (TV T)
 | []=>[]
 |v::l=>zC st v::nQ st l
def Ry {T:Nat->Type}:TV T->Bool
 |.agg _=>false
 |.sg _=>false
 |.bE _=>false
 |.gone=>false
 |.undef=>false
 |.opt _ _ _=>false
 |_=>true
def xI {T:Nat->Type}:List (TV T)->Bool
 | []=>true
 |v::l=>Ry v&& xI l
def xJ {T:Nat->Type}:TV T->Bool
 |.gone=>false
 |.sg _=>false
 |.opt _ _ _=>false
 |_=>true
mutual
def kD {T:Nat->Type}:TV T->Bool
 |.int _ _=>true
 |.bool _=>true
 |.gQ _=>true
 |.str _=>true
 |.fJ=>true
 |.fF=>true
 |.eZ=>true
 |.gH=>true
 |.aj .sh _ _=>true
 |.agg cs=>pO cs
 |.bE cs=>pO cs
 |.dG _ _ _=>true
 |.aK cs _=>pO cs
 |.fn _ a b=>pO a&& pO b
 |.sg _=>true
 |_=>false
def pO {T:Nat->Type}:List (TV T)->Bool
 | []=>true
 |v::l=>kD v&& pO l
end
def F8 {T:Nat->Type}:TV T->Bool
 |.aj _ _ _=>true
 |.dX=>true
 |v=>kD v
def K9 {T:Nat->Type}:List (TV T)->Bool
 | []=>true
 |v::l=>F8 v&& K9 l
def XW {T:Nat->Type}:TV T->Bool
 |.agg cs=>K9 cs
 |v=>F8 v
def xK {T:Nat->Type}:List (TV T)->Bool
 | []=>true
 |v::l=>XW v&& xK l
mutual
def lI:Sk->Bool
 |.d _=>true
 |.l c _=>match c with
  |.any=>true
  |.sh=>true
  |_=>false
 |.agg l=>iO l
 |.aK l _=>iO l
 |.dG _ _=>true
 |.fn _ a b=>iO a&& iO b
 |.sg _=>true
 |_=>false
def iO:List Sk->Bool
 | []=>true
 |k::l=>lI k&& iO l
def dep:Sk->Nat
 |.agg l=>oH l+3
 |.aK l _=>oH l+3
 |.fn _ a b=>max (oH a) (oH b)+3
 |_=>3
def oH:List Sk->Nat
 | []=>0
 |k::l=>max (dep k) (oH l)
end
def Rz:Ty->Bool
 |.int _=>true
 |.bool=>true
 |.str=>true
 |_=>false
def Cj:List Sk->Bool
 | []=>true
 |.d t::l=>Rz t&& Cj l
 |.sg _::l=>Cj l
 |_=>false
mutual
def encS:(k:Sk)->qL R.T k->V
 |.d t,x=>aG R t x
 |.l _ t,x=>aG R (.slice t) x
 |.agg l,x=>.agg (bG l x)
 |.aK l off,x=>.aK (bG l x) off
 |.dG k e,x=>.dG (List.map (fun p=>aG R k p.1) x) (List.map (fun p=>aG R e p.2) x)
 |.fn f a b,x=>.fn (.func f) (bG a x.1) (bG b x.2)
 |.dX,_=>.aj .sh []
 |.ref _ _,_=>aC
 |.bP _,_=>aC
 |.vw _ _,_=>aC
 |.sg l,x=>.agg (bN (tq l x))
 |.undef,_=>aC
def bG:(l:List Sk)->aA R.T l->List V
 | [],_=>[]
 | [k],x=>[encS k x]
 |k::h::l,p=>encS k p.1::bG (h::l) p.2
end
def lJ:List V->V
 | [v]=>v
 |vs=>.bE vs
def Ck:Cp->Cp->Bool
 |_,.any=>true
 |.sh,.sh=>true
 |.nil,.nil=>true
 |.nil,.own _=>true
 |.full,.own _=>true
 |.full,.full=>true
 |.own t,.own u=>Nat.beq t u
 |_,_=>false
def La (c:Cp) (t:Ty):TV R.T->Option (List (Den R.T t))
 |.aj c' _ l=>bif Ck c' c then pJ R l else none
 |.dX=>bif Ck .nil c then some [] else none
 |_=>none
def Cm {k e k' e':Ty} (m:List (Den R.T k'×Den R.T e')):Option (List (Den R.T k×Den R.T e)):=if h:k'=k/\e'=e then some (by rw[<-h.1,<-h.2];exact m) else none
mutual
def pk:(k:Sk)->TV R.T->Option (qL R.T k)
 |.d t=>fun v=>oD R t v
 |.l c t=>fun v=>La R c t v
 |.agg l=>fun v=>match v with
  |.agg cs=>fU l cs
  |_=>none
 |.ref o off=>fun v=>match v with
  |.ref p off'=>bif Nat.beq p o&& Nat.beq off' off then some () else none
  |_=>none
 |.aK l off=>fun v=>match v with
  |.aK cs off'=>bif Nat.beq off' off then fU l cs else none
  |_=>none
 |.bP o=>fun v=>match v with
  |.bP p=>bif Nat.beq p o then some () else none
  |_=>none
 |.dG k e=>fun v=>match v with
  |.dG _ _ m=>Cm R m
  |_=>none
 |.fn f a b=>fun v=>match v with
  |.fn f' a' b'=>bif Nat.beq f' f then (match fU a a' with
   |some x=>match fU b b' with
    |some y=>some (x,y)
    |none=>none
   |none=>none) else none
  |_=>none
 |.dX=>fun v=>match v with
  |.dX=>some ()
  |_=>none
 |.vw o t=>fun v=>match v with
  |.vw p t'=>bif Nat.beq p o then (if t'=t then some () else none) else none
  |_=>none
 |.sg l=>fun v=>match v with
  |.sg ss=>vJ l ss
  |_=>none
 |.undef=>fun v=>match v with
  |.undef=>some ()
  |_=>none
def fU:(l:List Sk)->List (TV R.T)->Option (aA R.T l)
 | []=>fun vs=>match vs with
   | []=>some ()
   |_::_=>none
 | [k]=>fun vs=>match vs with
   | [v]=>pk k v
   |_=>none
 |k::h::l=>fun vs=>match vs with
  | []=>none
  |v::vs=>match pk k v with
   |some x=>match fU (h::l) vs with
    |some p=>some (x,p)
    |none=>none
   |none=>none
end
mutual
def up (c:Cp):(k:Sk)->qL R.T k->TV R.T
 |.d t,x=>fG R c t x
 |.l c t,x=>.aj c t x
 |.agg l,x=>.agg (gJ c l x)
 |.ref o off,_=>.ref o off
 |.aK l off,x=>.aK (gJ c l x) off
 |.bP o,_=>.bP o
 |.dG k e,x=>.dG k e x
 |.fn f a b,x=>.fn f (gJ c a x.1) (gJ c b x.2)
 |.dX,_=>.dX
 |.vw o t,_=>.vw o t
 |.sg l,x=>.sg (tq l x)
 |.undef,_=>.undef
def gJ (c:Cp):(l:List Sk)->aA R.T l->List (TV R.T)
 | [],_=>[]
 | [k],x=>[up c k x]
 |k::h::l,p=>up c k p.1::gJ c (h::l) p.2
end
def xL:(k:gU)->Ob R.T->Option (xE R.T k)
 |.cells l=>fun o=>match o with
  |.cells cs=>fU R l cs
  |_=>none
 |.st n=>fun o=>match o with
  |.cells cs=>zA R n (.agg cs)
  |_=>none
 |.map k e=>fun o=>match o with
  |.map _ _ m=>Cm R m
  |_=>none
 |.arr t=>fun o=>match o with
  |.arr _ l=>pJ R l
  |_=>none
 |.sg l=>fun o=>match o with
  |.sg ss=>vJ l ss
  |_=>none
def kE:(k:gU)->xE R.T k->Ob R.T
 |.cells l,x=>.cells (gJ R .any l x)
 |.st n,x=>.cells (jf R .any (R.lf n) (R.of n x))
 |.map k e,x=>.map k e x
 |.arr t,x=>.arr t x
 |.sg l,x=>.sg (tq l x)
def qN (st:List (Nat×TV R.T)):(l:List (Nat×Sk))->Option (zx R.T l)
 | []=>some ()
 | [(i,k)]=>match look st i with
   |some v=>pk R k v
   |none=>none
 | (i,k)::h::l=>match look st i with
   |some v=>match pk R k v with
    |some x=>match qN st (h::l) with
     |some p=>some (x,p)
     |none=>none
    |none=>none
   |none=>none
def F9:(l:List (Nat×Sk))->zx R.T l->List (Nat×TV R.T)
 | [],_=>[]
 | [(i,k)],x=>[(i,up R .any k x)]
 | (i,k)::h::l,p=>(i,up R .any k p.1)::F9 (h::l) p.2
def lK (st:List (Nat×Ob R.T)):(l:List (Nat×gU))->Option (gy R.T l)
 | []=>some ()
 | [(i,k)]=>match look st i with
   |some v=>xL R k v
   |none=>none
 | (i,k)::h::l=>match look st i with
   |some v=>match xL R k v with
    |some x=>match lK st (h::l) with
     |some p=>some (x,p)
     |none=>none
    |none=>none
   |none=>none
def jg:(l:List (Nat×gU))->gy R.T l->List (Nat×Ob R.T)
 | [],_=>[]
 | [(i,k)],x=>[(i,kE R k x)]
 | (i,k)::h::l,p=>(i,kE R k p.1)::jg (h::l) p.2
def pack (st:MS R.T):(s:Shape)->Option (pI R.T s)
 | ⟨s,[]⟩=>qN R st.fr s
 | ⟨s,o::os⟩=>match qN R st.fr s with
   |some x=>match lK R st.ob (o::os) with
    |some y=>some (x,y)
    |none=>none
   |none=>none
def Cn {T:Nat->Type}:TV T->Bool
 |.dX=>true
 |.aj .nil _ l=>l.isEmpty
 |.aj .full _ l=>l.isEmpty
 |_=>false
def pQ {T:Nat->Type} (W:List Nat):List (Nat×Sk)->MS T->MS T
 | [],st=>st
 | (i,.vw o t)::l,st=>match look st.fr i with
   |some v=>bif Cn v&& aR o W then pQ W l ⟨(i,.vw o t)::(st.new o (.arr t [])).fr,(st.new o (.arr t [])).ob⟩ else pQ W l st
   |none=>pQ W l st
 |_::l,st=>pQ W l st
def lg (W:List Nat) (st:MS R.T) (s:Shape):Option (pI R.T s):=pack R (pQ W s.sl st) s
def unpack:(s:Shape)->pI R.T s->MS R.T
 | ⟨s,[]⟩,x=>⟨F9 R s x,[]⟩
 | ⟨s,o::os⟩,x=>⟨F9 R s x.1,jg R (o::os) x.2⟩
def zD:Ex->Ex->Bool
 |.normal,.normal=>true
 |.ret,.ret=>true
 |.exit i,.exit j=>Nat.beq i j
 |_,_=>false
def rP (W:List Nat) (e:Ex) (st:MS R.T):(l:List (Ex×Shape))->Option (Out R.T l)
 | []=>none
 | [(x,s)]=>bif zD e x then lg R W st s else none
 | (x,s)::h::l=>bif zD e x then (match lg R W st s with
   |some p=>some (.inl p)
   |none=>none) else (match rP W e st (h::l) with
   |some p=>some (.inr p)
   |none=>none)
def uE {β:Type} (b:MS R.T) (k:Ex->MS R.T->Option β):(l:List (Ex×Shape))->Out R.T l->Option β
 | [],_=>none
 | [(x,s)],p=>k x (b.over (unpack R s p))
 | (x,s)::h::l,p=>Sum.elim (fun q=>k x (b.over (unpack R s q))) (fun q=>uE b k (h::l) q) p
end
end Aq
end
