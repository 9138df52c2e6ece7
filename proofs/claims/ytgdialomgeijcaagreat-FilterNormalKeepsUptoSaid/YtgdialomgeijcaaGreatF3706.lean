import Derived.Test.YtgdialomgeijcaaGreatF3705
set_option linter.all false
section
namespace Aq
open Go
def Is {α:Type} (a b:α):Prop:=a=b
theorem Is.rfl {α:Type} {a:α}:Is a a:=Eq.refl a
def iv (n:Int):V:=.int .i64 n
def lv {α:Type} (f:α->V) (l:List α):V:=.lst .sh (l.map f)
theorem Dc {α:Type} {f:α->V} (h:∀x,pclean (f x)=true):∀l:List α,pcleanL (l.map f)=true
 | []=>by simp[pcleanL]
 |a::l=>by simp[pcleanL,h a,Dc h l]
theorem tY {α:Type} {f:α->V} (h:∀x,pclean (f x)=true) (l:List α):pclean (.lst .sh (l.map f))=true:=by
 simp only[pclean];exact Dc h l
theorem pclean_lv {α:Type} {f:α->V} (h:∀x,pclean (f x)=true) (l:List α):pclean (lv f l)=true:=tY h l
theorem Lv (n:Int):pclean (iv n)=true:=by simp[iv,pclean]
theorem pclean_lstr (l:List (List UInt8)):pclean (lv V.str l)=true:=pclean_lv (fun _=>by simp[pclean]) l
theorem pclean_liv (l:List Int):pclean (lv iv l)=true:=pclean_lv Lv l
theorem pclean_lint (k:IntKind) (l:List Int):pclean (lv (V.int k) l)=true:=pclean_lv (fun _=>by simp[pclean]) l
theorem pclean_lbool (l:List Bool):pclean (lv V.bool l)=true:=pclean_lv (fun _=>by simp[pclean]) l
attribute [go_sem] pclean_lstr pclean_liv pclean_lint pclean_lbool
def idxL {α:Type} (l:List α) (i:Int):Option α:=if 0<=i/\i<l.length then l[i.toNat]? else none
def isSliceT (P:Program) (t:TypeId):Bool:=match P.underlying t with
 |some (.slice _)=>true
 |_=>false
def isStrT (P:Program) (t:TypeId):Bool:=match P.underlying t with
 |some .string=>true
 |_=>false
section
variable {E:Env} {fr:Fr} {σ:Sig}
def NQ (Q:Ex->Fr->Sig->Prop) (fr:Fr) (σ:Sig):Prop:=Q .normal fr σ
theorem NQ.i {Q:Ex->Fr->Sig->Prop} (h:Q .normal fr σ):NQ Q fr σ:=h
theorem SeqQ.n {b:Code} {Q:Ex->Fr->Sig->Prop} (h:CW E b fr σ Q):SeqQ E b Q .normal fr σ:=h
theorem SeqQ.x {b:Code} {i:Nat} {Q:Ex->Fr->Sig->Prop} (h:Q (.exit i) fr σ):SeqQ E b Q (.exit i) fr σ:=h
theorem SeqQ.r {b:Code} {Q:Ex->Fr->Sig->Prop} (h:Q .ret fr σ):SeqQ E b Q .ret fr σ:=h
theorem BlkQ.n {id:Nat} {Q:Ex->Fr->Sig->Prop} (h:Q .normal fr σ):BlkQ id Q .normal fr σ:=h
theorem BlkQ.r {id:Nat} {Q:Ex->Fr->Sig->Prop} (h:Q .ret fr σ):BlkQ id Q .ret fr σ:=h
theorem BlkQ.hit {id:Nat} {Q:Ex->Fr->Sig->Prop} (h:Q .normal fr σ):BlkQ id Q (.exit id) fr σ:=by simp only[BlkQ,if_true];exact h
theorem LoopQ.n {c:Code} {Q:Ex->Fr->Sig->Prop} (h:CW E (.loop c) fr σ Q):LoopQ E c Q .normal fr σ:=h
theorem LoopQ.x {c:Code} {i:Nat} {Q:Ex->Fr->Sig->Prop} (h:Q (.exit i) fr σ):LoopQ E c Q (.exit i) fr σ:=h
theorem LoopQ.r {c:Code} {Q:Ex->Fr->Sig->Prop} (h:Q .ret fr σ):LoopQ E c Q .ret fr σ:=h
theorem CW.condT {c:Operand} {a b:Code} {Q:Ex->Fr->Sig->Prop} (hc:Is (fr.ev E c) (.bool true)) (h:CW E a fr σ Q):CW E (.cond c a b) fr σ Q:=CW.cond hc (fun _=>h) (fun h=>by cases h)
theorem CW.condF {c:Operand} {a b:Code} {Q:Ex->Fr->Sig->Prop} (hc:Is (fr.ev E c) (.bool false)) (h:CW E b fr σ Q):CW E (.cond c a b) fr σ Q:=CW.cond hc (fun h=>by cases h) (fun _=>h)
theorem OW.o1 {all:List Oper} {st:Nat} {d:Tmp} {op:Op} {ty:TypeId} {pos:String} {aJ:Array Edge} {gd:Option (Nat×Bool)} {os:List Oper} {v:V} {σ1:Sig} {Q:Fr->Sig->Prop} (hw:Is (aT all fr ⟨some d,op,ty,pos,aJ,gd⟩) (some true))
 (hop:∀S,Is (opC E S fr σ st ⟨some d,op,ty,pos,aJ,gd⟩) (some (v,fr,σ1))) (h:OW E all (st+1) os (fr.set d v) σ1 Q):OW E all st (⟨some d,op,ty,pos,aJ,gd⟩::os) fr σ Q:=OW.op hw hop h
theorem OW.o0 {all:List Oper} {st:Nat} {op:Op} {ty:TypeId} {pos:String} {aJ:Array Edge} {gd:Option (Nat×Bool)} {os:List Oper} {v:V} {σ1:Sig} {Q:Fr->Sig->Prop} (hw:Is (aT all fr ⟨none,op,ty,pos,aJ,gd⟩) (some true))
 (hop:∀S,Is (opC E S fr σ st ⟨none,op,ty,pos,aJ,gd⟩) (some (v,fr,σ1))) (h:OW E all (st+1) os fr σ1 Q):OW E all st (⟨none,op,ty,pos,aJ,gd⟩::os) fr σ Q:=OW.op hw hop h
theorem OW.s1 {all:List Oper} {st:Nat} {d:Tmp} {op:Op} {ty:TypeId} {pos:String} {aJ:Array Edge} {gd:Option (Nat×Bool)} {os:List Oper} {Q:Fr->Sig->Prop} (hw:Is (aT all fr ⟨some d,op,ty,pos,aJ,gd⟩) (some false))
 (h:OW E all (st+1) os (fr.set d undefV) σ Q):OW E all st (⟨some d,op,ty,pos,aJ,gd⟩::os) fr σ Q:=OW.skip hw h
theorem OW.s0 {all:List Oper} {st:Nat} {op:Op} {ty:TypeId} {pos:String} {aJ:Array Edge} {gd:Option (Nat×Bool)} {os:List Oper} {Q:Fr->Sig->Prop} (hw:Is (aT all fr ⟨none,op,ty,pos,aJ,gd⟩) (some false))
 (h:OW E all (st+1) os fr σ Q):OW E all st (⟨none,op,ty,pos,aJ,gd⟩::os) fr σ Q:=OW.skip hw h
theorem aN.o1 {ms:List Nat} {all:List Oper} {st:Nat} {d:Tmp} {op:Op} {ty:TypeId} {pos:String} {aJ:Array Edge} {gd:Option (Nat×Bool)} {os:List Oper} {v:V} {σ1:Sig} {fs:List Foot} {f:Foot} {Q:Fr->Sig->Prop} (hw:Is (aT all fr ⟨some d,op,ty,pos,aJ,gd⟩) (some true))
 (hop:∀S,Is (opC E S fr σ st ⟨some d,op,ty,pos,aJ,gd⟩) (some (v,fr,σ1))) (hf:Is (bq E all fr ⟨some d,op,ty,pos,aJ,gd⟩ true) f) (h:aN E ms all (st+1) os (fr.set d v) σ1 (fs++[f]) Q):aN E ms all st (⟨some d,op,ty,pos,aJ,gd⟩::os) fr σ fs Q:=
 aN.op hw hop (by rw[hf];exact h)
theorem aN.o0 {ms:List Nat} {all:List Oper} {st:Nat} {op:Op} {ty:TypeId} {pos:String} {aJ:Array Edge} {gd:Option (Nat×Bool)} {os:List Oper} {v:V} {σ1:Sig} {fs:List Foot} {f:Foot} {Q:Fr->Sig->Prop} (hw:Is (aT all fr ⟨none,op,ty,pos,aJ,gd⟩) (some true))
 (hop:∀S,Is (opC E S fr σ st ⟨none,op,ty,pos,aJ,gd⟩) (some (v,fr,σ1))) (hf:Is (bq E all fr ⟨none,op,ty,pos,aJ,gd⟩ true) f) (h:aN E ms all (st+1) os fr σ1 (fs++[f]) Q):aN E ms all st (⟨none,op,ty,pos,aJ,gd⟩::os) fr σ fs Q:=
 aN.op hw hop (by rw[hf];exact h)
theorem aN.s1 {ms:List Nat} {all:List Oper} {st:Nat} {d:Tmp} {op:Op} {ty:TypeId} {pos:String} {aJ:Array Edge} {gd:Option (Nat×Bool)} {os:List Oper} {fs:List Foot} {f:Foot} {Q:Fr->Sig->Prop} (hw:Is (aT all fr ⟨some d,op,ty,pos,aJ,gd⟩) (some false))
 (hf:Is (bq E all fr ⟨some d,op,ty,pos,aJ,gd⟩ false) f) (h:aN E ms all (st+1) os (fr.set d undefV) σ (fs++[f]) Q):aN E ms all st (⟨some d,op,ty,pos,aJ,gd⟩::os) fr σ fs Q:=aN.skip hw (by rw[hf];exact h)
theorem aN.s0 {ms:List Nat} {all:List Oper} {st:Nat} {op:Op} {ty:TypeId} {pos:String} {aJ:Array Edge} {gd:Option (Nat×Bool)} {os:List Oper} {fs:List Foot} {f:Foot} {Q:Fr->Sig->Prop} (hw:Is (aT all fr ⟨none,op,ty,pos,aJ,gd⟩) (some false))
 (hf:Is (bq E all fr ⟨none,op,ty,pos,aJ,gd⟩ false) f) (h:aN E ms all (st+1) os fr σ (fs++[f]) Q):aN E ms all st (⟨none,op,ty,pos,aJ,gd⟩::os) fr σ fs Q:=aN.skip hw (by rw[hf];exact h)
theorem OW.g1 {all:List Oper} {st:Nat} {d:Tmp} {op:Op} {ty:TypeId} {pos:String} {aJ:Array Edge} {gd:Option (Nat×Bool)} {os:List Oper} {v:V} {g:Bool} {Q:Fr->Sig->Prop} (hw:Is (aT all fr ⟨some d,op,ty,pos,aJ,gd⟩) (some g)) (hop:g=true->∀S,Is (opC E S fr σ st ⟨some d,op,ty,pos,aJ,gd⟩) (some (v,fr,σ)))
 (h:OW E all (st+1) os (fr.set d (cond g v undefV)) σ Q):OW E all st (⟨some d,op,ty,pos,aJ,gd⟩::os) fr σ Q:=by
 cases g with
 |true=>exact OW.op hw (hop rfl) h
 |false=>exact OW.skip hw h
theorem OW.pk {all:List Oper} {st:Nat} {d:Tmp} {c a b:Operand} {ty:TypeId} {pos:String} {aJ:Array Edge} {gd:Option (Nat×Bool)} {os:List Oper} {t x y:Bool} {Q:Fr->Sig->Prop} (hw:Is (aT all fr ⟨some d,.pick c a b,ty,pos,aJ,gd⟩) (some true)) (hc:Is (fr.ev E c) (.bool t)) (ha:t=true->Is (fr.ev E a) (.bool x)) (hb:t=false->Is (fr.ev E b) (.bool y))
 (h:OW E all (st+1) os (fr.set d (.bool (cond t x y))) σ Q):OW E all st (⟨some d,.pick c a b,ty,pos,aJ,gd⟩::os) fr σ Q:=by
 have hc':fr.ev E c= .bool t:=hc
 refine OW.op (v:=.bool (cond t x y)) (σ1:=σ) hw (fun S=>?_) h
 cases t with
 |true=>
  have ha':fr.ev E a= .bool x:=ha rfl
  simp only[opC,aF,hc',fA,Option.map_some,if_true,ha',cond_true]
 |false=>
  have hb':fr.ev E b= .bool y:=hb rfl
  simp only[opC,aF,hc',fA,Option.map_some,RH,if_false,hb',cond_false]
theorem aN.pk {ms:List Nat} {fs:List Foot} {f:Foot} {all:List Oper} {st:Nat} {d:Tmp} {c a b:Operand} {ty:TypeId} {pos:String} {aJ:Array Edge} {gd:Option (Nat×Bool)} {os:List Oper} {t x y:Bool} {Q:Fr->Sig->Prop} (hw:Is (aT all fr ⟨some d,.pick c a b,ty,pos,aJ,gd⟩) (some true)) (hc:Is (fr.ev E c) (.bool t)) (ha:t=true->Is (fr.ev E a) (.bool x)) (hb:t=false->Is (fr.ev E b) (.bool y))
 (hf:Is (bq E all fr ⟨some d,.pick c a b,ty,pos,aJ,gd⟩ true) f) (h:aN E ms all (st+1) os (fr.set d (.bool (cond t x y))) σ (fs++[f]) Q):aN E ms all st (⟨some d,.pick c a b,ty,pos,aJ,gd⟩::os) fr σ fs Q:=by
 have hc':fr.ev E c= .bool t:=hc
 refine aN.op (v:=.bool (cond t x y)) (σ1:=σ) hw (fun S=>?_) (by rw[hf];exact h)
 cases t with
 |true=>
  have ha':fr.ev E a= .bool x:=ha rfl
  simp only[opC,aF,hc',fA,Option.map_some,if_true,ha',cond_true]
 |false=>
  have hb':fr.ev E b= .bool y:=hb rfl
  simp only[opC,aF,hc',fA,Option.map_some,RH,if_false,hb',cond_false]
theorem OW.qK {all:List Oper} {st:Nat} {d:Option Tmp} {f:Operand} {args:Array Operand} {tys:Array TypeId} {ty:TypeId} {pos:String} {aJ:Array Edge} {gd:Option (Nat×Bool)} {os:List Oper} {Q:Fr->Sig->Prop} {g:FuncId} {a b as:List V} {v:V}
 (hp:Pure E g as v) (hf:Is (fr.ev E f) (.fn (.func g) a b)) (has:Is ((a++args.toList.map (fr.ev E)++b).mapM (closeV 20 σ)) (some as)) (hc:Is ((a++args.toList.map (fr.ev E)++b).all (fun x=>pclean (er x))||flat v) true)
 (hw:Is (aT all fr ⟨d,.call ⟨.value f,args,tys⟩,ty,pos,aJ,gd⟩) (some true)) (h:OW E all (st+1) os (fr.put d v) σ Q) (hi:E.imp g=false:=by rfl) (aX:∀d',d=some d'->E.own g d'=false:=by intros;rfl):OW E all st (⟨d,.call ⟨.value f,args,tys⟩,ty,pos,aJ,gd⟩::os) fr σ Q:=
 OW.call hw rfl rfl hf hi has hp hc h aX
theorem aN.qK {ms:List Nat} {fs:List Foot} {ft:Foot} {all:List Oper} {st:Nat} {d:Option Tmp} {f:Operand} {args:Array Operand} {tys:Array TypeId} {ty:TypeId} {pos:String} {aJ:Array Edge} {gd:Option (Nat×Bool)} {os:List Oper} {Q:Fr->Sig->Prop} {g:FuncId} {a b as:List V} {v:V}
 (hp:Pure E g as v) (hf:Is (fr.ev E f) (.fn (.func g) a b)) (has:Is ((a++args.toList.map (fr.ev E)++b).mapM (closeV 20 σ)) (some as)) (hc:Is ((a++args.toList.map (fr.ev E)++b).all (fun x=>pclean (er x))||flat v) true)
 (hw:Is (aT all fr ⟨d,.call ⟨.value f,args,tys⟩,ty,pos,aJ,gd⟩) (some true)) (hft:Is (bq E all fr ⟨d,.call ⟨.value f,args,tys⟩,ty,pos,aJ,gd⟩ true) ft) (h:aN E ms all (st+1) os (fr.put d v) σ (fs++[ft]) Q)
 (hi:E.imp g=false:=by rfl) (aX:∀d',d=some d'->E.own g d'=false:=by intros;rfl):aN E ms all st (⟨d,.call ⟨.value f,args,tys⟩,ty,pos,aJ,gd⟩::os) fr σ fs Q:=
 aN.call hw rfl rfl hf hi has hp hc (by rw[hft];exact h) aX
theorem RetQ.one {r:ResultVar} {e:Ex} {v0:V} {R:V->Sig->Prop} (he:∀i,e≠ .exit i) (hv:Is (resV E fr σ r) (some v0)) (hr:R v0 σ):RetQ E [r] R e fr σ:=by
 have h1:[r].mapM (resV E fr σ)=some [v0]:=by rw[RX,hv];rfl
 cases e with
 |exit i=>exact absurd rfl (he i)
 |normal=>exact⟨[v0],h1,hr⟩
 |ret=>exact⟨[v0],h1,hr⟩
theorem RetQ.tup {rs:List ResultVar} {e:Ex} {v1 v2:V} {vs:List V} {R:V->Sig->Prop} (he:∀i,e≠ .exit i) (hv:Is (rs.mapM (resV E fr σ)) (some (v1::v2::vs))) (hr:R (.tup (v1::v2::vs)) σ):RetQ E rs R e fr σ:=by
 cases e with
 |exit i=>exact absurd rfl (he i)
 |normal=>exact⟨_,hv,hr⟩
 |ret=>exact⟨_,hv,hr⟩
theorem Pure.of' {f:FuncId} {args:List V} {v:V} {fn:Func} {c:Code} (rs:List ResultVar) (hf:E.P.funcs[f]? =some fn) (hb:fn.body=some c)
 (h:∀fr σ,fr.d=1->fr.om=E.om f->(∀i,fr.tm i=args.getD i undefV)->CW E c fr σ (RetQ E rs (fun v0 σ=>closeV 20 σ v0=some v))) (hrs:fn.results.toList=rs:=by rfl) (hok:(decide (args.length<=fn.ntmps)&& aP fn.ntmps c)=true:=by rfl) (hs:E.summ f=none:=by rfl):Pure E f args v:=
 Pure.of hs hf hb hok (by rw[hrs];exact h _ _ rfl rfl (fun _=>rfl))
theorem dI {n:Nat} {x:V} (h:pclean x=true):closeV (n+1) σ x=some x:=by unfold closeV;simp only[h,if_true]
theorem xQ (n:Nat) (k:IntKind) (i:Int):closeV (n+1) σ (.int k i)=some (.int k i):=dI (by simp[pclean])
theorem xR (n:Nat) (b:Bool):closeV (n+1) σ (.bool b)=some (.bool b):=dI (by simp[pclean])
theorem xS (n:Nat) (s:List UInt8):closeV (n+1) σ (.str s)=some (.str s):=dI (by simp[pclean])
theorem kD {n:Nat} {α:Type} {f:α->V} (c:Cap) (l:List α) (h:∀x,pclean (f x)=true):closeV (n+2) σ (.lst c (l.map f))=some (lv f l):=by
 by_cases hp:pclean (.lst c (l.map f))=true
 ·rw[dI hp]
  cases c<;>simp only[pclean,RH] at hp
  rfl
 ·unfold closeV
  simp only[hp,if_false,RH]
  have:(l.map f).mapM (closeV (n+1) σ)=some (l.map f):=by
   induction l with
   |nil=>simp
   |cons a l ih=>simp[h a,dI,ih (by cases c<;>simp_all[pclean,pcleanL])]
  rw[this];rfl
theorem Lx (k:IntKind) (i:Int):er (.int k i)= .int k i:=rfl
theorem LA (b:Bool):er (.bool b)= .bool b:=rfl
theorem LB (s:List UInt8):er (.str s)= .str s:=rfl
theorem LC {α:Type} (f:α->V) (l:List α):er (lv f l)=lv f l:=rfl
theorem LD (c:Cap) (l:List V):er (.lst c l)= .lst .sh l:=rfl
theorem LG (n:Int):iv n= .int .i64 n:=rfl
theorem xU (k:IntKind) (i:Int):pclean (.int k i)=true:=by simp[pclean]
theorem xV (b:Bool):pclean (.bool b)=true:=by simp[pclean]
theorem Df (s:List UInt8):pclean (.str s)=true:=by simp[pclean]
theorem xW {P:Program} {α:Type} {t:TypeId} {c:Cap} {l:List α} {f:α->V} {k:IntKind} {i:Int}:
 indexAddrV P t (.lst c (l.map f)) (.int k i)=if isSliceT P t then (elemT P t).bind fun e=>(szT P e).bind fun sz=>(idxL l i).bind fun x=>if (f x).cells.length=sz then some (.cref (f x).cells 0) else none else none:=by
 unfold indexAddrV isSliceT elemT
 cases hu:P.underlying t with
 |none=>rfl
 |some u=>
  cases u<;>try rfl
  rename_i e
  simp only[if_true,Option.bind_some]
  cases szT P e with
  |none=>rfl
  |some sz=>
   simp only[Option.bind_some,idx,dK,RN,idxL]
   split
   ·rename_i h
    simp only[Option.bind_some,List.getElem?_map]
    cases l[i.toNat]? with
    |none=>rfl
    |some x=>rfl
   ·rfl
theorem idx_lv {P:Program} {α:Type} {t:TypeId} {l:List α} {f:α->V} {k:IntKind} {i:Int}:
 indexAddrV P t (lv f l) (.int k i)=if isSliceT P t then (elemT P t).bind fun e=>(szT P e).bind fun sz=>(idxL l i).bind fun x=>if (f x).cells.length=sz then some (.cref (f x).cells 0) else none else none:=xW
theorem LH {P:Program} {t:TypeId} {v:V} (h1:isAggT P t=some false) (h2:szT P t=some 1):ldT P t [v] 0=some v:=by simp[ldT,h1,h2,fH]
theorem LJ {t:TypeId} {α:Type} (f:α->V) (l:List α) (h:isSliceT E.P t=true):fB E σ t (lv f l)=some l.length:=by
 unfold isSliceT at h;unfold fB
 split at h
 ·rename_i e he;rw[he];simp[lv]
 ·simp at h
theorem LK {t:TypeId} (c:Cap) (l:List V) (h:isSliceT E.P t=true):fB E σ t (.lst c l)=some l.length:=by
 unfold isSliceT at h;unfold fB
 split at h
 ·rename_i e he;rw[he]
 ·simp at h
theorem LM {t:TypeId} (l:List UInt8) (h:isStrT E.P t=true):fB E σ t (.str l)=some l.length:=by
 unfold isStrT at h;unfold fB
 split at h
 ·rename_i he;rw[he]
 ·simp at h
end
section
variable {E:Env} {S:bG} {fr:Fr} {σ:Sig} {st:Nat} {d:Option Tmp} {ty:TypeId} {pos:String} {aJ:Array Edge} {gd:Option (Nat×Bool)}
theorem LP (all:List Oper) (op:Op):aT all fr ⟨d,op,ty,pos,aJ,none⟩=some true:=rfl
def xX (want:Bool):V->Option Bool
 |.bool b=>some (b==want)
 |.raw _=>none
 |_=>some false
theorem LQ (w b:Bool):xX w (.bool b)=some (b==w):=rfl
theorem LU (w:Bool):xX w undefV=some false:=rfl
theorem LV (all:List Oper) (op:Op) (j:Nat) (want:Bool):aT all fr ⟨d,op,ty,pos,aJ,some (j,want)⟩=match (all[j]?).bind (·.dst) with
 |some t=>xX want (fr.tm t)
 |none=>some false:=by
 simp only[aT]
 cases (all[j]?).bind (·.dst) with
 |none=>rfl
 |some t=>simp only;cases fr.tm t<;>rfl
theorem LW (cs:List V):V.cells (.agg cs)=cs:=rfl
theorem LX (k:IntKind) (n:Int):V.cells (.int k n)=[.int k n]:=rfl
theorem LY (k:IntKind) (n:Int):notRaw (.int k n)=true:=rfl
theorem LZ (b:Bool):V.cells (.bool b)=[.bool b]:=rfl
theorem L6 (b:Bool):notRaw (.bool b)=true:=rfl
theorem L8 (s:List UInt8):V.cells (.str s)=[.str s]:=rfl
theorem L9 (s:List UInt8):notRaw (.str s)=true:=rfl
theorem Ma (c:Cap) (l:List V):V.cells (.lst c l)=[.lst c l]:=rfl
theorem Mc (c:Cap) (l:List V):notRaw (.lst c l)=true:=rfl
theorem Md (l:Aq.Loc) (s o:Nat):V.cells (.ref l s o)=[.ref l s o]:=rfl
theorem Me (l:Aq.Loc) (s o:Nat):notRaw (.ref l s o)=true:=rfl
theorem Mf (cs:List V) (o:Nat):V.cells (.cref cs o)=[.cref cs o]:=rfl
theorem Mg (cs:List V) (o:Nat):notRaw (.cref cs o)=true:=rfl
theorem Mh (f:Fn) (a b:List V):V.cells (.fn f a b)=[.fn f a b]:=rfl
theorem Mi (f:Fn) (a b:List V):notRaw (.fn f a b)=true:=rfl
theorem Mj {α:Type} (f:α->V) (l:List α):V.cells (lv f l)=[lv f l]:=rfl
theorem Mk:oneCells []=true:=rfl
theorem Dh (x:V) (l:List V):oneCells (x::l)=(oneCell x&& oneCells l):=rfl
theorem Ml (k:IntKind) (n:Int):oneCell (.int k n)=true:=rfl
theorem Mq (b:Bool):oneCell (.bool b)=true:=rfl
theorem Mr (s:List UInt8):oneCell (.str s)=true:=rfl
theorem Ms {α:Type} (f:α->V) (l:List α):oneCell (lv f l)=true:=rfl
theorem Mt (c:Cap) (l:List V):oneCell (.lst c l)=true:=rfl
theorem Mv (l:Aq.Loc) (s o:Nat):oneCell (.ref l s o)=true:=rfl
theorem Mw (cs:List V) (o:Nat):oneCell (.cref cs o)=true:=rfl
theorem Mx (cs:List V):notRaw (.agg cs)=true:=rfl
theorem MB {α:Type} (f:α->V) (l:List α):notRaw (lv f l)=true:=rfl
theorem MC (x:Operand) (h:fzM E d=false):opC E S fr σ st ⟨d,.move x,ty,pos,aJ,gd⟩=some (fr.ev E x,fr,σ):=by
 show Option.map _ (if fzM E d=true then jg σ (fr.ev E x) else some (fr.ev E x,σ))=_
 rw[if_neg (by rw[h];simp)];rfl
theorem ME (x:Operand):opC E S fr σ st ⟨d,.assign x,ty,pos,aJ,gd⟩=some (fr.ev E x,fr,σ):=rfl
theorem MF (c a b:Operand) (h:fr.ev E c= .bool true):opC E S fr σ st ⟨d,.pick c a b,ty,pos,aJ,gd⟩=some (fr.ev E a,fr,σ):=by
 simp only[opC,aF,h,fA,Option.map_some,if_true]
theorem MG (c a b:Operand) (h:fr.ev E c= .bool false):opC E S fr σ st ⟨d,.pick c a b,ty,pos,aJ,gd⟩=some (fr.ev E b,fr,σ):=by
 simp only[opC,aF,h,fA,Option.map_some,RH,if_false]
theorem MH (op:BinOp) (t u:TypeId) (x y:Operand):opC E S fr σ st ⟨d,.binOp op t x y u,ty,pos,aJ,gd⟩=(gJ E.P op t (fr.ev E x) (fr.ev E y)).map fun v=>(v,fr,σ):=by
 simp only[opC,aF];cases gJ E.P op t (fr.ev E x) (fr.ev E y)<;>rfl
theorem MI (op:UnOp) (t:TypeId) (x:Operand):opC E S fr σ st ⟨d,.unOp op t x,ty,pos,aJ,gd⟩=(l5 op (fr.ev E x)).map fun v=>(v,fr,σ):=by
 simp only[opC,aF];cases l5 op (fr.ev E x)<;>rfl
theorem MJ (t:TypeId) (x:Operand) (f:Nat):opC E S fr σ st ⟨d,.fieldAddr t x f,ty,pos,aJ,gd⟩=(fieldT E.P t f).bind fun p=>match fr.ev E x with
 |.ref loc s off=>some (.ref loc s (off+p.1),fr,σ)
 |.cref cs off=>some (.cref cs (off+p.1),fr,σ)
 |_=>none:=by
 simp only[opC,aF]
 cases fieldT E.P t f with
 |none=>rfl
 |some p=>obtain⟨o,u⟩:=p;simp only[Option.bind_some];cases fr.ev E x<;>rfl
theorem MK (t:TypeId) (x:Operand):opC E S fr σ st ⟨d,.load t x,ty,pos,aJ,gd⟩=(match fr.ev E x with
 |.ref loc s off=>(σ.cellsAt loc s).bind fun cs=>(ldT E.P t cs off).map fun v=>(v,fr,σ)
 |.cref cs off=>(ldT E.P t cs off).map fun v=>(v,fr,σ)
 |_=>none):=by
 simp only[opC,aF]
 cases fr.ev E x with
 |ref loc s off=>
  simp only
  cases σ.cellsAt loc s with
  |none=>rfl
  |some cs=>simp only[Option.bind_some];cases ldT E.P t cs off<;>rfl
 |cref cs off=>simp only;cases ldT E.P t cs off<;>rfl
 |_=>rfl
theorem ML (t:TypeId) (x:Operand) (i:Nat):opC E S fr σ st ⟨some i,.box t x,ty,pos,aJ,gd⟩=if E.frz t=true then (if pclean (fr.ev E x)=true/\notRaw (fr.ev E x)=true then some (.cref (fr.ev E x).cells 0,fr,σ) else none) else if oneCells (fr.ev E x).cells/\notRaw (fr.ev E x) then some (.ref (fr.d,i) st 0,fr,σ.setObj (fr.d,i) st (.cells (fr.ev E x).cells)) else none:=by
 show Option.map _ (if E.frz t=true then _ else (some (fr.d,i)).bind _)=_
 by_cases hz:E.frz t=true
 ·simp only[hz,if_true]
  split<;>rfl
 ·simp only[hz,RH,if_false,Option.bind_some]
  split<;>rfl
theorem MN (t:TypeId) (i:Nat):opC E S fr σ st ⟨some i,.alloc t,ty,pos,aJ,gd⟩=(zeroT E.P t).bind fun z=>if oneCells z.cells then some (.ref (fr.d,i) st 0,fr,σ.setObj (fr.d,i) st (.cells z.cells)) else none:=by
 simp only[opC,aF,Option.map_some,Option.bind_some]
 cases zeroT E.P t with
 |none=>rfl
 |some z=>simp only[Option.bind_some];split<;>rfl
theorem oc_store (t:TypeId) (a x:Operand):opC E S fr σ st ⟨d,.store t a x,ty,pos,aJ,gd⟩=(match fr.ev E a with
 |.ref loc s off=>(σ.cellsAt loc s).bind fun cs=>
  if some (fr.ev E x).cells.length=szT E.P t/\off+(fr.ev E x).cells.length<=cs.length/\oneCells (fr.ev E x).cells then some (undefV,fr,σ.setObj loc s (.cells (spliceL cs off (fr.ev E x).cells))) else none
 |_=>none):=by
 simp only[opC,aF]
 cases fr.ev E a with
 |ref loc s off=>
  simp only
  cases σ.cellsAt loc s with
  |none=>rfl
  |some cs=>simp only[Option.bind_some];split<;>rfl
 |_=>rfl
theorem MO (t:TypeId) (x i:Operand):opC E S fr σ st ⟨d,.indexAddr t x i,ty,pos,aJ,gd⟩=(indexAddrV E.P t (fr.ev E x) (fr.ev E i)).map fun v=>(v,fr,σ):=by
 simp only[opC,aF];cases indexAddrV E.P t (fr.ev E x) (fr.ev E i)<;>rfl
theorem MP (x:Operand) (i:Nat):opC E S fr σ st ⟨d,.extract x i,ty,pos,aJ,gd⟩=(match fr.ev E x with
 |.tup vs=>(vs[i]?).map fun v=>(v,fr,σ)
 |_=>none):=by
 simp only[opC,aF]
 cases fr.ev E x with
 |tup vs=>simp only;cases vs[i]? <;>rfl
 |_=>rfl
theorem MQ (x:Operand) (t:TypeId):opC E S fr σ st ⟨d,.call ⟨.builtin .len, #[x], #[t]⟩,ty,pos,aJ,gd⟩=(fB E σ t (fr.ev E x)).map fun n=>(.int .i64 (n:Nat),fr,σ):=by
 show (Option.map _ (((#[t]:Array TypeId)[0]?).bind fun t=>(fB E σ t (fr.ev E x)).map fun n=>(V.int .i64 (n:Nat),σ)))=_
 rw[show (#[t]:Array TypeId)[0]? =some t from rfl,Option.bind_some]
 cases fB E σ t (fr.ev E x)<;>rfl
end
attribute [go_sem] RH gJ dA kQ l5 decide_true decide_false List.getElem?_cons_succ List.getElem?_cons_zero beq_true beq_false Bool.not_true Bool.not_false xP Bool.false_and Bool.and_false Bool.true_and Bool.and_true LP LV LQ LU MC ME MF MG MH MI MJ MK ML MN oc_store MO MP MQ oG CY CZ CX set_ne put_some Le set_d Lf Lg Lh Li cells_eq Da Lm Lp map_eq Db Lr Ls Lu oH qJ Lj Ll LG LH LJ LK LM xW RN idx_lv xQ xR xS Lx LA LB LC LD xU xV Df Option.bind_some Option.map_some Option.getD_some fA ofValue cB if_true if_false LW LX LZ L8 Mj Ma Md Mf Mh LY L6 L9 Mc Me Mg Mi Mk Dh Ml Mq Mr Ms Mt Mv Mw Mx MB and_self and_true true_and
def jK:Code->List Nat->Option Code
 |c,[]=>some c
 |.seq a b,i::l=>if i=0 then jK a l else jK b l
 |.cond _ a b,i::l=>if i=0 then jK a l else jK b l
 |.block _ a,_::l=>jK a l
 |.loop a,_::l=>jK a l
 |.scope a,_::l=>jK a l
 |.rangeFunc _ _ a b,i::l=>if i=0 then jK a l else jK b l
 |_,_=>none
def subO (b:Option Code) (l:List Nat):Option Code:=b.bind fun c=>jK c l
section
variable {E:Env} {fr:Fr} {σ:Sig}
def kE (E:Env) (c:Code) (fr:Fr) (σ:Sig) (Q:Ex->Fr->Sig->Prop):Prop:=CW E (.loop c) fr σ Q
theorem Is.e {α:Type} {a b:α} (h:Is a b):a=b:=h
theorem CW.lp {c:Code} {Q:Ex->Fr->Sig->Prop} (h:kE E c fr σ Q):CW E (.loop c) fr σ Q:=h
theorem kE.in {b:Option Code} {p:List Nat} {c:Code} {Q:Ex->Fr->Sig->Prop} (hs:subO b p=some c) (h:CW E c fr σ (LoopQ E c Q)):kE E ((subO b p).getD .skip) fr σ Q:=by
 rw[hs];exact CW.loop h
theorem kE.ih {c:Code} {Q:Ex->Fr->Sig->Prop} (h:kE E c fr σ Q):kE E c fr σ Q:=h
def qL:Code->Nat
 |.region i _ _=>i
 |.seq a _=>qL a
 |.loop a=>qL a
 |.scope a=>qL a
 |.block _ a=>qL a
 |_=>0
theorem kE.at (k:Nat) {c:Code} {Q:Ex->Fr->Sig->Prop} (_h:Is (qL c) k) (h:kE E c fr σ Q):kE E c fr σ Q:=h
theorem MR {n:Nat} (c:Cap):closeV (n+2) σ (.lst c [])=some (.lst .sh []):=kD (α:=V) (f:=fun x=>.int .i64 0) c [] (fun _=>by simp[pclean])
theorem Di {n:Nat} (cs:List V):closeV (n+2) σ (.agg cs)=(cs.mapM (closeV (n+1) σ)).map .agg:=by
 by_cases hp:pclean (.agg cs)=true
 ·rw[dI hp]
  have:∀cs:List V,pcleanL cs=true->cs.mapM (closeV (n+1) σ)=some cs:=by
   intro cs
   induction cs with
   |nil=>intro _;rfl
   |cons a l ih=>
    intro h
    simp only[pcleanL,RD] at h
    rw[RX,dI h.1,ih h.2];rfl
  rw[this cs (by simpa [pclean] using hp)];rfl
 ·conv=>lhs;unfold closeV
  simp only[hp,if_false,RH]
theorem xY {n:Nat} (cs:List V):closeV (n+2) σ (.tup cs)=(cs.mapM (closeV (n+1) σ)).map .tup:=by
 by_cases hp:pclean (.tup cs)=true
 ·rw[dI hp]
  have:∀cs:List V,pcleanL cs=true->cs.mapM (closeV (n+1) σ)=some cs:=by
   intro cs
   induction cs with
   |nil=>intro _;rfl
   |cons a l ih=>
    intro h
    simp only[pcleanL,RD] at h
    rw[RX,dI h.1,ih h.2];rfl
  rw[this cs (by simpa [pclean] using hp)];rfl
 ·conv=>lhs;unfold closeV
  simp only[hp,if_false,RH]
def tZ (sz:Nat) (σ:Sig) (c:Cap) (n:Nat):Prop:=c= .nil\/∃s,c= .own sz s/\σ.top s=n/\s<σ.next
theorem tZ.n {sz n:Nat}:tZ sz σ .nil n:=.inl rfl
theorem tZ.o {sz s n:Nat} (h1:Is (σ.top s) n) (h2:s<σ.next):tZ sz σ (.own sz s) n:=.inr ⟨s,rfl,h1,h2⟩
theorem own_ne {s n k:Nat} (h:s<n):(s==n+k)=false:=by simp;omega
theorem MU {s n k:Nat} (h:s<n):(n+k==s)=false:=by simp;omega
theorem MV {s n:Nat} (h:s<n):(s==n)=false:=by simp;omega
theorem MW {s n:Nat} (h:s<n):(n==s)=false:=by simp;omega
theorem MX (σ:Sig) {s t:Nat} (n:Nat) (h:(t==s)=false):(σ.aL s n).top t=σ.top t:=qJ σ n (by simpa using h)
end
def Dj (P:Program) (σ:Sig) (st:Nat) (t u:TypeId) (x y:V):Option (V×Sig):=
 match P.underlying u with
 |some (.int _)=>dw P false true σ st none t x y
 |some (.slice _)|some .string=>dw P false false σ st none t x y
 |_=>none
theorem MZ {P:Program} {z:Bool} {σ:Sig} {st:Nat} {loc:Option Loc} {t:TypeId} {c:Cap} {l:List V} {y:V}:dw P false z σ st loc t (.lst c l) y=dw P false z σ st none t (.lst c l) y:=by
 unfold dw
 cases elemT P t with
 |none=>rfl
 |some e=>cases c<;>rfl
section
variable {E:Env} {S:bG} {fr:Fr} {σ:Sig} {st:Nat} {d:Option Tmp} {ty:TypeId} {pos:String} {aJ:Array Edge} {gd:Option (Nat×Bool)}
theorem M0 {t u:TypeId} {x y:Operand} {c:Cap} {l:List V} (ho:fr.om=false) (hx:fr.ev E x= .lst c l):opC E S fr σ st ⟨d,.call ⟨.builtin .append, #[x,y], #[t,u]⟩,ty,pos,aJ,gd⟩=(Dj E.P σ st t u (.lst c l) (fr.ev E y)).map fun p=>(p.1,fr,p.2):=by
 show Option.map _ ((((#[t,u]:Array TypeId)[0]?).bind fun t=>(((#[t,u]:Array TypeId)[1]?).bind E.P.underlying).bind fun u=>match u with
  |.int _=>dw E.P fr.om true σ st (d.map fun t=>(fr.d,E.cn t)) t (fr.ev E x) (fr.ev E y)
  |.slice _|.string=>dw E.P fr.om false σ st (d.map fun t=>(fr.d,E.cn t)) t (fr.ev E x) (fr.ev E y)
  |_=>none))=_
 show Option.map _ ((E.P.underlying u).bind _)=_
 rw[ho,hx]
 unfold Dj
 cases E.P.underlying u with
 |none=>rfl
 |some u=>
  cases u<;>try rfl
  all_goals (simp only[Option.bind_some];rw[MZ];first|rfl| (generalize dw _ _ _ _ _ _ _ _ _=o;cases o<;>rfl))
end
def Dk (P:Program) (t u:TypeId) (sz by_:Nat) (z:V):Prop:=∃e ag,elemT P t=some e/\szT P e=some sz/\bytesT P e=some by_/\isAggT P e=some ag/\zeroT P e=some z/\z.cells.length=sz/\0<sz/\(ag||sz==1)=true/\isSliceT P u=true
theorem Dk.mk {P:Program} {t u:TypeId} {sz by_:Nat} {z:V} (e:TypeId) (ag:Bool) (h1:elemT P t=some e) (h2:szT P e=some sz) (h3:bytesT P e=some by_) (h4:isAggT P e=some ag) (h5:zeroT P e=some z)
 (h6:z.cells.length=sz) (h7:0<sz) (h8:(ag||sz==1)=true) (h9:isSliceT P u=true):Dk P t u sz by_ z:=⟨e,ag,h1,h2,h3,h4,h5,h6,h7,h8,h9⟩
def Dl (E:Env) (t:TypeId) (ps:List (Nat×V)):Option (List V):=(partsT E t).bind fun pl=>(zeroT E.P t).bind fun z=>gH pl z.cells ps
section
variable {E:Env} {S:bG} {fr:Fr} {σ:Sig} {st:Nat} {d:Option Tmp} {ty:TypeId} {pos:String} {aJ:Array Edge} {gd:Option (Nat×Bool)}
theorem M4 (t:TypeId) (l:List (Nat×Operand)):opC E S fr σ st ⟨d,.build t l.toArray,ty,pos,aJ,gd⟩=(Dl E t (l.map fun p=>(p.1,fr.ev E p.2))).map fun cs=>(.agg cs,fr,σ):=by
 simp only[opC,aF,Dl]
 cases partsT E t with
 |none=>rfl
 |some pl=>
  simp only[Option.bind_some]
  cases zeroT E.P t with
  |none=>rfl
  |some z=>
   simp only[Option.bind_some]
   cases gH pl z.cells (l.map fun p=>(p.1,fr.ev E p.2))<;>rfl
theorem M5 (t:TypeId) (n:Nat) (l:List (Nat×Operand)):opC E S fr σ st ⟨d,.buildSlice t n l.toArray,ty,pos,aJ,gd⟩=(l7 E t n (l.map fun p=>(p.1,fr.ev E p.2))).map fun v=>(v,fr,σ):=by
 simp only[opC,aF]
 cases l7 E t n (l.map fun p=>(p.1,fr.ev E p.2))<;>rfl
end
section
variable {E:Env} {S:bG} {fr:Fr} {σ:Sig} {st:Nat} {d:Option Tmp} {ty:TypeId} {pos:String} {aJ:Array Edge} {gd:Option (Nat×Bool)}
theorem M6 (t:TypeId) (x i:Operand):opC E S fr σ st ⟨d,.index t x i,ty,pos,aJ,gd⟩=(jU E.P t (fr.ev E x) (fr.ev E i)).map fun v=>(v,fr,σ):=by
 simp only[opC,aF];cases jU E.P t (fr.ev E x) (fr.ev E i)<;>rfl
theorem Dm {P:Program} {t:TypeId} {s:List UInt8} {k:IntKind} {i:Int} (h:isStrT P t=true):jU P t (.str s) (.int k i)=(idxL s i).map fun b=>.int .u8 (b.toNat:Nat):=by
 unfold isStrT at h;unfold jU
 split at h
 ·rename_i he
  rw[he]
  simp only[idx,dK,Option.bind_some,idxL]
  split
  ·simp only[Option.bind_some];rfl
  ·rfl
 ·simp at h
def imax (a b:Int):Int:=if b>a then b else a
def imin (a b:Int):Int:=if b<a then b else a
theorem M7 (x y:Operand) (tys:List TypeId):opC E S fr σ st ⟨d,.call ⟨.builtin .max, #[x,y],tys.toArray⟩,ty,pos,aJ,gd⟩=(dR true (fr.ev E x) [fr.ev E y]).map fun v=>(v,fr,σ):=by
 show Option.map _ ((dR true (fr.ev E x) [fr.ev E y]).map fun v=>(v,σ))=_
 cases dR true (fr.ev E x) [fr.ev E y]<;>rfl
theorem M8 (x y:Operand) (tys:List TypeId):opC E S fr σ st ⟨d,.call ⟨.builtin .min, #[x,y],tys.toArray⟩,ty,pos,aJ,gd⟩=(dR false (fr.ev E x) [fr.ev E y]).map fun v=>(v,fr,σ):=by
 show Option.map _ ((dR false (fr.ev E x) [fr.ev E y]).map fun v=>(v,σ))=_
 cases dR false (fr.ev E x) [fr.ev E y]<;>rfl
theorem M9 (k:IntKind) (a b:Int):dR true (.int k a) [.int k b]=some (.int k (imax a b)):=by simp[dR,imax]
theorem Na (k:IntKind) (a b:Int):dR false (.int k a) [.int k b]=some (.int k (imin a b)):=by simp[dR,imin]
end
theorem len1 (v:V):[v].length=1:=rfl
attribute [go_sem] M6 Dm M7 M8 M9 Na own_ne MU MV MW MR Di xY M4 M5 RU List.map_nil len1 MX M0 kD implies_true eq_self
theorem Nb:pcleanL []=true:=by simp only[pcleanL]
theorem Nc (v:V) (l:List V):pcleanL (v::l)=(pclean v&& pcleanL l):=by simp only[pcleanL]
attribute [go_sem] Nb Nc
inductive Ty where
 |int (k:IntKind)
 |bool
 |str
 |slice (t:Ty)
 |st (n:Nat)
 deriving DecidableEq
inductive Cp where
 |any
 |sh
 |nil
 |full
 |own (t:Nat)
structure Vec (n:Nat) where
 l:List Int
 h:l.length=n
def Vec.at' {n:Nat} (v:Vec n) (i:Int):Int:=v.l.getD i.toNat 0
def Vec.nth {n:Nat} (v:Vec n) (j:Nat):Int:=v.l.getD j 0
def Vec.set {n:Nat} (v:Vec n) (i y:Int):Vec n:=⟨v.l.set i.toNat y,by rw[List.length_set,v.h]⟩
def Vec.rep (n:Nat) (y:Int):Vec n:=⟨List.replicate n y,List.length_replicate⟩
def Vec.lit (n:Nat) (l:List Int):Vec n:=if h:l.length=n then ⟨l,h⟩ else Vec.rep n 0
def Vec.slc {n:Nat} (v:Vec n) (i:Int) (m:Nat):Vec m:=Vec.lit m ((v.l.drop i.toNat).take m)
def Vec.cpy {n:Nat} (v:Vec n) (lo:Int) (l:List Int):Vec n:=Vec.lit n (v.l.take lo.toNat++l++v.l.drop (lo.toNat+l.length))
inductive SgK where
 |i (k:IntKind)
 |a (k:IntKind) (n:Nat)
inductive Sg where
 |i (k:IntKind) (x:Int)
 |a (k:IntKind) (n:Nat) (v:Vec n)
def Sg.w:Sg->Nat
 |.i _ _=>1
 |.a _ n _=>n
def Sg.vs:Sg->List V
 |.i k x=>[.int k x]
 |.a k _ v=>v.l.map (V.int k)
def sgV:List Sg->List V
 | []=>[]
 |s::l=>s.vs++sgV l
def sgW:List Sg->Nat
 | []=>0
 |s::l=>s.w+sgW l
def PayG1:SgK->Type
 |.i _=>Int
 |.a _ n=>Vec n
def PayG:List SgK->Type
 | []=>Unit
 | [k]=>PayG1 k
 |k::h::l=>PayG1 k×PayG (h::l)
def up1:(k:SgK)->PayG1 k->Sg
 |.i k,x=>.i k x
 |.a k n,x=>.a k n x
def upG:(l:List SgK)->PayG l->List Sg
 | [],_=>[]
 | [k],x=>[up1 k x]
 |k::h::l,p=>up1 k p.1::upG (h::l) p.2
def castV {n m:Nat} (v:Vec n):Option (Vec m):=if h:n=m then some (h▸v) else none
def pk1:(k:SgK)->Sg->Option (PayG1 k)
 |.i k,.i k' x=>if k'=k then some x else none
 |.a k n,.a k' _ v=>if k'=k then castV (m:=n) v else none
 |_,_=>none
def pkG:(l:List SgK)->List Sg->Option (PayG l)
 | []=>fun vs=>match vs with
   | []=>some ()
   |_::_=>none
 | [k]=>fun vs=>match vs with
   | [v]=>pk1 k v
   |_=>none
 |k::h::l=>fun vs=>match vs with
  | []=>none
  |v::vs=>match pk1 k v with
   |some x=>match pkG (h::l) vs with
    |some p=>some (x,p)
    |none=>none
   |none=>none
section
variable (T:Nat->Type)
def Den:Ty->Type
 |.int _=>Int
 |.bool=>Bool
 |.str=>List UInt8
 |.slice t=>List (Den t)
 |.st n=>T n
def PayT:List Ty->Type
 | []=>Unit
 | [t]=>Den T t
 |t::u::l=>Den T t×PayT (u::l)
inductive TV where
 |int (k:IntKind) (n:Int)
 |bool (b:Bool)
 |blit (b:Bool)
 |str (s:List UInt8)
 |nilp
 |nilf
 |nilm
 |nili
 |nils
 |agg (cs:List TV)
 |tup (cs:List TV)
 |lst (c:Cp) (t:Ty) (l:List (Den T t))
 |ref (o off:Nat)
 |cref (cs:List TV) (off:Nat)
 |mapr (o:Nat)
 |mapc (k e:Ty) (m:List (Den T k×Den T e))
 |fn (f:Nat) (a b:List TV)
 |opt (j:Nat) (w:Bool) (v:TV)
 |vw (o:Nat) (t:Ty)
 |sub (o:Nat) (t:Ty) (a b:Int)
 |eref (o:Nat) (t:Ty) (i:Int) (off:Nat)
 |sg (ss:List Sg)
 |sv (o off:Nat) (k:IntKind) (n:Nat) (lo hi:Option Int)
 |sel (o off:Nat) (k:IntKind) (n:Nat) (i:Int) (m:Nat)
 |gel (k:IntKind) (n:Nat) (v:Vec n) (i:Int)
 |undef
 |gone
inductive Ob where
 |cells (cs:List (TV T))
 |map (k e:Ty) (m:List (Den T k×Den T e))
 |smap (ks vs:List (TV T))
 |arr (t:Ty) (l:List (Den T t))
 |sg (ss:List Sg)
 |gone
 |ro (b:Ob)
structure MS where
 fr:List (Nat×TV T)
 ob:List (Nat×Ob T)
inductive Sk where
 |d (t:Ty)
 |l (c:Cp) (t:Ty)
 |agg (l:List Sk)
 |ref (o off:Nat)
 |cref (l:List Sk) (off:Nat)
 |mapr (o:Nat)
 |mapc (k e:Ty)
 |fn (f:Nat) (a b:List Sk)
 |nils
 |vw (o:Nat) (t:Ty)
 |sub (o:Nat) (t:Ty)
 |sg (l:List SgK)
 |undef
mutual
def PayS:Sk->Type
 |.d t=>Den T t
 |.l _ t=>List (Den T t)
 |.agg l=>PayL l
 |.ref _ _=>Unit
 |.cref l _=>PayL l
 |.mapr _=>Unit
 |.mapc k e=>List (Den T k×Den T e)
 |.fn _ a b=>PayL a×PayL b
 |.nils=>Unit
 |.vw _ _=>Unit
 |.sub _ _=>Int×Int
 |.sg l=>PayG l
 |.undef=>Unit
def PayL:List Sk->Type
 | []=>Unit
 | [k]=>PayS k
 |k::h::l=>PayS k×PayL (h::l)
end
inductive ObSk where
 |cells (l:List Sk)
 |st (n:Nat)
 |map (k e:Ty)
 |arr (t:Ty)
 |sg (l:List SgK)
def PayO:ObSk->Type
 |.cells l=>PayL T l
 |.st n=>T n
 |.map k e=>List (Den T k×Den T e)
 |.arr t=>List (Den T t)
 |.sg l=>PayG l
def PayOs:List (Nat×ObSk)->Type
 | []=>Unit
 | [(_,k)]=>PayO T k
 | (_,k)::h::l=>PayO T k×PayOs (h::l)
def PaySl:List (Nat×Sk)->Type
 | []=>Unit
 | [(_,k)]=>PayS T k
 | (_,k)::h::l=>PayS T k×PaySl (h::l)
structure Shape where
 sl:List (Nat×Sk)
 ob:List (Nat×ObSk)
def Pay:Shape->Type
 | ⟨s,[]⟩=>PaySl T s
 | ⟨s,o::os⟩=>PaySl T s×PayOs T (o::os)
def Out:List (Ex×Shape)->Type
 | []=>Empty
 | [(_,s)]=>Pay T s
 | (_,s)::h::l=>Pay T s⊕Out (h::l)
end
structure Reg where
 T:Nat->Type
 d:(n:Nat)->T n
 lf:Nat->List Ty
 to:(n:Nat)->PayT T (lf n)->T n
 of:(n:Nat)->T n->PayT T (lf n)
 enc:(n:Nat)->T n->V
 ty:TypeId->Option Ty
 gl:Nat->Option ((k:IntKind)×(n:Nat)×Vec n)
structure FR (R:Reg) where
 args:List Sk
 res:List Sk
 F:PayL R.T args->Option (PayL R.T res)
 d:PayL R.T res
 own:Bool:=false
structure FI (R:Reg) where
 a:List Sk
 b:List Sk
 el:List Sk
 F:PayL R.T a->PayL R.T b->Option (List (PayL R.T el))
def F0:Nat:=1000000
structure FM (R:Reg) where
 args:List Sk
 obs:List (Nat×ObSk)
 res:List Sk
 F:PayL R.T args->PayOs R.T obs->Option (PayL R.T res×PayOs R.T obs)
structure IR (R:Reg) where
 it:Nat->List (FI R)
 im:Nat->List (FM R)
structure Note where
 K:List Nat
 O:List Nat
 sh:Shape
 outs:List (Ex×Shape)
structure Ann where
 loops:List (Nat×Note)
 joins:List (Nat×Note)
def look {α:Type}:List (Nat×α)->Nat->Option α
 | [],_=>none
 | (j,x)::l,i=>bif Nat.beq j i then some x else look l i
section
variable (R:Reg)
def encD:(t:Ty)->Den R.T t->V
 |.int k=>fun n=>.int k n
 |.bool=>fun b=>.bool b
 |.str=>fun s=>.str s
 |.slice t=>fun l=>.lst .sh (l.map (encD t))
 |.st n=>fun x=>R.enc n x
def encs:(l:List Ty)->PayT R.T l->List V
 | [],_=>[]
 | [t],x=>[encD R t x]
 |t::u::l,p=>encD R t p.1::encs (u::l) p.2
def szD:Ty->Nat
 |.st n=>(R.lf n).length
 |_=>1
def dfl:(t:Ty)->Den R.T t
 |.int _=>(0:Int)
 |.bool=>false
 |.str=>([]:List UInt8)
 |.slice t=>([]:List (Den R.T t))
 |.st n=>R.d n
def tv1 (c:Cp):(t:Ty)->Den R.T t->TV R.T
 |.int k=>fun n=>.int k n
 |.bool=>fun b=>.bool b
 |.str=>fun s=>.str s
 |.slice t=>fun l=>.lst c t l
 |.st _=>fun _=>.undef
def tvs (c:Cp):(l:List Ty)->PayT R.T l->List (TV R.T)
 | [],_=>[]
 | [t],x=>[tv1 R c t x]
 |t::u::l,p=>tv1 R c t p.1::tvs c (u::l) p.2
def tvD (c:Cp):(t:Ty)->Den R.T t->TV R.T
 |.st n=>fun x=>.agg (tvs R c (R.lf n) (R.of n x))
 |.int k=>fun n=>.int k n
 |.bool=>fun b=>.bool b
 |.str=>fun s=>.str s
 |.slice t=>fun l=>.lst c t l
def castL {t u:Ty} (l:List (Den R.T t)):Option (List (Den R.T u)):=if h:t=u then some (h▸l) else none
def unInt (k:IntKind):TV R.T->Option Int
 |.int k' n=>if k=k' then some n else none
 |_=>none
def unBool:TV R.T->Option Bool
 |.bool b=>some b
 |.blit b=>some b
 |_=>none
def unStr:TV R.T->Option (List UInt8)
 |.str s=>some s
 |_=>none
def unSl (t:Ty):TV R.T->Option (List (Den R.T t))
 |.lst _ _ l=>castL R l
 |.nils=>some []
 |_=>none
def un1:(t:Ty)->TV R.T->Option (Den R.T t)
 |.int k=>fun v=>unInt R k v
 |.bool=>fun v=>unBool R v
 |.str=>fun v=>unStr R v
 |.slice t=>fun v=>unSl R t v
 |.st _=>fun _=>none
def hd1:List (TV R.T)->TV R.T
 | [v]=>v
 |_=>.gone
def uns:(l:List Ty)->List (TV R.T)->Option (PayT R.T l)
 | []=>fun vs=>match vs with
   | []=>some ()
   |_::_=>none
 | [t]=>fun vs=>un1 R t (hd1 R vs)
 |t::u::l=>fun vs=>match vs with
  | []=>none
  |v::vs=>match un1 R t v with
   |some x=>match uns (u::l) vs with
    |some p=>some (x,p)
    |none=>none
   |none=>none
def unSt (n:Nat):TV R.T->Option (R.T n)
 |.agg cs=>match uns R (R.lf n) cs with
  |some p=>some (R.to n p)
  |none=>none
 |_=>none
def unD:(t:Ty)->TV R.T->Option (Den R.T t)
 |.st n=>fun v=>unSt R n v
 |.int k=>fun v=>unInt R k v
 |.bool=>fun v=>unBool R v
 |.str=>fun v=>unStr R v
 |.slice t=>fun v=>unSl R t v
def TV.cells {T:Nat->Type}:TV T->List (TV T)
 |.agg cs=>cs
 |v=>[v]
mutual
def ment {T:Nat->Type} (o:Nat):TV T->Bool
 |.ref p _=>Nat.beq p o
 |.mapr p=>Nat.beq p o
 |.agg cs=>mentL o cs
 |.tup cs=>mentL o cs
 |.cref cs _=>mentL o cs
 |.fn _ a b=>mentL o a||mentL o b
 |.opt _ _ v=>ment o v
 |.vw p _=>Nat.beq p o
 |.sub p _ _ _=>Nat.beq p o
 |.eref p _ _ _=>Nat.beq p o
 |.sv p _ _ _ _ _=>Nat.beq p o
 |.sel p _ _ _ _ _=>Nat.beq p o
 |_=>false
def mentL {T:Nat->Type} (o:Nat):List (TV T)->Bool
 | []=>false
 |v::l=>ment o v||mentL o l
end
def Ob.ment {T:Nat->Type} (o:Nat):Ob T->Bool
 |.cells cs=>mentL o cs
 |.smap ks vs=>mentL o ks||mentL o vs
 |.ro b=>Ob.ment o b
 |_=>false
mutual
def wk {T:Nat->Type} (t:Nat):TV T->TV T
 |.lst (.own u) ty l=>bif Nat.beq u t then .lst .any ty l else .lst (.own u) ty l
 |.agg cs=>.agg (wkL t cs)
 |.tup cs=>.tup (wkL t cs)
 |.cref cs off=>.cref (wkL t cs) off
 |.fn f a b=>.fn f (wkL t a) (wkL t b)
 |.opt j w v=>.opt j w (wk t v)
 |v=>v
def wkL {T:Nat->Type} (t:Nat):List (TV T)->List (TV T)
 | []=>[]
 |v::l=>wk t v::wkL t l
end
def Ob.wk {T:Nat->Type} (t:Nat):Ob T->Ob T
 |.cells cs=>.cells (wkL t cs)
 |.smap ks vs=>.smap (wkL t ks) (wkL t vs)
 |.ro b=>.ro (Ob.wk t b)
 |o=>o
def mapF {α:Type} (f:α->α):List (Nat×α)->List (Nat×α)
 | []=>[]
 | (i,x)::l=>(i,f x)::mapF f l
def delF {α:Type} (i:Nat):List (Nat×α)->List (Nat×α)
 | []=>[]
 | (j,x)::l=>bif Nat.beq j i then delF i l else (j,x)::delF i l
def MS.wk {T:Nat->Type} (t:Nat) (st:MS T):MS T:=⟨mapF (Aq.wk t) st.fr,mapF (Ob.wk t) st.ob⟩
def unopt {T:Nat->Type} (j:Nat):TV T->TV T
 |.opt i w v=>bif Nat.beq i j then .gone else .opt i w v
 |v=>v
def MS.put {T:Nat->Type} (st:MS T) (i:Nat) (v:TV T):MS T:={st with fr:=(i,v)::mapF (unopt i) (delF i st.fr)}
def MS.putO {T:Nat->Type} (st:MS T) (d:Option Nat) (v:TV T):MS T:=match d with
 |some i=>st.put i v
 |none=>st
def lrn {T:Nat->Type} (j:Nat) (b:Bool):TV T->TV T
 |.opt i w v=>bif Nat.beq i j then (bif (b==w) then v else .undef) else .opt i w v
 |v=>v
def MS.learn {T:Nat->Type} (st:MS T) (j:Nat) (b:Bool):MS T:={st with fr:=(j,.blit b)::mapF (lrn j b) (delF j st.fr)}
def MS.learnO {T:Nat->Type} (st:MS T) (c:Operand) (b:Bool):MS T:=match c with
 |.tmp j=>st.learn j b
 |_=>st
def killO {T:Nat->Type} (o:Nat) (v:TV T):TV T:=bif ment o v then .gone else v
def killC {T:Nat->Type} (o:Nat):List (TV T)->List (TV T)
 | []=>[]
 |v::l=>killO o v::killC o l
def Ob.kill {T:Nat->Type} (o:Nat):Ob T->Ob T
 |.cells cs=>.cells (killC o cs)
 |v=>bif Ob.ment o v then .gone else v
def MS.new {T:Nat->Type} (st:MS T) (o:Nat) (b:Ob T):MS T:=⟨mapF (killO o) st.fr,(o,b)::mapF (Ob.kill o) (delF o st.ob)⟩
def MS.set {T:Nat->Type} (st:MS T) (o:Nat) (b:Ob T):MS T:={st with ob:=(o,b)::delF o st.ob}
def MS.del {T:Nat->Type} (st:MS T) (o:Nat):MS T:={st with ob:=delF o st.ob}
def stripO {T:Nat->Type}:Ob T->Ob T
 |.ro b=>stripO b
 |b=>b
def rdOb {T:Nat->Type} (st:MS T) (o:Nat):Option (Ob T):=match look st.ob o with
 |some b=>some (stripO b)
 |none=>none
def isRo {T:Nat->Type}:Ob T->Bool
 |.ro _=>true
 |.gone=>true
 |_=>false
def memN (i:Nat):List Nat->Bool
 | []=>false
 |j::l=>Nat.beq i j||memN i l
mutual
def solid {T:Nat->Type} (W:List Nat):TV T->Bool
 |.lst (.own _) _ _=>false
 |.ref o _=>!(memN o W)
 |.mapr o=>!(memN o W)
 |.agg cs=>solidL W cs
 |.tup cs=>solidL W cs
 |.cref cs _=>solidL W cs
 |.fn _ a b=>solidL W a&& solidL W b
 |.opt _ _ _=>false
 |.vw o _=>!(memN o W)
 |.sub o _ _ _=>!(memN o W)
 |.eref o _ _ _=>!(memN o W)
 |.sv o _ _ _ _ _=>!(memN o W)
 |.sel o _ _ _ _ _=>!(memN o W)
 |.gone=>false
 |_=>true
def solidL {T:Nat->Type} (W:List Nat):List (TV T)->Bool
 | []=>true
 |v::l=>solid W v&& solidL W l
end
def solidO {T:Nat->Type} (W:List Nat):Ob T->Bool
 |.cells cs=>solidL W cs
 |.map _ _ _=>true
 |.smap ks vs=>solidL W ks&& solidL W vs
 |.arr _ _=>true
 |.sg _=>true
 |.ro b=>solidO W b
 |.gone=>false
def selF {α:Type} (p:Nat->α->Bool) (f:α->α) (l:List (Nat×α)):List Nat->List (Nat×α)
 | []=>[]
 |i::is=>match look l i with
  |some x=>bif p i x then (i,f x)::selF p f l is else selF p f l is
  |none=>selF p f l is
def wkA {T:Nat->Type}:TV T->TV T
 |.lst (.own _) t l=>.lst .any t l
 |v=>v
def base {T:Nat->Type} (W K O:List Nat) (mark:Ob T->Ob T) (st:MS T):MS T:=
 ⟨selF (fun i v=>!(memN i W)&& solid W (wkA v)) wkA st.fr K,selF (fun o b=>!(memN o W)&& solidO W b) mark st.ob O⟩
def MS.over {T:Nat->Type} (st b:MS T):MS T:=⟨st.fr++b.fr,st.ob++b.ob⟩
def ofScalarM {T:Nat->Type}:Value->Option (TV T)
 |.bool b=>some (.blit b)
 |.int k n=>some (.int k n)
 |.string s=>some (.str s.data.toList)
 |.pointer none=>some .nilp
 |.slice none 0 0=>some .nils
 |.map none=>some .nilm
 |.nilFunc=>some .nilf
 |.nilIface=>some .nili
 |_=>none
def ofScalarsM {T:Nat->Type}:List Value->Option (List (TV T))
 | []=>some []
 |v::l=>match ofScalarM v with
  |some x=>match ofScalarsM l with
   |some y=>some (x::y)
   |none=>none
  |none=>none
def ofValueM {T:Nat->Type}:Value->Option (TV T)
 |.agg cs=>match ofScalarsM cs.toList with
  |some l=>some (.agg l)
  |none=>none
 |v=>ofScalarM v
def resG {T:Nat->Type} (g:List (Nat×Bool)):TV T->Option (TV T)
 |.opt j w v=>match look g j with
  |some u=>some (bif u==w then v else .undef)
  |none=>none
 |v=>some v
def evM {T:Nat->Type} (g:List (Nat×Bool)) (st:MS T):Operand->Option (TV T)
 |.tmp t=>match look st.fr t with
  |some v=>resG g v
  |none=>none
 |.const v=>ofValueM v
 |.func f=>some (.fn f [] [])
 |.global _=>none
def evMs {T:Nat->Type} (g:List (Nat×Bool)) (st:MS T):List Operand->Option (List (TV T))
 | []=>some []
 |x::l=>match evM g st x with
  |some v=>match evMs g st l with
   |some vs=>some (v::vs)
   |none=>none
  |none=>none
def evPs {T:Nat->Type} (g:List (Nat×Bool)) (st:MS T):List (Nat×Operand)->Option (List (Nat×TV T))
 | []=>some []
 | (i,x)::l=>match evM g st x with
   |some v=>match evPs g st l with
    |some vs=>some ((i,v)::vs)
    |none=>none
   |none=>none
def splitG:List Sg->Nat->Option (List Sg×List Sg)
 |ss,0=>some ([],ss)
 | [],_+1=>none
 |s::ss,n+1=>bif Nat.ble s.w (n+1) then (match splitG ss (n+1-s.w) with
  |some (a,b)=>some (s::a,b)
  |none=>none) else none
def unIs {T:Nat->Type} (k:IntKind):List (TV T)->Option (List Int)
 | []=>some []
 |.int k' x::l=>if k'=k then (match unIs k l with
  |some xs=>some (x::xs)
  |none=>none) else none
 |_=>none
def subG {α:Type} (l:List α):Option Int->Option Int->List α
 |none,none=>l
 |some i,none=>l.drop i.toNat
 |none,some j=>l.take j.toNat
 |some i,some j=>(l.take j.toNat).drop i.toNat
def svL {T:Nat->Type} (st:MS T) (o off:Nat) (k:IntKind) (n:Nat) (lo hi:Option Int):Option (List Int):=
 match rdOb st o with
 |some (.sg ss)=>match splitG ss off with
  |some (_,.a k' n' v::_)=>if k'=k then (bif Nat.beq n' n then some (subG v.l lo hi) else none) else none
  |_=>none
 |some (.cells cs)=>bif Nat.ble (off+n) cs.length then (match unIs k ((cs.drop off).take n) with
  |some l=>some (subG l lo hi)
  |none=>none) else none
 |_=>none
def subI {α:Type} (l:List α) (a b:Int):List α:=(l.take b.toNat).drop a.toNat
def clo1 {T:Nat->Type} (st:MS T):TV T->TV T
 |.ref o off=>match rdOb st o with
  |some (.cells cs)=>.cref cs off
  |_=>.ref o off
 |.mapr o=>match rdOb st o with
  |some (.map k e m)=>.mapc k e m
  |_=>.mapr o
 |.vw o t=>match rdOb st o with
  |some (.arr t' l)=>if t'=t then .lst .sh t' l else .vw o t
  |_=>.vw o t
 |.sub o t a b=>match rdOb st o with
  |some (.arr t' l)=>if t'=t then .lst .sh t' (subI l a b) else .sub o t a b
  |_=>.sub o t a b
 |.sv o off k n lo hi=>match svL st o off k n lo hi with
  |some l=>.lst .sh (.int k) l
  |none=>.sv o off k n lo hi
 |v=>v
def clo1s {T:Nat->Type} (st:MS T):List (TV T)->List (TV T)
 | []=>[]
 |v::l=>clo1 st v::clo1s st l
def cloM {T:Nat->Type} (st:MS T):TV T->TV T
 |.fn f a b=>.fn f (clo1s st a) (clo1s st b)
 |.agg cs=>.agg (clo1s st cs)
 |v=>clo1 st v
def cloMs {T:Nat->Type} (st:MS T):List (TV T)->List (TV T)
 | []=>[]
 |v::l=>cloM st v::cloMs st l
def oneM {T:Nat->Type}:TV T->Bool
 |.agg _=>false
 |.sg _=>false
 |.tup _=>false
 |.gone=>false
 |.undef=>false
 |.opt _ _ _=>false
 |_=>true
def oneMs {T:Nat->Type}:List (TV T)->Bool
 | []=>true
 |v::l=>oneM v&& oneMs l
def notG {T:Nat->Type}:TV T->Bool
 |.gone=>false
 |.sg _=>false
 |.opt _ _ _=>false
 |_=>true
mutual
def stV {T:Nat->Type}:TV T->Bool
 |.int _ _=>true
 |.bool _=>true
 |.blit _=>true
 |.str _=>true
 |.nilp=>true
 |.nilf=>true
 |.nilm=>true
 |.nili=>true
 |.lst .sh _ _=>true
 |.agg cs=>stL cs
 |.tup cs=>stL cs
 |.mapc _ _ _=>true
 |.cref cs _=>stL cs
 |.fn _ a b=>stL a&& stL b
 |.sg _=>true
 |_=>false
def stL {T:Nat->Type}:List (TV T)->Bool
 | []=>true
 |v::l=>stV v&& stL l
end
def cl1 {T:Nat->Type}:TV T->Bool
 |.lst _ _ _=>true
 |.nils=>true
 |v=>stV v
def cl1s {T:Nat->Type}:List (TV T)->Bool
 | []=>true
 |v::l=>cl1 v&& cl1s l
def clV {T:Nat->Type}:TV T->Bool
 |.agg cs=>cl1s cs
 |v=>cl1 v
def clVs {T:Nat->Type}:List (TV T)->Bool
 | []=>true
 |v::l=>clV v&& clVs l
mutual
def cSk:Sk->Bool
 |.d _=>true
 |.l c _=>match c with
  |.any=>true
  |.sh=>true
  |_=>false
 |.agg l=>cSkL l
 |.cref l _=>cSkL l
 |.mapc _ _=>true
 |.fn _ a b=>cSkL a&& cSkL b
 |.sg _=>true
 |_=>false
def cSkL:List Sk->Bool
 | []=>true
 |k::l=>cSk k&& cSkL l
def dep:Sk->Nat
 |.agg l=>depL l+3
 |.cref l _=>depL l+3
 |.fn _ a b=>max (depL a) (depL b)+3
 |_=>3
def depL:List Sk->Nat
 | []=>0
 |k::l=>max (dep k) (depL l)
end
def flatT:Ty->Bool
 |.int _=>true
 |.bool=>true
 |.str=>true
 |_=>false
def flatSk:List Sk->Bool
 | []=>true
 |.d t::l=>flatT t&& flatSk l
 |.sg _::l=>flatSk l
 |_=>false
mutual
def encS:(k:Sk)->PayS R.T k->V
 |.d t,x=>encD R t x
 |.l _ t,x=>encD R (.slice t) x
 |.agg l,x=>.agg (encSL l x)
 |.cref l off,x=>.cref (encSL l x) off
 |.mapc k e,x=>.mapc (List.map (fun p=>encD R k p.1) x) (List.map (fun p=>encD R e p.2) x)
 |.fn f a b,x=>.fn (.func f) (encSL a x.1) (encSL b x.2)
 |.nils,_=>.lst .sh []
 |.ref _ _,_=>undefV
 |.mapr _,_=>undefV
 |.vw _ _,_=>undefV
 |.sub _ _,_=>undefV
 |.sg l,x=>.agg (sgV (upG l x))
 |.undef,_=>undefV
def encSL:(l:List Sk)->PayL R.T l->List V
 | [],_=>[]
 | [k],x=>[encS k x]
 |k::h::l,p=>encS k p.1::encSL (h::l) p.2
end
def retV:List V->V
 | [v]=>v
 |vs=>.tup vs
def capLe:Cp->Cp->Bool
 |_,.any=>true
 |.sh,.sh=>true
 |.nil,.nil=>true
 |.nil,.own _=>true
 |.full,.own _=>true
 |.full,.full=>true
 |.own t,.own u=>Nat.beq t u
 |_,_=>false
def pkLst (c:Cp) (t:Ty):TV R.T->Option (List (Den R.T t))
 |.lst c' _ l=>bif capLe c' c then castL R l else none
 |.nils=>bif capLe .nil c then some [] else none
 |_=>none
def castM {k e k' e':Ty} (m:List (Den R.T k'×Den R.T e')):Option (List (Den R.T k×Den R.T e)):=if h:k'=k/\e'=e then some (by rw[<-h.1,<-h.2];exact m) else none
mutual
def pk:(k:Sk)->TV R.T->Option (PayS R.T k)
 |.d t=>fun v=>unD R t v
 |.l c t=>fun v=>pkLst R c t v
 |.agg l=>fun v=>match v with
  |.agg cs=>pkL l cs
  |_=>none
 |.ref o off=>fun v=>match v with
  |.ref p off'=>bif Nat.beq p o&& Nat.beq off' off then some () else none
  |_=>none
 |.cref l off=>fun v=>match v with
  |.cref cs off'=>bif Nat.beq off' off then pkL l cs else none
  |_=>none
 |.mapr o=>fun v=>match v with
  |.mapr p=>bif Nat.beq p o then some () else none
  |_=>none
 |.mapc k e=>fun v=>match v with
  |.mapc _ _ m=>castM R m
  |_=>none
 |.fn f a b=>fun v=>match v with
  |.fn f' a' b'=>bif Nat.beq f' f then (match pkL a a' with
   |some x=>match pkL b b' with
    |some y=>some (x,y)
    |none=>none
   |none=>none) else none
  |_=>none
 |.nils=>fun v=>match v with
  |.nils=>some ()
  |_=>none
 |.vw o t=>fun v=>match v with
  |.vw p t'=>bif Nat.beq p o then (if t'=t then some () else none) else none
  |_=>none
 |.sub o t=>fun v=>match v with
  |.sub p t' a b=>bif Nat.beq p o then (if t'=t then some (a,b) else none) else none
  |_=>none
 |.sg l=>fun v=>match v with
  |.sg ss=>pkG l ss
  |_=>none
 |.undef=>fun v=>match v with
  |.undef=>some ()
  |_=>none
def pkL:(l:List Sk)->List (TV R.T)->Option (PayL R.T l)
 | []=>fun vs=>match vs with
   | []=>some ()
   |_::_=>none
 | [k]=>fun vs=>match vs with
   | [v]=>pk k v
   |_=>none
 |k::h::l=>fun vs=>match vs with
  | []=>none
  |v::vs=>match pk k v with
   |some x=>match pkL (h::l) vs with
    |some p=>some (x,p)
    |none=>none
   |none=>none
end
mutual
def up (c:Cp):(k:Sk)->PayS R.T k->TV R.T
 |.d t,x=>tvD R c t x
 |.l c t,x=>.lst c t x
 |.agg l,x=>.agg (upL c l x)
 |.ref o off,_=>.ref o off
 |.cref l off,x=>.cref (upL c l x) off
 |.mapr o,_=>.mapr o
 |.mapc k e,x=>.mapc k e x
 |.fn f a b,x=>.fn f (upL c a x.1) (upL c b x.2)
 |.nils,_=>.nils
 |.vw o t,_=>.vw o t
 |.sub o t,x=>.sub o t x.1 x.2
 |.sg l,x=>.sg (upG l x)
 |.undef,_=>.undef
def upL (c:Cp):(l:List Sk)->PayL R.T l->List (TV R.T)
 | [],_=>[]
 | [k],x=>[up c k x]
 |k::h::l,p=>up c k p.1::upL c (h::l) p.2
end
def pkO:(k:ObSk)->Ob R.T->Option (PayO R.T k)
 |.cells l=>fun o=>match o with
  |.cells cs=>pkL R l cs
  |_=>none
 |.st n=>fun o=>match o with
  |.cells cs=>unSt R n (.agg cs)
  |_=>none
 |.map k e=>fun o=>match o with
  |.map _ _ m=>castM R m
  |_=>none
 |.arr t=>fun o=>match o with
  |.arr _ l=>castL R l
  |_=>none
 |.sg l=>fun o=>match o with
  |.sg ss=>pkG l ss
  |_=>none
def upO:(k:ObSk)->PayO R.T k->Ob R.T
 |.cells l,x=>.cells (upL R .any l x)
 |.st n,x=>.cells (tvs R .any (R.lf n) (R.of n x))
 |.map k e,x=>.map k e x
 |.arr t,x=>.arr t x
 |.sg l,x=>.sg (upG l x)
def pkSl (st:List (Nat×TV R.T)):(l:List (Nat×Sk))->Option (PaySl R.T l)
 | []=>some ()
 | [(i,k)]=>match look st i with
   |some v=>pk R k v
   |none=>none
 | (i,k)::h::l=>match look st i with
   |some v=>match pk R k v with
    |some x=>match pkSl st (h::l) with
     |some p=>some (x,p)
     |none=>none
    |none=>none
   |none=>none
def upSl:(l:List (Nat×Sk))->PaySl R.T l->List (Nat×TV R.T)
 | [],_=>[]
 | [(i,k)],x=>[(i,up R .any k x)]
 | (i,k)::h::l,p=>(i,up R .any k p.1)::upSl (h::l) p.2
def pkOs (st:List (Nat×Ob R.T)):(l:List (Nat×ObSk))->Option (PayOs R.T l)
 | []=>some ()
 | [(i,k)]=>match look st i with
   |some v=>pkO R k v
   |none=>none
 | (i,k)::h::l=>match look st i with
   |some v=>match pkO R k v with
    |some x=>match pkOs st (h::l) with
     |some p=>some (x,p)
     |none=>none
    |none=>none
   |none=>none
def upOs:(l:List (Nat×ObSk))->PayOs R.T l->List (Nat×Ob R.T)
 | [],_=>[]
 | [(i,k)],x=>[(i,upO R k x)]
 | (i,k)::h::l,p=>(i,upO R k p.1)::upOs (h::l) p.2
def pack (st:MS R.T):(s:Shape)->Option (Pay R.T s)
 | ⟨s,[]⟩=>pkSl R st.fr s
 | ⟨s,o::os⟩=>match pkSl R st.fr s with
   |some x=>match pkOs R st.ob (o::os) with
    |some y=>some (x,y)
    |none=>none
   |none=>none
def isE {T:Nat->Type}:TV T->Bool
 |.nils=>true
 |.lst .nil _ l=>l.isEmpty
 |.lst .full _ l=>l.isEmpty
 |_=>false
def prepS {T:Nat->Type} (W:List Nat):List (Nat×Sk)->MS T->MS T
 | [],st=>st
 | (i,.vw o t)::l,st=>match look st.fr i with
   |some v=>bif isE v&& memN o W then prepS W l ⟨(i,.vw o t)::(st.new o (.arr t [])).fr,(st.new o (.arr t [])).ob⟩ else prepS W l st
   |none=>prepS W l st
 |_::l,st=>prepS W l st
def packW (W:List Nat) (st:MS R.T) (s:Shape):Option (Pay R.T s):=pack R (prepS W s.sl st) s
def unpack:(s:Shape)->Pay R.T s->MS R.T
 | ⟨s,[]⟩,x=>⟨upSl R s x,[]⟩
 | ⟨s,o::os⟩,x=>⟨upSl R s x.1,upOs R (o::os) x.2⟩
def exEq:Ex->Ex->Bool
 |.normal,.normal=>true
 |.ret,.ret=>true
 |.exit i,.exit j=>Nat.beq i j
 |_,_=>false
def packOut (W:List Nat) (e:Ex) (st:MS R.T):(l:List (Ex×Shape))->Option (Out R.T l)
 | []=>none
 | [(x,s)]=>bif exEq e x then packW R W st s else none
 | (x,s)::h::l=>bif exEq e x then (match packW R W st s with
   |some p=>some (.inl p)
   |none=>none) else (match packOut W e st (h::l) with
   |some p=>some (.inr p)
   |none=>none)
def unpackOut {β:Type} (b:MS R.T) (k:Ex->MS R.T->Option β):(l:List (Ex×Shape))->Out R.T l->Option β
 | [],_=>none
 | [(x,s)],p=>k x (b.over (unpack R s p))
 | (x,s)::h::l,p=>Sum.elim (fun q=>k x (b.over (unpack R s q))) (fun q=>unpackOut b k (h::l) q) p
end
end Aq
end
