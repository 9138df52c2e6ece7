/- Part of the proof of a law. -/
import Derived.Test.YtdcnajadcbedkaaGreatDoorS805
import Derived.Test.YtdcnajadcbedkaaGreatDoorS814
set_option linter.all false
set_option linter.unusedSimpArgs false
set_option linter.unusedSectionVars false
section
open Go Go.Proofs Aq
namespace Sh
set_option maxRecDepth 100000
set_option linter.unusedSimpArgs false
set_option linter.unusedVariables false
abbrev zY:List Sk:=[.dW,.d (.int .i64)]
def Dy {α:Type} (k:Int):Option (List α):=if 0≤k∧k≤2^40 then some [] else none
@[irreducible] def Ql (p:aA R.T zY):Option (List Int):=Dy p.2
@[irreducible] def Qm (p:aA R.T zY):Option (List Int):=Dy p.2
@[irreducible] def Qn (p:aA R.T zY):Option (List (List UInt8)):=Dy p.2
theorem Qo {n:Int} (h0: -(2^63)≤n) (h1:n<2^63):IntKind.i64.wrap n=n:=by
 rw[IntKind.wrap_i64];omega
def JA (sz:Nat) (v:V) (σ:ah):Prop:=v= .aj .nil []∨∃loc s cap ag cs,v= .vw loc s 0 0 cap sz ag∧σ.bO loc s=some cs
section
variable {E:Env} {S:iK} {fr:Fr} {σ:ah} {st ty:Nat} {pos:String} {bL:Array Edge} {gd:Option (Nat×Bool)}
theorem zZ {d:Option Nat} {x:Operand} {t e:TypeId} (hx:fr.ev E x= .aj .nil []) (ht:gG E.P t=some e):opC E S fr σ st ⟨d,.call ⟨.builtin .cap, #[x], #[t]⟩,ty,pos,bL,gd⟩=some (.int .i64 0,fr,σ):=by
 show Option.map _ ((some t).bind fun t=>(gG E.P t).bind fun _=>match fr.ev E x with
  |.aj .nil l|.aj .full l=>some (V.int .i64 l.length,σ)
  |_=>none)=_
 rw[Option.bind_some,ht,hx];rfl
theorem Qp {d:Option Nat} {x h:Operand} {t e:TypeId} {sz:Nat} (hx:fr.ev E x= .aj .nil []) (hh:fr.ev E h= .int .i64 0) (hu:E.P.underlying t=some (.slice e)) (hs:bJ E.P e=some sz):
 opC E S fr σ st ⟨d,.slice t x none (some h) none,ty,pos,bL,gd⟩=some (.aj .nil [],fr,σ):=by
 show Option.map _ ((ko E.P σ t (fr.ev E x) none (some (fr.ev E h)) none).map fun v=>(v,σ))=_
 rw[hx,hh]
 unfold ko
 rw[hu];dsimp only
 rw[hs];rfl
theorem Qq {d:Option Nat} {x h:Operand} {t e:TypeId} {sz len cap s:Nat} {loc:Aq.Loc} {ag:Bool} (hx:fr.ev E x= .vw loc s 0 len cap sz ag) (hh:fr.ev E h= .int .i64 0) (hu:E.P.underlying t=some (.slice e)) (hs:bJ E.P e=some sz):
 opC E S fr σ st ⟨d,.slice t x none (some h) none,ty,pos,bL,gd⟩=some (.vw loc s 0 0 cap sz ag,fr,σ):=by
 show Option.map _ ((ko E.P σ t (fr.ev E x) none (some (fr.ev E h)) none).map fun v=>(v,σ))=_
 rw[hx,hh]
 unfold ko
 rw[hu];dsimp only
 rw[hs]
 have:iY len cap none (some (.int .i64 0)) none=some (0,0,cap):=by
  unfold iY bnd kg
  simp
 rw[this]
 simp
def YU (k:Int) (z:V):Nat:=0+(List.replicate k.toNat z).length
def JB (k:Int) (z:V):List V:=(([]:List V)++List.replicate k.toNat z).flatMap V.cells
theorem Qr {d:Nat} {x y:Operand} {t u e:TypeId} {k:Int} {sz dz:Nat} {z:V} {ag:Bool} (ho:fr.om=true) (hx:fr.ev E x= .aj .nil []) (hy:fr.ev E y= .int .i64 k) (hu:E.P.underlying u=some (.int .i64))
 (h1:gG E.P t=some e) (h2:bJ E.P e=some sz) (h3:ni E.P e=some dz) (h4:fP E.P e=some ag) (h5:fF E.P e=some z) (h6:z.cells.length=sz) (h7:0<sz) (h8:(ag||sz==1)=true) (h9:bf z.cells=true)
 (h10:dz≤16) (k0:0≤k) (k1:k≤2^40):
 opC E S fr σ st ⟨some d,.call ⟨.builtin .append, #[x,y], #[t,u]⟩,ty,pos,bL,gd⟩=some (.vw (fr.d,d) st 0 (YU k z) (YU k z) sz ag,fr,σ.setObj (fr.d,d) st (.cells (JB k z))):=by
 show Option.map _ ((some t).bind fun t=>((some u).bind E.P.underlying).bind fun u=>match u with
  |.int _=>gy E.P fr.om true σ st (some (fr.d,d)) t (fr.ev E x) (fr.ev E y)
  |.slice _|.string=>gy E.P fr.om false σ st (some (fr.d,d)) t (fr.ev E x) (fr.ev E y)
  |_=>none)=_
 rw[Option.bind_some,Option.bind_some,hu,ho,hx,hy]
 show Option.map _ (gy E.P true true σ st (some (fr.d,d)) t (.aj .nil []) (.int .i64 k))=_
 unfold gy
 rw[h1,Option.bind_some,h2,Option.bind_some,h3,Option.bind_some,h4,Option.bind_some,h5,Option.bind_some,if_pos ⟨rfl,h6,h7,h8⟩]
 rw[show jo σ ag sz z (.int .i64 k)=some (List.replicate k.toNat z) from (if_pos ⟨k0,by omega⟩:(if 0≤k∧k≤2^47 then some (List.replicate k.toNat z) else none)=_),Option.bind_some,if_pos (by rw[List.all_replicate,h9];simp)]
 dsimp only
 have hr:dD (([]:List V).length+(List.replicate k.toNat z).length) dz=true:=by
  unfold dD
  simp only[List.length_nil,Nat.zero_add,List.length_replicate,Bool.and_eq_true,decide_eq_true_eq]
  have hk:k.toNat≤2^40:=by omega
  exact⟨Nat.le_trans (Nat.mul_le_mul hk h10) (by decide),by omega⟩
 rw[if_pos ⟨hr,rfl⟩]
 rfl
end
theorem aiF (k:Int) (h0:0≤k) (h1:k≤2^40):kE E 174 [.aj .nil [],.int .i64 k] 1 ah.init (JA 1):=by
 have hP:E.P=Tryz.prog:=rfl
 have e1:gG E.P 61=some 3:=by kernel_rfl
 have e2:bJ E.P 3=some 1:=by kernel_rfl
 have e6:E.P.underlying 61=some (.slice 3):=by kernel_rfl
 have e7:E.P.underlying 3=some (.int .i64):=by kernel_rfl
 have e8:fF E.P 3=some (.int .i64 0):=by kernel_rfl
 have e9:fP E.P 3=some false:=by kernel_rfl
 have e10:ni E.P 3=some 8:=by kernel_rfl
 have e3:decide (k<0)=false:=decide_eq_false (by omega)
 have e4:IntKind.i64.wrap (k-0)=k:=by rw[Int.sub_zero];exact Qo (by omega) (by omega)
 have e5:IntKind.i64.wrap (0-((0:Nat):Int))=0:=by decide
 have hres:Tryz.f174.results.toList=[.tmp 4]:=rfl
 refine kE.of (fn:=Tryz.f174) (c:=Tryz.f174.body.getD .skip) Tryz.func174 rfl (by kernel_rfl) ?_
 generalize hfr:({d:=1,om:=E.om 174,tm:=fun i=>([.aj .nil [],.int .i64 k]:List V).getD i aC}:Fr)=fr
 have a0:fr.tm 0= .aj .nil []:=by rw[←hfr];rfl
 have a1:fr.tm 1= .int .i64 k:=by rw[←hfr];rfl
 have a2:fr.om=true:=by rw[←hfr];rfl
 have a3:fr.d=1:=by rw[←hfr]
 clear hfr
 refine CW.seq (CW.region ?_)
 refine OW.o1 (by rfl) (fun S=>by simp only[go_sem,Nat.reduceBEq,Nat.reduceAdd, *];with_reducible exact Is.rfl) ?_
 refine OW.nil (bR.n ?_)
 refine CW.seq (CW.seq (CW.region ?_))
 refine OW.o1 (by rfl) (fun S=>by simp only[go_sem,Nat.reduceBEq,Nat.reduceAdd, *];with_reducible exact Is.rfl) ?_
 refine OW.o1 (by rfl) (fun S=>by simp only[go_sem,Nat.reduceBEq,Nat.reduceAdd, *];with_reducible exact Is.rfl) ?_
 refine OW.nil (bR.n ?_)
 refine CW.qE (by simp only[go_sem,Nat.reduceBEq,Nat.reduceAdd, *];exact Is.rfl) ?_
 refine CW.skip (bR.n ?_)
 refine CW.seq (CW.seq (CW.region ?_))
 refine OW.o1 (by rfl) (fun S=>by simp only[go_sem,Nat.reduceBEq,Nat.reduceAdd, *];with_reducible exact Is.rfl) ?_
 refine OW.o1 (by rfl) (fun S=>by simp only[go_sem,Nat.reduceBEq,Nat.reduceAdd, *];with_reducible exact Is.rfl) ?_
 refine OW.o1 (by rfl) (fun S=>zZ (by simp only[go_sem,Nat.reduceBEq, *]) e1) ?_
 refine OW.o1 (by rfl) (fun S=>by simp only[go_sem,Nat.reduceBEq,Nat.reduceAdd, *];with_reducible exact Is.rfl) ?_
 refine OW.o1 (by rfl) (fun S=>by simp only[go_sem,Nat.reduceBEq,Nat.reduceAdd,List.length_nil, *];with_reducible exact Is.rfl) ?_
 refine OW.o1 (by rfl) (fun S=>by simp only[go_sem,Nat.reduceBEq,Nat.reduceAdd, *];with_reducible exact Is.rfl) ?_
 refine OW.o1 (by rfl) (fun S=>by simp only[go_sem,Nat.reduceBEq,Nat.reduceAdd, *];with_reducible exact Is.rfl) ?_
 refine OW.o1 (by rfl) (fun S=>by simp only[go_sem,Nat.reduceBEq,Nat.reduceAdd, *];with_reducible exact Is.rfl) ?_
 refine OW.nil (bR.n ?_)
 refine CW.seq (CW.region ?_)
 refine OW.o1 (by rfl) (fun S=>by simp only[go_sem,Nat.reduceBEq,Nat.reduceAdd, *];with_reducible exact Is.rfl) ?_
 refine OW.o1 (by rfl) (fun S=>by simp only[go_sem,Nat.reduceBEq,Nat.reduceAdd, *];with_reducible exact Is.rfl) ?_
 refine OW.nil (bR.n ?_)
 cases hk:decide (k>0) with
 |false=>
  refine CW.qE (by simp only[go_sem,Nat.reduceBEq,Nat.reduceAdd, *];exact Is.rfl) ?_
  refine CW.skip (bR.n (bR.n ?_))
  refine CW.seq (CW.region ?_)
  refine OW.o1 (by rfl) (fun S=>by simp only[go_sem,Nat.reduceBEq,Nat.reduceAdd, *];with_reducible exact Is.rfl) ?_
  refine OW.o1 (by rfl) (fun S=>by simp only[go_sem,Nat.reduceBEq,Nat.reduceAdd, *];with_reducible exact Is.rfl) ?_
  refine OW.nil (bR.n ?_)
  refine CW.ret ?_
  rw[hres]
  refine nH.one (v0:=.aj .nil []) (by intro i h;cases h) (by simp only[jc,go_sem,Nat.reduceBEq, *];exact Is.rfl) (.inl rfl)
 |true=>
  refine CW.uO (by simp only[go_sem,Nat.reduceBEq,Nat.reduceAdd, *];exact Is.rfl) ?_
  refine CW.region ?_
  refine OW.o1 (by rfl) (fun S=>by simp only[go_sem,Nat.reduceBEq,Nat.reduceAdd, *];with_reducible exact Is.rfl) ?_
  refine OW.o1 (by rfl) (fun S=>by simp only[go_sem,Nat.reduceBEq,Nat.reduceAdd, *];with_reducible exact Is.rfl) ?_
  refine OW.o1 (by rfl) (fun S=>zZ (by simp only[go_sem,Nat.reduceBEq, *]) e1) ?_
  refine OW.o1 (by rfl) (fun S=>Qp (by simp only[go_sem,Nat.reduceBEq, *]) (by simp only[go_sem,Nat.reduceBEq, *]) e6 e2) ?_
  refine OW.o1 (by rfl) (fun S=>by simp only[go_sem,Nat.reduceBEq,Nat.reduceAdd, *];with_reducible exact Is.rfl) ?_
  refine OW.o1 (by rfl) (fun S=>Qr (k:=k) (by simp only[go_sem,Nat.reduceBEq, *]) (by simp only[go_sem,Nat.reduceBEq, *]) (by simp only[go_sem,Nat.reduceBEq, *]) e7 e1 e2 e10 e9 e8 rfl (by decide) rfl rfl (by decide) h0 h1) ?_
  refine OW.o1 (by rfl) (fun S=>by simp only[go_sem,Nat.reduceBEq,Nat.reduceAdd, *];with_reducible exact Is.rfl) ?_
  refine OW.o1 (by rfl) (fun S=>by simp only[go_sem,Nat.reduceBEq,Nat.reduceAdd, *];with_reducible exact Is.rfl) ?_
  refine OW.o1 (by rfl) (fun S=>Qq (by simp only[go_sem,Nat.reduceBEq, *];rfl) (by simp only[go_sem,Nat.reduceBEq,List.length_nil, *];rfl) e6 e2) ?_
  refine OW.o1 (by rfl) (fun S=>by simp only[go_sem,Nat.reduceBEq,Nat.reduceAdd, *];with_reducible exact Is.rfl) ?_
  refine OW.nil (bR.n (bR.n ?_))
  refine CW.seq (CW.region ?_)
  refine OW.o1 (by rfl) (fun S=>by simp only[go_sem,Nat.reduceBEq,Nat.reduceAdd, *];with_reducible exact Is.rfl) ?_
  refine OW.o1 (by rfl) (fun S=>by simp only[go_sem,Nat.reduceBEq,Nat.reduceAdd, *];with_reducible exact Is.rfl) ?_
  refine OW.nil (bR.n ?_)
  refine CW.ret ?_
  rw[hres]
  refine nH.one (by intro i h;cases h) (by simp only[jc,go_sem,Nat.reduceBEq, *];exact Is.rfl) (.inr ⟨_,_,_,_,JB k (.int .i64 0),rfl, ?_⟩)
  simp only[go_sem,Nat.reduceBEq, *]
theorem aiG (k:Int) (h0:0≤k) (h1:k≤2^40):kE E 175 [.aj .nil [],.int .i64 k] 1 ah.init (JA 1):=by
 have hP:E.P=Tryz.prog:=rfl
 have e1:gG E.P 94=some 5:=by kernel_rfl
 have e2:bJ E.P 5=some 1:=by kernel_rfl
 have e6:E.P.underlying 94=some (.slice 5):=by kernel_rfl
 have e7:E.P.underlying 3=some (.int .i64):=by kernel_rfl
 have e8:fF E.P 5=some (.int .u8 0):=by kernel_rfl
 have e9:fP E.P 5=some false:=by kernel_rfl
 have e10:ni E.P 5=some 1:=by kernel_rfl
 have e3:decide (k<0)=false:=decide_eq_false (by omega)
 have e4:IntKind.i64.wrap (k-0)=k:=by rw[Int.sub_zero];exact Qo (by omega) (by omega)
 have e5:IntKind.i64.wrap (0-((0:Nat):Int))=0:=by decide
 have hres:Tryz.f175.results.toList=[.tmp 4]:=rfl
 refine kE.of (fn:=Tryz.f175) (c:=Tryz.f175.body.getD .skip) Tryz.func175 rfl (by kernel_rfl) ?_
 generalize hfr:({d:=1,om:=E.om 175,tm:=fun i=>([.aj .nil [],.int .i64 k]:List V).getD i aC}:Fr)=fr
 have a0:fr.tm 0= .aj .nil []:=by rw[←hfr];rfl
 have a1:fr.tm 1= .int .i64 k:=by rw[←hfr];rfl
 have a2:fr.om=true:=by rw[←hfr];rfl
 have a3:fr.d=1:=by rw[←hfr]
 clear hfr
 refine CW.seq (CW.region ?_)
 refine OW.o1 (by rfl) (fun S=>by simp only[go_sem,Nat.reduceBEq,Nat.reduceAdd, *];with_reducible exact Is.rfl) ?_
 refine OW.nil (bR.n ?_)
 refine CW.seq (CW.seq (CW.region ?_))
 refine OW.o1 (by rfl) (fun S=>by simp only[go_sem,Nat.reduceBEq,Nat.reduceAdd, *];with_reducible exact Is.rfl) ?_
 refine OW.o1 (by rfl) (fun S=>by simp only[go_sem,Nat.reduceBEq,Nat.reduceAdd, *];with_reducible exact Is.rfl) ?_
 refine OW.nil (bR.n ?_)
 refine CW.qE (by simp only[go_sem,Nat.reduceBEq,Nat.reduceAdd, *];exact Is.rfl) ?_
 refine CW.skip (bR.n ?_)
 refine CW.seq (CW.seq (CW.region ?_))
 refine OW.o1 (by rfl) (fun S=>by simp only[go_sem,Nat.reduceBEq,Nat.reduceAdd, *];with_reducible exact Is.rfl) ?_
 refine OW.o1 (by rfl) (fun S=>by simp only[go_sem,Nat.reduceBEq,Nat.reduceAdd, *];with_reducible exact Is.rfl) ?_
 refine OW.o1 (by rfl) (fun S=>zZ (by simp only[go_sem,Nat.reduceBEq, *]) e1) ?_
 refine OW.o1 (by rfl) (fun S=>by simp only[go_sem,Nat.reduceBEq,Nat.reduceAdd, *];with_reducible exact Is.rfl) ?_
 refine OW.o1 (by rfl) (fun S=>by simp only[go_sem,Nat.reduceBEq,Nat.reduceAdd,List.length_nil, *];with_reducible exact Is.rfl) ?_
 refine OW.o1 (by rfl) (fun S=>by simp only[go_sem,Nat.reduceBEq,Nat.reduceAdd, *];with_reducible exact Is.rfl) ?_
 refine OW.o1 (by rfl) (fun S=>by simp only[go_sem,Nat.reduceBEq,Nat.reduceAdd, *];with_reducible exact Is.rfl) ?_
 refine OW.o1 (by rfl) (fun S=>by simp only[go_sem,Nat.reduceBEq,Nat.reduceAdd, *];with_reducible exact Is.rfl) ?_
 refine OW.nil (bR.n ?_)
 refine CW.seq (CW.region ?_)
 refine OW.o1 (by rfl) (fun S=>by simp only[go_sem,Nat.reduceBEq,Nat.reduceAdd, *];with_reducible exact Is.rfl) ?_
 refine OW.o1 (by rfl) (fun S=>by simp only[go_sem,Nat.reduceBEq,Nat.reduceAdd, *];with_reducible exact Is.rfl) ?_
 refine OW.nil (bR.n ?_)
 cases hk:decide (k>0) with
 |false=>
  refine CW.qE (by simp only[go_sem,Nat.reduceBEq,Nat.reduceAdd, *];exact Is.rfl) ?_
  refine CW.skip (bR.n (bR.n ?_))
  refine CW.seq (CW.region ?_)
  refine OW.o1 (by rfl) (fun S=>by simp only[go_sem,Nat.reduceBEq,Nat.reduceAdd, *];with_reducible exact Is.rfl) ?_
  refine OW.o1 (by rfl) (fun S=>by simp only[go_sem,Nat.reduceBEq,Nat.reduceAdd, *];with_reducible exact Is.rfl) ?_
  refine OW.nil (bR.n ?_)
  refine CW.ret ?_
  rw[hres]
  refine nH.one (v0:=.aj .nil []) (by intro i h;cases h) (by simp only[jc,go_sem,Nat.reduceBEq, *];exact Is.rfl) (.inl rfl)
 |true=>
  refine CW.uO (by simp only[go_sem,Nat.reduceBEq,Nat.reduceAdd, *];exact Is.rfl) ?_
  refine CW.region ?_
  refine OW.o1 (by rfl) (fun S=>by simp only[go_sem,Nat.reduceBEq,Nat.reduceAdd, *];with_reducible exact Is.rfl) ?_
  refine OW.o1 (by rfl) (fun S=>by simp only[go_sem,Nat.reduceBEq,Nat.reduceAdd, *];with_reducible exact Is.rfl) ?_
  refine OW.o1 (by rfl) (fun S=>zZ (by simp only[go_sem,Nat.reduceBEq, *]) e1) ?_
  refine OW.o1 (by rfl) (fun S=>Qp (by simp only[go_sem,Nat.reduceBEq, *]) (by simp only[go_sem,Nat.reduceBEq, *]) e6 e2) ?_
  refine OW.o1 (by rfl) (fun S=>by simp only[go_sem,Nat.reduceBEq,Nat.reduceAdd, *];with_reducible exact Is.rfl) ?_
  refine OW.o1 (by rfl) (fun S=>Qr (k:=k) (by simp only[go_sem,Nat.reduceBEq, *]) (by simp only[go_sem,Nat.reduceBEq, *]) (by simp only[go_sem,Nat.reduceBEq, *]) e7 e1 e2 e10 e9 e8 rfl (by decide) rfl rfl (by decide) h0 h1) ?_
  refine OW.o1 (by rfl) (fun S=>by simp only[go_sem,Nat.reduceBEq,Nat.reduceAdd, *];with_reducible exact Is.rfl) ?_
  refine OW.o1 (by rfl) (fun S=>by simp only[go_sem,Nat.reduceBEq,Nat.reduceAdd, *];with_reducible exact Is.rfl) ?_
  refine OW.o1 (by rfl) (fun S=>Qq (by simp only[go_sem,Nat.reduceBEq, *];rfl) (by simp only[go_sem,Nat.reduceBEq,List.length_nil, *];rfl) e6 e2) ?_
  refine OW.o1 (by rfl) (fun S=>by simp only[go_sem,Nat.reduceBEq,Nat.reduceAdd, *];with_reducible exact Is.rfl) ?_
  refine OW.nil (bR.n (bR.n ?_))
  refine CW.seq (CW.region ?_)
  refine OW.o1 (by rfl) (fun S=>by simp only[go_sem,Nat.reduceBEq,Nat.reduceAdd, *];with_reducible exact Is.rfl) ?_
  refine OW.o1 (by rfl) (fun S=>by simp only[go_sem,Nat.reduceBEq,Nat.reduceAdd, *];with_reducible exact Is.rfl) ?_
  refine OW.nil (bR.n ?_)
  refine CW.ret ?_
  rw[hres]
  refine nH.one (by intro i h;cases h) (by simp only[jc,go_sem,Nat.reduceBEq, *];exact Is.rfl) (.inr ⟨_,_,_,_,JB k (.int .u8 0),rfl, ?_⟩)
  simp only[go_sem,Nat.reduceBEq, *]
theorem aiH (k:Int) (h0:0≤k) (h1:k≤2^40):kE E 167 [.aj .nil [],.int .i64 k] 1 ah.init (JA 1):=by
 have hP:E.P=Tryz.prog:=rfl
 have e1:gG E.P 116=some 9:=by kernel_rfl
 have e2:bJ E.P 9=some 1:=by kernel_rfl
 have e6:E.P.underlying 116=some (.slice 9):=by kernel_rfl
 have e7:E.P.underlying 3=some (.int .i64):=by kernel_rfl
 have e8:fF E.P 9=some (.str []):=by kernel_rfl
 have e9:fP E.P 9=some false:=by kernel_rfl
 have e10:ni E.P 9=some 16:=by kernel_rfl
 have e3:decide (k<0)=false:=decide_eq_false (by omega)
 have e4:IntKind.i64.wrap (k-0)=k:=by rw[Int.sub_zero];exact Qo (by omega) (by omega)
 have e5:IntKind.i64.wrap (0-((0:Nat):Int))=0:=by decide
 have hres:Tryz.f167.results.toList=[.tmp 4]:=rfl
 refine kE.of (fn:=Tryz.f167) (c:=Tryz.f167.body.getD .skip) Tryz.func167 rfl (by kernel_rfl) ?_
 generalize hfr:({d:=1,om:=E.om 167,tm:=fun i=>([.aj .nil [],.int .i64 k]:List V).getD i aC}:Fr)=fr
 have a0:fr.tm 0= .aj .nil []:=by rw[←hfr];rfl
 have a1:fr.tm 1= .int .i64 k:=by rw[←hfr];rfl
 have a2:fr.om=true:=by rw[←hfr];rfl
 have a3:fr.d=1:=by rw[←hfr]
 clear hfr
 refine CW.seq (CW.region ?_)
 refine OW.o1 (by rfl) (fun S=>by simp only[go_sem,Nat.reduceBEq,Nat.reduceAdd, *];with_reducible exact Is.rfl) ?_
 refine OW.nil (bR.n ?_)
 refine CW.seq (CW.seq (CW.region ?_))
 refine OW.o1 (by rfl) (fun S=>by simp only[go_sem,Nat.reduceBEq,Nat.reduceAdd, *];with_reducible exact Is.rfl) ?_
 refine OW.o1 (by rfl) (fun S=>by simp only[go_sem,Nat.reduceBEq,Nat.reduceAdd, *];with_reducible exact Is.rfl) ?_
 refine OW.nil (bR.n ?_)
 refine CW.qE (by simp only[go_sem,Nat.reduceBEq,Nat.reduceAdd, *];exact Is.rfl) ?_
 refine CW.skip (bR.n ?_)
 refine CW.seq (CW.seq (CW.region ?_))
 refine OW.o1 (by rfl) (fun S=>by simp only[go_sem,Nat.reduceBEq,Nat.reduceAdd, *];with_reducible exact Is.rfl) ?_
 refine OW.o1 (by rfl) (fun S=>by simp only[go_sem,Nat.reduceBEq,Nat.reduceAdd, *];with_reducible exact Is.rfl) ?_
 refine OW.o1 (by rfl) (fun S=>zZ (by simp only[go_sem,Nat.reduceBEq, *]) e1) ?_
 refine OW.o1 (by rfl) (fun S=>by simp only[go_sem,Nat.reduceBEq,Nat.reduceAdd, *];with_reducible exact Is.rfl) ?_
 refine OW.o1 (by rfl) (fun S=>by simp only[go_sem,Nat.reduceBEq,Nat.reduceAdd,List.length_nil, *];with_reducible exact Is.rfl) ?_
 refine OW.o1 (by rfl) (fun S=>by simp only[go_sem,Nat.reduceBEq,Nat.reduceAdd, *];with_reducible exact Is.rfl) ?_
 refine OW.o1 (by rfl) (fun S=>by simp only[go_sem,Nat.reduceBEq,Nat.reduceAdd, *];with_reducible exact Is.rfl) ?_
 refine OW.o1 (by rfl) (fun S=>by simp only[go_sem,Nat.reduceBEq,Nat.reduceAdd, *];with_reducible exact Is.rfl) ?_
 refine OW.nil (bR.n ?_)
 refine CW.seq (CW.region ?_)
 refine OW.o1 (by rfl) (fun S=>by simp only[go_sem,Nat.reduceBEq,Nat.reduceAdd, *];with_reducible exact Is.rfl) ?_
 refine OW.o1 (by rfl) (fun S=>by simp only[go_sem,Nat.reduceBEq,Nat.reduceAdd, *];with_reducible exact Is.rfl) ?_
 refine OW.nil (bR.n ?_)
 cases hk:decide (k>0) with
 |false=>
  refine CW.qE (by simp only[go_sem,Nat.reduceBEq,Nat.reduceAdd, *];exact Is.rfl) ?_
  refine CW.skip (bR.n (bR.n ?_))
  refine CW.seq (CW.region ?_)
  refine OW.o1 (by rfl) (fun S=>by simp only[go_sem,Nat.reduceBEq,Nat.reduceAdd, *];with_reducible exact Is.rfl) ?_
  refine OW.o1 (by rfl) (fun S=>by simp only[go_sem,Nat.reduceBEq,Nat.reduceAdd, *];with_reducible exact Is.rfl) ?_
  refine OW.nil (bR.n ?_)
  refine CW.ret ?_
  rw[hres]
  refine nH.one (v0:=.aj .nil []) (by intro i h;cases h) (by simp only[jc,go_sem,Nat.reduceBEq, *];exact Is.rfl) (.inl rfl)
 |true=>
  refine CW.uO (by simp only[go_sem,Nat.reduceBEq,Nat.reduceAdd, *];exact Is.rfl) ?_
  refine CW.region ?_
  refine OW.o1 (by rfl) (fun S=>by simp only[go_sem,Nat.reduceBEq,Nat.reduceAdd, *];with_reducible exact Is.rfl) ?_
  refine OW.o1 (by rfl) (fun S=>by simp only[go_sem,Nat.reduceBEq,Nat.reduceAdd, *];with_reducible exact Is.rfl) ?_
  refine OW.o1 (by rfl) (fun S=>zZ (by simp only[go_sem,Nat.reduceBEq, *]) e1) ?_
  refine OW.o1 (by rfl) (fun S=>Qp (by simp only[go_sem,Nat.reduceBEq, *]) (by simp only[go_sem,Nat.reduceBEq, *]) e6 e2) ?_
  refine OW.o1 (by rfl) (fun S=>by simp only[go_sem,Nat.reduceBEq,Nat.reduceAdd, *];with_reducible exact Is.rfl) ?_
  refine OW.o1 (by rfl) (fun S=>Qr (k:=k) (by simp only[go_sem,Nat.reduceBEq, *]) (by simp only[go_sem,Nat.reduceBEq, *]) (by simp only[go_sem,Nat.reduceBEq, *]) e7 e1 e2 e10 e9 e8 rfl (by decide) rfl rfl (by decide) h0 h1) ?_
  refine OW.o1 (by rfl) (fun S=>by simp only[go_sem,Nat.reduceBEq,Nat.reduceAdd, *];with_reducible exact Is.rfl) ?_
  refine OW.o1 (by rfl) (fun S=>by simp only[go_sem,Nat.reduceBEq,Nat.reduceAdd, *];with_reducible exact Is.rfl) ?_
  refine OW.o1 (by rfl) (fun S=>Qq (by simp only[go_sem,Nat.reduceBEq, *];rfl) (by simp only[go_sem,Nat.reduceBEq,List.length_nil, *];rfl) e6 e2) ?_
  refine OW.o1 (by rfl) (fun S=>by simp only[go_sem,Nat.reduceBEq,Nat.reduceAdd, *];with_reducible exact Is.rfl) ?_
  refine OW.nil (bR.n (bR.n ?_))
  refine CW.seq (CW.region ?_)
  refine OW.o1 (by rfl) (fun S=>by simp only[go_sem,Nat.reduceBEq,Nat.reduceAdd, *];with_reducible exact Is.rfl) ?_
  refine OW.o1 (by rfl) (fun S=>by simp only[go_sem,Nat.reduceBEq,Nat.reduceAdd, *];with_reducible exact Is.rfl) ?_
  refine OW.nil (bR.n ?_)
  refine CW.ret ?_
  rw[hres]
  refine nH.one (by intro i h;cases h) (by simp only[jc,go_sem,Nat.reduceBEq, *];exact Is.rfl) (.inr ⟨_,_,_,_,JB k (.str []),rfl, ?_⟩)
  simp only[go_sem,Nat.reduceBEq, *]
theorem Qs {f sz:Nat} {l:List V} {k:Int} (h:kE E f [.aj .nil [],.int .i64 k] 1 ah.init (JA sz)):lU E f [.aj .nil [],.int .i64 k] sz []:=by
 obtain⟨n,v,σ1,h1,h2⟩:=h
 refine⟨n,v,σ1,h1,fun st σ=> ?_⟩
 rcases h2 with rfl| ⟨loc,s,cap,ag,cs,rfl,hc⟩
 ·exact .inl ⟨.nil,.inl rfl,rfl⟩
 ·exact .inr (by unfold o8;dsimp only;rw[if_pos ⟨rfl,rfl⟩,hc];rfl)
theorem Qt {α:Type} {k:Int} {x:List α} (h:Dy k=some x):0≤k∧k≤2^40∧x=[]:=by
 unfold Dy at h
 split at h
 ·rename_i hk;cases h;exact⟨hk.1,hk.2,rfl⟩
 ·cases h
theorem aiI:∀u p x,Ql (u,p)=some x→lU E 174 (.aj .nil []::bD R [.d (.int .i64)] p) (bW R (.int .i64)) (x.map (aG R (.int .i64))):=by
 intro u p x h
 unfold Ql at h
 obtain⟨h0,h1,rfl⟩:=Qt h
 exact Qs (l:=[]) (aiF p h0 h1)
theorem aiJ:∀u p x,Qm (u,p)=some x→lU E 175 (.aj .nil []::bD R [.d (.int .i64)] p) (bW R (.int .u8)) (x.map (aG R (.int .u8))):=by
 intro u p x h
 unfold Qm at h
 obtain⟨h0,h1,rfl⟩:=Qt h
 exact Qs (l:=[]) (aiG p h0 h1)
theorem aiK:∀u p x,Qn (u,p)=some x→lU E 167 (.aj .nil []::bD R [.d (.int .i64)] p) (bW R .str) (x.map (aG R .str)):=by
 intro u p x h
 unfold Qn at h
 obtain⟨h0,h1,rfl⟩:=Qt h
 exact Qs (l:=[]) (aiH p h0 h1)
noncomputable def Qu (_:Nat):Nat→List (FR R):=bn 167 ⟨zY,[.d (.slice .str)],Qn,[],true⟩ (bn 175 ⟨zY,[.d (.slice (.int .u8))],Qm,[],true⟩ (bn 174 ⟨zY,[.d (.slice (.int .i64))],Ql,[],true⟩ YA))
theorem YV (n:Nat):aW E (Qu n):=Qc (Qc (Qc ahT aiI) aiJ) aiK
end Sh
end
section
open Go Go.Proofs Aq
namespace Sh
theorem aiL (a b:List Int):Jv [lv (V.int .u8) a,lv (V.int .u8) b]=some (.int .i64 (Dw a b)):=by
 show (tJ (a.map (V.int .u8))).bind _=_
 rw[Qi,Option.bind_some,Qi];rfl
theorem aiM (p:aA R.T [.d (.slice (.int .u8)),.d (.slice (.int .u8))]) (x:Int) (h:some (Dw p.1 p.2)=some x):Pure E 116 (bD R [.d (.slice (.int .u8)),.d (.slice (.int .u8))] p) (kU [.int .i64 x]):=by
 cases h
 exact⟨0,aiL p.1 p.2⟩
def Qv (l:List Mark):Option (List Mark):=if l.length<2^30 then some l else none
theorem aiN (l:List Mark):pJ 33 (l.map Mark.v)=true:=afI (f:=Mark.v) (sz:=33) (fun x=>⟨by rw[Mark.cells];exact Mark.len x,by rw[Mark.cells];exact Mark.one x⟩) l
theorem aiO (l:List Mark):aR (l.map Mark.v)=true:=by
 induction l with
 |nil=>rfl
 |cons a l ih=>simp only[List.map_cons,aR,Mark.pc,ih,Bool.and_self]
theorem aiP (p:List Mark) (x:List Mark) (h:Qv p=some x):Pure E 61 [lv Mark.v p] (lv Mark.v x):=by
 unfold Qv at h
 split at h
 ·rename_i hl
  cases h
  refine⟨0, ?_⟩
  show Jw [.aj .sh (p.map Mark.v)]=some (.aj .sh (p.map Mark.v))
  cases p with
  |nil=>rfl
  |cons a l=>
   have h1:=aiN (a::l)
   have h2:=aiO (a::l)
   have h3:((a::l).map Mark.v).length<2^30:=by rw[List.length_map];exact hl
   exact if_pos ⟨h1,h2,h3⟩
 ·cases h
end Sh
end
section
namespace Aq
open Go
def Env.sm (E:Env) (s:FuncId→Option (List V→Option V)):Env:={E with iZ:=s}
section
variable {E:Env} {s:FuncId→Option (List V→Option V)} {S T:iK}
def vM (E:Env) (s:FuncId→Option (List V→Option V)) (S T:iK):Prop:=∀f args v,iQ (E.sm s) S f args=some v→iQ E T f args=some v
theorem YW (hc:vM E s S T) (h:gF S T) {d:Nat} {σ:ah} {fv:V} {args:List V} {r:V×ah} (hh:gH (E.sm s) S d σ fv args=some r):gH E T d σ fv args=some r:=by
 unfold gH at hh⊢
 split at hh
 ·split at hh
  ·rename_i hi
   have hi':E.imp _=true:=hi
   simp only[hi',if_true];exact h.2 _ _ _ _ _ hh
  ·rename_i hi
   have hi':¬E.imp _=true:=hi
   simp only[Option.bind_eq_some_iff] at hh
   obtain⟨asx,h1,v,h2,h3⟩:=hh
   simp only[hi',h1,Option.bind_some,hc _ _ _ h2]
   exact h3
 ·exact NC h hh
 ·simp at hh
theorem aiQ (h:gF S T) {σ:ah} {st:Nat} {fv:V} {args:List V} {r:V×ah} (hh:o9 (E.sm s) S σ st fv args=some r):o9 E T σ st fv args=some r:=Vt (E:=E) h hh
theorem Qw (hc:vM E s S T) (h:gF S T) {fr:Fr} {σ:ah} {st:Nat} {o:Oper} {r:V×Fr×ah} (hh:opC (E.sm s) S fr σ st o=some r):opC E T fr σ st o=some r:=by
 unfold opC at hh⊢
 split at hh
 ·rename_i c ho
  simp only[ho] at hh⊢
  split at hh
  ·exact hh
  ·rename_i f hf
   split at hh
   ·rename_i dM
    have Qx:jR E fr o f=true:=dM
    simp only[Qx,if_true]
    simp only[Option.map_eq_some_iff] at hh⊢
    obtain⟨x,h1,h2⟩:=hh
    exact⟨x,aiQ h h1,h2⟩
   rename_i dM
   have Qx:¬jR E fr o f=true:=dM
   simp only[Qx,if_false,Bool.false_eq_true]
   simp only[Option.map_eq_some_iff] at hh⊢
   obtain⟨x,h1,h2⟩:=hh
   exact⟨x,YW hc h h1,h2⟩
  ·simp at hh
 ·simp at hh
 ·exact hh
theorem aiR (hc:vM E s S T) (h:gF S T) (all:List Oper):∀(os:List Oper) (st:Nat) (fr:Fr) (σ:ah) (r:Fr×ah),opsE (E.sm s) S all st os fr σ=some r→opsE E T all st os fr σ=some r:=by
 intro os
 induction os with
 |nil=>intro st fr σ r hh;exact hh
 |cons o os ih=>
  intro st fr σ r hh
  simp only[opsE,Option.bind_eq_some_iff] at hh⊢
  obtain⟨t,h1,h2⟩:=hh
  refine⟨t,h1, ?_⟩
  cases t with
  |true=>
   simp only[if_true,Option.bind_eq_some_iff] at h2⊢
   obtain⟨x,h3,h4⟩:=h2
   exact⟨x,Qw hc h h3,ih _ _ _ _ h4⟩
  |false=>
   simp only[Bool.false_eq_true,if_false] at h2⊢
   exact ih _ _ _ _ h2
theorem aiS (hc:vM E s S T) (h:gF S T) (all:List Oper):∀(os:List Oper) (st:Nat) (fr:Fr) (σ:ah) (r:List bP×Fr×ah),jS (E.sm s) S all st os fr σ=some r→jS E T all st os fr σ=some r:=by
 intro os
 induction os with
 |nil=>intro st fr σ r hh;exact hh
 |cons o os ih=>
  intro st fr σ r hh
  simp only[jS,Option.bind_eq_some_iff] at hh⊢
  obtain⟨t,h1,h2⟩:=hh
  refine⟨t,h1, ?_⟩
  cases t with
  |true=>
   simp only[if_true,Option.bind_eq_some_iff,Option.map_eq_some_iff] at h2⊢
   obtain⟨x,h3,y,h4,h5⟩:=h2
   exact⟨x,Qw hc h h3,y,ih _ _ _ _ h4,h5⟩
  |false=>
   simp only[Bool.false_eq_true,if_false,Option.map_eq_some_iff] at h2⊢
   obtain⟨y,h4,h5⟩:=h2
   exact⟨y,ih _ _ _ _ h4,h5⟩
theorem aiT (hc:vM E s S T) (h:gF S T) {ops:List Oper} {base i:Nat} {fr:Fr} {σ:ah} {r:Fr×ah} (hh:iT (E.sm s) S ops base i fr σ=some r):iT E T ops base i fr σ=some r:=by
 unfold iT at hh⊢
 split at hh
 ·exact hh
 ·simp only[Option.bind_eq_some_iff] at hh⊢
  obtain⟨t,h1,h2⟩:=hh
  refine⟨t,h1, ?_⟩
  cases t with
  |true=>
   simp only[if_true,Option.map_eq_some_iff] at h2⊢
   obtain⟨x,h3,h4⟩:=h2
   exact⟨x,Qw hc h h3,h4⟩
  |false=>simpa using h2
theorem aiU (hc:vM E s S T) (h:gF S T) {ms:List Nat} {ops:List Oper} {base:Nat} {x y:Fr×ah} (hf:Free (E.sm s) S ms ops base x y):Free E T ms ops base x y:=by
 obtain⟨s',T',W,h0,hn,wz,hloc,hr⟩:=hf
 refine⟨s',T',W,h0,hn,wz,fun i hi x hx=> ?_,hr⟩
 obtain⟨y,h1,h2⟩:=hloc i hi x hx
 exact⟨y,aiT hc h h1,h2⟩
theorem aiV (hc:vM E s S T) (h:gF S T):∀(c:Code) (fr:Fr) (σ:ah) (r:Ex×Fr×ah),bZ (E.sm s) S c fr σ=some r→bZ E T c fr σ=some r:=by
 intro c
 induction c with
 |region id ops dr=>
  intro fr σ r hh
  simp only[bZ] at hh⊢
  split at hh
  ·rename_i hd
   simp only[hd,if_true,Option.bind_eq_some_iff] at hh⊢
   obtain⟨x,h1,h2⟩:=hh
   refine⟨x,aiS hc h _ _ _ _ _ _ h1, ?_⟩
   split at h2
   ·rename_i hp;rw[if_pos hp];exact h2
   ·rename_i hp
    rw[if_neg hp]
    unfold Gf at h2⊢
    split at h2
    ·rename_i hf
     rw[if_pos ⟨hf.1,aiU hc h hf.2⟩];exact h2
    ·cases h2
  ·rename_i hd
   simp only[hd,Bool.false_eq_true,if_false,Option.map_eq_some_iff] at hh⊢
   obtain⟨x,h1,h2⟩:=hh
   exact⟨x,aiR hc h _ _ _ _ _ _ h1,h2⟩
 |seq a b iha ihb=>
  intro fr σ r hh
  simp only[bZ,Option.bind_eq_some_iff] at hh⊢
  obtain⟨⟨e,bQ,σ1⟩,h1,h2⟩:=hh
  refine⟨(e,bQ,σ1),iha _ _ _ h1, ?_⟩
  cases e with
  |normal=>exact ihb _ _ _ h2
  |exit i=>exact h2
  |ret=>exact h2
 |cond c a b iha ihb=>
  intro fr σ r hh
  simp only[bZ,Option.bind_eq_some_iff] at hh⊢
  obtain⟨t,h1,h2⟩:=hh
  refine⟨t,h1, ?_⟩
  cases t with
  |true=>simp only[if_true] at h2⊢;exact iha _ _ _ h2
  |false=>simp only[Bool.false_eq_true,if_false] at h2⊢;exact ihb _ _ _ h2
 |block id c ih=>
  intro fr σ r hh
  simp only[bZ,Option.map_eq_some_iff] at hh⊢
  obtain⟨x,h1,h2⟩:=hh
  exact⟨x,ih _ _ _ h1,h2⟩
 |loop c ih=>
  intro fr σ r hh
  simp only[bZ,Option.bind_eq_some_iff] at hh⊢
  obtain⟨⟨e,bQ,σ1⟩,h1,h2⟩:=hh
  refine⟨(e,bQ,σ1),ih _ _ _ h1, ?_⟩
  cases e with
  |normal=>exact h.1 _ _ _ _ h2
  |exit i=>exact h2
  |ret=>exact h2
 |rangeFunc f ps a b iha ihb=>
  intro fr σ r hh
  simp only[bZ] at hh⊢
  split at hh
  ·rename_i hf
   rw[if_pos (by exact hf)]
   simp only[Option.bind_eq_some_iff] at hh⊢
   obtain⟨x,h1,h2⟩:=hh
   exact⟨x,YW hc h h1,h2⟩
  ·simp at hh
 |_=>intro fr σ r hh;simpa [bZ] using hh
theorem aiW (h:gF S T) {f:FuncId} {args:List V} {d:Nat} {σ:ah} {r:V×ah} (hh:qU (E.sm s) S f args d σ=some r):qU E T f args d σ=some r:=Vu (E:=E) h hh
theorem aiX {M:Nat} (hs:∀f g,s f=some g→∀args v,g args=some v→iQ E (dw E M) f args=some v) (hn:∀f,s f=none→E.iZ f=none):∀n,gF (dw (E.sm s) n) (dw E (n+M)):=by
 have pure:∀n,gF (dw (E.sm s) n) (dw E (n+M))→vM E s (dw (E.sm s) n) (dw E (n+M)):=by
  intro n h f args v hv
  unfold iQ at hv
  cases hf:(E.sm s).iZ f with
  |some g=>
   rw[hf] at hv
   exact yG (jK (Nat.le_add_left M n)) (hs f g hf args v hv)
  |none=>
   rw[hf] at hv
   simp only[Option.bind_eq_some_iff] at hv
   obtain⟨x,h1,h2⟩:=hv
   unfold iQ
   rw[hn f hf]
   simp only[h.2 _ _ _ _ _ h1,Option.bind_some]
   exact h2
 intro n
 induction n with
 |zero=>exact⟨(fun _ _ _ _ h=>by cases h),(fun _ _ _ _ _ h=>by cases h)⟩
 |succ n ih=>
  rw[Nat.succ_add]
  exact⟨fun c fr σ r hh=>aiV (pure n ih) ih c fr σ r hh,fun f args d σ r hh=>aiW ih hh⟩
theorem aiY {M:Nat} (hs:∀f g,s f=some g→∀args v,g args=some v→iQ E (dw E M) f args=some v) (hn:∀f,s f=none→E.iZ f=none) {f:FuncId} {args:List V} {v:V} {n:Nat} (hf:s f=none) (h:iQ (E.sm s) (dw (E.sm s) n) f args=some v):Pure E f args v:=by
 refine⟨n+M, ?_⟩
 unfold iQ at h
 rw[show (E.sm s).iZ f=none from hf] at h
 simp only[Option.bind_eq_some_iff] at h
 obtain⟨x,h1,h2⟩:=h
 unfold iQ
 rw[hn f hf]
 simp only[(aiX hs hn n).2 _ _ _ _ _ h1,Option.bind_some]
 exact h2
end
end Aq
end
