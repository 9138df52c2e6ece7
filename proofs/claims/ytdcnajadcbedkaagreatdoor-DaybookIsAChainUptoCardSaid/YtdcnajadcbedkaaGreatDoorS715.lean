/- Part of the proof of a law. -/
import Derived.Test.YtdcnajadcbedkaaGreatDoorS705
import Derived.Test.YtdcnajadcbedkaaGreatDoorS714
set_option linter.all false
set_option linter.unusedSimpArgs false
set_option linter.unusedSectionVars false
section
open Go Go.Proofs Aq
namespace Sh
set_option maxRecDepth 100000
set_option linter.unusedSimpArgs false
set_option linter.unusedVariables false
abbrev Aw:List Sk:=[.d9,.d (.int .i64)]
def DV {α:Type} (k:Int):Option (List α):=if 0≤k∧k≤2^40 then some [] else none
@[irreducible] def OM (p:aH R.T Aw):Option (List Int):=DV p.2
@[irreducible] def OO (p:aH R.T Aw):Option (List Int):=DV p.2
@[irreducible] def Ay (p:aH R.T Aw):Option (List (List UInt8)):=DV p.2
theorem OP {n:Int} (h0: -(2^63)≤n) (h1:n<2^63):IntKind.i64.wrap n=n:=by
 rw[IntKind.wrap_i64];omega
def I7 (sz:Nat) (v:V) (σ:ah):Prop:=v= .aj .nil []∨∃loc s cap ag cs,v= .vw loc s 0 0 cap sz ag∧σ.bC loc s=some cs
section
variable {E:Env} {S:iM} {fr:Fr} {σ:ah} {st ty:Nat} {pos:String} {bA:Array Edge} {gd:Option (Nat×Bool)}
theorem Az {d:Option Nat} {x:Operand} {t e:TypeId} (hx:fr.ev E x= .aj .nil []) (ht:gN E.P t=some e):opC E S fr σ st ⟨d,.call ⟨.builtin .cap, #[x], #[t]⟩,ty,pos,bA,gd⟩=some (.int .i64 0,fr,σ):=by
 show Option.map _ ((some t).bind fun t=>(gN E.P t).bind fun _=>match fr.ev E x with
  |.aj .nil l|.aj .full l=>some (V.int .i64 l.length,σ)
  |_=>none)=_
 rw[Option.bind_some,ht,hx];rfl
theorem OQ {d:Option Nat} {x h:Operand} {t e:TypeId} {sz:Nat} (hx:fr.ev E x= .aj .nil []) (hh:fr.ev E h= .int .i64 0) (hu:E.P.underlying t=some (.slice e)) (hs:bq E.P e=some sz):
 opC E S fr σ st ⟨d,.slice t x none (some h) none,ty,pos,bA,gd⟩=some (.aj .nil [],fr,σ):=by
 show Option.map _ ((kE E.P σ t (fr.ev E x) none (some (fr.ev E h)) none).map fun v=>(v,σ))=_
 rw[hx,hh]
 unfold kE
 rw[hu];dsimp only
 rw[hs];rfl
theorem OT {d:Option Nat} {x h:Operand} {t e:TypeId} {sz len cap s:Nat} {loc:Aq.Loc} {ag:Bool} (hx:fr.ev E x= .vw loc s 0 len cap sz ag) (hh:fr.ev E h= .int .i64 0) (hu:E.P.underlying t=some (.slice e)) (hs:bq E.P e=some sz):
 opC E S fr σ st ⟨d,.slice t x none (some h) none,ty,pos,bA,gd⟩=some (.vw loc s 0 0 cap sz ag,fr,σ):=by
 show Option.map _ ((kE E.P σ t (fr.ev E x) none (some (fr.ev E h)) none).map fun v=>(v,σ))=_
 rw[hx,hh]
 unfold kE
 rw[hu];dsimp only
 rw[hs]
 have:iY len cap none (some (.int .i64 0)) none=some (0,0,cap):=by
  unfold iY bnd kD
  simp
 rw[this]
 simp
def WB (k:Int) (z:V):Nat:=0+(List.replicate k.toNat z).length
def I8 (k:Int) (z:V):List V:=(([]:List V)++List.replicate k.toNat z).flatMap V.cells
theorem OU {d:Nat} {x y:Operand} {t u e:TypeId} {k:Int} {sz cu:Nat} {z:V} {ag:Bool} (ho:fr.om=true) (hx:fr.ev E x= .aj .nil []) (hy:fr.ev E y= .int .i64 k) (hu:E.P.underlying u=some (.int .i64))
 (h1:gN E.P t=some e) (h2:bq E.P e=some sz) (h3:nG E.P e=some cu) (h4:fZ E.P e=some ag) (h5:fK E.P e=some z) (h6:z.cells.length=sz) (h7:0<sz) (h8:(ag||sz==1)=true) (h9:aW z.cells=true)
 (h10:cu≤16) (k0:0≤k) (k1:k≤2^40):
 opC E S fr σ st ⟨some d,.call ⟨.builtin .append, #[x,y], #[t,u]⟩,ty,pos,bA,gd⟩=some (.vw (fr.d,d) st 0 (WB k z) (WB k z) sz ag,fr,σ.setObj (fr.d,d) st (.cells (I8 k z))):=by
 show Option.map _ ((some t).bind fun t=>((some u).bind E.P.underlying).bind fun u=>match u with
  |.int _=>gH E.P fr.om true σ st (some (fr.d,d)) t (fr.ev E x) (fr.ev E y)
  |.slice _|.string=>gH E.P fr.om false σ st (some (fr.d,d)) t (fr.ev E x) (fr.ev E y)
  |_=>none)=_
 rw[Option.bind_some,Option.bind_some,hu,ho,hx,hy]
 show Option.map _ (gH E.P true true σ st (some (fr.d,d)) t (.aj .nil []) (.int .i64 k))=_
 unfold gH
 rw[h1,Option.bind_some,h2,Option.bind_some,h3,Option.bind_some,h4,Option.bind_some,h5,Option.bind_some,if_pos ⟨rfl,h6,h7,h8⟩]
 rw[show jo σ ag sz z (.int .i64 k)=some (List.replicate k.toNat z) from (if_pos ⟨k0,by omega⟩:(if 0≤k∧k≤2^47 then some (List.replicate k.toNat z) else none)=_),Option.bind_some,if_pos (by rw[List.all_replicate,h9];simp)]
 dsimp only
 have hr:eD (([]:List V).length+(List.replicate k.toNat z).length) cu=true:=by
  unfold eD
  simp only[List.length_nil,Nat.zero_add,List.length_replicate,Bool.and_eq_true,decide_eq_true_eq]
  have hk:k.toNat≤2^40:=by omega
  exact⟨Nat.le_trans (Nat.mul_le_mul hk h10) (by decide),by omega⟩
 rw[if_pos ⟨hr,rfl⟩]
 rfl
end
theorem af5 (k:Int) (h0:0≤k) (h1:k≤2^40):kJ E 174 [.aj .nil [],.int .i64 k] 1 ah.init (I7 1):=by
 have hP:E.P=Tryz.prog:=rfl
 have e1:gN E.P 61=some 3:=by kernel_rfl
 have e2:bq E.P 3=some 1:=by kernel_rfl
 have e6:E.P.underlying 61=some (.slice 3):=by kernel_rfl
 have e7:E.P.underlying 3=some (.int .i64):=by kernel_rfl
 have e8:fK E.P 3=some (.int .i64 0):=by kernel_rfl
 have e9:fZ E.P 3=some false:=by kernel_rfl
 have e10:nG E.P 3=some 8:=by kernel_rfl
 have e3:decide (k<0)=false:=decide_eq_false (by omega)
 have e4:IntKind.i64.wrap (k-0)=k:=by rw[Int.sub_zero];exact OP (by omega) (by omega)
 have e5:IntKind.i64.wrap (0-((0:Nat):Int))=0:=by decide
 have hres:Tryz.f174.results.toList=[.tmp 4]:=rfl
 refine kJ.of (fn:=Tryz.f174) (c:=Tryz.f174.body.getD .skip) Tryz.func174 rfl (by kernel_rfl) ?_
 generalize hfr:({d:=1,om:=E.om 174,tm:=fun i=>([.aj .nil [],.int .i64 k]:List V).getD i aA}:Fr)=fr
 have a0:fr.tm 0= .aj .nil []:=by rw[←hfr];rfl
 have a1:fr.tm 1= .int .i64 k:=by rw[←hfr];rfl
 have a2:fr.om=true:=by rw[←hfr];rfl
 have a3:fr.d=1:=by rw[←hfr]
 clear hfr
 refine CW.seq (CW.region ?_)
 refine OW.o1 (by rfl) (fun S=>by simp only[go_sem,Nat.reduceBEq,Nat.reduceAdd, *];with_reducible exact Is.rfl) ?_
 refine OW.nil (bH.n ?_)
 refine CW.seq (CW.seq (CW.region ?_))
 refine OW.o1 (by rfl) (fun S=>by simp only[go_sem,Nat.reduceBEq,Nat.reduceAdd, *];with_reducible exact Is.rfl) ?_
 refine OW.o1 (by rfl) (fun S=>by simp only[go_sem,Nat.reduceBEq,Nat.reduceAdd, *];with_reducible exact Is.rfl) ?_
 refine OW.nil (bH.n ?_)
 refine CW.qJ (by simp only[go_sem,Nat.reduceBEq,Nat.reduceAdd, *];exact Is.rfl) ?_
 refine CW.skip (bH.n ?_)
 refine CW.seq (CW.seq (CW.region ?_))
 refine OW.o1 (by rfl) (fun S=>by simp only[go_sem,Nat.reduceBEq,Nat.reduceAdd, *];with_reducible exact Is.rfl) ?_
 refine OW.o1 (by rfl) (fun S=>by simp only[go_sem,Nat.reduceBEq,Nat.reduceAdd, *];with_reducible exact Is.rfl) ?_
 refine OW.o1 (by rfl) (fun S=>Az (by simp only[go_sem,Nat.reduceBEq, *]) e1) ?_
 refine OW.o1 (by rfl) (fun S=>by simp only[go_sem,Nat.reduceBEq,Nat.reduceAdd, *];with_reducible exact Is.rfl) ?_
 refine OW.o1 (by rfl) (fun S=>by simp only[go_sem,Nat.reduceBEq,Nat.reduceAdd,List.length_nil, *];with_reducible exact Is.rfl) ?_
 refine OW.o1 (by rfl) (fun S=>by simp only[go_sem,Nat.reduceBEq,Nat.reduceAdd, *];with_reducible exact Is.rfl) ?_
 refine OW.o1 (by rfl) (fun S=>by simp only[go_sem,Nat.reduceBEq,Nat.reduceAdd, *];with_reducible exact Is.rfl) ?_
 refine OW.o1 (by rfl) (fun S=>by simp only[go_sem,Nat.reduceBEq,Nat.reduceAdd, *];with_reducible exact Is.rfl) ?_
 refine OW.nil (bH.n ?_)
 refine CW.seq (CW.region ?_)
 refine OW.o1 (by rfl) (fun S=>by simp only[go_sem,Nat.reduceBEq,Nat.reduceAdd, *];with_reducible exact Is.rfl) ?_
 refine OW.o1 (by rfl) (fun S=>by simp only[go_sem,Nat.reduceBEq,Nat.reduceAdd, *];with_reducible exact Is.rfl) ?_
 refine OW.nil (bH.n ?_)
 cases hk:decide (k>0) with
 |false=>
  refine CW.qJ (by simp only[go_sem,Nat.reduceBEq,Nat.reduceAdd, *];exact Is.rfl) ?_
  refine CW.skip (bH.n (bH.n ?_))
  refine CW.seq (CW.region ?_)
  refine OW.o1 (by rfl) (fun S=>by simp only[go_sem,Nat.reduceBEq,Nat.reduceAdd, *];with_reducible exact Is.rfl) ?_
  refine OW.o1 (by rfl) (fun S=>by simp only[go_sem,Nat.reduceBEq,Nat.reduceAdd, *];with_reducible exact Is.rfl) ?_
  refine OW.nil (bH.n ?_)
  refine CW.ret ?_
  rw[hres]
  refine nQ.one (v0:=.aj .nil []) (by intro i h;cases h) (by simp only[jc,go_sem,Nat.reduceBEq, *];exact Is.rfl) (.inl rfl)
 |true=>
  refine CW.uT (by simp only[go_sem,Nat.reduceBEq,Nat.reduceAdd, *];exact Is.rfl) ?_
  refine CW.region ?_
  refine OW.o1 (by rfl) (fun S=>by simp only[go_sem,Nat.reduceBEq,Nat.reduceAdd, *];with_reducible exact Is.rfl) ?_
  refine OW.o1 (by rfl) (fun S=>by simp only[go_sem,Nat.reduceBEq,Nat.reduceAdd, *];with_reducible exact Is.rfl) ?_
  refine OW.o1 (by rfl) (fun S=>Az (by simp only[go_sem,Nat.reduceBEq, *]) e1) ?_
  refine OW.o1 (by rfl) (fun S=>OQ (by simp only[go_sem,Nat.reduceBEq, *]) (by simp only[go_sem,Nat.reduceBEq, *]) e6 e2) ?_
  refine OW.o1 (by rfl) (fun S=>by simp only[go_sem,Nat.reduceBEq,Nat.reduceAdd, *];with_reducible exact Is.rfl) ?_
  refine OW.o1 (by rfl) (fun S=>OU (k:=k) (by simp only[go_sem,Nat.reduceBEq, *]) (by simp only[go_sem,Nat.reduceBEq, *]) (by simp only[go_sem,Nat.reduceBEq, *]) e7 e1 e2 e10 e9 e8 rfl (by decide) rfl rfl (by decide) h0 h1) ?_
  refine OW.o1 (by rfl) (fun S=>by simp only[go_sem,Nat.reduceBEq,Nat.reduceAdd, *];with_reducible exact Is.rfl) ?_
  refine OW.o1 (by rfl) (fun S=>by simp only[go_sem,Nat.reduceBEq,Nat.reduceAdd, *];with_reducible exact Is.rfl) ?_
  refine OW.o1 (by rfl) (fun S=>OT (by simp only[go_sem,Nat.reduceBEq, *];rfl) (by simp only[go_sem,Nat.reduceBEq,List.length_nil, *];rfl) e6 e2) ?_
  refine OW.o1 (by rfl) (fun S=>by simp only[go_sem,Nat.reduceBEq,Nat.reduceAdd, *];with_reducible exact Is.rfl) ?_
  refine OW.nil (bH.n (bH.n ?_))
  refine CW.seq (CW.region ?_)
  refine OW.o1 (by rfl) (fun S=>by simp only[go_sem,Nat.reduceBEq,Nat.reduceAdd, *];with_reducible exact Is.rfl) ?_
  refine OW.o1 (by rfl) (fun S=>by simp only[go_sem,Nat.reduceBEq,Nat.reduceAdd, *];with_reducible exact Is.rfl) ?_
  refine OW.nil (bH.n ?_)
  refine CW.ret ?_
  rw[hres]
  refine nQ.one (by intro i h;cases h) (by simp only[jc,go_sem,Nat.reduceBEq, *];exact Is.rfl) (.inr ⟨_,_,_,_,I8 k (.int .i64 0),rfl, ?_⟩)
  simp only[go_sem,Nat.reduceBEq, *]
theorem af6 (k:Int) (h0:0≤k) (h1:k≤2^40):kJ E 175 [.aj .nil [],.int .i64 k] 1 ah.init (I7 1):=by
 have hP:E.P=Tryz.prog:=rfl
 have e1:gN E.P 94=some 5:=by kernel_rfl
 have e2:bq E.P 5=some 1:=by kernel_rfl
 have e6:E.P.underlying 94=some (.slice 5):=by kernel_rfl
 have e7:E.P.underlying 3=some (.int .i64):=by kernel_rfl
 have e8:fK E.P 5=some (.int .u8 0):=by kernel_rfl
 have e9:fZ E.P 5=some false:=by kernel_rfl
 have e10:nG E.P 5=some 1:=by kernel_rfl
 have e3:decide (k<0)=false:=decide_eq_false (by omega)
 have e4:IntKind.i64.wrap (k-0)=k:=by rw[Int.sub_zero];exact OP (by omega) (by omega)
 have e5:IntKind.i64.wrap (0-((0:Nat):Int))=0:=by decide
 have hres:Tryz.f175.results.toList=[.tmp 4]:=rfl
 refine kJ.of (fn:=Tryz.f175) (c:=Tryz.f175.body.getD .skip) Tryz.func175 rfl (by kernel_rfl) ?_
 generalize hfr:({d:=1,om:=E.om 175,tm:=fun i=>([.aj .nil [],.int .i64 k]:List V).getD i aA}:Fr)=fr
 have a0:fr.tm 0= .aj .nil []:=by rw[←hfr];rfl
 have a1:fr.tm 1= .int .i64 k:=by rw[←hfr];rfl
 have a2:fr.om=true:=by rw[←hfr];rfl
 have a3:fr.d=1:=by rw[←hfr]
 clear hfr
 refine CW.seq (CW.region ?_)
 refine OW.o1 (by rfl) (fun S=>by simp only[go_sem,Nat.reduceBEq,Nat.reduceAdd, *];with_reducible exact Is.rfl) ?_
 refine OW.nil (bH.n ?_)
 refine CW.seq (CW.seq (CW.region ?_))
 refine OW.o1 (by rfl) (fun S=>by simp only[go_sem,Nat.reduceBEq,Nat.reduceAdd, *];with_reducible exact Is.rfl) ?_
 refine OW.o1 (by rfl) (fun S=>by simp only[go_sem,Nat.reduceBEq,Nat.reduceAdd, *];with_reducible exact Is.rfl) ?_
 refine OW.nil (bH.n ?_)
 refine CW.qJ (by simp only[go_sem,Nat.reduceBEq,Nat.reduceAdd, *];exact Is.rfl) ?_
 refine CW.skip (bH.n ?_)
 refine CW.seq (CW.seq (CW.region ?_))
 refine OW.o1 (by rfl) (fun S=>by simp only[go_sem,Nat.reduceBEq,Nat.reduceAdd, *];with_reducible exact Is.rfl) ?_
 refine OW.o1 (by rfl) (fun S=>by simp only[go_sem,Nat.reduceBEq,Nat.reduceAdd, *];with_reducible exact Is.rfl) ?_
 refine OW.o1 (by rfl) (fun S=>Az (by simp only[go_sem,Nat.reduceBEq, *]) e1) ?_
 refine OW.o1 (by rfl) (fun S=>by simp only[go_sem,Nat.reduceBEq,Nat.reduceAdd, *];with_reducible exact Is.rfl) ?_
 refine OW.o1 (by rfl) (fun S=>by simp only[go_sem,Nat.reduceBEq,Nat.reduceAdd,List.length_nil, *];with_reducible exact Is.rfl) ?_
 refine OW.o1 (by rfl) (fun S=>by simp only[go_sem,Nat.reduceBEq,Nat.reduceAdd, *];with_reducible exact Is.rfl) ?_
 refine OW.o1 (by rfl) (fun S=>by simp only[go_sem,Nat.reduceBEq,Nat.reduceAdd, *];with_reducible exact Is.rfl) ?_
 refine OW.o1 (by rfl) (fun S=>by simp only[go_sem,Nat.reduceBEq,Nat.reduceAdd, *];with_reducible exact Is.rfl) ?_
 refine OW.nil (bH.n ?_)
 refine CW.seq (CW.region ?_)
 refine OW.o1 (by rfl) (fun S=>by simp only[go_sem,Nat.reduceBEq,Nat.reduceAdd, *];with_reducible exact Is.rfl) ?_
 refine OW.o1 (by rfl) (fun S=>by simp only[go_sem,Nat.reduceBEq,Nat.reduceAdd, *];with_reducible exact Is.rfl) ?_
 refine OW.nil (bH.n ?_)
 cases hk:decide (k>0) with
 |false=>
  refine CW.qJ (by simp only[go_sem,Nat.reduceBEq,Nat.reduceAdd, *];exact Is.rfl) ?_
  refine CW.skip (bH.n (bH.n ?_))
  refine CW.seq (CW.region ?_)
  refine OW.o1 (by rfl) (fun S=>by simp only[go_sem,Nat.reduceBEq,Nat.reduceAdd, *];with_reducible exact Is.rfl) ?_
  refine OW.o1 (by rfl) (fun S=>by simp only[go_sem,Nat.reduceBEq,Nat.reduceAdd, *];with_reducible exact Is.rfl) ?_
  refine OW.nil (bH.n ?_)
  refine CW.ret ?_
  rw[hres]
  refine nQ.one (v0:=.aj .nil []) (by intro i h;cases h) (by simp only[jc,go_sem,Nat.reduceBEq, *];exact Is.rfl) (.inl rfl)
 |true=>
  refine CW.uT (by simp only[go_sem,Nat.reduceBEq,Nat.reduceAdd, *];exact Is.rfl) ?_
  refine CW.region ?_
  refine OW.o1 (by rfl) (fun S=>by simp only[go_sem,Nat.reduceBEq,Nat.reduceAdd, *];with_reducible exact Is.rfl) ?_
  refine OW.o1 (by rfl) (fun S=>by simp only[go_sem,Nat.reduceBEq,Nat.reduceAdd, *];with_reducible exact Is.rfl) ?_
  refine OW.o1 (by rfl) (fun S=>Az (by simp only[go_sem,Nat.reduceBEq, *]) e1) ?_
  refine OW.o1 (by rfl) (fun S=>OQ (by simp only[go_sem,Nat.reduceBEq, *]) (by simp only[go_sem,Nat.reduceBEq, *]) e6 e2) ?_
  refine OW.o1 (by rfl) (fun S=>by simp only[go_sem,Nat.reduceBEq,Nat.reduceAdd, *];with_reducible exact Is.rfl) ?_
  refine OW.o1 (by rfl) (fun S=>OU (k:=k) (by simp only[go_sem,Nat.reduceBEq, *]) (by simp only[go_sem,Nat.reduceBEq, *]) (by simp only[go_sem,Nat.reduceBEq, *]) e7 e1 e2 e10 e9 e8 rfl (by decide) rfl rfl (by decide) h0 h1) ?_
  refine OW.o1 (by rfl) (fun S=>by simp only[go_sem,Nat.reduceBEq,Nat.reduceAdd, *];with_reducible exact Is.rfl) ?_
  refine OW.o1 (by rfl) (fun S=>by simp only[go_sem,Nat.reduceBEq,Nat.reduceAdd, *];with_reducible exact Is.rfl) ?_
  refine OW.o1 (by rfl) (fun S=>OT (by simp only[go_sem,Nat.reduceBEq, *];rfl) (by simp only[go_sem,Nat.reduceBEq,List.length_nil, *];rfl) e6 e2) ?_
  refine OW.o1 (by rfl) (fun S=>by simp only[go_sem,Nat.reduceBEq,Nat.reduceAdd, *];with_reducible exact Is.rfl) ?_
  refine OW.nil (bH.n (bH.n ?_))
  refine CW.seq (CW.region ?_)
  refine OW.o1 (by rfl) (fun S=>by simp only[go_sem,Nat.reduceBEq,Nat.reduceAdd, *];with_reducible exact Is.rfl) ?_
  refine OW.o1 (by rfl) (fun S=>by simp only[go_sem,Nat.reduceBEq,Nat.reduceAdd, *];with_reducible exact Is.rfl) ?_
  refine OW.nil (bH.n ?_)
  refine CW.ret ?_
  rw[hres]
  refine nQ.one (by intro i h;cases h) (by simp only[jc,go_sem,Nat.reduceBEq, *];exact Is.rfl) (.inr ⟨_,_,_,_,I8 k (.int .u8 0),rfl, ?_⟩)
  simp only[go_sem,Nat.reduceBEq, *]
theorem af7 (k:Int) (h0:0≤k) (h1:k≤2^40):kJ E 167 [.aj .nil [],.int .i64 k] 1 ah.init (I7 1):=by
 have hP:E.P=Tryz.prog:=rfl
 have e1:gN E.P 116=some 9:=by kernel_rfl
 have e2:bq E.P 9=some 1:=by kernel_rfl
 have e6:E.P.underlying 116=some (.slice 9):=by kernel_rfl
 have e7:E.P.underlying 3=some (.int .i64):=by kernel_rfl
 have e8:fK E.P 9=some (.str []):=by kernel_rfl
 have e9:fZ E.P 9=some false:=by kernel_rfl
 have e10:nG E.P 9=some 16:=by kernel_rfl
 have e3:decide (k<0)=false:=decide_eq_false (by omega)
 have e4:IntKind.i64.wrap (k-0)=k:=by rw[Int.sub_zero];exact OP (by omega) (by omega)
 have e5:IntKind.i64.wrap (0-((0:Nat):Int))=0:=by decide
 have hres:Tryz.f167.results.toList=[.tmp 4]:=rfl
 refine kJ.of (fn:=Tryz.f167) (c:=Tryz.f167.body.getD .skip) Tryz.func167 rfl (by kernel_rfl) ?_
 generalize hfr:({d:=1,om:=E.om 167,tm:=fun i=>([.aj .nil [],.int .i64 k]:List V).getD i aA}:Fr)=fr
 have a0:fr.tm 0= .aj .nil []:=by rw[←hfr];rfl
 have a1:fr.tm 1= .int .i64 k:=by rw[←hfr];rfl
 have a2:fr.om=true:=by rw[←hfr];rfl
 have a3:fr.d=1:=by rw[←hfr]
 clear hfr
 refine CW.seq (CW.region ?_)
 refine OW.o1 (by rfl) (fun S=>by simp only[go_sem,Nat.reduceBEq,Nat.reduceAdd, *];with_reducible exact Is.rfl) ?_
 refine OW.nil (bH.n ?_)
 refine CW.seq (CW.seq (CW.region ?_))
 refine OW.o1 (by rfl) (fun S=>by simp only[go_sem,Nat.reduceBEq,Nat.reduceAdd, *];with_reducible exact Is.rfl) ?_
 refine OW.o1 (by rfl) (fun S=>by simp only[go_sem,Nat.reduceBEq,Nat.reduceAdd, *];with_reducible exact Is.rfl) ?_
 refine OW.nil (bH.n ?_)
 refine CW.qJ (by simp only[go_sem,Nat.reduceBEq,Nat.reduceAdd, *];exact Is.rfl) ?_
 refine CW.skip (bH.n ?_)
 refine CW.seq (CW.seq (CW.region ?_))
 refine OW.o1 (by rfl) (fun S=>by simp only[go_sem,Nat.reduceBEq,Nat.reduceAdd, *];with_reducible exact Is.rfl) ?_
 refine OW.o1 (by rfl) (fun S=>by simp only[go_sem,Nat.reduceBEq,Nat.reduceAdd, *];with_reducible exact Is.rfl) ?_
 refine OW.o1 (by rfl) (fun S=>Az (by simp only[go_sem,Nat.reduceBEq, *]) e1) ?_
 refine OW.o1 (by rfl) (fun S=>by simp only[go_sem,Nat.reduceBEq,Nat.reduceAdd, *];with_reducible exact Is.rfl) ?_
 refine OW.o1 (by rfl) (fun S=>by simp only[go_sem,Nat.reduceBEq,Nat.reduceAdd,List.length_nil, *];with_reducible exact Is.rfl) ?_
 refine OW.o1 (by rfl) (fun S=>by simp only[go_sem,Nat.reduceBEq,Nat.reduceAdd, *];with_reducible exact Is.rfl) ?_
 refine OW.o1 (by rfl) (fun S=>by simp only[go_sem,Nat.reduceBEq,Nat.reduceAdd, *];with_reducible exact Is.rfl) ?_
 refine OW.o1 (by rfl) (fun S=>by simp only[go_sem,Nat.reduceBEq,Nat.reduceAdd, *];with_reducible exact Is.rfl) ?_
 refine OW.nil (bH.n ?_)
 refine CW.seq (CW.region ?_)
 refine OW.o1 (by rfl) (fun S=>by simp only[go_sem,Nat.reduceBEq,Nat.reduceAdd, *];with_reducible exact Is.rfl) ?_
 refine OW.o1 (by rfl) (fun S=>by simp only[go_sem,Nat.reduceBEq,Nat.reduceAdd, *];with_reducible exact Is.rfl) ?_
 refine OW.nil (bH.n ?_)
 cases hk:decide (k>0) with
 |false=>
  refine CW.qJ (by simp only[go_sem,Nat.reduceBEq,Nat.reduceAdd, *];exact Is.rfl) ?_
  refine CW.skip (bH.n (bH.n ?_))
  refine CW.seq (CW.region ?_)
  refine OW.o1 (by rfl) (fun S=>by simp only[go_sem,Nat.reduceBEq,Nat.reduceAdd, *];with_reducible exact Is.rfl) ?_
  refine OW.o1 (by rfl) (fun S=>by simp only[go_sem,Nat.reduceBEq,Nat.reduceAdd, *];with_reducible exact Is.rfl) ?_
  refine OW.nil (bH.n ?_)
  refine CW.ret ?_
  rw[hres]
  refine nQ.one (v0:=.aj .nil []) (by intro i h;cases h) (by simp only[jc,go_sem,Nat.reduceBEq, *];exact Is.rfl) (.inl rfl)
 |true=>
  refine CW.uT (by simp only[go_sem,Nat.reduceBEq,Nat.reduceAdd, *];exact Is.rfl) ?_
  refine CW.region ?_
  refine OW.o1 (by rfl) (fun S=>by simp only[go_sem,Nat.reduceBEq,Nat.reduceAdd, *];with_reducible exact Is.rfl) ?_
  refine OW.o1 (by rfl) (fun S=>by simp only[go_sem,Nat.reduceBEq,Nat.reduceAdd, *];with_reducible exact Is.rfl) ?_
  refine OW.o1 (by rfl) (fun S=>Az (by simp only[go_sem,Nat.reduceBEq, *]) e1) ?_
  refine OW.o1 (by rfl) (fun S=>OQ (by simp only[go_sem,Nat.reduceBEq, *]) (by simp only[go_sem,Nat.reduceBEq, *]) e6 e2) ?_
  refine OW.o1 (by rfl) (fun S=>by simp only[go_sem,Nat.reduceBEq,Nat.reduceAdd, *];with_reducible exact Is.rfl) ?_
  refine OW.o1 (by rfl) (fun S=>OU (k:=k) (by simp only[go_sem,Nat.reduceBEq, *]) (by simp only[go_sem,Nat.reduceBEq, *]) (by simp only[go_sem,Nat.reduceBEq, *]) e7 e1 e2 e10 e9 e8 rfl (by decide) rfl rfl (by decide) h0 h1) ?_
  refine OW.o1 (by rfl) (fun S=>by simp only[go_sem,Nat.reduceBEq,Nat.reduceAdd, *];with_reducible exact Is.rfl) ?_
  refine OW.o1 (by rfl) (fun S=>by simp only[go_sem,Nat.reduceBEq,Nat.reduceAdd, *];with_reducible exact Is.rfl) ?_
  refine OW.o1 (by rfl) (fun S=>OT (by simp only[go_sem,Nat.reduceBEq, *];rfl) (by simp only[go_sem,Nat.reduceBEq,List.length_nil, *];rfl) e6 e2) ?_
  refine OW.o1 (by rfl) (fun S=>by simp only[go_sem,Nat.reduceBEq,Nat.reduceAdd, *];with_reducible exact Is.rfl) ?_
  refine OW.nil (bH.n (bH.n ?_))
  refine CW.seq (CW.region ?_)
  refine OW.o1 (by rfl) (fun S=>by simp only[go_sem,Nat.reduceBEq,Nat.reduceAdd, *];with_reducible exact Is.rfl) ?_
  refine OW.o1 (by rfl) (fun S=>by simp only[go_sem,Nat.reduceBEq,Nat.reduceAdd, *];with_reducible exact Is.rfl) ?_
  refine OW.nil (bH.n ?_)
  refine CW.ret ?_
  rw[hres]
  refine nQ.one (by intro i h;cases h) (by simp only[jc,go_sem,Nat.reduceBEq, *];exact Is.rfl) (.inr ⟨_,_,_,_,I8 k (.str []),rfl, ?_⟩)
  simp only[go_sem,Nat.reduceBEq, *]
theorem OV {f sz:Nat} {l:List V} {k:Int} (h:kJ E f [.aj .nil [],.int .i64 k] 1 ah.init (I7 sz)):mR E f [.aj .nil [],.int .i64 k] sz []:=by
 obtain⟨n,v,σ1,h1,h2⟩:=h
 refine⟨n,v,σ1,h1,fun st σ=> ?_⟩
 rcases h2 with rfl| ⟨loc,s,cap,ag,cs,rfl,hc⟩
 ·exact .inl ⟨.nil,.inl rfl,rfl⟩
 ·exact .inr (by unfold pE;dsimp only;rw[if_pos ⟨rfl,rfl⟩,hc];rfl)
theorem OX {α:Type} {k:Int} {x:List α} (h:DV k=some x):0≤k∧k≤2^40∧x=[]:=by
 unfold DV at h
 split at h
 ·rename_i hk;cases h;exact⟨hk.1,hk.2,rfl⟩
 ·cases h
theorem af8:∀u p x,OM (u,p)=some x→mR E 174 (.aj .nil []::bf R [.d (.int .i64)] p) (bL R (.int .i64)) (x.map (aF R (.int .i64))):=by
 intro u p x h
 unfold OM at h
 obtain⟨h0,h1,rfl⟩:=OX h
 exact OV (l:=[]) (af5 p h0 h1)
theorem af9:∀u p x,OO (u,p)=some x→mR E 175 (.aj .nil []::bf R [.d (.int .i64)] p) (bL R (.int .u8)) (x.map (aF R (.int .u8))):=by
 intro u p x h
 unfold OO at h
 obtain⟨h0,h1,rfl⟩:=OX h
 exact OV (l:=[]) (af6 p h0 h1)
theorem aga:∀u p x,Ay (u,p)=some x→mR E 167 (.aj .nil []::bf R [.d (.int .i64)] p) (bL R .str) (x.map (aF R .str)):=by
 intro u p x h
 unfold Ay at h
 obtain⟨h0,h1,rfl⟩:=OX h
 exact OV (l:=[]) (af7 p h0 h1)
noncomputable def OY (_:Nat):Nat→List (FR R):=bW 167 ⟨Aw,[.d (.slice .str)],Ay,[],true⟩ (bW 175 ⟨Aw,[.d (.slice (.int .u8))],OO,[],true⟩ (bW 174 ⟨Aw,[.d (.slice (.int .i64))],OM,[],true⟩ V8))
theorem WC (n:Nat):bI E (OY n):=OB (OB (OB afj af8) af9) aga
end Sh
end
section
open Go Go.Proofs Aq
namespace Sh
theorem agb (a b:List Int):IZ [lv (V.int .u8) a,lv (V.int .u8) b]=some (.int .i64 (DT a b)):=by
 show (tZ (a.map (V.int .u8))).bind _=_
 rw[OJ,Option.bind_some,OJ];rfl
theorem agc (p:aH R.T [.d (.slice (.int .u8)),.d (.slice (.int .u8))]) (x:Int) (h:some (DT p.1 p.2)=some x):Pure E 116 (bf R [.d (.slice (.int .u8)),.d (.slice (.int .u8))] p) (kZ [.int .i64 x]):=by
 cases h
 exact⟨0,agb p.1 p.2⟩
def I9 (l:List Mark):Option (List Mark):=if l.length<2^30 then some l else none
theorem agd (l:List Mark):pR 33 (l.map Mark.v)=true:=ac5 (f:=Mark.v) (sz:=33) (fun x=>⟨by rw[Mark.cells];exact Mark.len x,by rw[Mark.cells];exact Mark.one x⟩) l
theorem agf (l:List Mark):aP (l.map Mark.v)=true:=by
 induction l with
 |nil=>rfl
 |cons a l ih=>simp only[List.map_cons,aP,Mark.pc,ih,Bool.and_self]
theorem agh (p:List Mark) (x:List Mark) (h:I9 p=some x):Pure E 61 [lv Mark.v p] (lv Mark.v x):=by
 unfold I9 at h
 split at h
 ·rename_i hl
  cases h
  refine⟨0, ?_⟩
  show I4 [.aj .sh (p.map Mark.v)]=some (.aj .sh (p.map Mark.v))
  cases p with
  |nil=>rfl
  |cons a l=>
   have h1:=agd (a::l)
   have h2:=agf (a::l)
   have h3:((a::l).map Mark.v).length<2^30:=by rw[List.length_map];exact hl
   exact if_pos ⟨h1,h2,h3⟩
 ·cases h
end Sh
end
section
namespace Aq
open Go
def Env.sm (E:Env) (s:FuncId→Option (List V→Option V)):Env:={E with iZ:=s}
section
variable {E:Env} {s:FuncId→Option (List V→Option V)} {S T:iM}
def vS (E:Env) (s:FuncId→Option (List V→Option V)) (S T:iM):Prop:=∀f args v,iQ (E.sm s) S f args=some v→iQ E T f args=some v
theorem WE (hc:vS E s S T) (h:gK S T) {d:Nat} {σ:ah} {fv:V} {args:List V} {r:V×ah} (hh:gP (E.sm s) S d σ fv args=some r):gP E T d σ fv args=some r:=by
 unfold gP at hh⊢
 split at hh
 ·split at hh
  ·rename_i hi
   have hi':E.imp _=true:=hi
   simp only[hi',if_true];exact h.2 _ _ _ _ _ hh
  ·rename_i hi
   have hi':¬E.imp _=true:=hi
   simp only[Option.bind_eq_some_iff] at hh
   obtain⟨asx,h1,v,h2,h3⟩:=hh
   simp only[hi',h1,Option.bind_some,hc _ _ _ h2]
   exact h3
 ·exact Ma h hh
 ·simp at hh
theorem agi (h:gK S T) {σ:ah} {st:Nat} {fv:V} {args:List V} {r:V×ah} (hh:pF (E.sm s) S σ st fv args=some r):pF E T σ st fv args=some r:=SG (E:=E) h hh
theorem OZ (hc:vS E s S T) (h:gK S T) {fr:Fr} {σ:ah} {st:Nat} {o:Oper} {r:V×Fr×ah} (hh:opC (E.sm s) S fr σ st o=some r):opC E T fr σ st o=some r:=by
 unfold opC at hh⊢
 split at hh
 ·rename_i c ho
  simp only[ho] at hh⊢
  split at hh
  ·exact hh
  ·rename_i f hf
   split at hh
   ·rename_i dI
    have O1:jS E fr o f=true:=dI
    simp only[O1,if_true]
    simp only[Option.map_eq_some_iff] at hh⊢
    obtain⟨x,h1,h2⟩:=hh
    exact⟨x,agi h h1,h2⟩
   rename_i dI
   have O1:¬jS E fr o f=true:=dI
   simp only[O1,if_false,Bool.false_eq_true]
   simp only[Option.map_eq_some_iff] at hh⊢
   obtain⟨x,h1,h2⟩:=hh
   exact⟨x,WE hc h h1,h2⟩
  ·simp at hh
 ·simp at hh
 ·exact hh
theorem agj (hc:vS E s S T) (h:gK S T) (all:List Oper):∀(os:List Oper) (st:Nat) (fr:Fr) (σ:ah) (r:Fr×ah),opsE (E.sm s) S all st os fr σ=some r→opsE E T all st os fr σ=some r:=by
 intro os
 induction os with
 |nil=>intro st fr σ r hh;exact hh
 |cons o os ih=>
  intro st fr σ r hh
  simp only[opsE,Option.bind_eq_some_iff] at hh⊢
  obtain⟨t,h1,h2⟩:=hh
  refine⟨t,h1, ?_⟩
  cases t with
  |true=>
   simp only[if_true,Option.bind_eq_some_iff] at h2⊢
   obtain⟨x,h3,h4⟩:=h2
   exact⟨x,OZ hc h h3,ih _ _ _ _ h4⟩
  |false=>
   simp only[Bool.false_eq_true,if_false] at h2⊢
   exact ih _ _ _ _ h2
theorem agk (hc:vS E s S T) (h:gK S T) (all:List Oper):∀(os:List Oper) (st:Nat) (fr:Fr) (σ:ah) (r:List bD×Fr×ah),jT (E.sm s) S all st os fr σ=some r→jT E T all st os fr σ=some r:=by
 intro os
 induction os with
 |nil=>intro st fr σ r hh;exact hh
 |cons o os ih=>
  intro st fr σ r hh
  simp only[jT,Option.bind_eq_some_iff] at hh⊢
  obtain⟨t,h1,h2⟩:=hh
  refine⟨t,h1, ?_⟩
  cases t with
  |true=>
   simp only[if_true,Option.bind_eq_some_iff,Option.map_eq_some_iff] at h2⊢
   obtain⟨x,h3,y,h4,h5⟩:=h2
   exact⟨x,OZ hc h h3,y,ih _ _ _ _ h4,h5⟩
  |false=>
   simp only[Bool.false_eq_true,if_false,Option.map_eq_some_iff] at h2⊢
   obtain⟨y,h4,h5⟩:=h2
   exact⟨y,ih _ _ _ _ h4,h5⟩
theorem agl (hc:vS E s S T) (h:gK S T) {ops:List Oper} {base i:Nat} {fr:Fr} {σ:ah} {r:Fr×ah} (hh:iT (E.sm s) S ops base i fr σ=some r):iT E T ops base i fr σ=some r:=by
 unfold iT at hh⊢
 split at hh
 ·exact hh
 ·simp only[Option.bind_eq_some_iff] at hh⊢
  obtain⟨t,h1,h2⟩:=hh
  refine⟨t,h1, ?_⟩
  cases t with
  |true=>
   simp only[if_true,Option.map_eq_some_iff] at h2⊢
   obtain⟨x,h3,h4⟩:=h2
   exact⟨x,OZ hc h h3,h4⟩
  |false=>simpa using h2
theorem agm (hc:vS E s S T) (h:gK S T) {ms:List Nat} {ops:List Oper} {base:Nat} {x y:Fr×ah} (hf:Free (E.sm s) S ms ops base x y):Free E T ms ops base x y:=by
 obtain⟨s',T',W,h0,hn,wL,hloc,hr⟩:=hf
 refine⟨s',T',W,h0,hn,wL,fun i hi x hx=> ?_,hr⟩
 obtain⟨y,h1,h2⟩:=hloc i hi x hx
 exact⟨y,agl hc h h1,h2⟩
theorem agn (hc:vS E s S T) (h:gK S T):∀(c:Code) (fr:Fr) (σ:ah) (r:Ex×Fr×ah),bO (E.sm s) S c fr σ=some r→bO E T c fr σ=some r:=by
 intro c
 induction c with
 |region id ops dr=>
  intro fr σ r hh
  simp only[bO] at hh⊢
  split at hh
  ·rename_i hd
   simp only[hd,if_true,Option.bind_eq_some_iff] at hh⊢
   obtain⟨x,h1,h2⟩:=hh
   refine⟨x,agk hc h _ _ _ _ _ _ h1, ?_⟩
   split at h2
   ·rename_i hp;rw[if_pos hp];exact h2
   ·rename_i hp
    rw[if_neg hp]
    unfold FH at h2⊢
    split at h2
    ·rename_i hf
     rw[if_pos ⟨hf.1,agm hc h hf.2⟩];exact h2
    ·cases h2
  ·rename_i hd
   simp only[hd,Bool.false_eq_true,if_false,Option.map_eq_some_iff] at hh⊢
   obtain⟨x,h1,h2⟩:=hh
   exact⟨x,agj hc h _ _ _ _ _ _ h1,h2⟩
 |seq a b iha ihb=>
  intro fr σ r hh
  simp only[bO,Option.bind_eq_some_iff] at hh⊢
  obtain⟨⟨e,bE,σ1⟩,h1,h2⟩:=hh
  refine⟨(e,bE,σ1),iha _ _ _ h1, ?_⟩
  cases e with
  |normal=>exact ihb _ _ _ h2
  |exit i=>exact h2
  |ret=>exact h2
 |cond c a b iha ihb=>
  intro fr σ r hh
  simp only[bO,Option.bind_eq_some_iff] at hh⊢
  obtain⟨t,h1,h2⟩:=hh
  refine⟨t,h1, ?_⟩
  cases t with
  |true=>simp only[if_true] at h2⊢;exact iha _ _ _ h2
  |false=>simp only[Bool.false_eq_true,if_false] at h2⊢;exact ihb _ _ _ h2
 |block id c ih=>
  intro fr σ r hh
  simp only[bO,Option.map_eq_some_iff] at hh⊢
  obtain⟨x,h1,h2⟩:=hh
  exact⟨x,ih _ _ _ h1,h2⟩
 |loop c ih=>
  intro fr σ r hh
  simp only[bO,Option.bind_eq_some_iff] at hh⊢
  obtain⟨⟨e,bE,σ1⟩,h1,h2⟩:=hh
  refine⟨(e,bE,σ1),ih _ _ _ h1, ?_⟩
  cases e with
  |normal=>exact h.1 _ _ _ _ h2
  |exit i=>exact h2
  |ret=>exact h2
 |rangeFunc f ps a b iha ihb=>
  intro fr σ r hh
  simp only[bO] at hh⊢
  split at hh
  ·rename_i hf
   rw[if_pos (by exact hf)]
   simp only[Option.bind_eq_some_iff] at hh⊢
   obtain⟨x,h1,h2⟩:=hh
   exact⟨x,WE hc h h1,h2⟩
  ·simp at hh
 |_=>intro fr σ r hh;simpa [bO] using hh
theorem agp (h:gK S T) {f:FuncId} {args:List V} {d:Nat} {σ:ah} {r:V×ah} (hh:ru (E.sm s) S f args d σ=some r):ru E T f args d σ=some r:=SH (E:=E) h hh
theorem agq {M:Nat} (hs:∀f g,s f=some g→∀args v,g args=some v→iQ E (bX E M) f args=some v) (hn:∀f,s f=none→E.iZ f=none):∀n,gK (bX (E.sm s) n) (bX E (n+M)):=by
 have pure:∀n,gK (bX (E.sm s) n) (bX E (n+M))→vS E s (bX (E.sm s) n) (bX E (n+M)):=by
  intro n h f args v hv
  unfold iQ at hv
  cases hf:(E.sm s).iZ f with
  |some g=>
   rw[hf] at hv
   exact y7 (jM (Nat.le_add_left M n)) (hs f g hf args v hv)
  |none=>
   rw[hf] at hv
   simp only[Option.bind_eq_some_iff] at hv
   obtain⟨x,h1,h2⟩:=hv
   unfold iQ
   rw[hn f hf]
   simp only[h.2 _ _ _ _ _ h1,Option.bind_some]
   exact h2
 intro n
 induction n with
 |zero=>exact⟨(fun _ _ _ _ h=>by cases h),(fun _ _ _ _ _ h=>by cases h)⟩
 |succ n ih=>
  rw[Nat.succ_add]
  exact⟨fun c fr σ r hh=>agn (pure n ih) ih c fr σ r hh,fun f args d σ r hh=>agp ih hh⟩
theorem agr {M:Nat} (hs:∀f g,s f=some g→∀args v,g args=some v→iQ E (bX E M) f args=some v) (hn:∀f,s f=none→E.iZ f=none) {f:FuncId} {args:List V} {v:V} {n:Nat} (hf:s f=none) (h:iQ (E.sm s) (bX (E.sm s) n) f args=some v):Pure E f args v:=by
 refine⟨n+M, ?_⟩
 unfold iQ at h
 rw[show (E.sm s).iZ f=none from hf] at h
 simp only[Option.bind_eq_some_iff] at h
 obtain⟨x,h1,h2⟩:=h
 unfold iQ
 rw[hn f hf]
 simp only[(agq hs hn n).2 _ _ _ _ _ h1,Option.bind_some]
 exact h2
end
end Aq
end
