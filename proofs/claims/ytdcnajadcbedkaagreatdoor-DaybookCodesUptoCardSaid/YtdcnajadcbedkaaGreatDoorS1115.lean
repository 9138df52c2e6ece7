/- Part of the proof of a law. -/
import Derived.Test.YtdcnajadcbedkaaGreatDoorS1105
import Derived.Test.YtdcnajadcbedkaaGreatDoorS1114
set_option linter.all false
set_option linter.unusedSimpArgs false
set_option linter.unusedSectionVars false
section
open Go Go.Proofs Aq
namespace Sh
set_option maxRecDepth 100000
set_option linter.unusedSimpArgs false
set_option linter.unusedVariables false
abbrev BQ:List Sk:=[.dN,.d (.int .i64)]
def ES {α:Type} (k:Int):Option (List α):=if 0≤k∧k≤2^40 then some [] else none
@[irreducible] def PZ (p:aJ R.T BQ):Option (List Int):=ES p.2
@[irreducible] def P5 (p:aJ R.T BQ):Option (List Int):=ES p.2
@[irreducible] def P6 (p:aJ R.T BQ):Option (List (List UInt8)):=ES p.2
theorem vJ {n:Int} (h0: -(2^63)≤n) (h1:n<2^63):IntKind.i64.wrap n=n:=by
 rw[IntKind.wrap_i64];omega
def JU (sz:Nat) (v:V) (σ:ah):Prop:=v= .aj .nil []∨∃loc s cap ag cs,v= .vw loc s 0 0 cap sz ag∧σ.bK loc s=some cs
section
variable {E:Env} {S:jc} {fr:Fr} {σ:ah} {st ty:Nat} {pos:String} {bE:Array Edge} {gd:Option (Nat×Bool)}
theorem BR {d:Option Nat} {x:Operand} {t e:TypeId} (hx:fr.ev E x= .aj .nil []) (ht:iw E.P t=some e):opC E S fr σ st ⟨d,.call ⟨.builtin .cap, #[x], #[t]⟩,ty,pos,bE,gd⟩=some (.int .i64 0,fr,σ):=by
 show Option.map _ ((some t).bind fun t=>(iw E.P t).bind fun _=>match fr.ev E x with
  |.aj .nil l|.aj .full l=>some (V.int .i64 l.length,σ)
  |_=>none)=_
 rw[Option.bind_some,ht,hx];rfl
theorem P7 {d:Option Nat} {x h:Operand} {t e:TypeId} {sz:Nat} (hx:fr.ev E x= .aj .nil []) (hh:fr.ev E h= .int .i64 0) (hu:E.P.underlying t=some (.slice e)) (hs:bC E.P e=some sz):
 opC E S fr σ st ⟨d,.slice t x none (some h) none,ty,pos,bE,gd⟩=some (.aj .nil [],fr,σ):=by
 show Option.map _ ((kF E.P σ t (fr.ev E x) none (some (fr.ev E h)) none).map fun v=>(v,σ))=_
 rw[hx,hh]
 unfold kF
 rw[hu];dsimp only
 rw[hs];rfl
theorem P8 {d:Option Nat} {x h:Operand} {t e:TypeId} {sz len cap s:Nat} {loc:Aq.Loc} {ag:Bool} (hx:fr.ev E x= .vw loc s 0 len cap sz ag) (hh:fr.ev E h= .int .i64 0) (hu:E.P.underlying t=some (.slice e)) (hs:bC E.P e=some sz):
 opC E S fr σ st ⟨d,.slice t x none (some h) none,ty,pos,bE,gd⟩=some (.vw loc s 0 0 cap sz ag,fr,σ):=by
 show Option.map _ ((kF E.P σ t (fr.ev E x) none (some (fr.ev E h)) none).map fun v=>(v,σ))=_
 rw[hx,hh]
 unfold kF
 rw[hu];dsimp only
 rw[hs]
 have:jm len cap none (some (.int .i64 0)) none=some (0,0,cap):=by
  unfold jm bnd kU
  simp
 rw[this]
 simp
def Xl (k:Int) (z:V):Nat:=0+(List.replicate k.toNat z).length
def JV (k:Int) (z:V):List V:=(([]:List V)++List.replicate k.toNat z).flatMap V.cells
theorem P9 {d:Nat} {x y:Operand} {t u e:TypeId} {k:Int} {sz bY:Nat} {z:V} {ag:Bool} (ho:fr.om=true) (hx:fr.ev E x= .aj .nil []) (hy:fr.ev E y= .int .i64 k) (hu:E.P.underlying u=some (.int .i64))
 (h1:iw E.P t=some e) (h2:bC E.P e=some sz) (h3:nU E.P e=some bY) (h4:gH E.P e=some ag) (h5:fZ E.P e=some z) (h6:z.cells.length=sz) (h7:0<sz) (h8:(ag||sz==1)=true) (h9:bf z.cells=true)
 (h10:bY≤16) (k0:0≤k) (k1:k≤2^40):
 opC E S fr σ st ⟨some d,.call ⟨.builtin .append, #[x,y], #[t,u]⟩,ty,pos,bE,gd⟩=some (.vw (fr.d,d) st 0 (Xl k z) (Xl k z) sz ag,fr,σ.setObj (fr.d,d) st (.cells (JV k z))):=by
 show Option.map _ ((some t).bind fun t=>((some u).bind E.P.underlying).bind fun u=>match u with
  |.int _=>gV E.P fr.om true σ st (some (fr.d,d)) t (fr.ev E x) (fr.ev E y)
  |.slice _|.string=>gV E.P fr.om false σ st (some (fr.d,d)) t (fr.ev E x) (fr.ev E y)
  |_=>none)=_
 rw[Option.bind_some,Option.bind_some,hu,ho,hx,hy]
 show Option.map _ (gV E.P true true σ st (some (fr.d,d)) t (.aj .nil []) (.int .i64 k))=_
 unfold gV
 rw[h1,Option.bind_some,h2,Option.bind_some,h3,Option.bind_some,h4,Option.bind_some,h5,Option.bind_some,if_pos ⟨rfl,h6,h7,h8⟩]
 rw[show jE σ ag sz z (.int .i64 k)=some (List.replicate k.toNat z) from (if_pos ⟨k0,by omega⟩:(if 0≤k∧k≤2^47 then some (List.replicate k.toNat z) else none)=_),Option.bind_some,if_pos (by rw[List.all_replicate,h9];simp)]
 dsimp only
 have hr:bX (([]:List V).length+(List.replicate k.toNat z).length) bY=true:=by
  unfold bX
  simp only[List.length_nil,Nat.zero_add,List.length_replicate,Bool.and_eq_true,decide_eq_true_eq]
  have hk:k.toNat≤2^40:=by omega
  exact⟨Nat.le_trans (Nat.mul_le_mul hk h10) (by decide),by omega⟩
 rw[if_pos ⟨hr,rfl⟩]
 rfl
end
theorem agU (k:Int) (h0:0≤k) (h1:k≤2^40):kr E 174 [.aj .nil [],.int .i64 k] 1 ah.init (JU 1):=by
 have hP:E.P=Tryz.prog:=rfl
 have e1:iw E.P 61=some 3:=by kernel_rfl
 have e2:bC E.P 3=some 1:=by kernel_rfl
 have e6:E.P.underlying 61=some (.slice 3):=by kernel_rfl
 have e7:E.P.underlying 3=some (.int .i64):=by kernel_rfl
 have e8:fZ E.P 3=some (.int .i64 0):=by kernel_rfl
 have e9:gH E.P 3=some false:=by kernel_rfl
 have e10:nU E.P 3=some 8:=by kernel_rfl
 have e3:decide (k<0)=false:=decide_eq_false (by omega)
 have e4:IntKind.i64.wrap (k-0)=k:=by rw[Int.sub_zero];exact vJ (by omega) (by omega)
 have e5:IntKind.i64.wrap (0-((0:Nat):Int))=0:=by decide
 have hres:Tryz.f174.results.toList=[.tmp 4]:=rfl
 refine kr.of (fn:=Tryz.f174) (c:=Tryz.f174.body.getD .skip) Tryz.func174 rfl (by kernel_rfl) ?_
 generalize hfr:({d:=1,om:=E.om 174,tm:=fun i=>([.aj .nil [],.int .i64 k]:List V).getD i aD}:Fr)=fr
 have a0:fr.tm 0= .aj .nil []:=by rw[←hfr];rfl
 have a1:fr.tm 1= .int .i64 k:=by rw[←hfr];rfl
 have a2:fr.om=true:=by rw[←hfr];rfl
 have a3:fr.d=1:=by rw[←hfr]
 clear hfr
 refine CW.seq (CW.region ?_)
 refine OW.o1 (by rfl) (fun S=>by simp only[go_sem,Nat.reduceBEq,Nat.reduceAdd, *];with_reducible exact Is.rfl) ?_
 refine OW.nil (bO.n ?_)
 refine CW.seq (CW.seq (CW.region ?_))
 refine OW.o1 (by rfl) (fun S=>by simp only[go_sem,Nat.reduceBEq,Nat.reduceAdd, *];with_reducible exact Is.rfl) ?_
 refine OW.o1 (by rfl) (fun S=>by simp only[go_sem,Nat.reduceBEq,Nat.reduceAdd, *];with_reducible exact Is.rfl) ?_
 refine OW.nil (bO.n ?_)
 refine CW.sN (by simp only[go_sem,Nat.reduceBEq,Nat.reduceAdd, *];exact Is.rfl) ?_
 refine CW.skip (bO.n ?_)
 refine CW.seq (CW.seq (CW.region ?_))
 refine OW.o1 (by rfl) (fun S=>by simp only[go_sem,Nat.reduceBEq,Nat.reduceAdd, *];with_reducible exact Is.rfl) ?_
 refine OW.o1 (by rfl) (fun S=>by simp only[go_sem,Nat.reduceBEq,Nat.reduceAdd, *];with_reducible exact Is.rfl) ?_
 refine OW.o1 (by rfl) (fun S=>BR (by simp only[go_sem,Nat.reduceBEq, *]) e1) ?_
 refine OW.o1 (by rfl) (fun S=>by simp only[go_sem,Nat.reduceBEq,Nat.reduceAdd, *];with_reducible exact Is.rfl) ?_
 refine OW.o1 (by rfl) (fun S=>by simp only[go_sem,Nat.reduceBEq,Nat.reduceAdd,List.length_nil, *];with_reducible exact Is.rfl) ?_
 refine OW.o1 (by rfl) (fun S=>by simp only[go_sem,Nat.reduceBEq,Nat.reduceAdd, *];with_reducible exact Is.rfl) ?_
 refine OW.o1 (by rfl) (fun S=>by simp only[go_sem,Nat.reduceBEq,Nat.reduceAdd, *];with_reducible exact Is.rfl) ?_
 refine OW.o1 (by rfl) (fun S=>by simp only[go_sem,Nat.reduceBEq,Nat.reduceAdd, *];with_reducible exact Is.rfl) ?_
 refine OW.nil (bO.n ?_)
 refine CW.seq (CW.region ?_)
 refine OW.o1 (by rfl) (fun S=>by simp only[go_sem,Nat.reduceBEq,Nat.reduceAdd, *];with_reducible exact Is.rfl) ?_
 refine OW.o1 (by rfl) (fun S=>by simp only[go_sem,Nat.reduceBEq,Nat.reduceAdd, *];with_reducible exact Is.rfl) ?_
 refine OW.nil (bO.n ?_)
 cases hk:decide (k>0) with
 |false=>
  refine CW.sN (by simp only[go_sem,Nat.reduceBEq,Nat.reduceAdd, *];exact Is.rfl) ?_
  refine CW.skip (bO.n (bO.n ?_))
  refine CW.seq (CW.region ?_)
  refine OW.o1 (by rfl) (fun S=>by simp only[go_sem,Nat.reduceBEq,Nat.reduceAdd, *];with_reducible exact Is.rfl) ?_
  refine OW.o1 (by rfl) (fun S=>by simp only[go_sem,Nat.reduceBEq,Nat.reduceAdd, *];with_reducible exact Is.rfl) ?_
  refine OW.nil (bO.n ?_)
  refine CW.ret ?_
  rw[hres]
  refine oo.one (v0:=.aj .nil []) (by intro i h;cases h) (by simp only[jh,go_sem,Nat.reduceBEq, *];exact Is.rfl) (.inl rfl)
 |true=>
  refine CW.wo (by simp only[go_sem,Nat.reduceBEq,Nat.reduceAdd, *];exact Is.rfl) ?_
  refine CW.region ?_
  refine OW.o1 (by rfl) (fun S=>by simp only[go_sem,Nat.reduceBEq,Nat.reduceAdd, *];with_reducible exact Is.rfl) ?_
  refine OW.o1 (by rfl) (fun S=>by simp only[go_sem,Nat.reduceBEq,Nat.reduceAdd, *];with_reducible exact Is.rfl) ?_
  refine OW.o1 (by rfl) (fun S=>BR (by simp only[go_sem,Nat.reduceBEq, *]) e1) ?_
  refine OW.o1 (by rfl) (fun S=>P7 (by simp only[go_sem,Nat.reduceBEq, *]) (by simp only[go_sem,Nat.reduceBEq, *]) e6 e2) ?_
  refine OW.o1 (by rfl) (fun S=>by simp only[go_sem,Nat.reduceBEq,Nat.reduceAdd, *];with_reducible exact Is.rfl) ?_
  refine OW.o1 (by rfl) (fun S=>P9 (k:=k) (by simp only[go_sem,Nat.reduceBEq, *]) (by simp only[go_sem,Nat.reduceBEq, *]) (by simp only[go_sem,Nat.reduceBEq, *]) e7 e1 e2 e10 e9 e8 rfl (by decide) rfl rfl (by decide) h0 h1) ?_
  refine OW.o1 (by rfl) (fun S=>by simp only[go_sem,Nat.reduceBEq,Nat.reduceAdd, *];with_reducible exact Is.rfl) ?_
  refine OW.o1 (by rfl) (fun S=>by simp only[go_sem,Nat.reduceBEq,Nat.reduceAdd, *];with_reducible exact Is.rfl) ?_
  refine OW.o1 (by rfl) (fun S=>P8 (by simp only[go_sem,Nat.reduceBEq, *];rfl) (by simp only[go_sem,Nat.reduceBEq,List.length_nil, *];rfl) e6 e2) ?_
  refine OW.o1 (by rfl) (fun S=>by simp only[go_sem,Nat.reduceBEq,Nat.reduceAdd, *];with_reducible exact Is.rfl) ?_
  refine OW.nil (bO.n (bO.n ?_))
  refine CW.seq (CW.region ?_)
  refine OW.o1 (by rfl) (fun S=>by simp only[go_sem,Nat.reduceBEq,Nat.reduceAdd, *];with_reducible exact Is.rfl) ?_
  refine OW.o1 (by rfl) (fun S=>by simp only[go_sem,Nat.reduceBEq,Nat.reduceAdd, *];with_reducible exact Is.rfl) ?_
  refine OW.nil (bO.n ?_)
  refine CW.ret ?_
  rw[hres]
  refine oo.one (by intro i h;cases h) (by simp only[jh,go_sem,Nat.reduceBEq, *];exact Is.rfl) (.inr ⟨_,_,_,_,JV k (.int .i64 0),rfl, ?_⟩)
  simp only[go_sem,Nat.reduceBEq, *]
theorem agV (k:Int) (h0:0≤k) (h1:k≤2^40):kr E 175 [.aj .nil [],.int .i64 k] 1 ah.init (JU 1):=by
 have hP:E.P=Tryz.prog:=rfl
 have e1:iw E.P 94=some 5:=by kernel_rfl
 have e2:bC E.P 5=some 1:=by kernel_rfl
 have e6:E.P.underlying 94=some (.slice 5):=by kernel_rfl
 have e7:E.P.underlying 3=some (.int .i64):=by kernel_rfl
 have e8:fZ E.P 5=some (.int .u8 0):=by kernel_rfl
 have e9:gH E.P 5=some false:=by kernel_rfl
 have e10:nU E.P 5=some 1:=by kernel_rfl
 have e3:decide (k<0)=false:=decide_eq_false (by omega)
 have e4:IntKind.i64.wrap (k-0)=k:=by rw[Int.sub_zero];exact vJ (by omega) (by omega)
 have e5:IntKind.i64.wrap (0-((0:Nat):Int))=0:=by decide
 have hres:Tryz.f175.results.toList=[.tmp 4]:=rfl
 refine kr.of (fn:=Tryz.f175) (c:=Tryz.f175.body.getD .skip) Tryz.func175 rfl (by kernel_rfl) ?_
 generalize hfr:({d:=1,om:=E.om 175,tm:=fun i=>([.aj .nil [],.int .i64 k]:List V).getD i aD}:Fr)=fr
 have a0:fr.tm 0= .aj .nil []:=by rw[←hfr];rfl
 have a1:fr.tm 1= .int .i64 k:=by rw[←hfr];rfl
 have a2:fr.om=true:=by rw[←hfr];rfl
 have a3:fr.d=1:=by rw[←hfr]
 clear hfr
 refine CW.seq (CW.region ?_)
 refine OW.o1 (by rfl) (fun S=>by simp only[go_sem,Nat.reduceBEq,Nat.reduceAdd, *];with_reducible exact Is.rfl) ?_
 refine OW.nil (bO.n ?_)
 refine CW.seq (CW.seq (CW.region ?_))
 refine OW.o1 (by rfl) (fun S=>by simp only[go_sem,Nat.reduceBEq,Nat.reduceAdd, *];with_reducible exact Is.rfl) ?_
 refine OW.o1 (by rfl) (fun S=>by simp only[go_sem,Nat.reduceBEq,Nat.reduceAdd, *];with_reducible exact Is.rfl) ?_
 refine OW.nil (bO.n ?_)
 refine CW.sN (by simp only[go_sem,Nat.reduceBEq,Nat.reduceAdd, *];exact Is.rfl) ?_
 refine CW.skip (bO.n ?_)
 refine CW.seq (CW.seq (CW.region ?_))
 refine OW.o1 (by rfl) (fun S=>by simp only[go_sem,Nat.reduceBEq,Nat.reduceAdd, *];with_reducible exact Is.rfl) ?_
 refine OW.o1 (by rfl) (fun S=>by simp only[go_sem,Nat.reduceBEq,Nat.reduceAdd, *];with_reducible exact Is.rfl) ?_
 refine OW.o1 (by rfl) (fun S=>BR (by simp only[go_sem,Nat.reduceBEq, *]) e1) ?_
 refine OW.o1 (by rfl) (fun S=>by simp only[go_sem,Nat.reduceBEq,Nat.reduceAdd, *];with_reducible exact Is.rfl) ?_
 refine OW.o1 (by rfl) (fun S=>by simp only[go_sem,Nat.reduceBEq,Nat.reduceAdd,List.length_nil, *];with_reducible exact Is.rfl) ?_
 refine OW.o1 (by rfl) (fun S=>by simp only[go_sem,Nat.reduceBEq,Nat.reduceAdd, *];with_reducible exact Is.rfl) ?_
 refine OW.o1 (by rfl) (fun S=>by simp only[go_sem,Nat.reduceBEq,Nat.reduceAdd, *];with_reducible exact Is.rfl) ?_
 refine OW.o1 (by rfl) (fun S=>by simp only[go_sem,Nat.reduceBEq,Nat.reduceAdd, *];with_reducible exact Is.rfl) ?_
 refine OW.nil (bO.n ?_)
 refine CW.seq (CW.region ?_)
 refine OW.o1 (by rfl) (fun S=>by simp only[go_sem,Nat.reduceBEq,Nat.reduceAdd, *];with_reducible exact Is.rfl) ?_
 refine OW.o1 (by rfl) (fun S=>by simp only[go_sem,Nat.reduceBEq,Nat.reduceAdd, *];with_reducible exact Is.rfl) ?_
 refine OW.nil (bO.n ?_)
 cases hk:decide (k>0) with
 |false=>
  refine CW.sN (by simp only[go_sem,Nat.reduceBEq,Nat.reduceAdd, *];exact Is.rfl) ?_
  refine CW.skip (bO.n (bO.n ?_))
  refine CW.seq (CW.region ?_)
  refine OW.o1 (by rfl) (fun S=>by simp only[go_sem,Nat.reduceBEq,Nat.reduceAdd, *];with_reducible exact Is.rfl) ?_
  refine OW.o1 (by rfl) (fun S=>by simp only[go_sem,Nat.reduceBEq,Nat.reduceAdd, *];with_reducible exact Is.rfl) ?_
  refine OW.nil (bO.n ?_)
  refine CW.ret ?_
  rw[hres]
  refine oo.one (v0:=.aj .nil []) (by intro i h;cases h) (by simp only[jh,go_sem,Nat.reduceBEq, *];exact Is.rfl) (.inl rfl)
 |true=>
  refine CW.wo (by simp only[go_sem,Nat.reduceBEq,Nat.reduceAdd, *];exact Is.rfl) ?_
  refine CW.region ?_
  refine OW.o1 (by rfl) (fun S=>by simp only[go_sem,Nat.reduceBEq,Nat.reduceAdd, *];with_reducible exact Is.rfl) ?_
  refine OW.o1 (by rfl) (fun S=>by simp only[go_sem,Nat.reduceBEq,Nat.reduceAdd, *];with_reducible exact Is.rfl) ?_
  refine OW.o1 (by rfl) (fun S=>BR (by simp only[go_sem,Nat.reduceBEq, *]) e1) ?_
  refine OW.o1 (by rfl) (fun S=>P7 (by simp only[go_sem,Nat.reduceBEq, *]) (by simp only[go_sem,Nat.reduceBEq, *]) e6 e2) ?_
  refine OW.o1 (by rfl) (fun S=>by simp only[go_sem,Nat.reduceBEq,Nat.reduceAdd, *];with_reducible exact Is.rfl) ?_
  refine OW.o1 (by rfl) (fun S=>P9 (k:=k) (by simp only[go_sem,Nat.reduceBEq, *]) (by simp only[go_sem,Nat.reduceBEq, *]) (by simp only[go_sem,Nat.reduceBEq, *]) e7 e1 e2 e10 e9 e8 rfl (by decide) rfl rfl (by decide) h0 h1) ?_
  refine OW.o1 (by rfl) (fun S=>by simp only[go_sem,Nat.reduceBEq,Nat.reduceAdd, *];with_reducible exact Is.rfl) ?_
  refine OW.o1 (by rfl) (fun S=>by simp only[go_sem,Nat.reduceBEq,Nat.reduceAdd, *];with_reducible exact Is.rfl) ?_
  refine OW.o1 (by rfl) (fun S=>P8 (by simp only[go_sem,Nat.reduceBEq, *];rfl) (by simp only[go_sem,Nat.reduceBEq,List.length_nil, *];rfl) e6 e2) ?_
  refine OW.o1 (by rfl) (fun S=>by simp only[go_sem,Nat.reduceBEq,Nat.reduceAdd, *];with_reducible exact Is.rfl) ?_
  refine OW.nil (bO.n (bO.n ?_))
  refine CW.seq (CW.region ?_)
  refine OW.o1 (by rfl) (fun S=>by simp only[go_sem,Nat.reduceBEq,Nat.reduceAdd, *];with_reducible exact Is.rfl) ?_
  refine OW.o1 (by rfl) (fun S=>by simp only[go_sem,Nat.reduceBEq,Nat.reduceAdd, *];with_reducible exact Is.rfl) ?_
  refine OW.nil (bO.n ?_)
  refine CW.ret ?_
  rw[hres]
  refine oo.one (by intro i h;cases h) (by simp only[jh,go_sem,Nat.reduceBEq, *];exact Is.rfl) (.inr ⟨_,_,_,_,JV k (.int .u8 0),rfl, ?_⟩)
  simp only[go_sem,Nat.reduceBEq, *]
theorem agW (k:Int) (h0:0≤k) (h1:k≤2^40):kr E 167 [.aj .nil [],.int .i64 k] 1 ah.init (JU 1):=by
 have hP:E.P=Tryz.prog:=rfl
 have e1:iw E.P 116=some 9:=by kernel_rfl
 have e2:bC E.P 9=some 1:=by kernel_rfl
 have e6:E.P.underlying 116=some (.slice 9):=by kernel_rfl
 have e7:E.P.underlying 3=some (.int .i64):=by kernel_rfl
 have e8:fZ E.P 9=some (.str []):=by kernel_rfl
 have e9:gH E.P 9=some false:=by kernel_rfl
 have e10:nU E.P 9=some 16:=by kernel_rfl
 have e3:decide (k<0)=false:=decide_eq_false (by omega)
 have e4:IntKind.i64.wrap (k-0)=k:=by rw[Int.sub_zero];exact vJ (by omega) (by omega)
 have e5:IntKind.i64.wrap (0-((0:Nat):Int))=0:=by decide
 have hres:Tryz.f167.results.toList=[.tmp 4]:=rfl
 refine kr.of (fn:=Tryz.f167) (c:=Tryz.f167.body.getD .skip) Tryz.func167 rfl (by kernel_rfl) ?_
 generalize hfr:({d:=1,om:=E.om 167,tm:=fun i=>([.aj .nil [],.int .i64 k]:List V).getD i aD}:Fr)=fr
 have a0:fr.tm 0= .aj .nil []:=by rw[←hfr];rfl
 have a1:fr.tm 1= .int .i64 k:=by rw[←hfr];rfl
 have a2:fr.om=true:=by rw[←hfr];rfl
 have a3:fr.d=1:=by rw[←hfr]
 clear hfr
 refine CW.seq (CW.region ?_)
 refine OW.o1 (by rfl) (fun S=>by simp only[go_sem,Nat.reduceBEq,Nat.reduceAdd, *];with_reducible exact Is.rfl) ?_
 refine OW.nil (bO.n ?_)
 refine CW.seq (CW.seq (CW.region ?_))
 refine OW.o1 (by rfl) (fun S=>by simp only[go_sem,Nat.reduceBEq,Nat.reduceAdd, *];with_reducible exact Is.rfl) ?_
 refine OW.o1 (by rfl) (fun S=>by simp only[go_sem,Nat.reduceBEq,Nat.reduceAdd, *];with_reducible exact Is.rfl) ?_
 refine OW.nil (bO.n ?_)
 refine CW.sN (by simp only[go_sem,Nat.reduceBEq,Nat.reduceAdd, *];exact Is.rfl) ?_
 refine CW.skip (bO.n ?_)
 refine CW.seq (CW.seq (CW.region ?_))
 refine OW.o1 (by rfl) (fun S=>by simp only[go_sem,Nat.reduceBEq,Nat.reduceAdd, *];with_reducible exact Is.rfl) ?_
 refine OW.o1 (by rfl) (fun S=>by simp only[go_sem,Nat.reduceBEq,Nat.reduceAdd, *];with_reducible exact Is.rfl) ?_
 refine OW.o1 (by rfl) (fun S=>BR (by simp only[go_sem,Nat.reduceBEq, *]) e1) ?_
 refine OW.o1 (by rfl) (fun S=>by simp only[go_sem,Nat.reduceBEq,Nat.reduceAdd, *];with_reducible exact Is.rfl) ?_
 refine OW.o1 (by rfl) (fun S=>by simp only[go_sem,Nat.reduceBEq,Nat.reduceAdd,List.length_nil, *];with_reducible exact Is.rfl) ?_
 refine OW.o1 (by rfl) (fun S=>by simp only[go_sem,Nat.reduceBEq,Nat.reduceAdd, *];with_reducible exact Is.rfl) ?_
 refine OW.o1 (by rfl) (fun S=>by simp only[go_sem,Nat.reduceBEq,Nat.reduceAdd, *];with_reducible exact Is.rfl) ?_
 refine OW.o1 (by rfl) (fun S=>by simp only[go_sem,Nat.reduceBEq,Nat.reduceAdd, *];with_reducible exact Is.rfl) ?_
 refine OW.nil (bO.n ?_)
 refine CW.seq (CW.region ?_)
 refine OW.o1 (by rfl) (fun S=>by simp only[go_sem,Nat.reduceBEq,Nat.reduceAdd, *];with_reducible exact Is.rfl) ?_
 refine OW.o1 (by rfl) (fun S=>by simp only[go_sem,Nat.reduceBEq,Nat.reduceAdd, *];with_reducible exact Is.rfl) ?_
 refine OW.nil (bO.n ?_)
 cases hk:decide (k>0) with
 |false=>
  refine CW.sN (by simp only[go_sem,Nat.reduceBEq,Nat.reduceAdd, *];exact Is.rfl) ?_
  refine CW.skip (bO.n (bO.n ?_))
  refine CW.seq (CW.region ?_)
  refine OW.o1 (by rfl) (fun S=>by simp only[go_sem,Nat.reduceBEq,Nat.reduceAdd, *];with_reducible exact Is.rfl) ?_
  refine OW.o1 (by rfl) (fun S=>by simp only[go_sem,Nat.reduceBEq,Nat.reduceAdd, *];with_reducible exact Is.rfl) ?_
  refine OW.nil (bO.n ?_)
  refine CW.ret ?_
  rw[hres]
  refine oo.one (v0:=.aj .nil []) (by intro i h;cases h) (by simp only[jh,go_sem,Nat.reduceBEq, *];exact Is.rfl) (.inl rfl)
 |true=>
  refine CW.wo (by simp only[go_sem,Nat.reduceBEq,Nat.reduceAdd, *];exact Is.rfl) ?_
  refine CW.region ?_
  refine OW.o1 (by rfl) (fun S=>by simp only[go_sem,Nat.reduceBEq,Nat.reduceAdd, *];with_reducible exact Is.rfl) ?_
  refine OW.o1 (by rfl) (fun S=>by simp only[go_sem,Nat.reduceBEq,Nat.reduceAdd, *];with_reducible exact Is.rfl) ?_
  refine OW.o1 (by rfl) (fun S=>BR (by simp only[go_sem,Nat.reduceBEq, *]) e1) ?_
  refine OW.o1 (by rfl) (fun S=>P7 (by simp only[go_sem,Nat.reduceBEq, *]) (by simp only[go_sem,Nat.reduceBEq, *]) e6 e2) ?_
  refine OW.o1 (by rfl) (fun S=>by simp only[go_sem,Nat.reduceBEq,Nat.reduceAdd, *];with_reducible exact Is.rfl) ?_
  refine OW.o1 (by rfl) (fun S=>P9 (k:=k) (by simp only[go_sem,Nat.reduceBEq, *]) (by simp only[go_sem,Nat.reduceBEq, *]) (by simp only[go_sem,Nat.reduceBEq, *]) e7 e1 e2 e10 e9 e8 rfl (by decide) rfl rfl (by decide) h0 h1) ?_
  refine OW.o1 (by rfl) (fun S=>by simp only[go_sem,Nat.reduceBEq,Nat.reduceAdd, *];with_reducible exact Is.rfl) ?_
  refine OW.o1 (by rfl) (fun S=>by simp only[go_sem,Nat.reduceBEq,Nat.reduceAdd, *];with_reducible exact Is.rfl) ?_
  refine OW.o1 (by rfl) (fun S=>P8 (by simp only[go_sem,Nat.reduceBEq, *];rfl) (by simp only[go_sem,Nat.reduceBEq,List.length_nil, *];rfl) e6 e2) ?_
  refine OW.o1 (by rfl) (fun S=>by simp only[go_sem,Nat.reduceBEq,Nat.reduceAdd, *];with_reducible exact Is.rfl) ?_
  refine OW.nil (bO.n (bO.n ?_))
  refine CW.seq (CW.region ?_)
  refine OW.o1 (by rfl) (fun S=>by simp only[go_sem,Nat.reduceBEq,Nat.reduceAdd, *];with_reducible exact Is.rfl) ?_
  refine OW.o1 (by rfl) (fun S=>by simp only[go_sem,Nat.reduceBEq,Nat.reduceAdd, *];with_reducible exact Is.rfl) ?_
  refine OW.nil (bO.n ?_)
  refine CW.ret ?_
  rw[hres]
  refine oo.one (by intro i h;cases h) (by simp only[jh,go_sem,Nat.reduceBEq, *];exact Is.rfl) (.inr ⟨_,_,_,_,JV k (.str []),rfl, ?_⟩)
  simp only[go_sem,Nat.reduceBEq, *]
theorem Qa {f sz:Nat} {l:List V} {k:Int} (h:kr E f [.aj .nil [],.int .i64 k] 1 ah.init (JU sz)):jJ E f [.aj .nil [],.int .i64 k] sz []:=by
 obtain⟨n,v,σ1,h1,h2⟩:=h
 refine⟨n,v,σ1,h1,fun st σ=> ?_⟩
 rcases h2 with rfl| ⟨loc,s,cap,ag,cs,rfl,hc⟩
 ·exact .inl ⟨.nil,.inl rfl,rfl⟩
 ·exact .inr (by unfold mG;dsimp only;rw[if_pos ⟨rfl,rfl⟩,hc];rfl)
theorem Qb {α:Type} {k:Int} {x:List α} (h:ES k=some x):0≤k∧k≤2^40∧x=[]:=by
 unfold ES at h
 split at h
 ·rename_i hk;cases h;exact⟨hk.1,hk.2,rfl⟩
 ·cases h
theorem agX:∀u p x,PZ (u,p)=some x→jJ E 174 (.aj .nil []::aY R [.d (.int .i64)] p) (bI R (.int .i64)) (x.map (aG R (.int .i64))):=by
 intro u p x h
 unfold PZ at h
 obtain⟨h0,h1,rfl⟩:=Qb h
 exact Qa (l:=[]) (agU p h0 h1)
theorem agY:∀u p x,P5 (u,p)=some x→jJ E 175 (.aj .nil []::aY R [.d (.int .i64)] p) (bI R (.int .u8)) (x.map (aG R (.int .u8))):=by
 intro u p x h
 unfold P5 at h
 obtain⟨h0,h1,rfl⟩:=Qb h
 exact Qa (l:=[]) (agV p h0 h1)
theorem agZ:∀u p x,P6 (u,p)=some x→jJ E 167 (.aj .nil []::aY R [.d (.int .i64)] p) (bI R .str) (x.map (aG R .str)):=by
 intro u p x h
 unfold P6 at h
 obtain⟨h0,h1,rfl⟩:=Qb h
 exact Qa (l:=[]) (agW p h0 h1)
noncomputable def Qc (_:Nat):Nat→List (FR R):=dK 167 ⟨BQ,[.d (.slice .str)],P6,[],true⟩ (dK 175 ⟨BQ,[.d (.slice (.int .u8))],P5,[],true⟩ (dK 174 ⟨BQ,[.d (.slice (.int .i64))],PZ,[],true⟩ WS))
theorem Xm (n:Nat):bS E (Qc n):=JH (JH (JH af4 agX) agY) agZ
end Sh
end
section
open Go Go.Proofs Aq
namespace Sh
def dD (d:aA):List Int:=[d.b0,d.b1,d.b2,d.b3,d.b4,d.b5,d.b6,d.b7,d.b8,d.b9,d.b10,d.b11,d.b12,d.b13,d.b14,d.b15]
theorem ag0 (p:aA) (x:List Int) (h:some (dD p)=some x):Pure E 151 [aA.v p] (lv (V.int .u8) x):=by
 cases h
 exact⟨0,rfl⟩
end Sh
end
section
namespace Aq
open Go
def Env.sm (E:Env) (s:FuncId→Option (List V→Option V)):Env:={E with je:=s}
section
variable {E:Env} {s:FuncId→Option (List V→Option V)} {S T:jc}
def xq (E:Env) (s:FuncId→Option (List V→Option V)) (S T:jc):Prop:=∀f args v,jf (E.sm s) S f args=some v→jf E T f args=some v
theorem Xn (hc:xq E s S T) (h:gY S T) {d:Nat} {σ:ah} {fv:V} {args:List V} {r:V×ah} (hh:iy (E.sm s) S d σ fv args=some r):iy E T d σ fv args=some r:=by
 unfold iy at hh⊢
 split at hh
 ·split at hh
  ·rename_i hi
   have hi':E.imp _=true:=hi
   simp only[hi',if_true];exact h.2 _ _ _ _ _ hh
  ·rename_i hi
   have hi':¬E.imp _=true:=hi
   simp only[Option.bind_eq_some_iff] at hh
   obtain⟨asx,h1,v,h2,h3⟩:=hh
   simp only[hi',h1,Option.bind_some,hc _ _ _ h2]
   exact h3
 ·exact Nk h hh
 ·simp at hh
theorem ag1 (h:gY S T) {σ:ah} {st:Nat} {fv:V} {args:List V} {r:V×ah} (hh:lV (E.sm s) S σ st fv args=some r):lV E T σ st fv args=some r:=TG (E:=E) h hh
theorem Qd (hc:xq E s S T) (h:gY S T) {fr:Fr} {σ:ah} {st:Nat} {o:Oper} {r:V×Fr×ah} (hh:opC (E.sm s) S fr σ st o=some r):opC E T fr σ st o=some r:=by
 unfold opC at hh⊢
 split at hh
 ·rename_i c ho
  simp only[ho] at hh⊢
  split at hh
  ·exact hh
  ·rename_i f hf
   split at hh
   ·rename_i dF
    have Qe:jo E fr o f=true:=dF
    simp only[Qe,if_true]
    simp only[Option.map_eq_some_iff] at hh⊢
    obtain⟨x,h1,h2⟩:=hh
    exact⟨x,ag1 h h1,h2⟩
   rename_i dF
   have Qe:¬jo E fr o f=true:=dF
   simp only[Qe,if_false,Bool.false_eq_true]
   simp only[Option.map_eq_some_iff] at hh⊢
   obtain⟨x,h1,h2⟩:=hh
   exact⟨x,Xn hc h h1,h2⟩
  ·simp at hh
 ·simp at hh
 ·exact hh
theorem ag2 (hc:xq E s S T) (h:gY S T) (all:List Oper):∀(os:List Oper) (st:Nat) (fr:Fr) (σ:ah) (r:Fr×ah),opsE (E.sm s) S all st os fr σ=some r→opsE E T all st os fr σ=some r:=by
 intro os
 induction os with
 |nil=>intro st fr σ r hh;exact hh
 |cons o os ih=>
  intro st fr σ r hh
  simp only[opsE,Option.bind_eq_some_iff] at hh⊢
  obtain⟨t,h1,h2⟩:=hh
  refine⟨t,h1, ?_⟩
  cases t with
  |true=>
   simp only[if_true,Option.bind_eq_some_iff] at h2⊢
   obtain⟨x,h3,h4⟩:=h2
   exact⟨x,Qd hc h h3,ih _ _ _ _ h4⟩
  |false=>
   simp only[Bool.false_eq_true,if_false] at h2⊢
   exact ih _ _ _ _ h2
theorem ag3 (hc:xq E s S T) (h:gY S T) (all:List Oper):∀(os:List Oper) (st:Nat) (fr:Fr) (σ:ah) (r:List bG×Fr×ah),ko (E.sm s) S all st os fr σ=some r→ko E T all st os fr σ=some r:=by
 intro os
 induction os with
 |nil=>intro st fr σ r hh;exact hh
 |cons o os ih=>
  intro st fr σ r hh
  simp only[ko,Option.bind_eq_some_iff] at hh⊢
  obtain⟨t,h1,h2⟩:=hh
  refine⟨t,h1, ?_⟩
  cases t with
  |true=>
   simp only[if_true,Option.bind_eq_some_iff,Option.map_eq_some_iff] at h2⊢
   obtain⟨x,h3,y,h4,h5⟩:=h2
   exact⟨x,Qd hc h h3,y,ih _ _ _ _ h4,h5⟩
  |false=>
   simp only[Bool.false_eq_true,if_false,Option.map_eq_some_iff] at h2⊢
   obtain⟨y,h4,h5⟩:=h2
   exact⟨y,ih _ _ _ _ h4,h5⟩
theorem ag4 (hc:xq E s S T) (h:gY S T) {ops:List Oper} {base i:Nat} {fr:Fr} {σ:ah} {r:Fr×ah} (hh:jg (E.sm s) S ops base i fr σ=some r):jg E T ops base i fr σ=some r:=by
 unfold jg at hh⊢
 split at hh
 ·exact hh
 ·simp only[Option.bind_eq_some_iff] at hh⊢
  obtain⟨t,h1,h2⟩:=hh
  refine⟨t,h1, ?_⟩
  cases t with
  |true=>
   simp only[if_true,Option.map_eq_some_iff] at h2⊢
   obtain⟨x,h3,h4⟩:=h2
   exact⟨x,Qd hc h h3,h4⟩
  |false=>simpa using h2
theorem ag5 (hc:xq E s S T) (h:gY S T) {ms:List Nat} {ops:List Oper} {base:Nat} {x y:Fr×ah} (hf:Free (E.sm s) S ms ops base x y):Free E T ms ops base x y:=by
 obtain⟨s',T',W,h0,hn,xK,hloc,hr⟩:=hf
 refine⟨s',T',W,h0,hn,xK,fun i hi x hx=> ?_,hr⟩
 obtain⟨y,h1,h2⟩:=hloc i hi x hx
 exact⟨y,ag4 hc h h1,h2⟩
theorem ag6 (hc:xq E s S T) (h:gY S T):∀(c:Code) (fr:Fr) (σ:ah) (r:Ex×Fr×ah),bP (E.sm s) S c fr σ=some r→bP E T c fr σ=some r:=by
 intro c
 induction c with
 |region id ops dr=>
  intro fr σ r hh
  simp only[bP] at hh⊢
  split at hh
  ·rename_i hd
   simp only[hd,if_true,Option.bind_eq_some_iff] at hh⊢
   obtain⟨x,h1,h2⟩:=hh
   refine⟨x,ag3 hc h _ _ _ _ _ _ h1, ?_⟩
   split at h2
   ·rename_i hp;rw[if_pos hp];exact h2
   ·rename_i hp
    rw[if_neg hp]
    unfold GA at h2⊢
    split at h2
    ·rename_i hf
     rw[if_pos ⟨hf.1,ag5 hc h hf.2⟩];exact h2
    ·cases h2
  ·rename_i hd
   simp only[hd,Bool.false_eq_true,if_false,Option.map_eq_some_iff] at hh⊢
   obtain⟨x,h1,h2⟩:=hh
   exact⟨x,ag2 hc h _ _ _ _ _ _ h1,h2⟩
 |seq a b iha ihb=>
  intro fr σ r hh
  simp only[bP,Option.bind_eq_some_iff] at hh⊢
  obtain⟨⟨e,bH,σ1⟩,h1,h2⟩:=hh
  refine⟨(e,bH,σ1),iha _ _ _ h1, ?_⟩
  cases e with
  |normal=>exact ihb _ _ _ h2
  |exit i=>exact h2
  |ret=>exact h2
 |cond c a b iha ihb=>
  intro fr σ r hh
  simp only[bP,Option.bind_eq_some_iff] at hh⊢
  obtain⟨t,h1,h2⟩:=hh
  refine⟨t,h1, ?_⟩
  cases t with
  |true=>simp only[if_true] at h2⊢;exact iha _ _ _ h2
  |false=>simp only[Bool.false_eq_true,if_false] at h2⊢;exact ihb _ _ _ h2
 |block id c ih=>
  intro fr σ r hh
  simp only[bP,Option.map_eq_some_iff] at hh⊢
  obtain⟨x,h1,h2⟩:=hh
  exact⟨x,ih _ _ _ h1,h2⟩
 |loop c ih=>
  intro fr σ r hh
  simp only[bP,Option.bind_eq_some_iff] at hh⊢
  obtain⟨⟨e,bH,σ1⟩,h1,h2⟩:=hh
  refine⟨(e,bH,σ1),ih _ _ _ h1, ?_⟩
  cases e with
  |normal=>exact h.1 _ _ _ _ h2
  |exit i=>exact h2
  |ret=>exact h2
 |rangeFunc f ps a b iha ihb=>
  intro fr σ r hh
  simp only[bP] at hh⊢
  split at hh
  ·rename_i hf
   rw[if_pos (by exact hf)]
   simp only[Option.bind_eq_some_iff] at hh⊢
   obtain⟨x,h1,h2⟩:=hh
   exact⟨x,Xn hc h h1,h2⟩
  ·simp at hh
 |scope c ih=>intro fr σ r hh;simp only[bP] at hh⊢;exact ih _ _ _ hh
 |_=>intro fr σ r hh;simpa [bP] using hh
theorem ag7 (h:gY S T) {f:FuncId} {args:List V} {d:Nat} {σ:ah} {r:V×ah} (hh:tQ (E.sm s) S f args d σ=some r):tQ E T f args d σ=some r:=TH (E:=E) h hh
theorem ag8 {M:Nat} (hs:∀f g,s f=some g→∀args v,g args=some v→jf E (cB E M) f args=some v) (hn:∀f,s f=none→E.je f=none):∀n,gY (cB (E.sm s) n) (cB E (n+M)):=by
 have pure:∀n,gY (cB (E.sm s) n) (cB E (n+M))→xq E s (cB (E.sm s) n) (cB E (n+M)):=by
  intro n h f args v hv
  unfold jf at hv
  cases hf:(E.sm s).je f with
  |some g=>
   rw[hf] at hv
   exact z8 (jI (Nat.le_add_left M n)) (hs f g hf args v hv)
  |none=>
   rw[hf] at hv
   simp only[Option.bind_eq_some_iff] at hv
   obtain⟨x,h1,h2⟩:=hv
   unfold jf
   rw[hn f hf]
   simp only[h.2 _ _ _ _ _ h1,Option.bind_some]
   exact h2
 intro n
 induction n with
 |zero=>exact⟨(fun _ _ _ _ h=>by cases h),(fun _ _ _ _ _ h=>by cases h)⟩
 |succ n ih=>
  rw[Nat.succ_add]
  exact⟨fun c fr σ r hh=>ag6 (pure n ih) ih c fr σ r hh,fun f args d σ r hh=>ag7 ih hh⟩
theorem ag9 {M:Nat} (hs:∀f g,s f=some g→∀args v,g args=some v→jf E (cB E M) f args=some v) (hn:∀f,s f=none→E.je f=none) {f:FuncId} {args:List V} {v:V} {n:Nat} (hf:s f=none) (h:jf (E.sm s) (cB (E.sm s) n) f args=some v):Pure E f args v:=by
 refine⟨n+M, ?_⟩
 unfold jf at h
 rw[show (E.sm s).je f=none from hf] at h
 simp only[Option.bind_eq_some_iff] at h
 obtain⟨x,h1,h2⟩:=h
 unfold jf
 rw[hn f hf]
 simp only[(ag8 hs hn n).2 _ _ _ _ _ h1,Option.bind_some]
 exact h2
end
end Aq
end
