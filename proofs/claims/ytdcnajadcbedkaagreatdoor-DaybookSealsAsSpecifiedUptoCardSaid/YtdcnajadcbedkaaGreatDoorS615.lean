/- Part of the proof of a law. -/
import Derived.Test.YtdcnajadcbedkaaGreatDoorS605
import Derived.Test.YtdcnajadcbedkaaGreatDoorS614
set_option linter.all false
set_option linter.unusedSimpArgs false
set_option linter.unusedSectionVars false
section
open Go Go.Proofs Aq
namespace Sh
set_option maxRecDepth 100000
set_option linter.unusedSimpArgs false
set_option linter.unusedVariables false
abbrev AQ:List Sk:=[.dZ,.d (.int .i64)]
def EB {α:Type} (k:Int):Option (List α):=if 0≤k∧k≤2^40 then some [] else none
@[irreducible] def Rf (p:aB R.T AQ):Option (List Int):=EB p.2
@[irreducible] def Rh (p:aB R.T AQ):Option (List Int):=EB p.2
@[irreducible] def AU (p:aB R.T AQ):Option (List (List UInt8)):=EB p.2
theorem Ri {n:Int} (h0: -(2^63)≤n) (h1:n<2^63):IntKind.i64.wrap n=n:=by
 rw[IntKind.wrap_i64];omega
def Kr (sz:Nat) (v:V) (σ:ah):Prop:=v= .aj .nil []∨∃loc s cap ag cs,v= .vw loc s 0 0 cap sz ag∧σ.bO loc s=some cs
section
variable {E:Env} {S:iN} {fr:Fr} {σ:ah} {st ty:Nat} {pos:String} {bJ:Array Edge} {gd:Option (Nat×Bool)}
theorem AV {d:Option Nat} {x:Operand} {t e:TypeId} (hx:fr.ev E x= .aj .nil []) (ht:gQ E.P t=some e):opC E S fr σ st ⟨d,.call ⟨.builtin .cap, #[x], #[t]⟩,ty,pos,bJ,gd⟩=some (.int .i64 0,fr,σ):=by
 show Option.map _ ((some t).bind fun t=>(gQ E.P t).bind fun _=>match fr.ev E x with
  |.aj .nil l|.aj .full l=>some (V.int .i64 l.length,σ)
  |_=>none)=_
 rw[Option.bind_some,ht,hx];rfl
theorem Rj {d:Option Nat} {x h:Operand} {t e:TypeId} {sz:Nat} (hx:fr.ev E x= .aj .nil []) (hh:fr.ev E h= .int .i64 0) (hu:E.P.underlying t=some (.slice e)) (hs:bG E.P e=some sz):
 opC E S fr σ st ⟨d,.slice t x none (some h) none,ty,pos,bJ,gd⟩=some (.aj .nil [],fr,σ):=by
 show Option.map _ ((kG E.P σ t (fr.ev E x) none (some (fr.ev E h)) none).map fun v=>(v,σ))=_
 rw[hx,hh]
 unfold kG
 rw[hu];dsimp only
 rw[hs];rfl
theorem Rk {d:Option Nat} {x h:Operand} {t e:TypeId} {sz len cap s:Nat} {loc:Aq.Loc} {ag:Bool} (hx:fr.ev E x= .vw loc s 0 len cap sz ag) (hh:fr.ev E h= .int .i64 0) (hu:E.P.underlying t=some (.slice e)) (hs:bG E.P e=some sz):
 opC E S fr σ st ⟨d,.slice t x none (some h) none,ty,pos,bJ,gd⟩=some (.vw loc s 0 0 cap sz ag,fr,σ):=by
 show Option.map _ ((kG E.P σ t (fr.ev E x) none (some (fr.ev E h)) none).map fun v=>(v,σ))=_
 rw[hx,hh]
 unfold kG
 rw[hu];dsimp only
 rw[hs]
 have:jf len cap none (some (.int .i64 0)) none=some (0,0,cap):=by
  unfold jf bnd kF
  simp
 rw[this]
 simp
def Y1 (k:Int) (z:V):Nat:=0+(List.replicate k.toNat z).length
def Kt (k:Int) (z:V):List V:=(([]:List V)++List.replicate k.toNat z).flatMap V.cells
theorem Rm {d:Nat} {x y:Operand} {t u e:TypeId} {k:Int} {sz dB:Nat} {z:V} {ag:Bool} (ho:fr.om=true) (hx:fr.ev E x= .aj .nil []) (hy:fr.ev E y= .int .i64 k) (hu:E.P.underlying u=some (.int .i64))
 (h1:gQ E.P t=some e) (h2:bG E.P e=some sz) (h3:nC E.P e=some dB) (h4:gq E.P e=some ag) (h5:fP E.P e=some z) (h6:z.cells.length=sz) (h7:0<sz) (h8:(ag||sz==1)=true) (h9:bg z.cells=true)
 (h10:dB≤16) (k0:0≤k) (k1:k≤2^40):
 opC E S fr σ st ⟨some d,.call ⟨.builtin .append, #[x,y], #[t,u]⟩,ty,pos,bJ,gd⟩=some (.vw (fr.d,d) st 0 (Y1 k z) (Y1 k z) sz ag,fr,σ.setObj (fr.d,d) st (.cells (Kt k z))):=by
 show Option.map _ ((some t).bind fun t=>((some u).bind E.P.underlying).bind fun u=>match u with
  |.int _=>gJ E.P fr.om true σ st (some (fr.d,d)) t (fr.ev E x) (fr.ev E y)
  |.slice _|.string=>gJ E.P fr.om false σ st (some (fr.d,d)) t (fr.ev E x) (fr.ev E y)
  |_=>none)=_
 rw[Option.bind_some,Option.bind_some,hu,ho,hx,hy]
 show Option.map _ (gJ E.P true true σ st (some (fr.d,d)) t (.aj .nil []) (.int .i64 k))=_
 unfold gJ
 rw[h1,Option.bind_some,h2,Option.bind_some,h3,Option.bind_some,h4,Option.bind_some,h5,Option.bind_some,if_pos ⟨rfl,h6,h7,h8⟩]
 rw[show jB σ ag sz z (.int .i64 k)=some (List.replicate k.toNat z) from (if_pos ⟨k0,by omega⟩:(if 0≤k∧k≤2^47 then some (List.replicate k.toNat z) else none)=_),Option.bind_some,if_pos (by rw[List.all_replicate,h9];simp)]
 dsimp only
 have hr:dG (([]:List V).length+(List.replicate k.toNat z).length) dB=true:=by
  unfold dG
  simp only[List.length_nil,Nat.zero_add,List.length_replicate,Bool.and_eq_true,decide_eq_true_eq]
  have hk:k.toNat≤2^40:=by omega
  exact⟨Nat.le_trans (Nat.mul_le_mul hk h10) (by decide),by omega⟩
 rw[if_pos ⟨hr,rfl⟩]
 rfl
end
theorem aiJ (k:Int) (h0:0≤k) (h1:k≤2^40):kL E 174 [.aj .nil [],.int .i64 k] 1 ah.init (Kr 1):=by
 have hP:E.P=Tryz.prog:=rfl
 have e1:gQ E.P 61=some 3:=by kernel_rfl
 have e2:bG E.P 3=some 1:=by kernel_rfl
 have e6:E.P.underlying 61=some (.slice 3):=by kernel_rfl
 have e7:E.P.underlying 3=some (.int .i64):=by kernel_rfl
 have e8:fP E.P 3=some (.int .i64 0):=by kernel_rfl
 have e9:gq E.P 3=some false:=by kernel_rfl
 have e10:nC E.P 3=some 8:=by kernel_rfl
 have e3:decide (k<0)=false:=decide_eq_false (by omega)
 have e4:IntKind.i64.wrap (k-0)=k:=by rw[Int.sub_zero];exact Ri (by omega) (by omega)
 have e5:IntKind.i64.wrap (0-((0:Nat):Int))=0:=by decide
 have hres:Tryz.f174.results.toList=[.tmp 4]:=rfl
 refine kL.of (fn:=Tryz.f174) (c:=Tryz.f174.body.getD .skip) Tryz.func174 rfl (by kernel_rfl) ?_
 generalize hfr:({d:=1,om:=E.om 174,tm:=fun i=>([.aj .nil [],.int .i64 k]:List V).getD i aC}:Fr)=fr
 have a0:fr.tm 0= .aj .nil []:=by rw[←hfr];rfl
 have a1:fr.tm 1= .int .i64 k:=by rw[←hfr];rfl
 have a2:fr.om=true:=by rw[←hfr];rfl
 have a3:fr.d=1:=by rw[←hfr]
 clear hfr
 refine CW.seq (CW.region ?_)
 refine OW.o1 (by rfl) (fun S=>by simp only[go_sem,Nat.reduceBEq,Nat.reduceAdd, *];with_reducible exact Is.rfl) ?_
 refine OW.nil (bW.n ?_)
 refine CW.seq (CW.seq (CW.region ?_))
 refine OW.o1 (by rfl) (fun S=>by simp only[go_sem,Nat.reduceBEq,Nat.reduceAdd, *];with_reducible exact Is.rfl) ?_
 refine OW.o1 (by rfl) (fun S=>by simp only[go_sem,Nat.reduceBEq,Nat.reduceAdd, *];with_reducible exact Is.rfl) ?_
 refine OW.nil (bW.n ?_)
 refine CW.qJ (by simp only[go_sem,Nat.reduceBEq,Nat.reduceAdd, *];exact Is.rfl) ?_
 refine CW.skip (bW.n ?_)
 refine CW.seq (CW.seq (CW.region ?_))
 refine OW.o1 (by rfl) (fun S=>by simp only[go_sem,Nat.reduceBEq,Nat.reduceAdd, *];with_reducible exact Is.rfl) ?_
 refine OW.o1 (by rfl) (fun S=>by simp only[go_sem,Nat.reduceBEq,Nat.reduceAdd, *];with_reducible exact Is.rfl) ?_
 refine OW.o1 (by rfl) (fun S=>AV (by simp only[go_sem,Nat.reduceBEq, *]) e1) ?_
 refine OW.o1 (by rfl) (fun S=>by simp only[go_sem,Nat.reduceBEq,Nat.reduceAdd, *];with_reducible exact Is.rfl) ?_
 refine OW.o1 (by rfl) (fun S=>by simp only[go_sem,Nat.reduceBEq,Nat.reduceAdd,List.length_nil, *];with_reducible exact Is.rfl) ?_
 refine OW.o1 (by rfl) (fun S=>by simp only[go_sem,Nat.reduceBEq,Nat.reduceAdd, *];with_reducible exact Is.rfl) ?_
 refine OW.o1 (by rfl) (fun S=>by simp only[go_sem,Nat.reduceBEq,Nat.reduceAdd, *];with_reducible exact Is.rfl) ?_
 refine OW.o1 (by rfl) (fun S=>by simp only[go_sem,Nat.reduceBEq,Nat.reduceAdd, *];with_reducible exact Is.rfl) ?_
 refine OW.nil (bW.n ?_)
 refine CW.seq (CW.region ?_)
 refine OW.o1 (by rfl) (fun S=>by simp only[go_sem,Nat.reduceBEq,Nat.reduceAdd, *];with_reducible exact Is.rfl) ?_
 refine OW.o1 (by rfl) (fun S=>by simp only[go_sem,Nat.reduceBEq,Nat.reduceAdd, *];with_reducible exact Is.rfl) ?_
 refine OW.nil (bW.n ?_)
 cases hk:decide (k>0) with
 |false=>
  refine CW.qJ (by simp only[go_sem,Nat.reduceBEq,Nat.reduceAdd, *];exact Is.rfl) ?_
  refine CW.skip (bW.n (bW.n ?_))
  refine CW.seq (CW.region ?_)
  refine OW.o1 (by rfl) (fun S=>by simp only[go_sem,Nat.reduceBEq,Nat.reduceAdd, *];with_reducible exact Is.rfl) ?_
  refine OW.o1 (by rfl) (fun S=>by simp only[go_sem,Nat.reduceBEq,Nat.reduceAdd, *];with_reducible exact Is.rfl) ?_
  refine OW.nil (bW.n ?_)
  refine CW.ret ?_
  rw[hres]
  refine nN.one (v0:=.aj .nil []) (by intro i h;cases h) (by simp only[jg,go_sem,Nat.reduceBEq, *];exact Is.rfl) (.inl rfl)
 |true=>
  refine CW.vk (by simp only[go_sem,Nat.reduceBEq,Nat.reduceAdd, *];exact Is.rfl) ?_
  refine CW.region ?_
  refine OW.o1 (by rfl) (fun S=>by simp only[go_sem,Nat.reduceBEq,Nat.reduceAdd, *];with_reducible exact Is.rfl) ?_
  refine OW.o1 (by rfl) (fun S=>by simp only[go_sem,Nat.reduceBEq,Nat.reduceAdd, *];with_reducible exact Is.rfl) ?_
  refine OW.o1 (by rfl) (fun S=>AV (by simp only[go_sem,Nat.reduceBEq, *]) e1) ?_
  refine OW.o1 (by rfl) (fun S=>Rj (by simp only[go_sem,Nat.reduceBEq, *]) (by simp only[go_sem,Nat.reduceBEq, *]) e6 e2) ?_
  refine OW.o1 (by rfl) (fun S=>by simp only[go_sem,Nat.reduceBEq,Nat.reduceAdd, *];with_reducible exact Is.rfl) ?_
  refine OW.o1 (by rfl) (fun S=>Rm (k:=k) (by simp only[go_sem,Nat.reduceBEq, *]) (by simp only[go_sem,Nat.reduceBEq, *]) (by simp only[go_sem,Nat.reduceBEq, *]) e7 e1 e2 e10 e9 e8 rfl (by decide) rfl rfl (by decide) h0 h1) ?_
  refine OW.o1 (by rfl) (fun S=>by simp only[go_sem,Nat.reduceBEq,Nat.reduceAdd, *];with_reducible exact Is.rfl) ?_
  refine OW.o1 (by rfl) (fun S=>by simp only[go_sem,Nat.reduceBEq,Nat.reduceAdd, *];with_reducible exact Is.rfl) ?_
  refine OW.o1 (by rfl) (fun S=>Rk (by simp only[go_sem,Nat.reduceBEq, *];rfl) (by simp only[go_sem,Nat.reduceBEq,List.length_nil, *];rfl) e6 e2) ?_
  refine OW.o1 (by rfl) (fun S=>by simp only[go_sem,Nat.reduceBEq,Nat.reduceAdd, *];with_reducible exact Is.rfl) ?_
  refine OW.nil (bW.n (bW.n ?_))
  refine CW.seq (CW.region ?_)
  refine OW.o1 (by rfl) (fun S=>by simp only[go_sem,Nat.reduceBEq,Nat.reduceAdd, *];with_reducible exact Is.rfl) ?_
  refine OW.o1 (by rfl) (fun S=>by simp only[go_sem,Nat.reduceBEq,Nat.reduceAdd, *];with_reducible exact Is.rfl) ?_
  refine OW.nil (bW.n ?_)
  refine CW.ret ?_
  rw[hres]
  refine nN.one (by intro i h;cases h) (by simp only[jg,go_sem,Nat.reduceBEq, *];exact Is.rfl) (.inr ⟨_,_,_,_,Kt k (.int .i64 0),rfl, ?_⟩)
  simp only[go_sem,Nat.reduceBEq, *]
theorem aiK (k:Int) (h0:0≤k) (h1:k≤2^40):kL E 175 [.aj .nil [],.int .i64 k] 1 ah.init (Kr 1):=by
 have hP:E.P=Tryz.prog:=rfl
 have e1:gQ E.P 94=some 5:=by kernel_rfl
 have e2:bG E.P 5=some 1:=by kernel_rfl
 have e6:E.P.underlying 94=some (.slice 5):=by kernel_rfl
 have e7:E.P.underlying 3=some (.int .i64):=by kernel_rfl
 have e8:fP E.P 5=some (.int .u8 0):=by kernel_rfl
 have e9:gq E.P 5=some false:=by kernel_rfl
 have e10:nC E.P 5=some 1:=by kernel_rfl
 have e3:decide (k<0)=false:=decide_eq_false (by omega)
 have e4:IntKind.i64.wrap (k-0)=k:=by rw[Int.sub_zero];exact Ri (by omega) (by omega)
 have e5:IntKind.i64.wrap (0-((0:Nat):Int))=0:=by decide
 have hres:Tryz.f175.results.toList=[.tmp 4]:=rfl
 refine kL.of (fn:=Tryz.f175) (c:=Tryz.f175.body.getD .skip) Tryz.func175 rfl (by kernel_rfl) ?_
 generalize hfr:({d:=1,om:=E.om 175,tm:=fun i=>([.aj .nil [],.int .i64 k]:List V).getD i aC}:Fr)=fr
 have a0:fr.tm 0= .aj .nil []:=by rw[←hfr];rfl
 have a1:fr.tm 1= .int .i64 k:=by rw[←hfr];rfl
 have a2:fr.om=true:=by rw[←hfr];rfl
 have a3:fr.d=1:=by rw[←hfr]
 clear hfr
 refine CW.seq (CW.region ?_)
 refine OW.o1 (by rfl) (fun S=>by simp only[go_sem,Nat.reduceBEq,Nat.reduceAdd, *];with_reducible exact Is.rfl) ?_
 refine OW.nil (bW.n ?_)
 refine CW.seq (CW.seq (CW.region ?_))
 refine OW.o1 (by rfl) (fun S=>by simp only[go_sem,Nat.reduceBEq,Nat.reduceAdd, *];with_reducible exact Is.rfl) ?_
 refine OW.o1 (by rfl) (fun S=>by simp only[go_sem,Nat.reduceBEq,Nat.reduceAdd, *];with_reducible exact Is.rfl) ?_
 refine OW.nil (bW.n ?_)
 refine CW.qJ (by simp only[go_sem,Nat.reduceBEq,Nat.reduceAdd, *];exact Is.rfl) ?_
 refine CW.skip (bW.n ?_)
 refine CW.seq (CW.seq (CW.region ?_))
 refine OW.o1 (by rfl) (fun S=>by simp only[go_sem,Nat.reduceBEq,Nat.reduceAdd, *];with_reducible exact Is.rfl) ?_
 refine OW.o1 (by rfl) (fun S=>by simp only[go_sem,Nat.reduceBEq,Nat.reduceAdd, *];with_reducible exact Is.rfl) ?_
 refine OW.o1 (by rfl) (fun S=>AV (by simp only[go_sem,Nat.reduceBEq, *]) e1) ?_
 refine OW.o1 (by rfl) (fun S=>by simp only[go_sem,Nat.reduceBEq,Nat.reduceAdd, *];with_reducible exact Is.rfl) ?_
 refine OW.o1 (by rfl) (fun S=>by simp only[go_sem,Nat.reduceBEq,Nat.reduceAdd,List.length_nil, *];with_reducible exact Is.rfl) ?_
 refine OW.o1 (by rfl) (fun S=>by simp only[go_sem,Nat.reduceBEq,Nat.reduceAdd, *];with_reducible exact Is.rfl) ?_
 refine OW.o1 (by rfl) (fun S=>by simp only[go_sem,Nat.reduceBEq,Nat.reduceAdd, *];with_reducible exact Is.rfl) ?_
 refine OW.o1 (by rfl) (fun S=>by simp only[go_sem,Nat.reduceBEq,Nat.reduceAdd, *];with_reducible exact Is.rfl) ?_
 refine OW.nil (bW.n ?_)
 refine CW.seq (CW.region ?_)
 refine OW.o1 (by rfl) (fun S=>by simp only[go_sem,Nat.reduceBEq,Nat.reduceAdd, *];with_reducible exact Is.rfl) ?_
 refine OW.o1 (by rfl) (fun S=>by simp only[go_sem,Nat.reduceBEq,Nat.reduceAdd, *];with_reducible exact Is.rfl) ?_
 refine OW.nil (bW.n ?_)
 cases hk:decide (k>0) with
 |false=>
  refine CW.qJ (by simp only[go_sem,Nat.reduceBEq,Nat.reduceAdd, *];exact Is.rfl) ?_
  refine CW.skip (bW.n (bW.n ?_))
  refine CW.seq (CW.region ?_)
  refine OW.o1 (by rfl) (fun S=>by simp only[go_sem,Nat.reduceBEq,Nat.reduceAdd, *];with_reducible exact Is.rfl) ?_
  refine OW.o1 (by rfl) (fun S=>by simp only[go_sem,Nat.reduceBEq,Nat.reduceAdd, *];with_reducible exact Is.rfl) ?_
  refine OW.nil (bW.n ?_)
  refine CW.ret ?_
  rw[hres]
  refine nN.one (v0:=.aj .nil []) (by intro i h;cases h) (by simp only[jg,go_sem,Nat.reduceBEq, *];exact Is.rfl) (.inl rfl)
 |true=>
  refine CW.vk (by simp only[go_sem,Nat.reduceBEq,Nat.reduceAdd, *];exact Is.rfl) ?_
  refine CW.region ?_
  refine OW.o1 (by rfl) (fun S=>by simp only[go_sem,Nat.reduceBEq,Nat.reduceAdd, *];with_reducible exact Is.rfl) ?_
  refine OW.o1 (by rfl) (fun S=>by simp only[go_sem,Nat.reduceBEq,Nat.reduceAdd, *];with_reducible exact Is.rfl) ?_
  refine OW.o1 (by rfl) (fun S=>AV (by simp only[go_sem,Nat.reduceBEq, *]) e1) ?_
  refine OW.o1 (by rfl) (fun S=>Rj (by simp only[go_sem,Nat.reduceBEq, *]) (by simp only[go_sem,Nat.reduceBEq, *]) e6 e2) ?_
  refine OW.o1 (by rfl) (fun S=>by simp only[go_sem,Nat.reduceBEq,Nat.reduceAdd, *];with_reducible exact Is.rfl) ?_
  refine OW.o1 (by rfl) (fun S=>Rm (k:=k) (by simp only[go_sem,Nat.reduceBEq, *]) (by simp only[go_sem,Nat.reduceBEq, *]) (by simp only[go_sem,Nat.reduceBEq, *]) e7 e1 e2 e10 e9 e8 rfl (by decide) rfl rfl (by decide) h0 h1) ?_
  refine OW.o1 (by rfl) (fun S=>by simp only[go_sem,Nat.reduceBEq,Nat.reduceAdd, *];with_reducible exact Is.rfl) ?_
  refine OW.o1 (by rfl) (fun S=>by simp only[go_sem,Nat.reduceBEq,Nat.reduceAdd, *];with_reducible exact Is.rfl) ?_
  refine OW.o1 (by rfl) (fun S=>Rk (by simp only[go_sem,Nat.reduceBEq, *];rfl) (by simp only[go_sem,Nat.reduceBEq,List.length_nil, *];rfl) e6 e2) ?_
  refine OW.o1 (by rfl) (fun S=>by simp only[go_sem,Nat.reduceBEq,Nat.reduceAdd, *];with_reducible exact Is.rfl) ?_
  refine OW.nil (bW.n (bW.n ?_))
  refine CW.seq (CW.region ?_)
  refine OW.o1 (by rfl) (fun S=>by simp only[go_sem,Nat.reduceBEq,Nat.reduceAdd, *];with_reducible exact Is.rfl) ?_
  refine OW.o1 (by rfl) (fun S=>by simp only[go_sem,Nat.reduceBEq,Nat.reduceAdd, *];with_reducible exact Is.rfl) ?_
  refine OW.nil (bW.n ?_)
  refine CW.ret ?_
  rw[hres]
  refine nN.one (by intro i h;cases h) (by simp only[jg,go_sem,Nat.reduceBEq, *];exact Is.rfl) (.inr ⟨_,_,_,_,Kt k (.int .u8 0),rfl, ?_⟩)
  simp only[go_sem,Nat.reduceBEq, *]
theorem aiL (k:Int) (h0:0≤k) (h1:k≤2^40):kL E 167 [.aj .nil [],.int .i64 k] 1 ah.init (Kr 1):=by
 have hP:E.P=Tryz.prog:=rfl
 have e1:gQ E.P 116=some 9:=by kernel_rfl
 have e2:bG E.P 9=some 1:=by kernel_rfl
 have e6:E.P.underlying 116=some (.slice 9):=by kernel_rfl
 have e7:E.P.underlying 3=some (.int .i64):=by kernel_rfl
 have e8:fP E.P 9=some (.str []):=by kernel_rfl
 have e9:gq E.P 9=some false:=by kernel_rfl
 have e10:nC E.P 9=some 16:=by kernel_rfl
 have e3:decide (k<0)=false:=decide_eq_false (by omega)
 have e4:IntKind.i64.wrap (k-0)=k:=by rw[Int.sub_zero];exact Ri (by omega) (by omega)
 have e5:IntKind.i64.wrap (0-((0:Nat):Int))=0:=by decide
 have hres:Tryz.f167.results.toList=[.tmp 4]:=rfl
 refine kL.of (fn:=Tryz.f167) (c:=Tryz.f167.body.getD .skip) Tryz.func167 rfl (by kernel_rfl) ?_
 generalize hfr:({d:=1,om:=E.om 167,tm:=fun i=>([.aj .nil [],.int .i64 k]:List V).getD i aC}:Fr)=fr
 have a0:fr.tm 0= .aj .nil []:=by rw[←hfr];rfl
 have a1:fr.tm 1= .int .i64 k:=by rw[←hfr];rfl
 have a2:fr.om=true:=by rw[←hfr];rfl
 have a3:fr.d=1:=by rw[←hfr]
 clear hfr
 refine CW.seq (CW.region ?_)
 refine OW.o1 (by rfl) (fun S=>by simp only[go_sem,Nat.reduceBEq,Nat.reduceAdd, *];with_reducible exact Is.rfl) ?_
 refine OW.nil (bW.n ?_)
 refine CW.seq (CW.seq (CW.region ?_))
 refine OW.o1 (by rfl) (fun S=>by simp only[go_sem,Nat.reduceBEq,Nat.reduceAdd, *];with_reducible exact Is.rfl) ?_
 refine OW.o1 (by rfl) (fun S=>by simp only[go_sem,Nat.reduceBEq,Nat.reduceAdd, *];with_reducible exact Is.rfl) ?_
 refine OW.nil (bW.n ?_)
 refine CW.qJ (by simp only[go_sem,Nat.reduceBEq,Nat.reduceAdd, *];exact Is.rfl) ?_
 refine CW.skip (bW.n ?_)
 refine CW.seq (CW.seq (CW.region ?_))
 refine OW.o1 (by rfl) (fun S=>by simp only[go_sem,Nat.reduceBEq,Nat.reduceAdd, *];with_reducible exact Is.rfl) ?_
 refine OW.o1 (by rfl) (fun S=>by simp only[go_sem,Nat.reduceBEq,Nat.reduceAdd, *];with_reducible exact Is.rfl) ?_
 refine OW.o1 (by rfl) (fun S=>AV (by simp only[go_sem,Nat.reduceBEq, *]) e1) ?_
 refine OW.o1 (by rfl) (fun S=>by simp only[go_sem,Nat.reduceBEq,Nat.reduceAdd, *];with_reducible exact Is.rfl) ?_
 refine OW.o1 (by rfl) (fun S=>by simp only[go_sem,Nat.reduceBEq,Nat.reduceAdd,List.length_nil, *];with_reducible exact Is.rfl) ?_
 refine OW.o1 (by rfl) (fun S=>by simp only[go_sem,Nat.reduceBEq,Nat.reduceAdd, *];with_reducible exact Is.rfl) ?_
 refine OW.o1 (by rfl) (fun S=>by simp only[go_sem,Nat.reduceBEq,Nat.reduceAdd, *];with_reducible exact Is.rfl) ?_
 refine OW.o1 (by rfl) (fun S=>by simp only[go_sem,Nat.reduceBEq,Nat.reduceAdd, *];with_reducible exact Is.rfl) ?_
 refine OW.nil (bW.n ?_)
 refine CW.seq (CW.region ?_)
 refine OW.o1 (by rfl) (fun S=>by simp only[go_sem,Nat.reduceBEq,Nat.reduceAdd, *];with_reducible exact Is.rfl) ?_
 refine OW.o1 (by rfl) (fun S=>by simp only[go_sem,Nat.reduceBEq,Nat.reduceAdd, *];with_reducible exact Is.rfl) ?_
 refine OW.nil (bW.n ?_)
 cases hk:decide (k>0) with
 |false=>
  refine CW.qJ (by simp only[go_sem,Nat.reduceBEq,Nat.reduceAdd, *];exact Is.rfl) ?_
  refine CW.skip (bW.n (bW.n ?_))
  refine CW.seq (CW.region ?_)
  refine OW.o1 (by rfl) (fun S=>by simp only[go_sem,Nat.reduceBEq,Nat.reduceAdd, *];with_reducible exact Is.rfl) ?_
  refine OW.o1 (by rfl) (fun S=>by simp only[go_sem,Nat.reduceBEq,Nat.reduceAdd, *];with_reducible exact Is.rfl) ?_
  refine OW.nil (bW.n ?_)
  refine CW.ret ?_
  rw[hres]
  refine nN.one (v0:=.aj .nil []) (by intro i h;cases h) (by simp only[jg,go_sem,Nat.reduceBEq, *];exact Is.rfl) (.inl rfl)
 |true=>
  refine CW.vk (by simp only[go_sem,Nat.reduceBEq,Nat.reduceAdd, *];exact Is.rfl) ?_
  refine CW.region ?_
  refine OW.o1 (by rfl) (fun S=>by simp only[go_sem,Nat.reduceBEq,Nat.reduceAdd, *];with_reducible exact Is.rfl) ?_
  refine OW.o1 (by rfl) (fun S=>by simp only[go_sem,Nat.reduceBEq,Nat.reduceAdd, *];with_reducible exact Is.rfl) ?_
  refine OW.o1 (by rfl) (fun S=>AV (by simp only[go_sem,Nat.reduceBEq, *]) e1) ?_
  refine OW.o1 (by rfl) (fun S=>Rj (by simp only[go_sem,Nat.reduceBEq, *]) (by simp only[go_sem,Nat.reduceBEq, *]) e6 e2) ?_
  refine OW.o1 (by rfl) (fun S=>by simp only[go_sem,Nat.reduceBEq,Nat.reduceAdd, *];with_reducible exact Is.rfl) ?_
  refine OW.o1 (by rfl) (fun S=>Rm (k:=k) (by simp only[go_sem,Nat.reduceBEq, *]) (by simp only[go_sem,Nat.reduceBEq, *]) (by simp only[go_sem,Nat.reduceBEq, *]) e7 e1 e2 e10 e9 e8 rfl (by decide) rfl rfl (by decide) h0 h1) ?_
  refine OW.o1 (by rfl) (fun S=>by simp only[go_sem,Nat.reduceBEq,Nat.reduceAdd, *];with_reducible exact Is.rfl) ?_
  refine OW.o1 (by rfl) (fun S=>by simp only[go_sem,Nat.reduceBEq,Nat.reduceAdd, *];with_reducible exact Is.rfl) ?_
  refine OW.o1 (by rfl) (fun S=>Rk (by simp only[go_sem,Nat.reduceBEq, *];rfl) (by simp only[go_sem,Nat.reduceBEq,List.length_nil, *];rfl) e6 e2) ?_
  refine OW.o1 (by rfl) (fun S=>by simp only[go_sem,Nat.reduceBEq,Nat.reduceAdd, *];with_reducible exact Is.rfl) ?_
  refine OW.nil (bW.n (bW.n ?_))
  refine CW.seq (CW.region ?_)
  refine OW.o1 (by rfl) (fun S=>by simp only[go_sem,Nat.reduceBEq,Nat.reduceAdd, *];with_reducible exact Is.rfl) ?_
  refine OW.o1 (by rfl) (fun S=>by simp only[go_sem,Nat.reduceBEq,Nat.reduceAdd, *];with_reducible exact Is.rfl) ?_
  refine OW.nil (bW.n ?_)
  refine CW.ret ?_
  rw[hres]
  refine nN.one (by intro i h;cases h) (by simp only[jg,go_sem,Nat.reduceBEq, *];exact Is.rfl) (.inr ⟨_,_,_,_,Kt k (.str []),rfl, ?_⟩)
  simp only[go_sem,Nat.reduceBEq, *]
theorem Rn {f sz:Nat} {l:List V} {k:Int} (h:kL E f [.aj .nil [],.int .i64 k] 1 ah.init (Kr sz)):l6 E f [.aj .nil [],.int .i64 k] sz []:=by
 obtain⟨n,v,σ1,h1,h2⟩:=h
 refine⟨n,v,σ1,h1,fun st σ=> ?_⟩
 rcases h2 with rfl| ⟨loc,s,cap,ag,cs,rfl,hc⟩
 ·exact .inl ⟨.nil,.inl rfl,rfl⟩
 ·exact .inr (by unfold pI;dsimp only;rw[if_pos ⟨rfl,rfl⟩,hc];rfl)
theorem Ro {α:Type} {k:Int} {x:List α} (h:EB k=some x):0≤k∧k≤2^40∧x=[]:=by
 unfold EB at h
 split at h
 ·rename_i hk;cases h;exact⟨hk.1,hk.2,rfl⟩
 ·cases h
theorem aiM:∀u p x,Rf (u,p)=some x→l6 E 174 (.aj .nil []::bA R [.d (.int .i64)] p) (cB R (.int .i64)) (x.map (aG R (.int .i64))):=by
 intro u p x h
 unfold Rf at h
 obtain⟨h0,h1,rfl⟩:=Ro h
 exact Rn (l:=[]) (aiJ p h0 h1)
theorem aiN:∀u p x,Rh (u,p)=some x→l6 E 175 (.aj .nil []::bA R [.d (.int .i64)] p) (cB R (.int .u8)) (x.map (aG R (.int .u8))):=by
 intro u p x h
 unfold Rh at h
 obtain⟨h0,h1,rfl⟩:=Ro h
 exact Rn (l:=[]) (aiK p h0 h1)
theorem aiO:∀u p x,AU (u,p)=some x→l6 E 167 (.aj .nil []::bA R [.d (.int .i64)] p) (cB R .str) (x.map (aG R .str)):=by
 intro u p x h
 unfold AU at h
 obtain⟨h0,h1,rfl⟩:=Ro h
 exact Rn (l:=[]) (aiL p h0 h1)
noncomputable def Rp (_:Nat):Nat→List (FR R):=bC 167 ⟨AQ,[.d (.slice .str)],AU,[],true⟩ (bC 175 ⟨AQ,[.d (.slice (.int .u8))],Rh,[],true⟩ (bC 174 ⟨AQ,[.d (.slice (.int .i64))],Rf,[],true⟩ YF))
theorem Y2 (n:Nat):aY E (Rp n):=Q5 (Q5 (Q5 ahX aiM) aiN) aiO
end Sh
end
section
open Go Go.Proofs Aq
namespace Sh
theorem aiP (a b:List Int):Kl [lv (V.int .u8) a,lv (V.int .u8) b]=some (.int .i64 (Ez a b)):=by
 show (um (a.map (V.int .u8))).bind _=_
 rw[Rb,Option.bind_some,Rb];rfl
theorem aiQ (p:aB R.T [.d (.slice (.int .u8)),.d (.slice (.int .u8))]) (x:Int) (h:some (Ez p.1 p.2)=some x):Pure E 116 (bA R [.d (.slice (.int .u8)),.d (.slice (.int .u8))] p) (ko [.int .i64 x]):=by
 cases h
 exact⟨0,aiP p.1 p.2⟩
def Ku (l:List Mark):Option (List Mark):=if l.length<2^30 then some l else none
theorem aiR (l:List Mark):pW 33 (l.map Mark.v)=true:=afN (f:=Mark.v) (sz:=33) (fun x=>⟨by rw[Mark.cells];exact Mark.len x,by rw[Mark.cells];exact Mark.one x⟩) l
theorem aiS (l:List Mark):aQ (l.map Mark.v)=true:=by
 induction l with
 |nil=>rfl
 |cons a l ih=>simp only[List.map_cons,aQ,Mark.pc,ih,Bool.and_self]
theorem aiT (p:List Mark) (x:List Mark) (h:Ku p=some x):Pure E 61 [lv Mark.v p] (lv Mark.v x):=by
 unfold Ku at h
 split at h
 ·rename_i hl
  cases h
  refine⟨0, ?_⟩
  show Km [.aj .sh (p.map Mark.v)]=some (.aj .sh (p.map Mark.v))
  cases p with
  |nil=>rfl
  |cons a l=>
   have h1:=aiR (a::l)
   have h2:=aiS (a::l)
   have h3:((a::l).map Mark.v).length<2^30:=by rw[List.length_map];exact hl
   exact if_pos ⟨h1,h2,h3⟩
 ·cases h
end Sh
end
section
namespace Aq
open Go
def Env.sm (E:Env) (s:FuncId→Option (List V→Option V)):Env:={E with iV:=s}
section
variable {E:Env} {s:FuncId→Option (List V→Option V)} {S T:iN}
def wm (E:Env) (s:FuncId→Option (List V→Option V)) (S T:iN):Prop:=∀f args v,iW (E.sm s) S f args=some v→iW E T f args=some v
theorem Y3 (hc:wm E s S T) (h:gM S T) {d:Nat} {σ:ah} {fv:V} {args:List V} {r:V×ah} (hh:gT (E.sm s) S d σ fv args=some r):gT E T d σ fv args=some r:=by
 unfold gT at hh⊢
 split at hh
 ·split at hh
  ·rename_i hi
   have hi':E.imp _=true:=hi
   simp only[hi',if_true];exact h.2 _ _ _ _ _ hh
  ·rename_i hi
   have hi':¬E.imp _=true:=hi
   simp only[Option.bind_eq_some_iff] at hh
   obtain⟨asx,h1,v,h2,h3⟩:=hh
   simp only[hi',h1,Option.bind_some,hc _ _ _ h2]
   exact h3
 ·exact OL h hh
 ·simp at hh
theorem aiU (h:gM S T) {σ:ah} {st:Nat} {fv:V} {args:List V} {r:V×ah} (hh:pJ (E.sm s) S σ st fv args=some r):pJ E T σ st fv args=some r:=Vx (E:=E) h hh
theorem Rq (hc:wm E s S T) (h:gM S T) {fr:Fr} {σ:ah} {st:Nat} {o:Oper} {r:V×Fr×ah} (hh:opC (E.sm s) S fr σ st o=some r):opC E T fr σ st o=some r:=by
 unfold opC at hh⊢
 split at hh
 ·rename_i c ho
  simp only[ho] at hh⊢
  split at hh
  ·exact hh
  ·rename_i f hf
   split at hh
   ·rename_i dO
    have Rs:jX E fr o f=true:=dO
    simp only[Rs,if_true]
    simp only[Option.map_eq_some_iff] at hh⊢
    obtain⟨x,h1,h2⟩:=hh
    exact⟨x,aiU h h1,h2⟩
   rename_i dO
   have Rs:¬jX E fr o f=true:=dO
   simp only[Rs,if_false,Bool.false_eq_true]
   simp only[Option.map_eq_some_iff] at hh⊢
   obtain⟨x,h1,h2⟩:=hh
   exact⟨x,Y3 hc h h1,h2⟩
  ·simp at hh
 ·simp at hh
 ·exact hh
theorem aiV (hc:wm E s S T) (h:gM S T) (all:List Oper):∀(os:List Oper) (st:Nat) (fr:Fr) (σ:ah) (r:Fr×ah),opsE (E.sm s) S all st os fr σ=some r→opsE E T all st os fr σ=some r:=by
 intro os
 induction os with
 |nil=>intro st fr σ r hh;exact hh
 |cons o os ih=>
  intro st fr σ r hh
  simp only[opsE,Option.bind_eq_some_iff] at hh⊢
  obtain⟨t,h1,h2⟩:=hh
  refine⟨t,h1, ?_⟩
  cases t with
  |true=>
   simp only[if_true,Option.bind_eq_some_iff] at h2⊢
   obtain⟨x,h3,h4⟩:=h2
   exact⟨x,Rq hc h h3,ih _ _ _ _ h4⟩
  |false=>
   simp only[Bool.false_eq_true,if_false] at h2⊢
   exact ih _ _ _ _ h2
theorem aiW (hc:wm E s S T) (h:gM S T) (all:List Oper):∀(os:List Oper) (st:Nat) (fr:Fr) (σ:ah) (r:List bQ×Fr×ah),jY (E.sm s) S all st os fr σ=some r→jY E T all st os fr σ=some r:=by
 intro os
 induction os with
 |nil=>intro st fr σ r hh;exact hh
 |cons o os ih=>
  intro st fr σ r hh
  simp only[jY,Option.bind_eq_some_iff] at hh⊢
  obtain⟨t,h1,h2⟩:=hh
  refine⟨t,h1, ?_⟩
  cases t with
  |true=>
   simp only[if_true,Option.bind_eq_some_iff,Option.map_eq_some_iff] at h2⊢
   obtain⟨x,h3,y,h4,h5⟩:=h2
   exact⟨x,Rq hc h h3,y,ih _ _ _ _ h4,h5⟩
  |false=>
   simp only[Bool.false_eq_true,if_false,Option.map_eq_some_iff] at h2⊢
   obtain⟨y,h4,h5⟩:=h2
   exact⟨y,ih _ _ _ _ h4,h5⟩
theorem aiX (hc:wm E s S T) (h:gM S T) {ops:List Oper} {base i:Nat} {fr:Fr} {σ:ah} {r:Fr×ah} (hh:iX (E.sm s) S ops base i fr σ=some r):iX E T ops base i fr σ=some r:=by
 unfold iX at hh⊢
 split at hh
 ·exact hh
 ·simp only[Option.bind_eq_some_iff] at hh⊢
  obtain⟨t,h1,h2⟩:=hh
  refine⟨t,h1, ?_⟩
  cases t with
  |true=>
   simp only[if_true,Option.map_eq_some_iff] at h2⊢
   obtain⟨x,h3,h4⟩:=h2
   exact⟨x,Rq hc h h3,h4⟩
  |false=>simpa using h2
theorem aiY (hc:wm E s S T) (h:gM S T) {ms:List Nat} {ops:List Oper} {base:Nat} {x y:Fr×ah} (hf:Free (E.sm s) S ms ops base x y):Free E T ms ops base x y:=by
 obtain⟨s',T',W,h0,hn,wQ,hloc,hr⟩:=hf
 refine⟨s',T',W,h0,hn,wQ,fun i hi x hx=> ?_,hr⟩
 obtain⟨y,h1,h2⟩:=hloc i hi x hx
 exact⟨y,aiX hc h h1,h2⟩
theorem aiZ (hc:wm E s S T) (h:gM S T):∀(c:Code) (fr:Fr) (σ:ah) (r:Ex×Fr×ah),cO (E.sm s) S c fr σ=some r→cO E T c fr σ=some r:=by
 intro c
 induction c with
 |region id ops dr=>
  intro fr σ r hh
  simp only[cO] at hh⊢
  split at hh
  ·rename_i hd
   simp only[hd,if_true,Option.bind_eq_some_iff] at hh⊢
   obtain⟨x,h1,h2⟩:=hh
   refine⟨x,aiW hc h _ _ _ _ _ _ h1, ?_⟩
   split at h2
   ·rename_i hp;rw[if_pos hp];exact h2
   ·rename_i hp
    rw[if_neg hp]
    unfold Ht at h2⊢
    split at h2
    ·rename_i hf
     rw[if_pos ⟨hf.1,aiY hc h hf.2⟩];exact h2
    ·cases h2
  ·rename_i hd
   simp only[hd,Bool.false_eq_true,if_false,Option.map_eq_some_iff] at hh⊢
   obtain⟨x,h1,h2⟩:=hh
   exact⟨x,aiV hc h _ _ _ _ _ _ h1,h2⟩
 |seq a b iha ihb=>
  intro fr σ r hh
  simp only[cO,Option.bind_eq_some_iff] at hh⊢
  obtain⟨⟨e,bR,σ1⟩,h1,h2⟩:=hh
  refine⟨(e,bR,σ1),iha _ _ _ h1, ?_⟩
  cases e with
  |normal=>exact ihb _ _ _ h2
  |exit i=>exact h2
  |ret=>exact h2
 |cond c a b iha ihb=>
  intro fr σ r hh
  simp only[cO,Option.bind_eq_some_iff] at hh⊢
  obtain⟨t,h1,h2⟩:=hh
  refine⟨t,h1, ?_⟩
  cases t with
  |true=>simp only[if_true] at h2⊢;exact iha _ _ _ h2
  |false=>simp only[Bool.false_eq_true,if_false] at h2⊢;exact ihb _ _ _ h2
 |block id c ih=>
  intro fr σ r hh
  simp only[cO,Option.map_eq_some_iff] at hh⊢
  obtain⟨x,h1,h2⟩:=hh
  exact⟨x,ih _ _ _ h1,h2⟩
 |loop c ih=>
  intro fr σ r hh
  simp only[cO,Option.bind_eq_some_iff] at hh⊢
  obtain⟨⟨e,bR,σ1⟩,h1,h2⟩:=hh
  refine⟨(e,bR,σ1),ih _ _ _ h1, ?_⟩
  cases e with
  |normal=>exact h.1 _ _ _ _ h2
  |exit i=>exact h2
  |ret=>exact h2
 |rangeFunc f ps a b iha ihb=>
  intro fr σ r hh
  simp only[cO] at hh⊢
  split at hh
  ·rename_i hf
   rw[if_pos (by exact hf)]
   simp only[Option.bind_eq_some_iff] at hh⊢
   obtain⟨x,h1,h2⟩:=hh
   exact⟨x,Y3 hc h h1,h2⟩
  ·simp at hh
 |_=>intro fr σ r hh;simpa [cO] using hh
theorem ai0 (h:gM S T) {f:FuncId} {args:List V} {d:Nat} {σ:ah} {r:V×ah} (hh:rz (E.sm s) S f args d σ=some r):rz E T f args d σ=some r:=Vy (E:=E) h hh
theorem ai1 {M:Nat} (hs:∀f g,s f=some g→∀args v,g args=some v→iW E (dz E M) f args=some v) (hn:∀f,s f=none→E.iV f=none):∀n,gM (dz (E.sm s) n) (dz E (n+M)):=by
 have pure:∀n,gM (dz (E.sm s) n) (dz E (n+M))→wm E s (dz (E.sm s) n) (dz E (n+M)):=by
  intro n h f args v hv
  unfold iW at hv
  cases hf:(E.sm s).iV f with
  |some g=>
   rw[hf] at hv
   exact zl (jQ (Nat.le_add_left M n)) (hs f g hf args v hv)
  |none=>
   rw[hf] at hv
   simp only[Option.bind_eq_some_iff] at hv
   obtain⟨x,h1,h2⟩:=hv
   unfold iW
   rw[hn f hf]
   simp only[h.2 _ _ _ _ _ h1,Option.bind_some]
   exact h2
 intro n
 induction n with
 |zero=>exact⟨(fun _ _ _ _ h=>by cases h),(fun _ _ _ _ _ h=>by cases h)⟩
 |succ n ih=>
  rw[Nat.succ_add]
  exact⟨fun c fr σ r hh=>aiZ (pure n ih) ih c fr σ r hh,fun f args d σ r hh=>ai0 ih hh⟩
theorem ai2 {M:Nat} (hs:∀f g,s f=some g→∀args v,g args=some v→iW E (dz E M) f args=some v) (hn:∀f,s f=none→E.iV f=none) {f:FuncId} {args:List V} {v:V} {n:Nat} (hf:s f=none) (h:iW (E.sm s) (dz (E.sm s) n) f args=some v):Pure E f args v:=by
 refine⟨n+M, ?_⟩
 unfold iW at h
 rw[show (E.sm s).iV f=none from hf] at h
 simp only[Option.bind_eq_some_iff] at h
 obtain⟨x,h1,h2⟩:=h
 unfold iW
 rw[hn f hf]
 simp only[(ai1 hs hn n).2 _ _ _ _ _ h1,Option.bind_some]
 exact h2
end
end Aq
end
