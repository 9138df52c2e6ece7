/- Part of the proof of a law. -/
import Derived.DefersIn
import Derived.Test.YteniejlbjfigdaaGreatDoorV05
set_option linter.all false
set_option linter.unusedSimpArgs false
set_option linter.unusedSectionVars false
section
namespace Aq
open Go Go.RowKit
section
variable (E:Env)
def YJ (ops:List Oper):Option (Nat×Oper×Call):=match ops.getLast? with
 |some o=>match o.op with
  |.defer c=>some (ops.length-1,o,c)
  |_=>none
 |none=>none
abbrev Dq:=Option (Nat×List V)
def ahF (fr:Fr) (c:Call):Dq:=match c.callee with
 |.value f=>match fr.ev E f with
  |.fn (.func g) x y=>some (g,x++c.args.toList.map (fr.ev E)++y)
  |_=>none
 |_=>none
def KY (g:FuncId):Bool:=match E.P.funcs[g]? with
 |some fn=>match fn.body with
  |some c=>dO c
  |none=>false
 |none=>false
end
section
variable {E:Env} {K K':aR} {w w':World} {σ σ':ah} {B0:Nat}
def KZ (vs:List V):V:=match vs with| [v]=>v|vs=>.bJ vs
theorem YK (h:aY E B0 σ K w) {fn:Func} {fr:Fr} {tmps:Array Value} (hf:jJ K σ.top w fr tmps) {vs:List V} (hvs:fn.results.toList.mapM (iD E fr σ)=some vs):
 ∃c,(results fn tmps).run E.P w= .ok c w∧Rel K σ.top w (KZ vs) c:=by
 obtain⟨cs,k1,k2,k3⟩:=aa3 h hf fn.results.toList vs hvs
 have hrun:(results fn tmps).run E.P w= .ok (if h:cs.toArray.size=1 then cs.toArray[0] else .tuple cs.toArray) w:=by
  have hres:results fn tmps=(do let vs←fn.results.mapM (Gs tmps);pure (if h:vs.size=1 then vs[0] else .tuple vs)):=rfl
  rw[hres,Array.mapM_eq_mapM_toList]
  simp only[Sem.run_bind,Sem.run_map,k1,Result.andThen_ok,Sem.run_pure]
 refine⟨_,hrun, ?_⟩
 cases vs with
 |nil=>
  have:cs=[]:=by simpa using k2.symm
  subst this
  exact .bJ [] #[] rfl (fun i hi=>absurd hi (Nat.not_lt_zero i))
 |cons v1 vs=>
  cases cs with
  |nil=>simp at k2
  |cons c1 cs=>
   cases vs with
   |nil=>
    have:cs=[]:=by simpa using k2.symm
    subst this
    have:=k3 0 (by simp)
    show Rel K σ.top w v1 _
    simpa using this
   |cons v2 vs=>
    have hsz2:¬((c1::cs).toArray.size=1):=by
     simp only[List.length_cons,Nat.add_right_cancel_iff] at k2
     rw[List.size_toArray,List.length_cons]
     omega
    rw[dif_neg hsz2]
    refine .bJ _ _ (by simpa using k2) (fun i hi=> ?_)
    have:=k3 i hi
    simpa [Array.getD_eq_getD_getElem?,List.getD] using this
theorem ahG {f:FuncId} {d:Nat} {fn:Func} {args:List V} {cZ:Array Value} (hs:aY E B0 σ K w) (hB:B0≤w.heap.size) (hA:∀s,K.A s→s<σ.next) (hr:RelA K σ.top w args cZ) (hlen:args.length≤fn.ntmps):
 St E B0 σ K w {d:=d,om:=E.om f,tm:=fun i=>args.getD i ay} {tmps:=cZ++Array.replicate (fn.ntmps-cZ.size) undef,defers:=[]} fn.ntmps ⟨[],w.heap.size,true⟩:=by
 have hsz:cZ.size=args.length:=hr.1.symm
 refine⟨hs,hB,fun t=> ?_,by simp;omega,⟨[],rfl,List.nodup_nil,(fun b hb=>by cases hb),fun _=>rfl⟩,hA,Nat.le_refl _⟩
 show Rel K σ.top w (args.getD t ay) _
 by_cases ht:t<args.length
 ·have e1:(cZ++Array.replicate (fn.ntmps-cZ.size) undef).getD t undef=cZ.getD t undef:=by
   simp only[Array.getD_eq_getD_getElem?]
   rw[Array.getElem?_append_left (by omega)]
  rw[e1];exact hr.2 t ht
 ·have e1:(cZ++Array.replicate (fn.ntmps-cZ.size) undef).getD t undef=undef:=by
   simp only[Array.getD_eq_getD_getElem?]
   rw[Array.getElem?_append_right (by omega),Array.getElem?_replicate]
   split<;>rfl
  have e2:args.getD t ay=ay:=by simp[List.getD,List.getElem?_eq_none (Nat.le_of_not_lt ht)]
  rw[e1,e2];exact .undef _ _ _
theorem atO {n:Nat} (hS:zF E (bZ E n).code) {f:FuncId} {args:List V} {d:Nat} {v:V} (h:sw E (bZ E n) f args d σ=some (v,σ')) (hcalm:KY E f=true):
 ∃fn c,E.P.funcs[f]? =some fn∧fn.body=some c∧σ.next≤σ'.next∧∀B0 K w cZ,aY E B0 σ K w→B0≤w.heap.size→(∀s,K.A s→s<σ.next)→RelA K σ.top w args cZ→
  c.wpIn (FW none) 0 E.P (bodyPost E.P fn (um E B0 σ K w v σ')) {tmps:=cZ++Array.replicate (fn.ntmps-cZ.size) undef,defers:=[]} w:=by
 simp only[sw,Option.bind_eq_some_iff] at h
 obtain⟨fn,hfn,c,hc,h⟩:=h
 have hnr:dO c=true:=by unfold KY at hcalm;simp only[hfn,hc] at hcalm;exact hcalm
 split at h
 ·rename_i hok
  simp only[Option.bind_eq_some_iff] at h
  obtain⟨⟨e,bR,σ1⟩,hcode,h⟩:=h
  have hne:e= .normal∨e= .ret:=by
   cases e with
   |normal=>exact .inl rfl
   |ret=>exact .inr rfl
   |exit i=>simp at h
  have h':(fn.results.toList.mapM (iD E bR σ1)).map (fun vs=>(match vs with| [v]=>v|vs=>.bJ vs,σ1))=some (v,σ'):=by
   rcases hne with rfl|rfl<;>exact h
  simp only[Option.map_eq_some_iff,Prod.mk.injEq] at h'
  obtain⟨vs,hvs,hv,rfl⟩:=h'
  obtain⟨hle,hwp⟩:=hS _ _ _ _ _ _ hcode
  refine⟨fn,c,hfn,hc,hle,fun B0 K w cZ hs hB hA hr=> ?_⟩
  refine wpIn_mono (hwp none B0 K w _ fn.ntmps ⟨[],w.heap.size,true⟩ (ahG hs hB hA hr hok.1) hok.2 (.inr hnr)) ?_
  rintro x a' w' ⟨hx,K',hs',st'⟩
  obtain⟨bs,d1,_,_,d4⟩:=hs'.df
  have hd:a'.defers=[]:=by rw[d1,d4 rfl];rfl
  obtain⟨cv,r1,r2⟩:=YK hs'.ok hs'.fr hvs
  have hv':KZ vs=v:=hv
  rw[hv'] at r2
  have fin:a'.defers=[]∧∃v',(results fn a'.tmps).run E.P w'= .ok v' w'∧um E B0 σ K w v σ1 (.returned v') w':=⟨hd,cv,r1,K',r2,hs'.ok,hs'.st,st'⟩
  rcases hne with rfl|rfl<;>cases x<;>simp only[jX] at hx<;>exact fin
 ·simp at h
theorem Fz {F:Fence} {n:Nat} {P:Program} {ops:Array Oper} {Q:Exit→Act→World→Prop} {m:List Nat}:∀(l:List Nat) (a:Act) (w:World),
 wpOpsIn F n P ops (fun x a w=>match x with|.normal=>wpOpsIn F n P ops Q m a w|x=>Q x a w) l a w→wpOpsIn F n P ops Q (l++m) a w
 | [],a,w,h=>h
 |i::l,a,w,h=>by
  rw[List.cons_append]
  unfold wpOpsIn at h⊢
  cases ho:ops[i]? with
  |none=>simp only[ho] at h⊢;exact Fz l a w h
  |some o=>
   simp only[ho] at h⊢
   split
   ·rename_i hw
    rw[if_pos hw] at h
    refine⟨h.1, ?_⟩
    have h2:=h.2
    revert h2
    generalize (o.semAt F.round a.eval).run P w=res
    intro h2
    unfold Oper.uponIn at h2⊢
    split at h2<;>try exact Fz l _ _ h2
    all_goals first
     |exact h2
     | (refine⟨h2.1,h2.2.mono ?_⟩
        intro e w' hp
        cases e<;>first|exact Fz l _ _ hp|exact hp)
     | (refine⟨h2.1, ?_⟩;exact RowsIn.mono h2.2 fun v w' hp=>Fz l _ _ hp)
   ·rename_i hw
    rw[if_neg hw] at h
    exact⟨h.1,Fz l _ _ h.2⟩
def DqR (E:Env) (B0:Nat) (σ:ah) (K:aR) (w:World) (fr:Fr) (a:Act) (n B:Nat):Dq→Prop
 |none=>St E B0 σ K w fr a n ⟨[],B,true⟩
 |some (g,as)=> ∃(dd:Deferred) (cap:Array Value),dd.target= .fn (.func g) cap∧RelA K σ.top w as (dd.args++cap)∧St E B0 σ K w fr a n ⟨[dd],B,true⟩
theorem RelA.ext {K K':aR} {T T':Nat→Nat} {w w':World} (e:Ext K T w K' T' w') {l:List V} {cl:Array Value} (h:RelA K T w l cl):RelA K' T' w' l cl:=⟨h.1,fun i hi=>(h.2 i hi).ext e⟩
theorem atQ {ops:List Oper} {k:Nat} {o:Oper} {c:Call} (h:YJ ops=some (k,o,c)):ops.length=k+1∧ops[k]? =some o∧o.op= .defer c:=by
 unfold YJ at h
 split at h
 ·rename_i o' ho
  split at h
  ·rename_i c' hc
   simp only[Option.some.injEq,Prod.mk.injEq] at h
   obtain⟨rfl,rfl,rfl⟩:=h
   have hne:ops≠[]:=by rintro rfl;simp at ho
   have hp:0<ops.length:=List.length_pos_iff.2 hne
   refine⟨by omega, ?_,hc⟩
   rw[List.getLast?_eq_getElem?] at ho
   exact ho
  ·cases h
 ·cases h
end
end Aq
end
section
namespace Aq
open Go Go.RowKit
def K4 (ms:List Nat) (n:Nat):Nat→List Nat→List Nat→List (List Nat)
 |0,_,_=>[[]]
 |k+1,done,rest=>rest.flatMap fun i=>if (List.range n).all (fun j=> !(ms.getD i 0).testBit j||done.contains j) then (K4 ms n k (i::done) (rest.erase i)).map (i:: ·) else []
theorem atS (ms:List Nat) (n:Nat):∀(l:List Nat) (done rest:List Nat),l.Nodup→rest.Nodup→(∀i,i∈l↔i∈rest)→
 (∀a i b,l=a++i::b→∀j,(ms.getD i 0).testBit j=true→j∈done∨j∈a)→l∈K4 ms n rest.length done rest:=by
 intro l
 induction l with
 |nil=>
  intro done rest _ _ hm _
  have:rest=[]:=List.eq_nil_iff_forall_not_mem.2 fun i hi=>by simpa using (hm i).2 hi
  subst this
  simp[K4]
 |cons i l ih=>
  intro done rest hl hr hm ho
  have hi:i∈rest:=(hm i).1 (by simp)
  have hlen:rest.length=(rest.erase i).length+1:=by
   rw[List.length_erase_of_mem hi]
   have:0<rest.length:=List.length_pos_of_mem hi
   omega
  rw[hlen]
  simp only[K4,List.mem_flatMap]
  refine⟨i,hi, ?_⟩
  rw[if_pos]
  ·rw[List.mem_map]
   refine⟨l,ih (i::done) (rest.erase i) (List.nodup_cons.1 hl).2 (hr.erase _) (fun j=> ?_) (fun a j b hab x hx=> ?_),rfl⟩
   ·rw[hr.mem_erase_iff]
    constructor
    ·intro hj
     refine⟨fun e=>(List.nodup_cons.1 hl).1 (e▸hj),(hm j).1 (List.mem_cons_of_mem _ hj)⟩
    ·rintro⟨h1,h2⟩
     rcases List.mem_cons.1 ((hm j).2 h2) with e|e
     ·exact absurd e h1
     ·exact e
   ·rcases ho (i::a) j b (by rw[hab];rfl) x hx with h|h
    ·exact .inl (List.mem_cons_of_mem _ h)
    ·rcases List.mem_cons.1 h with e|e
     ·exact .inl (by rw[e];simp)
     ·exact .inr e
  ·rw[List.all_eq_true]
   intro j _
   by_cases hj:(ms.getD i 0).testBit j=true
   ·rcases ho [] i l rfl j hj with h|h
    ·simp[h]
    ·cases h
   ·rw[Bool.eq_false_iff.2 hj];rfl
def ahH (ops:List Oper):List (List Nat):=K4 (nQ ops) ops.length ops.length [] (List.range ops.length)
theorem atT {ops:Array Oper} (lY:ni ops.toList=true) {md:Region.Mode} {l:List Nat} (hl:zH md ops [] l):l∈ahH ops.toList:=by
 have:=atS (nQ ops.toList) ops.toList.length l [] (List.range ops.toList.length) hl.nodup List.nodup_range (fun i=>by
  constructor
  ·intro hi;have:=(hl.mem i hi).1;simpa using this
  ·intro hi
   rcases hl.all i (by simpa using hi) with h|h
   ·cases h
   ·exact h) (fun a i b hab j hj=>.inr (aaZ lY hl i a b hab j hj))
 rw[List.length_range] at this
 exact this
section
variable (E:Env)
def BN (S0:je) (co:Code→Fr→ah→Option (Ex×Fr×ah)):Code→Fr→ah→Option (List (Ex×Fr×ah))
 |.seq a b,fr,σ=>(BN S0 co a fr σ).bind fun L=>(L.mapM fun (x:Ex×Fr×ah)=>match x.1 with
  |.normal=>BN S0 co b x.2.1 x.2.2
  |_=>some [x]).map List.flatten
 |.region _ ops true,fr,σ=>if ni ops.toList=true then
    (ahH ops.toList).mapM fun l=>(opsL E S0 ops.toList σ.next l fr {σ with next:=σ.next+ops.toList.length}).map fun x=>(Ex.normal,x.1,x.2)
  else none
 |c,fr,σ=>(co c fr σ).map fun x=>[x]
def FB (S0:je) (co:Code→Fr→ah→Option (Ex×Fr×ah)):Code→Fr→ah→Option (List (Ex×Fr×ah)×Dq)
 |.seq a b,fr,σ=>match a with
  |.region _ ops false=>match YJ ops.toList with
   |some (k,o,c)=>if o.dst=none∧o.guard=none then
     (opsL E S0 ops.toList σ.next (List.range k) fr {σ with next:=σ.next+ops.size}).bind fun (fr,σ)=>
     (ahF E fr c).bind fun q=>(BN E S0 co b fr σ).map fun L=>(L,some q)
    else none
   |none=>(co a fr σ).bind fun (e,fr,σ)=>match e with
    |.normal=>FB S0 co b fr σ
    |e=>some ([(e,fr,σ)],none)
  |a=>(co a fr σ).bind fun (e,fr,σ)=>match e with
   |.normal=>FB S0 co b fr σ
   |e=>some ([(e,fr,σ)],none)
 |c,fr,σ=>(co c fr σ).map fun x=>([x],none)
def ahI (S:je) (fn:Func) (d:Nat) (q:Dq):Ex×Fr×ah→Option (V×ah)
 | (e,fr,σ)=>match e with
 |.exit _=>none
 |_=>(match q with
   |none=>some σ
   |some (g,as)=>if KY E g=true then (S.call g as (d+1) σ).map Prod.snd else none).bind fun σ=>
  (fn.results.toList.mapM (iD E fr σ)).map fun vs=>(KZ vs,σ)
def YL (S0 S:je) (f:FuncId) (args:List V) (d:Nat) (σ:ah):Option (List (V×ah)):=
 (E.P.funcs[f]?).bind fun fn=>fn.body.bind fun c=>
 if args.length≤fn.ntmps∧fE fn.ntmps c∧dO c=true then
 (FB E S0 S.code c {d:=d,om:=E.om f,tm:=fun i=>args.getD i ay} σ).bind fun (L,q)=>L.mapM (ahI E S fn d q)
 else none
end
section
variable {E:Env} {K K':aR} {w w':World} {σ σ':ah} {B0:Nat}
theorem mapM_mem {α β:Type} {f:α→Option β}:∀{l:List α} {r:List β},l.mapM f=some r→∀x∈l,∃y∈r,f x=some y:=by
 intro l
 induction l with
 |nil=>intro r _ x hx;cases hx
 |cons a l ih=>
  intro r h x hx
  simp only[List.mapM_cons,Option.bind_eq_bind,Option.bind_eq_some_iff,Option.pure_def,Option.some.injEq] at h
  obtain⟨y,h1,ys,h2,rfl⟩:=h
  rcases List.mem_cons.1 hx with rfl|hx
  ·exact⟨y,by simp,h1⟩
  ·obtain⟨z,h3,h4⟩:=ih h2 x hx
   exact⟨z,List.mem_cons_of_mem _ h3,h4⟩
theorem ahJ {α β:Type} {f:α→Option β}:∀{l:List α} {r:List β},l.mapM f=some r→∀y∈r,∃x∈l,f x=some y:=by
 intro l
 induction l with
 |nil=>intro r h y hy;simp at h;subst h;cases hy
 |cons a l ih=>
  intro r h y hy
  simp only[List.mapM_cons,Option.bind_eq_bind,Option.bind_eq_some_iff,Option.pure_def,Option.some.injEq] at h
  obtain⟨z,h1,zs,h2,rfl⟩:=h
  rcases List.mem_cons.1 hy with rfl|hy
  ·exact⟨a,by simp,h1⟩
  ·obtain⟨x,h3,h4⟩:=ih h2 y hy
   exact⟨x,List.mem_cons_of_mem _ h3,h4⟩
theorem atU {m:Nat} (hE:kL E) (hS:Sound E (bZ E m)) (hS1:zF E (bZ E (m+1)).code):∀(c:Code) (fr:Fr) (σ:ah) (L:List (Ex×Fr×ah)),BN E (bZ E m) (bZ E (m+1)).code c fr σ=some L→
 (∀x∈L,σ.next≤x.2.2.next)∧∀B0 K w a n ds,St E B0 σ K w fr a n ds→fE n c=true→dO c=true→c.wpIn (FW none) 0 E.P (fun ex a' w'=> ∃x∈L,vJ E B0 n ds σ K w x.1 x.2.1 x.2.2 ex a' w') a w:=by
 have plain:∀(c:Code) (fr:Fr) (σ:ah) (L:List (Ex×Fr×ah)),((bZ E (m+1)).code c fr σ).map (fun x=>[x])=some L→
  (∀x∈L,σ.next≤x.2.2.next)∧∀B0 K w a n ds,St E B0 σ K w fr a n ds→fE n c=true→dO c=true→c.wpIn (FW none) 0 E.P (fun ex a' w'=> ∃x∈L,vJ E B0 n ds σ K w x.1 x.2.1 x.2.2 ex a' w') a w:=by
  intro c fr σ L h
  simp only[Option.map_eq_some_iff] at h
  obtain⟨⟨e1,bR,σ1⟩,h1,rfl⟩:=h
  obtain⟨hle,hwp⟩:=hS1 _ _ _ _ _ _ h1
  refine⟨fun x hx=>by rw[List.mem_singleton.1 hx];exact hle,fun B0 K w a n ds hs hok hnr=>wpIn_mono (hwp none B0 K w a n ds hs hok (.inr hnr)) fun x a' w' hx=>⟨_,List.mem_singleton.2 rfl,hx⟩⟩
 intro c
 induction c with
 |seq a b iha ihb=>
  intro fr σ L h
  simp only[BN,Option.bind_eq_some_iff,Option.map_eq_some_iff] at h
  obtain⟨L1,h1,LL,h2,rfl⟩:=h
  obtain⟨hle1,atV⟩:=iha _ _ _ h1
  have hcase:∀x∈L1,∃l∈LL,(match x.1 with
   |.normal=>BN E (bZ E m) (bZ E (m+1)).code b x.2.1 x.2.2
   |_=>some [x])=some l:=mapM_mem h2
  refine⟨fun y hy=> ?_,fun B0 K w a' n ds hs hok hnr=> ?_⟩
  ·obtain⟨l,hl,hy⟩:=List.mem_flatten.1 hy
   obtain⟨x,hx,he⟩:=ahJ h2 l hl
   obtain⟨e,bR,σ1⟩:=x
   have:=hle1 _ hx
   cases e with
   |normal=>exact Nat.le_trans this ((ihb _ _ _ he).1 _ hy)
   |_=>
    simp only[Option.some.injEq] at he
    subst he
    rw[List.mem_singleton.1 hy];exact this
  ·have zf:dO a=true∧dO b=true:=by simpa [dO] using hnr
   have hok':fE n a=true∧fE n b=true:=by simpa [fE] using hok
   refine wpIn_seq (wpIn_mono (atV B0 K w a' n ds hs hok'.1 zf.1) ?_)
   rintro ex a1 w1 ⟨x,hx,hxe,K1,hs1,st1⟩
   obtain⟨l,hl,he⟩:=hcase x hx
   have hn:=hle1 _ hx
   obtain⟨e,bR,σ1⟩:=x
   cases e with
   |normal=>
    cases ex<;>simp only[jX] at hxe
    refine wpIn_mono ((ihb _ _ _ he).2 B0 K1 w1 a1 n ds hs1 hok'.2 zf.2) ?_
    rintro ex2 a2 w2 ⟨y,hy,hye,K2,hs2,st2⟩
    exact⟨y,List.mem_flatten.2 ⟨l,hl,hy⟩,hye,K2,hs2,st1.widen st2 hn ((ihb _ _ _ he).1 _ hy)⟩
   |exit i=>
    simp only[Option.some.injEq] at he
    subst he
    cases ex<;>simp only[jX] at hxe
    exact⟨_,List.mem_flatten.2 ⟨_,hl,List.mem_singleton.2 rfl⟩,hxe,K1,hs1,st1⟩
   |ret=>
    simp only[Option.some.injEq] at he
    subst he
    cases ex<;>simp only[jX] at hxe
    exact⟨_,List.mem_flatten.2 ⟨_,hl,List.mem_singleton.2 rfl⟩,trivial,K1,hs1,st1⟩
 |region id ops dr=>
  intro fr σ L h
  cases dr with
  |false=>exact plain _ _ _ _ h
  |true=>
   simp only[BN] at h
   split at h
   ·rename_i lY
    have hnx:∀l bR σ1,opsL E (bZ E m) ops.toList σ.next l fr {σ with next:=σ.next+ops.toList.length}=some (bR,σ1)→σ.next+ops.toList.length≤σ1.next:=fun l bR σ1 h1=>Cr hS _ _ _ _ _ h1
    refine⟨fun x hx=> ?_,fun B0 K w a n ds hs hok hnr=> ?_⟩
    ·obtain⟨l,hl,he⟩:=ahJ h x hx
     simp only[Option.map_eq_some_iff] at he
     obtain⟨⟨bR,σ1⟩,h1,rfl⟩:=he
     exact Nat.le_trans (Nat.le_add_right _ _) (hnx _ _ _ h1)
    ·refine wpIn_region_draw (fun t=> ?_)
     obtain⟨md,hl⟩:=aaT hE.mixed ops lY t
     obtain⟨x,hx,he⟩:=mapM_mem h _ (atT lY hl)
     simp only[Option.map_eq_some_iff] at he
     obtain⟨⟨bR,σ1⟩,h1,rfl⟩:=he
     have hn:=hnx _ _ _ h1
     have hst:=Step.same (new:=newer σ σ) hs.ok (w':={w with drawn:=w.drawn+1}) rfl rfl rfl rfl
     have hs1:St E B0 σ K {w with drawn:=w.drawn+1} fr a n ds:=⟨hst.ok,hs.hB,hs.fr.ext hst.ext,hs.sz,hs.df,hs.st,hs.hD⟩
     have hs':St E B0 {σ with next:=σ.next+ops.toList.length} K {w with drawn:=w.drawn+1} fr a n ds:=⟨Ui hs1.ok _,hs1.hB,hs1.fr,hs1.sz,hs1.df,fun s h=>Nat.lt_of_lt_of_le (hs1.st s h) (Nat.le_add_right _ _),hs1.hD⟩
     refine Uj hE hS ops σ.next hok none _ _ fr _ K _ a h1 hl.nodup (fun i hi=>(hl.mem i hi).1) hs' (by simp) (fun i _ hA=>by have:=hs.st _ hA;omega) (fun a' K' w' hs2 st=> ?_)
     refine⟨_,hx,trivial,K',hs2, ?_⟩
     have st':Step E B0 (newer σ σ1) {σ with next:=σ.next+ops.toList.length} K {w with drawn:=w.drawn+1} σ1 K' w':=st.mono (fun s hs=>by
      rcases hs with h|h
      ·exact⟨h.1,by simp at hn;omega⟩
      ·exact⟨Nat.le_trans (Nat.le_add_right _ _) h.1,h.2⟩)
     exact hst.widen ⟨st'.ok,st'.ext,st'.below,st'.D,st'.A,st'.nI,st'.uh⟩ (Nat.le_refl _) (Nat.le_trans (Nat.le_add_right _ _) hn)
   ·cases h
 |_=>exact plain _
def Sn (E:Env) (B0:Nat) (σ:ah) (K:aR) (w:World) (n B:Nat) (L:List (Ex×Fr×ah)) (q:Dq) (x:Exit) (a':Act) (w':World):Prop:=
 ∃y∈L,jX y.1 x∧∃K',Step E B0 (newer σ y.2.2) σ K w y.2.2 K' w'∧DqR E B0 y.2.2 K' w' y.2.1 a' n B q
theorem ahK {m:Nat} (hE:kL E) (hS:Sound E (bZ E m)) (hS1:zF E (bZ E (m+1)).code) {n B:Nat}:∀(c:Code) (fr:Fr) (σ:ah) (L:List (Ex×Fr×ah)) (q:Dq),FB E (bZ E m) (bZ E (m+1)).code c fr σ=some (L,q)→dO c=true→fE n c=true→
 (∀y∈L,σ.next≤y.2.2.next)∧∀B0 K w a,St E B0 σ K w fr a n ⟨[],B,true⟩→c.wpIn (FW none) 0 E.P (Sn E B0 σ K w n B L q) a w:=by
 have one:∀(c:Code) (fr:Fr) (σ:ah) (e:Ex) (fr':Fr) (σ':ah),(bZ E (m+1)).code c fr σ=some (e,fr',σ')→dO c=true→fE n c=true→
  (∀y∈[(e,fr',σ')],σ.next≤y.2.2.next)∧∀B0 K w a,St E B0 σ K w fr a n ⟨[],B,true⟩→c.wpIn (FW none) 0 E.P (Sn E B0 σ K w n B [(e,fr',σ')] none) a w:=by
  intro c fr σ e fr' σ' h hnr hok
  obtain⟨hle,hwp⟩:=hS1 _ _ _ _ _ _ h
  refine⟨fun y hy=>by rw[List.mem_singleton.1 hy];exact hle,fun B0 K w a hs=>wpIn_mono (hwp none B0 K w a n _ hs hok (.inr hnr)) ?_⟩
  rintro x a' w' ⟨hx,K',hs',st⟩
  exact⟨_,List.mem_singleton.2 rfl,hx,K',st,hs'⟩
 have plain:∀(c:Code) (fr:Fr) (σ:ah) (L:List (Ex×Fr×ah)) (q:Dq),((bZ E (m+1)).code c fr σ).map (fun x=>([x],(none:Dq)))=some (L,q)→dO c=true→fE n c=true→
  (∀y∈L,σ.next≤y.2.2.next)∧∀B0 K w a,St E B0 σ K w fr a n ⟨[],B,true⟩→c.wpIn (FW none) 0 E.P (Sn E B0 σ K w n B L q) a w:=by
  intro c fr σ L q h hnr hok
  simp only[Option.map_eq_some_iff,Prod.mk.injEq] at h
  obtain⟨⟨e1,bR,σ1⟩,h1,rfl,rfl⟩:=h
  exact one _ _ _ _ _ _ h1 hnr hok
 intro c
 induction c with
 |seq a b iha ihb=>
  clear iha
  intro fr σ L q h hnr hok
  have zf:dO a=true∧dO b=true:=by simpa [dO] using hnr
  have hok':fE n a=true∧fE n b=true:=by simpa [fE] using hok
  have go:((bZ E (m+1)).code a fr σ).bind (fun (e,fr,σ)=>match e with
   |.normal=>FB E (bZ E m) (bZ E (m+1)).code b fr σ
   |e=>some ([(e,fr,σ)],none))=some (L,q)→(∀y∈L,σ.next≤y.2.2.next)∧∀B0 K w a',St E B0 σ K w fr a' n ⟨[],B,true⟩→(Code.seq a b).wpIn (FW none) 0 E.P (Sn E B0 σ K w n B L q) a' w:=by
   intro h
   obtain⟨⟨e1,bR,σ1⟩,h1,h2⟩:=Option.bind_eq_some_iff.1 h
   obtain⟨hle,hwp⟩:=hS1 _ _ _ _ _ _ h1
   cases e1 with
   |normal=>
    obtain⟨hle2,YM⟩:=ihb bR σ1 L q h2 zf.2 hok'.2
    refine⟨fun y hy=>Nat.le_trans hle (hle2 y hy),fun B0 K w a' hs=>wpIn_seq (wpIn_mono (hwp none B0 K w a' n _ hs hok'.1 (.inr zf.1)) ?_)⟩
    rintro x a1 w1 ⟨hx,K1,hs1,st1⟩
    cases x<;>simp only[jX] at hx
    refine wpIn_mono (YM B0 K1 w1 a1 hs1) ?_
    rintro x a2 w2 ⟨y,hy,hx2,K2,st2,hq⟩
    exact⟨y,hy,hx2,K2,st1.widen st2 hle (hle2 y hy),hq⟩
   |exit i=>
    simp only[Option.some.injEq,Prod.mk.injEq] at h2
    obtain⟨rfl,rfl⟩:=h2
    refine⟨fun y hy=>by rw[List.mem_singleton.1 hy];exact hle,fun B0 K w a' hs=>wpIn_seq (wpIn_mono (hwp none B0 K w a' n _ hs hok'.1 (.inr zf.1)) ?_)⟩
    rintro x a1 w1 ⟨hx,K1,hs1,st1⟩
    cases x<;>simp only[jX] at hx
    exact⟨_,List.mem_singleton.2 rfl,hx,K1,st1,hs1⟩
   |ret=>
    simp only[Option.some.injEq,Prod.mk.injEq] at h2
    obtain⟨rfl,rfl⟩:=h2
    refine⟨fun y hy=>by rw[List.mem_singleton.1 hy];exact hle,fun B0 K w a' hs=>wpIn_seq (wpIn_mono (hwp none B0 K w a' n _ hs hok'.1 (.inr zf.1)) ?_)⟩
    rintro x a1 w1 ⟨hx,K1,hs1,st1⟩
    cases x<;>simp only[jX] at hx
    exact⟨_,List.mem_singleton.2 rfl,trivial,K1,st1,hs1⟩
  unfold FB at h
  split at h
  ·rename_i ops
   split at h
   ·rename_i k o c hld
    obtain⟨hk,hko,hoc⟩:=atQ hld
    split at h
    ·rename_i hdg
     obtain⟨hdst,hgd⟩:=hdg
     obtain⟨⟨bR,σ1⟩,h1,h⟩:=Option.bind_eq_some_iff.1 h
     obtain⟨q1,hq1,h⟩:=Option.bind_eq_some_iff.1 h
     simp only[Option.map_eq_some_iff,Prod.mk.injEq] at h
     obtain⟨L2,h2,rfl,rfl⟩:=h
     obtain⟨hle2,YM⟩:=atU hE hS hS1 _ _ _ _ h2
     have hle1:=Cr hS _ _ _ _ _ h1
     have hsz:ops.size=k+1:=by rw[←Array.length_toList];exact hk
     refine⟨fun y hy=>Nat.le_trans (Nat.le_trans (Nat.le_add_right _ _) hle1) (hle2 y hy),fun B0 K w a' hs=>wpIn_seq (wpIn_region ?_)⟩
     rw[hsz,List.range_succ]
     refine Fz _ _ _ ?_
     have hs':St E B0 {σ with next:=σ.next+ops.size} K w fr a' n ⟨[],B,true⟩:=⟨Ui hs.ok _,hs.hB,hs.fr,hs.sz,hs.df,fun s h=>Nat.lt_of_lt_of_le (hs.st s h) (Nat.le_add_right _ _),hs.hD⟩
     have ahL:BX n ops.toList=true:=hok'.1
     refine Uj hE hS ops σ.next ahL none _ (List.range k) fr _ K w a' h1 List.nodup_range (fun i hi=>by have:=List.mem_range.1 hi;omega) hs' (Nat.le_refl _) (fun i hi hA=>by have:=hs.st _ hA;omega) ?_
     intro a1 K1 w1 hs1 st1
     show wpOpsIn (FW none) 0 E.P ops _ [k] a1 w1
     have atW:ops[k]? =some o:=by simpa using hko
     unfold wpOpsIn
     simp only[atW]
     have hw:Region.wanted o (yielded ops a1.tmps)=true:=aaH hs1.fr ops o (by rw[hs1.sz];exact ahL) (by unfold dZ;rw[hgd])
     rw[if_pos hw]
     refine⟨fun _ _=>trivial, ?_⟩
     unfold ahF at hq1
     split at hq1
     ·rename_i f gI
      split at hq1
      ·rename_i g xs ys Md
       simp only[Option.some.injEq] at hq1
       subst hq1
       have hrel:=vI hs1.ok hs1.fr f
       rw[Md] at hrel
       generalize hcf:a1.eval f=cf at hrel
       cases hrel with
       |fn _ _ _ av bv ha hb Gc Gf=>
       have hargs:=zD hs1.ok hs1.fr c.args
       have hex:((o.semAt (FW none).round a1.eval).run E.P w1)= .ok (.defer ⟨.fn (.func g) bv,av++c.args.map a1.eval⟩) w1:=by
        show (execOp a1.eval o).run E.P w1=_
        unfold execOp
        simp only[hoc]
        unfold resolve
        simp only[gI,hcf,Deferred.ofValue,Sem.run_bind,Sem.run_pure,Result.andThen_ok]
       rw[hex,Oper.uponIn_defer,hdst]
       show wpOpsIn (FW none) 0 E.P ops _ [] _ w1
       unfold wpOpsIn
       obtain⟨bs,d1,_,_,d4⟩:=hs1.df
       have hd0:a1.defers=[]:=by rw[d1,d4 rfl];rfl
       have hst:St E B0 σ1 K1 w1 bR {a1 with defers:=⟨.fn (.func g) bv,av++c.args.map a1.eval⟩::a1.defers} n ⟨[⟨.fn (.func g) bv,av++c.args.map a1.eval⟩],B,true⟩:=
        ⟨hs1.ok,hs1.hB,hs1.fr,hs1.sz,⟨[],by rw[hd0];rfl,List.nodup_nil,(fun b hb=>by cases hb),fun _=>rfl⟩,hs1.st,hs1.hD⟩
       refine wpIn_mono (YM B0 K1 w1 _ n _ hst hok'.2 zf.2) ?_
       rintro x a2 w2 ⟨y,hy,hx2,K2,hs2,st2⟩
       have nA:Step E B0 (newer σ y.2.2) σ K w y.2.2 K2 w2:=by
        have sa':Step E B0 (newer σ σ1) {σ with next:=σ.next+ops.size} K w σ1 K1 w1:=st1.mono (fun s h=>by
         have h0:σ.next+ops.size≤σ1.next:=hle1
         rcases h with h|h
         ·exact⟨h.1,by omega⟩
         ·exact⟨Nat.le_trans (Nat.le_add_right _ _) h.1,h.2⟩)
        have sa:Step E B0 (newer σ σ1) σ K w σ1 K1 w1:=⟨sa'.ok,sa'.ext,sa'.below,sa'.D,sa'.A,sa'.nI,sa'.uh⟩
        exact sa.widen st2 (Nat.le_trans (Nat.le_add_right _ _) hle1) (hle2 y hy)
       refine⟨y,hy,hx2,K2,nA,_,bv,rfl, ?_,hs2⟩
       exact RelA.ext st2.ext (Cq (Cq ⟨ha,Gc⟩ hargs) ⟨hb,Gf⟩)
      ·cases hq1
     ·cases hq1
    ·cases h
   ·exact go h
  ·exact go h
 |_=>intro fr σ L q h hnr hok;exact plain _ _ _ _ _ h hnr hok
theorem atX {m:Nat} (hE:kL E) {f:FuncId} {args:List V} {b:Bool} {k:Nat}
 (h:(YL E (bZ E m) (bZ E (m+1)) f args 1 ah.init).map (List.map Prod.fst)=some (List.replicate k (.bool b))):nT E f args (.bool b):=by
 have hS:=UA hE m
 have hS1:=(UA hE (m+1)).code
 obtain⟨R,h,hR⟩:=Option.map_eq_some_iff.1 h
 have hv:∀y∈R,y.1=V.bool b:=fun y hy=>by
  have h1:y.1∈R.map Prod.fst:=List.mem_map_of_mem hy
  rw[hR] at h1
  exact List.eq_of_mem_replicate h1
 simp only[YL,Option.bind_eq_some_iff] at h
 obtain⟨fn,hfn,c,hc,h⟩:=h
 split at h
 ·rename_i hok
  obtain⟨hlen,ahM,hnr⟩:=hok
  simp only[Option.bind_eq_some_iff] at h
  obtain⟨⟨L,q⟩,hcode,h⟩:=h
  refine⟨⟨fn,c,hfn,hc⟩,fun I IM w cZ hl hr=> ?_⟩
  have hs:=Uc hl
  have hr':RelA (aR.lend I IM) ah.init.top w args cZ:=hr
  have hst:=ahG (E:=E) (f:=f) (d:=1) (fn:=fn) hs (Nat.le_refl w.heap.size) (fun s hs=>hs.elim) hr' hlen
  have hwp:=(ahK (B:=w.heap.size) hE hS hS1 c _ _ _ _ hcode hnr ahM).2 w.heap.size _ w _ hst
  have fin:∀{σ2:ah} {K2:aR} {w2:World} {cv:Value},Step E w.heap.size (newer ah.init σ2) ah.init (aR.lend I IM) w σ2 K2 w2→Rel K2 σ2.top w2 (.bool b) cv→Ub I IM w (.bool b) (.returned cv) w2:=by
   intro σ2 K2 w2 cv st r
   refine⟨st.below, ?_⟩
   cases r
   exact .bool b
  refine callsIn_of_wp_marks hfn hc trivial (wpIn_mono hwp ?_)
  rintro x a' w' ⟨⟨e,bR,σ1⟩,hy,hx,K',st',hdq⟩
  obtain⟨z,hz,hend⟩:=mapM_mem h _ hy
  have hzv:=hv z hz
  have hne:e= .normal∨e= .ret:=by
   cases e with
   |normal=>exact .inl rfl
   |ret=>exact .inr rfl
   |exit i=>simp[ahI] at hend
  have hend':∃σ2 vs,(match q with
   |none=>some σ1
   |some (g,as)=>if KY E g=true then ((bZ E (m+1)).call g as (1+1) σ1).map Prod.snd else none)=some σ2∧fn.results.toList.mapM (iD E bR σ2)=some vs∧KZ vs= .bool b:=by
   have h1:((match q with
    |none=>some σ1
    |some (g,as)=>if KY E g=true then ((bZ E (m+1)).call g as (1+1) σ1).map Prod.snd else none).bind fun σ=>(fn.results.toList.mapM (iD E bR σ)).map fun vs=>(KZ vs,σ))=some z:=by
    rcases hne with rfl|rfl<;>exact hend
   obtain⟨σ2,g1,g2⟩:=Option.bind_eq_some_iff.1 h1
   simp only[Option.map_eq_some_iff] at g2
   obtain⟨vs,g3,g4⟩:=g2
   exact⟨σ2,vs,g1,g3,by rw[←hzv,←g4]⟩
  obtain⟨σ2,vs,hq,hvs,hvb⟩:=hend'
  have hleave:LeavesInM Fence.wide 0 E.P fn a'.tmps (Ub I IM w (.bool b)) a'.defers .returning w':=by
   cases q with
   |none=>
    cases hq
    have hs':St E w.heap.size σ1 K' w' bR a' fn.ntmps ⟨[],w.heap.size,true⟩:=hdq
    obtain⟨bs,d1,_,_,d4⟩:=hs'.df
    have hd:a'.defers=[]:=by rw[d1,d4 rfl];rfl
    rw[hd]
    obtain⟨cv,r1,r2⟩:=YK hs'.ok hs'.fr hvs
    rw[hvb] at r2
    exact⟨cv,r1,fin st' r2⟩
   |some p=>
    obtain⟨g,as⟩:=p
    obtain⟨dd,cap,htar,hra,hs'⟩:=hdq
    obtain⟨bs,d1,_,_,d4⟩:=hs'.df
    have hd:a'.defers=[dd]:=by rw[d1,d4 rfl];rfl
    rw[hd]
    dsimp only at hq
    split at hq
    ·rename_i hcalm
     simp only[Option.map_eq_some_iff] at hq
     obtain⟨⟨v2,σ3⟩,h2,h3⟩:=hq
     cases h3
     obtain⟨fg,cg,hfg,hcg,hle2,hwg⟩:=atO hS.code (show sw E (bZ E m) g as (1+1) σ1=some (v2,σ3) from h2) hcalm
     have hinv:(invoke dd.target dd.args).run E.P w'= .ok (.enter g (dd.args++cap)) w':=by
      rw[htar]
      exact L6 hE ⟨fg,cg,hfg,hcg⟩ _ _
     refine⟨by simp,.inr ⟨(fun h=>by simp[Fence.wide] at h),.func g,cap,g,dd.args++cap,htar,hinv,(fun _ _=>trivial), ?_⟩⟩
     refine(callsDIn_of_wp hfg hcg trivial (hwg w.heap.size K' w' (dd.args++cap) hs'.ok hs'.hB hs'.st hra)).mono ?_
     rintro e u' w'' ⟨rfl,hp⟩
     cases e with
     |returned cv=>
      obtain⟨K2,r1,Gu,hA2,st2⟩:=hp
      have hf2:jJ K2 σ3.top w'' bR a'.tmps:=hs'.fr.ext st2.ext
      obtain⟨cv2,r3,r4⟩:=YK Gu hf2 hvs
      rw[hvb] at r4
      have hle1:=(ahK (B:=w.heap.size) hE hS hS1 c _ _ _ _ hcode hnr ahM).1 _ hy
      exact⟨cv2,r3,fin (st'.widen st2 hle1 hle2) r4⟩
     |panicked ch=>exact hp.elim
     |outgrown=>exact hp.elim
    ·cases hq
  rcases hne with rfl|rfl<;>cases x<;>simp only[jX] at hx<;>exact hleave
 ·simp at h
end
end Aq
end
