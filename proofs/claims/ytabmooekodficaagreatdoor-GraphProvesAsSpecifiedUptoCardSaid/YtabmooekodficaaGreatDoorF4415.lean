import Derived.ChangeSame
import Derived.ChangeStays
import Derived.RowKit
import Derived.Test.YtabmooekodficaaGreatDoorF4414
set_option linter.all false
namespace Aq
open Go Go.RowKit Go.ChangeShapes Go.WideShapes
section
variable {P:Program} {w:World} {H:Type} {enc:TypeId×Value->H} {bk:DataW H->Nat} {bs:List (DataW H)->Nat} (R:Reg)
theorem Pj (hb:Bulk H bk bs) (hR:RegOK R) {T:Nat->Nat} (hty:∀t τ,R.ty t=some τ->tyOK R P t τ=true) {t:TypeId} {v:Value} {d:DataW H} {ps:List MemPlace} {τ:Ty} (ht:R.ty t=some τ)
 {r:Reach} {base:Nat} (hok:Value.okWide P w r base t v) (h:DataW.Trod enc P w 0 (fun _=>true) true t v d ps):∃x:Den R.T τ,Rel (KA w) T w (encD R τ x) v/\vsr (encD R τ x)<=bk d:=by
 obtain⟨fuel,h⟩:=h
 obtain⟨x,h1,h2⟩:=ZW R hb hR (T:=T) hty fuel t _ d ps τ ht h
 refine⟨x,?_,h2⟩
 have ho:=hty t τ ht
 have one:∀c,v=c->c.cells= #[c]->(encD R τ x).cells=[encD R τ x]->Rel (KA w) T w (encD R τ x) v:=by
  intro c hv hc he
  subst hv
  rw[hc,he] at h1
  exact h1.2 0 (by simp)
 cases τ with
 |int k=>
  simp only[tyOK] at ho
  split at ho
  ·rename_i k' hu
   obtain⟨n,rfl⟩:=okWide_int hu hok
   exact one _ rfl rfl rfl
  ·cases ho
 |bool=>
  simp only[tyOK] at ho
  split at ho
  ·rename_i hu
   obtain⟨n,rfl⟩:=okWide_bool hu hok
   exact one _ rfl rfl rfl
  ·cases ho
 |str=>
  simp only[tyOK] at ho
  split at ho
  ·rename_i hu
   obtain⟨n,rfl⟩:=okWide_string hu hok
   exact one _ rfl rfl rfl
  ·cases ho
 |slice τ=>
  simp only[tyOK] at ho
  split at ho
  ·rename_i e hu
   obtain⟨a,l,c,rfl⟩:=okWide_slice hu hok
   exact one _ rfl rfl rfl
  ·cases ho
 |st n=>
  simp only[tyOK] at ho
  split at ho
  ·rename_i ts hts
   rw[RS] at ho
   have hagg:∃cs,v= .agg cs:=by
    have hs:=ho.2
    unfold yF at hs
    unfold Value.okWide at hok
    split at hs
    ·rename_i fs hu
     rw[hu] at hok
     exact⟨_,hok.choose_spec.1⟩
    ·rename_i m e hu
     rw[hu] at hok
     exact⟨_,hok.choose_spec.1⟩
    ·cases hs
   obtain⟨cs,rfl⟩:=hagg
   have he:encD R (.st n) x= .agg (encs R (R.lf n) (R.of n x)):=hR.enc n x
   rw[he] at h1⊢
   obtain⟨h3,h4⟩:=h1
   have h3':(encs R (R.lf n) (R.of n x)).length=cs.toList.length:=h3
   refine .agg _ cs (by simpa using h3') (fun i hi=>?_)
   have h5:Rel (KA w) T w ((encs R (R.lf n) (R.of n x)).getD i undefV) (cs.toList.getD i undef):=h4 i hi
   simpa [ae5,afr] using h5
  ·cases ho
theorem Pk (hb:Bulk H bk bs) (hR:RegOK R) {T:Nat->Nat} (hty:∀t τ,R.ty t=some τ->tyOK R P t τ=true) {r:Reach} {base:Nat}:∀(l:List Ty) (ts:List TypeId) (vs:List Value) (ds:List (DataW H)) (ps:List MemPlace),ts.map R.ty=l.map some->
 (∀(j:Nat) t v,ts[j]? =some t->vs[j]? =some v->Value.okWide P w r base t v)->DataW.TrodAll enc P w 0 (fun _=>true) true ts vs ds ps->
 ∃p:PayL R.T (l.map Sk.d),iw (KA w) T w (encSL R (l.map Sk.d) p) vs/\vsrL (encSL R (l.map Sk.d) p)<=bs ds
 | [],ts,vs,ds,ps,hm,hok,h=>by
   have:ts=[]:=by simpa using hm
   subst this
   obtain⟨rfl,rfl,rfl⟩:=trodAll_nil h
   exact⟨(),⟨rfl,fun j hj=>absurd hj (ab2 j)⟩,by rw[hb.nil];exact iP _⟩
 | [τ],ts,vs,ds,ps,hm,hok,h=>by
   cases ts with
   |nil=>simp at hm
   |cons u ts=>
    simp only[aez,List.map_nil,afg,List.map_eq_nil_iff] at hm
    obtain⟨hu,rfl⟩:=hm
    obtain⟨v0,vs0,d0,ds0,p0,q0,rfl,rfl,rfl,h0,r0⟩:=trodAll_cons h
    obtain⟨rfl,rfl,rfl⟩:=trodAll_nil r0
    obtain⟨x,h3,h4⟩:=Pj R hb hR (T:=T) hty hu (hok 0 u v0 rfl rfl) h0
    refine⟨x,iw.cons h3 ⟨rfl,fun j hj=>absurd hj (ab2 j)⟩,?_⟩
    rw[hb.cons,hb.nil]
    show vsr (encD R τ x)+0<=_
    omega
 |τ::τ'::l,ts,vs,ds,ps,hm,hok,h=>by
  cases ts with
  |nil=>simp at hm
  |cons u ts=>
   rw[aez,aez] at hm
   injection hm with hu hm
   obtain⟨v0,vs0,d0,ds0,p0,q0,rfl,rfl,rfl,h0,r0⟩:=trodAll_cons h
   obtain⟨x,h3,h4⟩:=Pj R hb hR (T:=T) hty hu (hok 0 u v0 rfl rfl) h0
   obtain⟨p,h5,h6⟩:=Pk hb hR hty (τ'::l) ts vs0 ds0 q0 hm (fun j t v h1 h2=>hok (j+1) t v h1 h2) r0
   refine⟨(x,p),iw.cons h3 h5,?_⟩
   rw[hb.cons]
   show vsr (encD R τ x)+vsrL (encSL R ((τ'::l).map Sk.d) p)<=_
   omega
theorem ZY {K:aB} {T:Nat->Nat} {vs:List V} {args:Array Value} (h:iw K T w vs args.toList):RelA K T w vs args:=by
 refine⟨by simpa using h.1,fun i hi=>?_⟩
 have:=h.2 i hi
 simpa [ae5,afr] using this
end
section
variable {P:Program} {H:Type} {enc:TypeId×Value->H}
theorem Pm {Tp:TypeId->Prop} (K:Kids P Tp) (hsz:∀{t e:TypeId},Tp t->P.underlying t=some (.slice e)->0<P.cellsOf e) {W W':World} (hbel:Below W.heap.size W W') {sp:Nat->Bool}:
 ∀{ts:List TypeId} {vs:List Value} {ds:List (DataW H)} {ps:List MemPlace},(∀t∈ts,Tp t)->DataW.TrodAll enc P W 0 (fun _=>true) true ts vs ds ps->(∀p∈ps,p.block<W.heap.size)->(∀p∈ps,sp p.block=true)->DataW.TrodAll enc P W' 0 sp true ts vs ds ps
 | [],[],[],_,_,h,_,_=>h
 |_::_,_::_,_::_,_,hT,⟨p,q,⟨n,h1⟩,h2,e⟩,hlt,hs=>by
  subst e
  refine⟨p,q,⟨n,?_⟩,Pm K hsz hbel (fun t ht=>hT t (ae0 _ ht)) h2 (fun x hx=>hlt x (afD _ hx)) (fun x hx=>hs x (afD _ hx)),rfl⟩
  exact DataW.trod_stays K hsz (fun h=>by cases h) (hT _ (by simp)) h1 (fun x hx=>hbel.same (hlt x (afI _ hx))) (fun x hx=>hs x (afI _ hx))
 | [],_::_,_,_,_,h,_,_=>h.elim
 | [],[],_::_,_,_,h,_,_=>h.elim
 |_::_,[],_,_,_,h,_,_=>h.elim
 |_::_,_::_,[],_,_,h,_,_=>h.elim
theorem Z0 {f:Func} {s:ChangeSpec} {apart fresh handsOn again:Bool} {W W':World} {args:Array Value} {v:Value} {ds gs:List (DataW H)} {before pa pv:List MemPlace}
 (hW:DataW.Whole enc P f.params.toList s.vars apart W args.toList ds gs before)
 (hres:∀(b:Nat) (sp:Nat->Bool) (hd:Bool),DataW.TrodAll enc P W' b sp hd f.resultTypes.toList (v.resultList f.resultTypes.size) (s.fn H (ds++gs)).results [])
 (hargs:∀sp:Nat->Bool,(∀p∈before,sp p.block=true)->DataW.TrodAll enc P W' 0 sp true f.params.toList args.toList (s.fn H (ds++gs)).args pa)
 (hvars:∀sp:Nat->Bool,(∀p∈before,sp p.block=true)->DataW.TrodVars enc P W' sp s.vars (s.fn H (ds++gs)).vars pv)
 (hps:before=pa++pv) (hbel:Below W.heap.size W W')
 (hok:∀(j:Nat) (t:TypeId) (r:Value),f.resultTypes[j]? =some t->(v.resultList f.resultTypes.size)[j]? =some r->Value.okWide P W' .any 0 t r):
 s.post enc P f apart fresh handsOn again W args v W':=by
 have hlt:∀p∈before,p.block<W.heap.size:=hW.lt
 have hold:∀p∈before,(fun b=>decide (b<W.heap.size)) p.block=true:=fun p hp=>by simpa using hlt p hp
 refine⟨ds,gs,before,[],pa,pv,hW,hres _ _ _,hargs _ hold,hvars _ hold,World.keptBut_mono (fun p hp=>⟨hp,?_⟩) (hbel.frame (· ∈before)),fun _=>?_⟩
 ·rw[hps,afP] at hp
  exact Or.inr hp
 ·obtain⟨_,_,_,_,_,hz,hn⟩:=hW
  refine⟨hok,_,_,([]++pa)++pv,⟨[]++pa,pv,trodAll_append (hargs _ (fun _ _=>rfl)) (hres _ _ _),hvars _ (fun _ _=>rfl),rfl,?_,?_⟩,?_⟩
  ·intro b off hp
   have hp':MemPlace.cell b off∈before:=by rw[hps];simpa using hp
   rw[hbel.frozen (p:=⟨b,off,none⟩) (hlt _ hp')]
   exact hz b off hp'
  ·intro ha
   have:=hn ha
   rw[hps] at this
   simpa using this
  ·intro p hp _
   rw[hps]
   simpa using hp
end
theorem Z4 {E:Env} {R:Reg} {H:Type} {enc:TypeId×Value->H} {bk:DataW H->Nat} {bs:List (DataW H)->Nat} (hb:Bulk H bk bs) (hR:RegOK R) (hty:∀t τ,R.ty t=some τ->tyOK R E.P t τ=true)
 {Tp:TypeId->Prop} (K:Kids E.P Tp) (hsz:∀{t e:TypeId},Tp t->E.P.underlying t=some (.slice e)->0<E.P.cellsOf e) {f:FuncId} {fn:Func} {s:ChangeSpec} {apart fresh handsOn again:Bool} {W:World} {base:Nat} {args:Array Value} {ds gs:List (DataW H)} {before:List MemPlace}
 {l:List Ty} (hl:fn.params.toList.map R.ty=l.map some) (hT:∀t∈fn.params.toList,Tp t) (hvars:s.vars=[])
 (hspec:s.fn H ds={results:=[.lit (.bool true)],args:=ds})
 {tb:TypeId} (hres:fn.resultTypes= #[tb]) (Iy:E.P.underlying tb=some .bool)
 (hval:∀(j:Nat) t v,fn.params[j]? =some t->args[j]? =some v->Value.okWide E.P W .any base t v)
 (hW:DataW.Whole enc E.P fn.params.toList s.vars apart W args.toList ds gs before)
 (Z5:∀g cs,E.glob g=some cs->Rel (KA W) (fun _=>0) W (.cref cs 0) (.pointer (some (at_ g 0))))
 (Z6:∀p:PayL R.T (l.map Sk.d),vsrL (encSL R (l.map Sk.d) p)<=bs ds->PureOK E f (encSL R (l.map Sk.d) p) (.bool true)):
 Calls E.P f args W fun e W'=>∃v,e= .returned v/\s.post enc E.P fn apart fresh handsOn again W args v W':=by
 have hW':=hW
 obtain⟨p,q,hA,hV,hpq,_,_⟩:=hW
 rw[hvars] at hV
 obtain⟨rfl,rfl⟩:=trodVars_none hV
 rw[aeX] at hpq
 subst hpq
 obtain⟨x,h1,h2⟩:=Pk R hb hR (T:=fun _=>0) hty (r:=.any) (base:=base) l fn.params.toList args.toList ds _ hl (fun j t v h1 h2=>hval j t v (by simpa using h1) (by simpa using h2)) hA
 obtain⟨_,hcall⟩:=Z6 x h2
 have hc:=callsIn_wide.1 (hcall (allI W) _ W args ⟨fun b o h=>h,fun b h=>h,Z5⟩ (ZY h1))
 refine hc.mono fun e W' he=>?_
 cases e with
 |returned c=>
  obtain⟨hbel,hrel⟩:=he
  cases hrel
  have hlt:∀p∈before,p.block<W.heap.size:=hW'.lt
  refine⟨_,rfl,Z0 (pa:=before) (pv:=[]) hW' (fun b sp hd=>?_) (fun sp hs=>?_) (fun sp hs=>?_) (by simp) hbel ?_⟩
  ·rw[aeX,hspec,hres]
   exact trodAll_mk1 ⟨1,by simp[DataW.trod,Iy,Value.cells]⟩
  ·rw[aeX,hspec]
   exact Pm K hsz hbel hT hA hlt hs
  ·rw[aeX,hspec,hvars];exact rfl
  ·exact ok_one hres rfl (by unfold Value.okWide;rw[Iy];simp[Cell.okWide,Cell.ok,Iy])
 |panicked ch=>exact he.elim
 |outgrown=>exact he.elim
end Aq
