import Derived.Test.YteniejlbjfigdaaGreatDoorF508
set_option linter.all false
section
namespace aR
open Go
section
variable {R:kE}{E:Env}
variable {C:bA}{top:Nat->Nat}
def qo (C:bA)(top:Nat->Nat)(v:Option V):eY R->Prop
 |.t x=>∃y,v=some y/\aA R C top x y|.c c x=>c=true->∃y,v=some y/\aA R C top x y|.p _ _ o f=>∀a,o=some a->∃y,v=some y/\aA R C top (f a) y|_=>False
theorem agr {op:BinOp}{k:IntKind}{x y:Int}{r:eY R}(h:Rl R op k x y=some r):qo C top (mI op k x y) r:=by
 unfold Rl at h;cases op<;>cases h<;>first
  |exact⟨_,rfl,fV⟩
  | (intro hc
     have hy:¬y=0:=(by simpa using hc);exact⟨_,if_neg hy,fV⟩)
theorem aqG {op:BinOp}{k:IntKind}{x y:Int}{r:eY R}(h:Wy R op k x y=some r):qo C top (KY op k x y) r:=by
 unfold Wy at h;cases op<;>cases h<;>
  (intro hc
   have hy:¬y<0:=by have:=of_decide_eq_true hc;omega
   exact⟨_,if_neg hy,fV⟩)
theorem aqH {op:BinOp}{x y:List UInt8}{r:eY R}(h:Wz R op x y=some r):qo C top (BM op x y) r:=by
 unfold Wz at h;cases op<;>cases h<;>first
  |exact⟨_,rfl,fV⟩
  | (intro hc
     have hy:¬((x.length+y.length:Nat):Int)>IntKind.i64.max:=(by have:=of_decide_eq_true hc;omega);exact⟨_,if_neg hy,fV⟩)
theorem aqI {P:Program}{op:BinOp}{t:TypeId}{k:IntKind}{a b:Int}(h:H8 op=false):rZ P op t (.int k a) (.int k b)=mI op k a b:=by
 cases op<;>first| (simp[H8] at h;done)|simp[rZ]
theorem aqJ {P:Program}{op:BinOp}{t:TypeId}{k k':IntKind}{a b:Int}(h:H8 op=true):rZ P op t (.int k a) (.int k' b)=KY op k a b:=by
 cases op<;>first| (simp[H8] at h;done)|rfl
theorem aqK {P:Program}{op:BinOp}{t:TypeId}{a b:List UInt8}:rZ P op t (.str a) (.str b)=BM op a b:=by
 cases op<;>rfl
theorem aqL {P:Program}{t:TypeId}{x y:V}{b:Bool}(h:uX P t x y=some b):(∀k n k' m,x= .int k n->y= .int k' m->False)/\∀s s',x= .str s->y= .str s'->False:=by
 unfold uX at h;constructor
 .intro k n k' m hx hy;subst hx;subst hy;split at h<;>simp_all
 .intro s s' hx hy;subst hx;subst hy;split at h<;>simp_all
theorem ags {P:Program}{t:TypeId}{x y:V}{b:Bool}(h:uX P t x y=some b):rZ P .eql t x y=some (.bool b)/\rZ P .neq t x y=some (.bool !b):=by
 obtain⟨h1,h2⟩:=aqL h;constructor;all_goals
  unfold rZ;split
  .rename_i he;cases he
  .rename_i he;cases he
  .exact(h1 _ _ _ _ rfl rfl).elim
  .exact(h2 _ _ rfl rfl).elim
  all_goals first| (rw[h];rfl)| (rename_i he;cases he)|simp_all
theorem aqM {op:BinOp}{t:TypeId}{x y:au R.T}{v w:V}{r:eY R}(h:WA E R op t x y=some r)(hx:aA R C top x v)(hy:aA R C top y w):qo C top (rZ E.P op t v w) r:=by
 unfold WA at h;split at h
 .rename_i k a k' b;rw[hx.iO,hy.iO];cases hs:H8 op
  .rw[hs,cond_false] at h;split at h
   .rename_i e;subst e;rw[aqI hs];exact agr h
   .cases h
  .rw[hs,cond_true] at h;rw[aqJ hs];exact aqG h
 .rw[hx.oN,hy.oN,aqK];exact aqH h
 .split at h
  .split at h
   .rename_i b hb;cases h;exact⟨_,(ags (agq hb hx hy)).1,fV⟩
   .cases h
  .split at h
   .rename_i b hb;cases h;exact⟨_,(ags (agq hb hx hy)).2,fV⟩
   .cases h
  .cases h
theorem aqN {op:UnOp}{x:au R.T}{v:V}{r:eY R}(h:WB R op x=some r)(hx:aA R C top x v):qo C top (Eo op v) r:=by
 unfold WB at h;split at h
 .cases h;rw[hx.iO];exact⟨_,rfl,fV⟩
 .rw[hx.iO];exact agr h
 .cases h;rw[hx.rH];exact⟨_,rfl,fV⟩
 .cases h;rw[hx.vJ];exact⟨_,rfl,fV⟩
 .cases h
theorem aqO (s:List UInt8):s.map wF=List.map (aO R (.int .u8)) (s.map fun b=>(b.toNat:Int)):=by show s.map wF=List.map (fun n:Int=>V.int .u8 n) (List.map (fun b:UInt8=>(b.toNat:Int)) s);rw[yT];rfl
theorem Xv:∀l:List Int,(List.map (aO R (.int .u8)) l).mapM Ep=some (List.map (fun n:Int=>UInt8.ofNat n.toNat) l)
 | []=>rfl|n::l=>by show List.mapM Ep (V.int .u8 n::List.map (aO R (.int .u8)) l)=_;rw[iG,Xv l];rfl
theorem aqP {a b:TypeId}{x:au R.T}{v:V}{Z:ah}{r:eY R}(h:Rm E R a b x=some r)(hx:aA R C top x v):qo C top (Ah E.P Z a b v) r:=by
 unfold Rm at h;unfold Ah;split at h
 .rename_i hu hv;cases h;rw[hx.iO,hu,hv];exact⟨_,rfl,fV⟩
 .rename_i hu hv;cases h;rw[hx.oN,hu,hv];exact⟨_,rfl,fV⟩
 .rename_i l hu hv;obtain⟨c',rfl,_⟩:=hx.mo;rw[hu,hv];split at h
  .rename_i he;cases h;dsimp only;rw[he];exact⟨_,congrArg (Option.map V.str) (Xv (R:=R) l),fV⟩
  .cases h
 .rename_i hu hv;rw[hx.uq,hu,hv];split at h
  .rename_i he;cases h;dsimp only;rw[he];exact⟨_,rfl,fV⟩
  .cases h
 .cases h
theorem CS {x:Option (au R.T)}{v:Option V}{i:Option Int}(h:Cu R x=some i)(hx:∀y,x=some y->∃w,v=some w/\aA R C top y w)(hn:x=none->v=none):(i=none/\v=none)\/∃n k,i=some n/\v=some (.int k n):=by
 unfold Cu at h;split at h
 .cases h;exact .inl ⟨rfl,hn rfl⟩
 .rename_i k n;cases h;obtain⟨w,rfl,hw⟩:=hx _ rfl;exact .inr ⟨n,k,rfl,by rw[hw.iO]⟩
 .cases h
theorem vL {k:IntKind}{n:Int}{m:Nat}(h:kK n m=true):bnd (.int k n) m=some n.toNat:=by unfold kK at h;have:=of_decide_eq_true h;simp[bnd,pG,this]
theorem agt {J:Type}(l:List J){lo hi:Option Int}{vl vh:Option V}(hl:(lo=none/\vl=none)\/∃n k,lo=some n/\vl=some (.int k n))(hh:(hi=none/\vh=none)\/∃n k,hi=some n/\vh=some (.int k n))(hb:WC l.length lo hi=true):
 ∃a c,jq l.length l.length vl vh none=some (a,c,l.length)/\(l.take c).drop a=uh l lo hi:=by
 rcases hl with ⟨rfl,rfl⟩| ⟨n,k,rfl,rfl⟩<;>rcases hh with ⟨rfl,rfl⟩| ⟨m,k',rfl,rfl⟩
 .exact⟨0,l.length,rfl,by simp[uh]⟩
 .have h1:kK m l.length=true:=hb;exact⟨0,m.toNat,by simp[jq,vL h1],by simp[uh]⟩
 .have h1:kK n l.length=true:=hb;exact⟨n.toNat,l.length,by simp[jq,vL h1],by simp[uh]⟩
 .have h1:(kK m l.length&& kK n m.toNat)=true:=hb;rw[aZ] at h1;exact⟨n.toNat,m.toNat,by simp[jq,vL h1.1,vL h1.2],by simp[uh]⟩
theorem Xw {J:Type}(f:J->V)(l:List J)(a c:Nat):((l.map f).take c).drop a=((l.take c).drop a).map f:=aB
variable (hR:rG R)
include hR
theorem IC (t:Ty)(x:Den R.T t):(aO R t x).cells.length=dB R t/\bY (aO R t x).cells=true/\er (aO R t x)=aO R t x/\(jC t=true->∃l,aO R t x= .agg l)/\(jC t=false->(aO R t x).cells=[aO R t x]):=by
 cases t with
 |int k=>exact⟨rfl,rfl,rfl,by simp[jC],fun _=>rfl⟩
 |bool=>exact⟨rfl,rfl,rfl,by simp[jC],fun _=>rfl⟩
 |str=>exact⟨rfl,rfl,rfl,by simp[jC],fun _=>rfl⟩
 |slice t=>exact⟨rfl,rfl,rfl,by simp[jC],fun _=>rfl⟩
 |st n=>
  have he:aO R (.st n) x= .agg (encs R (R.lf n) (R.of n x)):=hR.enc n x;rw[he];have hl:=hR.leaf n;have key:∀(l:List Ty)(p:qj R.T l),l.all pQ=true->bY (encs R l p)=true/\(encs R l p).map gu=encs R l p:=by
   intro l;induction l with
   |nil=>intro p _;exact⟨rfl,rfl⟩|cons t l ih=>
    intro p h;rw[List.all_cons,aZ] at h;have h1:∀y:Den R.T t,oneCell (aO R t y)=true/\gu (aO R t y)=aO R t y:=(by intro y;cases t<;>first|exact⟨rfl,rfl⟩| (have:=h.1;simp[pQ] at this));cases l with
    |nil=>exact⟨by simp[encs,bY,(h1 p).1],by simp[encs,(h1 p).2]⟩|cons u l=>have:=ih p.2 h.2;exact⟨by show (oneCell _&& bY (encs R (u::l) p.2))=true;rw[(h1 p.1).1,this.1];rfl,by show gu _::List.map gu (encs R (u::l) p.2)=_;rw[(h1 p.1).2,this.2];rfl⟩
  have:=key (R.lf n) (R.of n x) hl;exact⟨Xc _ _,this.1,by show V.agg (List.map gu _)=_;rw[this.2],fun _=>⟨_,rfl⟩,by simp[jC]⟩
theorem Mx {t:Ty}(l:List (Den R.T t)):og (dB R t) (l.map (aO R t))=true:=by
 cases l with
 |nil=>rfl|cons x l=>show ((aO R t x).cells.length==dB R t)=true;rw[(IC hR t x).1];simp
theorem aqQ {t:TypeId}{x:au R.T}{lo hi:Option (au R.T)}{v:V}{vl vh:Option V}{Z:ah}{r:eY R}(h:Rn E R t x lo hi=some r)(hx:aA R C top x v)(hl:∀y,lo=some y->∃w,vl=some w/\aA R C top y w)(hln:lo=none->vl=none)(hh:∀y,hi=some y->∃w,vh=some w/\aA R C top y w)(hhn:hi=none->vh=none):qo C top (kQ E.P Z t v vl vh none) r:=by
 unfold Rn at h;split at h
 .rename_i lo' hi' e1 e2;have b1:=CS e1 hl hln;have b2:=CS e2 hh hhn;split at h
  .rename_i s hu;cases h;rw[hx.oN];intro hc;obtain⟨a,c,h1,h2⟩:=agt s b1 b2 hc;refine⟨.str (uh s lo' hi'),?_,fV⟩;unfold kQ;rw[hu];dsimp only;rw[h1];simp[h2]
  .rename_i e c u l hu;split at h
   .rename_i sz hs;cases hb:Nat.beq sz (dB R u)
    .rw[hb] at h;cases h
    .rw[hb,cond_true] at h;cases h;have:=fH hb;subst this;obtain⟨c',rfl,_⟩:=hx.mo;intro hc;obtain⟨a,m,h1,h2⟩:=agt l b1 b2 hc;unfold kQ;rw[hu];dsimp only;rw[hs];simp only[Option.bind_some,eU,h1,Mx hR,if_true];by_cases hcs:a=0/\m=l.length/\(none:Option V).isNone=true
     .refine⟨_,by rw[if_pos hcs],?_⟩;unfold aA;refine⟨c',?_,trivial⟩;rw[<-h2,hcs.1,hcs.2.1];simp
     .refine⟨_,by rw[if_neg hcs],?_⟩;unfold aA;exact⟨_,by rw[<-h2,Xw],trivial⟩
   .cases h
  .cases h
 .cases h
theorem RX {t:TypeId}{k:Ty}(hk:Au E t k=true)(x y:Den R.T k):p8 (aO R k x) (aO R k y)=some (mK R k x y)/\oh E.P t (aO R k x)=true:=by
 unfold Au at hk;split at hk
 .rename_i hu;exact⟨by simp[p8,aO,mK],by unfold oh;rw[hu];rfl⟩
 .rename_i hu;exact⟨rfl,by unfold oh;rw[hu];rfl⟩
 .rename_i hu;exact⟨rfl,by unfold oh;rw[hu];rfl⟩
 .cases hk
theorem agu {t:TypeId}{k e:Ty}(hk:Au E t k=true)(x:Den R.T k):∀m:List (Den R.T k×Den R.T e),r9 (aO R k x) (m.map fun p=>aO R k p.1) (m.map fun p=>aO R e p.2)=some ((yh (mK R k) x m).map (aO R e))
 | []=>rfl| (a,v)::m=>by
   show (p8 (aO R k x) (aO R k a)).bind _=some ((bif mK R k x a then some v else yh (mK R k) x m).map (aO R e));rw[(RX hR hk x a).1,Option.bind_some];cases mK R k x a
   .exact agu hk x m
   .rfl
theorem agv {t:TypeId}{k e:Ty}(hk:Au E t k=true)(x:Den R.T k)(v:Den R.T e):∀m:List (Den R.T k×Den R.T e),yX (aO R k x) (aO R e v) (m.map fun p=>aO R k p.1) (m.map fun p=>aO R e p.2)=some ((zm (mK R k) x v m).map (fun p=>aO R k p.1),(zm (mK R k) x v m).map fun p=>aO R e p.2)
 | []=>rfl| (a,w)::m=>by
   show (p8 (aO R k x) (aO R k a)).bind _=_;rw[(RX hR hk x a).1,Option.bind_some];show _=some (List.map _ (bif mK R k x a then (x,v)::m else (a,w)::zm (mK R k) x v m),List.map _ (bif mK R k x a then (x,v)::m else (a,w)::zm (mK R k) x v m));cases mK R k x a
   .simp only[bZ,if_false,cond_false];rw[agv hk x v m];rfl
   .rfl
theorem agw {t:TypeId}{k:Ty}(hk:Au E t k=true){x:Den R.T k}{y:au R.T}{v:V}(h:uf R k y=some x)(hr:aA R C top y v):v=aO R k x:=by
 unfold Au at hk;split at hk
 .exact W9 h hr
 .exact Xb h hr
 .exact Xa h hr
 .cases hk
omit hR in
def mapOf (Z:ah):V->Option (List V×List V)
 |.gP=>some ([],[])|.dQ loc s=>Z.jh loc s|.eF ks vs=>some (ks,vs)|_=>none
omit hR in
theorem agx {P:Program}{Z:ah}{t:TypeId}{m k:V}{ok:Bool}:yY P Z t m k ok=(wE P t).bind fun p=>if oh P p.1 k then (mapOf Z m).bind fun q=>(r9 k q.1 q.2).bind fun r=>(match r with|some v=>some (v,true)|none=>(iM P p.2).map fun z=>(z,false)).map fun (x:V×Bool)=>if ok then .bK [x.1,.bool x.2] else x.1 else none:=by
 cases m<;>rfl
theorem Xx {t:TypeId}{k e:Ty}{m:List (Den R.T k×Den R.T e)}{y:au R.T}{w mv:V}{ok:Bool}{Z:ah}{r:eY R}(h:Mc E R t k e m y ok=some r)(hy:aA R C top y w)(hm:mapOf Z mv=some (m.map (fun p=>aO R k p.1),m.map fun p=>aO R e p.2)):qo C top (yY E.P Z t mv w ok) r:=by
 unfold Mc at h;split at h
 .rename_i kt et ht;cases hk:Au E kt k
  .rw[hk] at h;cases h
  .rw[hk,cond_true] at h;split at h
   .rename_i z hz;split at h
    .rename_i z' x hz' hx;cases h;have hw:=agw hR hk hx hy;subst hw;obtain⟨zv,hzv,Xy⟩:=Mw (C:=C) (top:=top) hz;have aqR:=Ms hR hz' Xy;rw[agx,ht];simp only[Option.bind_some];rw[if_pos (RX hR hk x x).2,hm];simp only[Option.bind_some];rw[agu hR hk x m];simp only[Option.bind_some];cases hg:yh (mK R k) x m with
     |some v=>
      simp only[Option.map_some];cases ok
      .exact⟨_,rfl,RN hR .any (.inl rfl) e v⟩
      .refine⟨_,rfl,?_⟩;rw[cond_true];unfold aA;exact⟨_,rfl,.cons' (RN hR .any (.inl rfl) e v) (.cons' fV rfl)⟩
     |none=>
      simp only[Option.map_none,hzv,Option.map_some];have hz3:aA R C top (iI R .any e z') zv:=aqR;cases ok
      .exact⟨_,rfl,hz3⟩
      .refine⟨_,rfl,?_⟩;rw[cond_true];unfold aA;exact⟨_,rfl,.cons' hz3 (.cons' fV rfl)⟩
    .cases h
   .cases h
 .cases h
end
section
variable {R:kE}{E:Env}
variable {C:bA}{top:Nat->Nat}{b:Nat}{st:aM R.T}{fr:Fr}{Z:ah}
theorem fI.{u} {J:Type u}{c:Bool}{o:Option J}{y:J}(h:(bif c then o else none)=some y):c=true/\o=some y:=by
 cases c
 .cases h
 .exact⟨rfl,h⟩
theorem RY {t e:TypeId}{u:Ty}{sz gy:Nat}(h:Ic E R t=some (e,u,sz,gy)):∃z,lG E.P t=some e/\dF E.P e=some sz/\wD E.P e=some gy/\j5 E.P e=some (jC u)/\iM E.P e=some z/\
 sz=dB R u/\0<sz/\(jC u||sz==1)=true/\z.cells.length=sz:=by
 unfold Ic at h;split at h
 .rename_i e' he;split at h
  .rename_i u' sz' by' ag z h1 h2 h3 h4 h5;obtain⟨hc,h⟩:=fI h;cases h;simp only[aZ] at hc;obtain⟨⟨⟨⟨c1,c2⟩,c3⟩,c4⟩,c5⟩:=hc;have:ag=jC u:=by simpa using c5
   subst this;refine⟨z,he,h2,h3,h4,h5,fH c1,nY c2,?_,fH c4⟩;rw[xJ] at c3⊢;rcases c3 with c3|c3
   .exact .inl c3
   .exact .inr (by rw[fH c3];rfl)
  .cases h
 .cases h
theorem Xz (ag:Bool)(sz:Nat):∀vs:List V,(∀v∈vs,v.cells.length=sz)->chunks ag sz vs.length (vs.flatMap V.cells)=vs.map fun v=>if ag then .agg v.cells else v.cells.headD aJ
 | [],_=>rfl|v::vs,h=>by
  have h1:=h v aB;have h2:=Xz ag sz vs (fun w hw=>h w (by simp[hw]));show _::chunks ag sz vs.length ((v.cells++vs.flatMap V.cells).drop sz)=_;rw[List.drop_left' h1,h2,iA];congr 1;cases ag
  .simp only[bZ,if_false];show (v.cells++vs.flatMap V.cells).headD aJ=_;cases hv:v.cells with
   |nil=>
    have h0:sz=0:=(by rw[<-h1,hv];rfl);cases vs with
    |nil=>rfl|cons w vs=>have:w.cells=[]:=lF (by rw[h w aB,h0]);simp only[lY,this,List.nil_append];have:∀vs:List V,(∀v∈vs,v.cells.length=sz)->vs.flatMap V.cells=[]:=(by intro vs hvs;rw[List.flatMap_eq_nil_iff];intro x hx;exact lF (by rw[hvs x hx,h0]));rw[this vs (fun x hx=>h x (by simp[hx]))]
   |cons a l=>rfl
  .simp only[if_true];show V.agg ((v.cells++vs.flatMap V.cells).take sz)=_;rw[List.take_left' h1]
variable (hR:rG R)
include hR
theorem aqS {t:Ty}{x:Den R.T t}{v:V}(h:er v=aO R t x):fC v=true:=by
 cases v<;>try rfl
 have h1:=qN hR t x;rw[<-h] at h1;simp[er,aQ] at h1
theorem XA {u:Ty}{sz len:Nat}(hsz:sz=dB R u):∀(ps:List (Nat×au R.T))(qs:List (Nat×V))(xs:List (Den R.T u))(n:Nat)(done rest:List V),Av R u n ps=some xs->ps.map (·.1)=qs.map (·.1)->
 aF R C top (ps.map (·.2)) (qs.map (·.2))->done.length=n*sz->rest.length=xs.length*sz->n+xs.length<=len->
 ∃vs:List V,rY (fun i=>if i<len then some (i*sz,sz) else none) (done++rest) qs=some (done++vs.flatMap V.cells)/\vs.length=xs.length/\vs.map er=xs.map (aO R u)/\(∀v∈vs,v.cells.length=sz/\bY v.cells=true)/\aF R C top (xs.flatMap fun x=>(iI R .any u x).cells) (vs.flatMap V.cells)
 | [],[],xs,n,done,rest,h,_,_,h1,h2,_=>by
   cases h;have:rest=[]:=lF rV;subst this;exact⟨[],by simp[rY],rfl,rfl,aB,bC⟩
 | [],_::_,_,_,_,_,_,h,_,_,_,_=>wz|_::_,[],_,_,_,_,_,h,_,_,_,_=>wz| (i,v)::ps,(j,w)::qs,xs,n,done,rest,h,hi,hr,h1,h2,h3=>by
   simp only[iA,rX] at hi;obtain⟨rfl,hi⟩:=hi;obtain⟨y,ys,e,g1,g2⟩:=hr.fB;simp only[iA,rX] at e;obtain⟨rfl,rfl⟩:=e;unfold Av at h;cases hb:Nat.beq i n
   .rw[hb] at h;cases h
   .rw[hb,cond_true] at h;have:=fH hb;subst this;cases hu:uf R u v with
    |none=>simp only[hu] at h;cases h|some x=>
     cases hs:Av R u (i+1) ps with
     |none=>simp only[hu,hs] at h;cases h|some xs'=>
      simp only[hu,hs] at h;obtain rfl:=jW h;obtain⟨a1,a2,a3,a4,a5⟩:=Xe hR hu g1;rw[<-hsz] at a4;have hlen:rest.length=sz+xs'.length*sz:=(by rw[h2,List.length_cons,qX];omega);have q1:(done++w.cells).length=(i+1)*sz:=(by rw[iP,h1,a4,qX]);have q2:(rest.drop sz).length=xs'.length*sz:=(by rw[nV,hlen,Ag]);have q3:i+1+xs'.length<=len:=(by rw[List.length_cons] at h3;omega);obtain⟨vs,k1,k2,k3,k4,k5⟩:=XA hsz ps qs xs' (i+1) (done++w.cells) (rest.drop sz) hs hi g2 q1 q2 q3;refine⟨w::vs,?_,by simp[k2],by simp[a1,k3],?_,?_⟩
      .simp only[List.length_cons] at h3;unfold rY;simp only[if_pos (show i<len by omega)];rw[if_pos ⟨a4,by rw[iP,h1,hlen];exact Nat.add_le_add_left (lD _ _) _,aqS hR a1⟩];have:gI (done++rest) (i*sz) w.cells=done++w.cells++rest.drop sz:=(by unfold gI;rw[List.take_left' h1,a4,Ei,h1,Ag,nZ RS];rfl);rw[this,k1];simp
      .intro z hz;rcases iC.1 hz with rfl|hz
       .exact⟨a4,a5⟩
       .exact k4 z hz
      .rw[lY,lY];refine aF.append ?_ k5;have h1:=Ms hR hu g1;refine(yA ?_ h1).1;cases u<;>rfl
theorem aqT {u:Ty}{sz:Nat}(hsz:sz=dB R u)(h1:(jC u||sz==1)=true){v:V}{x:Den R.T u}(he:er v=aO R u x)(hl:v.cells.length=sz):er (if jC u then .agg v.cells else v.cells.headD aJ)=aO R u x:=by
 cases hs:jC u
 .simp only[bZ,if_false];have hne:∀cs,v≠ .agg cs:=by rintro cs rfl;cases u<;>first| (simp[jC] at hs;done)| (simp[er,aO] at he;done)
  have:v.cells=[v]:=by cases v<;>first|rfl|exact absurd rfl (hne _)
  rw[this];exact he
 .simp only[if_true];obtain⟨l,hl'⟩:=(IC hR u x).2.2.2.1 hs;cases v<;>first|exact he| (rw[hl'] at he;simp[er] at he)
omit hR in
theorem agy {u:Ty}:∀(ps:List (Nat×au R.T))(n:Nat)(xs:List (Den R.T u)),Av R u n ps=some xs->xs.length=ps.length:=by
 intro ps;induction ps with
 |nil=>intro n xs h;cases h;rfl|cons p ps ih=>
  intro n xs h;obtain⟨i,v⟩:=p;unfold Av at h;obtain⟨_,h⟩:=fI h;cases hu:uf R u v with
  |none=>simp only[hu] at h;cases h|some x=>
   cases hs:Av R u (n+1) ps with
   |none=>simp only[hu,hs] at h;cases h|some xs'=>simp only[hu,hs] at h;cases h;simp[ih _ _ hs]
theorem aqU {t:TypeId}{len:Nat}{ps:List (Nat×au R.T)}{qs:List (Nat×V)}{r:eY R}(h:WE E R t len ps=some r)(hi:ps.map (·.1)=qs.map (·.1))(hr:aF R C top (ps.map (·.2)) (qs.map (·.2))):qo C top (BN E t len qs) r:=by
 unfold WE at h;split at h
 .rename_i e u sz gy he;obtain⟨z,e1,e2,e3,e4,e5,e6,e7,e8,e9⟩:=RY he
  .obtain⟨hc,h⟩:=fI h;rw[aZ] at hc;split at h
   .rename_i xs hx;cases h;have hlen:xs.length=len:=(by rw[agy ps 0 xs hx];exact fH hc.2);obtain⟨vs,k1,k2,k3,k4,_⟩:=XA hR (len:=len) e6 ps qs xs 0 [] ((List.replicate len z.cells).flatten) hx hi hr aB (by simp[e9,hlen]) RS;refine⟨.ak .full (xs.map (aO R u)),?_,by unfold aA;exact⟨.full,rfl,rfl⟩⟩;unfold BN;rw[e1];simp only[Option.bind_some,e2,e4,e5];rw[if_pos ⟨nY hc.1,e9,e7,e8⟩];rw[List.nil_append,List.nil_append] at k1;rw[k1];simp only[Option.bind_some];have hone:bY (vs.flatMap V.cells)=true:=(by unfold bY;rw[List.all_flatMap,kU];intro v hv;exact(k4 v hv).2);rw[hone,if_pos rfl,<-hlen,<-k2,Xz _ _ _ (fun v hv=>(k4 v hv).1),yT];congr 2;have:∀(vs:List V)(xs:List (Den R.T u)),vs.map er=xs.map (aO R u)->(∀v∈vs,v.cells.length=sz/\bY v.cells=true)->vs.map (er∘fun v=>if jC u then .agg v.cells else v.cells.headD aJ)=xs.map (aO R u):=by
     intro vs;induction vs with
     |nil=>intro xs h _;exact h|cons v vs ih=>
      intro xs h hk;cases xs with
      |nil=>simp at h|cons x xs=>simp only[iA,rX] at h;rw[iA,iA,ih xs h.2 (fun w hw=>hk w (by simp[hw]))];congr 1;exact aqT hR e6 e8 h.1 (hk v aB).1
    rw[this vs xs k3 k4]
   .cases h
 .cases h
theorem XB {u:Ty}(l:List (Den R.T u)):(l.map (aO R u)).all (fun v=>bY v.cells)=true:=by simp[List.all_map,(IC hR u _).2.1]
theorem XC {u:Ty}{ag:Bool}{y:au R.T}{v z:V}{l:List (Den R.T u)}(h:Md R u y=some l)(hy:aA R C top y v):mU Z ag (dB R u) z v=some (l.map (aO R u))/\yZ v=false:=by
 unfold Md at h;split at h
 .obtain⟨e,e2⟩:=vK h;subst e;cases e2;obtain⟨c',rfl,_⟩:=hy.mo;exact⟨by show (if og _ _=true then _ else _)=_;rw[if_pos (Mx hR _)],rfl⟩
 .cases h;rw[hy.uq];exact⟨rfl,rfl⟩
 .rename_i s;obtain⟨e,e2⟩:=vK h;subst e;cases e2;rw[hy.oN];exact⟨by show (if 1=1 then some (s.map wF) else none)=_;rw[if_pos rfl];exact congrArg some (aqO (R:=R) s),rfl⟩
 .cases h
theorem aqV {t e:TypeId}{sz gy:Nat}{ag:Bool}{z:V}{c:Cap}{l ys:List V}{y:V}{loc:Option Loc}{aI:Nat}{P:Program}(h1:lG P t=some e)(h2:dF P e=some sz)(h3:wD P e=some gy)(h4:j5 P e=some ag)(h5:iM P e=some z)(h6:z.cells.length=sz)(h7:0<sz)(h8:(ag||sz==1)=true)(hy:mU Z ag sz z y=some ys)(hi:yZ y=false)(ho:ys.all (fun v=>bY v.cells)=true)(hr:cK (l.length+ys.length) gy=true)(hh:og sz l=true):
 ku P false false Z aI loc t (.ak c l) y=match c with
  |.own n s=>if n=sz/\Z.top s=l.length then some (.ak (.own n s) (l++ys),Z.dY s (l.length+ys.length)) else none|.nil|.full=>some (.ak (.own sz aI) (l++ys),Z.dY aI (l.length+ys.length))|_=>none:=by
 unfold ku;simp only[h1,h2,h3,h4,h5,Option.bind_some,hi,hy,ho,if_true];rw[if_pos ⟨trivial,h6,h7,h8⟩];simp only[hr,hh,and_self,if_true];cases c<;>rfl
theorem aqW {d:Option Nat}{t u:TypeId}{x y:au R.T}{v w:V}{r:eY R}{aI:Nat}{loc:Option Loc}{o:Oper}(h:Me E R d t u x y st=some r)(hx:aA R C Z.top x v)(hy:aA R C Z.top y w)(hi:aT C aI st fr Z)(ho:∀y Z',ku E.P false false Z aI loc t v w=some (y,Z')->nQ E fr Z aI o y Z'):sN E st C aI fr Z o r:=by
 unfold Me at h;split at h
 .rename_i d;split at h
  .rename_i e τ sz gy he;obtain⟨z,e1,e2,e3,e4,e5,e6,e7,e8,e9⟩:=RY he
   .obtain⟨hss,h⟩:=fI h;split at h
    .rename_i tk l l' hd hs;cases h;intro hroom;subst e6;obtain⟨g1,g2⟩:=XC hR (ag:=jC τ) (z:=z) (Z:=Z) hs hy;have hlen:cK ((l.map (aO R τ)).length+(l'.map (aO R τ)).length) gy=true:=(by rw[eU,eU];exact hroom);have hap:∀c,ku E.P false false Z aI loc t (.ak c (l.map (aO R τ))) w=_:=fun c=>aqV hR (Z:=Z) (c:=c) (loc:=loc) (aI:=aI) e1 e2 e3 e4 e5 e9 e7 e8 g1 g2 (XB hR l') hlen (Mx hR l);have fresh:∀(c:Cap),(c= .nil\/c= .full)->v= .ak c (l.map (aO R τ))->∃x Z' C',nQ E fr Z aI o x Z'/\aT C' (aI+1) (st.wk tk) fr Z'/\Z'.next=Z.next/\aA R C' Z'.top (.ak (.own tk) τ (l++l')) x/\∀p,qm E o p->bN true p st C Z (st.wk tk) C' Z':=by
      intro c hc hv;subst hv;have:=hap c;refine⟨.ak (.own (dB R τ) aI) (l.map (aO R τ)++l'.map (aO R τ)),Z.dY aI ((l.map (aO R τ)).length+(l'.map (aO R τ)).length),C.jJ tk aI,ho _ _ (by rw[this];rcases hc with rfl|rfl<;>rfl),?_,rfl,?_,?_⟩
      .exact hi.wk tk aI _ (jY _) (Eh _) hi.nx (fun u _ hu=>KM)
      .unfold aA;exact⟨_,by rw[pF],.inr (.inr ⟨aI,rfl,by simp[bA.jJ,upd],by rw[LQ];simp⟩)⟩
      .exact fun p _=>bN.wk hi.nx
     unfold afz at hd;split at hd
     .rename_i l0;split at hd
      .rename_i l1 hl1;cases hd;obtain⟨e,e2⟩:=vK hl1;subst e;cases e2;obtain⟨c',rfl,hc'⟩:=hx.mo;exact fresh c' (.inl hc') rfl
      .cases hd
     .rename_i l0;split at hd
      .rename_i l1 hl1;cases hd;obtain⟨e,e2⟩:=vK hl1;subst e;cases e2;obtain⟨c',rfl,hc'⟩:=hx.mo;exact fresh c' (.inr hc') rfl
      .cases hd
     .rename_i tk' gT l0;split at hd
      .rename_i l1 hl1;cases hd;obtain⟨e,e2⟩:=vK hl1;subst e;cases e2;obtain⟨c',rfl,hc'⟩:=hx.mo;rcases hc' with hc'|hc'| ⟨s,hc',ht,hl⟩
       .exact fresh c' (.inl hc') rfl
       .exact fresh c' (.inr hc') rfl
       .subst hc';have:=hap (.own (dB R gT) s);dsimp only at this;rw[if_pos ⟨rfl,Qc⟩] at this;refine⟨_,_,C.jJ tk s,ho _ _ this,?_,rfl,?_,?_⟩
        .exact hi.wk tk s _ (jY _) (by have:=hi.lt tk s ht;omega) (hi.ge tk s ht) (fun u hu h'=>hu (hi.inj u tk s h' ht))
        .unfold aA;exact⟨_,by rw[pF],.inr (.inr ⟨s,rfl,by simp[bA.jJ,upd],by rw[LQ];simp⟩)⟩
        .exact fun p _=>bN.wk (hi.ge tk s ht)
      .cases hd
     .cases hd;rw[hx.uq] at fresh;have hx':=hx.uq;subst hx';exact fresh .nil (.inl rfl) rfl
     .cases hd
    .cases h
  .cases h
 .cases h
omit hR in
theorem aqX {t:TypeId}{x:au R.T}{v:V}{n:Nat}(h:WI E t x st=some n)(hx:aA R C Z.top x v)(hi:aT C b st fr Z):uZ E Z t v=some n:=by
 unfold WI at h;unfold uZ;split at h
 .rename_i hu;cases h;obtain⟨c',rfl,_⟩:=hx.mo;rw[hu];simp
 .rename_i hu;cases h;rw[hx.uq,hu];rfl
 .rename_i o t hu;split at h
  .rename_i t' l hl;cases h;have h1:=(hi.rd hl).1;rcases hx.AJ with ⟨s,_,rfl⟩| ⟨h0,rfl|rfl⟩
   .rw[hu];dsimp only;rw[h1]
   .rw[hu];dsimp only;rw[h1,h0];rfl
   .rw[hu];dsimp only;rw[h1,h0];rfl
  .cases h
 .rename_i o' t' a' b' hu;cases h;rcases hx.EY with ⟨_,_,_,⟨s,cp,_,_,rfl⟩| ⟨e,c,rfl⟩⟩
  .rw[hu]
  .rw[hu];dsimp only;rw[e,Int.sub_self];rfl
 .rename_i hu;cases h;rw[hx.oN,hu]
 .rename_i o hu;split at h
  .rename_i k e m hl;cases h;obtain⟨s,h1,rfl⟩:=hx.AB;obtain⟨s',h2,h3⟩:=hi.rd hl;rw[h1] at h2;cases h2;rw[hu];dsimp only;rw[h3];simp
  .cases h
 .rename_i hu;cases h;rw[hx.CB,hu];simp
 .rename_i hu;cases h;unfold aA at hx;subst hx;rw[hu]
 .rename_i hu;cases h;rw[hu]
 .cases h
omit hR in
theorem XD (mx:Bool):∀{l:List (au R.T)}{x y:au R.T}{v:V}{k:List V},Ig mx x l=some y->aA R C top x v->aF R C top l k->∃w,xM mx v k=some w/\aA R C top y w
 | [],x,y,v,k,h,hx,hl=>by rw[hl.iL];unfold Ig at h;cases h;exact⟨v,by cases v<;>rfl,hx⟩|z::l,x,y,v,k,h,hx,hl=>by
  obtain⟨w,ws,rfl,h1,h2⟩:=hl.fB;unfold Ig at h;split at h
  .rename_i hz;cases hz
  .rename_i k a k' b l' hz;simp only[rX] at hz;obtain⟨rfl,rfl⟩:=hz;split at h
   .rename_i e;subst e;rw[hx.iO,h1.iO];unfold xM;rw[if_pos rfl];refine XD mx h ?_ h2;unfold aA;cases mx<;>rfl
   .cases h
  .cases h
omit hR in
theorem agz (c:Cp):∀(l:List Ty)(p:qj R.T l),(l9 R c l p).length=l.length
 | [],_=>rfl| [_],_=>rfl|_::u::l,p=>by show (l9 R c (u::l) p.2).length+1=_;rw[agz c (u::l)];rfl
omit hR in
theorem IE (c:Cp)(t:Ty)(x:Den R.T t):(iI R c t x).cells.length=dB R t:=by
 cases t with
 |st n=>exact agz c _ _|_=>rfl
omit hR in
theorem agA {J β:Type}{f:J->List β}{sz:Nat}(hf:∀x,(f x).length=sz):∀(n:Nat)(l:List J),(l.flatMap f).drop (n*sz)=(l.drop n).flatMap f
 |0,l=>aB|n+1,[]=>aB|n+1,x::l=>by rw[lY,List.drop_succ_cons,<-agA hf n l,qX,Nat.add_comm,<-List.drop_drop,<-hf x,List.drop_left]
omit hR in
theorem agB {J β:Type}{f:J->List β}{sz:Nat}(hf:∀x,(f x).length=sz):∀(n:Nat)(l:List J),(l.flatMap f).take (n*sz)=(l.take n).flatMap f
 |0,l=>aB|n+1,[]=>aB|n+1,x::l=>by rw[lY,List.take_succ_cons,lY,<-agB hf n l,qX,Nat.add_comm,<-hf x,List.take_length_add_append]
omit hR in
theorem agC {J:Type}{l:List J}{a b:Int}(h0:0<=a)(h1:a<=b):EN l a b=(l.drop a.toNat).take (b-a).toNat:=by unfold EN;rw[List.take_drop];congr 2;omega
omit hR in
theorem aqY {t:Ty}{l:List (Den R.T t)}{cs:List V}{C:bA}{top:Nat->Nat}{a b:Int}(h0:0<=a)(h1:a<=b)(h:aF R C top (l.flatMap fun x=>(iI R .any t x).cells) cs):aF R C top ((EN l a b).flatMap fun x=>(iI R .any t x).cells) ((cs.drop (a.toNat*dB R t)).take ((b-a).toNat*dB R t)):=by rw[agC h0 h1,<-agB (fun x=>IE .any t x),<-agA (fun x=>IE .any t x)];exact(h.drop _).take _
omit hR in
theorem E9 (t:Ty):∀l:List (Den R.T t),(l.flatMap fun x=>(iI R .any t x).cells).length=l.length*dB R t
 | []=>aB|x::l=>by rw[lY,iP,IE,E9 t l,List.length_cons,qX];omega
omit hR in
theorem agD {J:Type}:∀{l:List J}{i:Nat}{x:J},l[i]? =some x->∃a b,l=a++x::b/\a.length=i
 | [],_,_,h=>wz|y::l,0,x,h=>by simp at h;subst h;exact⟨[],l,rfl,rfl⟩|y::l,i+1,x,h=>by obtain⟨a,b,rfl,hl⟩:=agD (l:=l) (i:=i) yP;exact⟨y::a,b,rfl,by simp[hl]⟩
omit hR in
theorem aqZ {J:Type}{l:List J}{i:Int}{x:J}(h:aK l i=some x):∃a b,l=a++x::b/\a.length=i.toNat/\0<=i:=by
 unfold aK at h;split at h
 .rename_i hi;obtain⟨a,b,h1,h2⟩:=agD h;exact⟨a,b,h1,h2,hi.1⟩
 .cases h
omit hR in
theorem aq0 {ag:Bool}{n off:Nat}{pre el post:List (au R.T)}{v:au R.T}(h:Rh ag n el off=some v):Rh ag n (pre++el++post) (pre.length+off)=some v:=by
 cases ag with
 |true=>
  have h':(bif Nat.ble (off+n) el.length then some (au.agg ((el.drop off).take n)) else none)=some v:=h;obtain⟨hb,h'⟩:=fI h';have hle:=nY hb;show (bif Nat.ble (pre.length+off+n) (pre++el++post).length then some (au.agg (((pre++el++post).drop (pre.length+off)).take n)) else none)=some v;have hb':Nat.ble (pre.length+off+n) (pre++el++post).length=true:=Nat.ble_eq_true_of_le dP;rw[hb',cond_true,<-h'];congr 2;have e1:(pre++el++post).drop (pre.length+off)=(el++post).drop off:=by rw[eZ,Ei,nZ RS];simp
  rw[e1,Ei,List.take_append];have e2:n-(el.drop off).length=0:=dP
  rw[e2];simp
 |false=>
  have h':el[off]? =some v:=h;show (pre++el++post)[pre.length+off]? =some v;have hlt:off<el.length:=by rw[qx] at h';exact h'.1
  rw[eZ,List.getElem?_append_right RS,Ag,KW hlt];exact h'
omit hR in
theorem aq1 {t:TypeId}{off:Nat}{pre el post:List (au R.T)}{v:au R.T}(h:nO E t el off=some v):nO E t (pre++el++post) (pre.length+off)=some v:=by
 unfold nO at h⊢;cases h1:j5 E.P t with
 |none=>simp only[h1] at h;cases h|some a=>
  cases h2:dF E.P t with
  |none=>simp only[h1,h2] at h;cases h|some n=>simp only[h1,h2] at h⊢;exact aq0 h
omit hR in
theorem aq2 {t:TypeId}{off:Nat}{cs cs':List (au R.T)}(hl:cs.length=cs'.length)(h:(nO E t cs off).isSome=true):∃v,nO E t cs' off=some v:=by
 unfold nO at h⊢;cases h1:j5 E.P t with
 |none=>simp only[h1] at h;cases h|some a=>
  cases h2:dF E.P t with
  |none=>simp only[h1,h2] at h;cases h|some n=>
   simp only[h1,h2] at h⊢;cases a with
   |true=>
    have h':(bif Nat.ble (off+n) cs.length then some (au.agg ((cs.drop off).take n)) else none).isSome=true:=h;cases hb:Nat.ble (off+n) cs.length
    .rw[hb] at h';cases h'
    .exact⟨.agg ((cs'.drop off).take n),by show (bif Nat.ble (off+n) cs'.length then _ else _)=_;rw[<-hl,hb];rfl⟩
   |false=>have h':cs[off]?.isSome=true:=h;have hlt:off<cs'.length:=(by rw[<-hl];simpa using h');exact⟨cs'[off],gG hlt⟩
omit hR in
theorem agE {o s:Nat}{τ:Ty}{l:List (Den R.T τ)}{i:Int}{y:Den R.T τ}(hO:gF C Z o (.arr τ l))(hs:C.ob o=some s)(hy:aK l i=some y):
 ∃a b cs,l=a++y::b/\a.length=i.toNat/\Z.dK (C.aj.lc o) s=some cs/\aF R C Z.top ((a.flatMap fun x=>(iI R .any τ x).cells)++(iI R .any τ y).cells++b.flatMap fun x=>(iI R .any τ x).cells) cs/\(a.flatMap fun x=>(iI R .any τ x).cells).length=i.toNat*dB R τ:=by
 obtain⟨a,b,rfl,h1,h2⟩:=aqZ hy;rcases hO.2 with h| ⟨s',cs,h3,h4,h5⟩
 .exact absurd h.1 aB
 .rw[hs] at h3;cases h3;refine⟨a,b,cs,rfl,h1,h4,?_,by rw[E9,h1]⟩;rw[List.flatMap_append,lY] at h5;rw[eZ];exact h5
omit hR in
theorem aq3 {t:TypeId}{o s off:Nat}{τ:Ty}{i:Int}{ob:bI R.T}{r:eY R}(h:WO E R t τ i off ob=some r)(hO:gF C Z o ob)(hs:C.ob o=some s):∃(l:List (Den R.T τ)) (f:Den R.T τ->au R.T),r= .p (Den R.T τ) (Ho R τ) (aK l i) f/\
 ∀y,aK l i=some y->∃cs w,Z.dK (C.aj.lc o) s=some cs/\gV E.P t cs (i.toNat*dB R τ+off)=some w/\aA R C Z.top (f y) w:=by
 unfold WO at h;split at h
 .rename_i gT l0;split at h
  .rename_i l1 hl;obtain⟨e,e2⟩:=vK hl;subst e;cases e2;obtain⟨hb,h⟩:=fI h;cases h;refine⟨l0,_,rfl,fun y hy=>?_⟩;obtain⟨a,b,cs,h1,h2,h3,h4,h5⟩:=agE hO hs hy;obtain⟨v,hv⟩:=aq2 (cs':=(iI R .any gT y).cells) (by rw[IE,IE]) hb;have:=aq1 (pre:=a.flatMap fun x=>(iI R .any gT x).cells) (post:=b.flatMap fun x=>(iI R .any gT x).cells) hv;rw[h5] at this;obtain⟨w,hw,hr⟩:=AO h4 this;exact⟨cs,w,h3,hw,by rw[hv];exact hr⟩
  .cases h
 .cases h
theorem aq4 {τ:Ty}{cs:List (au R.T)}{x:Den R.T τ}{vs:List V}(h:WQ R τ cs=some x)(hr:aF R C top cs vs):aF R C top (iI R .any τ x).cells vs:=by
 have one:∀(t:Ty)(x:Den R.T t),pQ t=true->tZ R t (hd1 R cs)=some x->aF R C top [Ar R .any t x] vs:=by
  intro t x ht h;cases cs with
  |nil=>cases t<;>cases h|cons c cs=>
   cases cs with
   |nil=>obtain⟨v,l,rfl,h1,h2⟩:=hr.fB;rw[h2.iL];exact .cons' (E8 hR h h1) rfl
   |cons c' cs=>cases t<;>cases h
 cases τ with
 |st n=>have:=Ms hR (t:=.st n) (show uf R (.st n) (.agg cs)=some x from h) (v:=.agg vs) (by unfold aA;exact⟨vs,rfl,hr⟩);obtain⟨l,e,hl⟩:=aA.mh this;cases e;exact hl
 |int k=>exact one (.int k) x rfl h|bool=>exact one .bool x rfl h|str=>exact one .str x rfl h|slice t=>exact one (.slice t) x rfl h
omit hR in
theorem aq5 {J:Type}(pre el post vs:List J)(off:Nat)(h:off+vs.length<=el.length):(pre++el++post).take (pre.length+off)++vs++(pre++el++post).drop (pre.length+off+vs.length)=pre++(el.take off++vs++el.drop (off+vs.length))++post:=by
 have e1:(pre++el++post).take (pre.length+off)=pre++el.take off:=by rw[eZ,List.take_append,qZ RS,Ag,List.take_append,Nat.sub_eq_zero_of_le RS];simp
 have e2:(pre++el++post).drop (pre.length+off+vs.length)=el.drop (off+vs.length)++post:=by rw[eZ,Ei,nZ RS,show pre.length+off+vs.length-pre.length=off+vs.length by omega,Ei,Nat.sub_eq_zero_of_le RS];simp
 rw[e1,e2];simp
theorem aq6 {o s off:Nat}{τ:Ty}{i:Int}{l:List (Den R.T τ)}{y y':Den R.T τ}{vc:List (au R.T)}{vl:List V}(hO:gF C Z o (.arr τ l))(hs:C.ob o=some s)(hy:aK l i=some y)(hv:aF R C Z.top vc vl)(hle:off+vc.length<=dB R τ)(hu:WQ R τ (HZ (iI R .any τ y).cells off vc)=some y'):∃cs,Z.dK (C.aj.lc o) s=some cs/\i.toNat*dB R τ+off+vl.length<=cs.length/\aF R C Z.top ((eX l i y').flatMap fun x=>(iI R .any τ x).cells) (gI cs (i.toNat*dB R τ+off) vl)/\(eX l i y').length=l.length:=by
 obtain⟨a,b,cs,rfl,h2,h3,h4,h5⟩:=agE hO hs hy;obtain⟨p1,post,rfl,g1,g2⟩:=h4.split;obtain⟨pre,el,rfl,g3,g4⟩:=g1.split;have l1:pre.length=i.toNat*dB R τ:=by rw[g3.length,h5]
 have l2:el.length=dB R τ:=by rw[g4.length,IE]
 have l3:=hv.length;refine⟨_,h3,?_,?_,?_⟩
 .rw[iP,iP];omega
 .have e:eX (a++y::b) i y'=a++y'::b:=by unfold eX;rw[<-h2,List.set_append_right _ _ (mF _),Nat.sub_self];rfl
  rw[e,List.flatMap_append,lY,<-eZ];have e2:gI (pre++el++post) (i.toNat*dB R τ+off) vl=pre++gI el off vl++post:=by unfold gI;rw[<-l1];exact aq5 pre el post vl off RS
  rw[e2];exact(g3.append (aq4 hR hu (Xt off g4 hv))).append g2
 .unfold eX;rw[List.length_set]
theorem aq7 (τ:Ty)(x:Den R.T τ):aF R C top (iI R .any τ x).cells (aO R τ x).cells:=by refine(yA ?_ (RN hR .any (.inl rfl) τ x)).1;cases τ<;>rfl
theorem IG (τ:Ty):∀l:List (Den R.T τ),aF R C top (l.flatMap fun x=>(iI R .any τ x).cells) ((l.map (aO R τ)).flatMap V.cells)
 | []=>rfl|x::l=>by rw[iA,lY,lY];exact(aq7 hR τ x).append (IG τ l)
theorem aq8 {t e:TypeId}{sz gy:Nat}{ag:Bool}{z:V}{ys:List V}{x y:V}{loc:Option Loc}{aI:Nat}{P:Program}(h1:lG P t=some e)(h2:dF P e=some sz)(h3:wD P e=some gy)(h4:j5 P e=some ag)(h5:iM P e=some z)(h6:z.cells.length=sz)(h7:0<sz)(h8:(ag||sz==1)=true)(hy:mU Z ag sz z y=some ys)(hi:yZ y=false)(ho:ys.all (fun v=>bY v.cells)=true):
 ku P true false Z aI loc t x y=match x with
  |.ak c l=>if cK (l.length+ys.length) gy=true/\og sz l=true then match c with
     |.nil=>loc.map fun loc=>(.aU loc aI 0 (l.length+ys.length) (l.length+ys.length) sz ag,Z.setObj loc aI (.cells ((l++ys).flatMap V.cells)))
     |.full=>if ys.isEmpty then some (.ak .full l,Z) else loc.map fun loc=>(.aU loc aI 0 (l.length+ys.length) (l.length+ys.length) sz ag,Z.setObj loc aI (.cells ((l++ys).flatMap V.cells)))
     |_=>none else none
  |.aU kC s off len cap bD _=>
   if cK (len+ys.length) gy=true/\off=0/\bD=sz then loc.bind fun loc=>(Z.dK kC s).bind fun cs=>
     if len+ys.length<=cap then if (len+ys.length)*sz<=cs.length then some (.aU kC s 0 (len+ys.length) cap sz ag,Z.setObj kC s (.cells (gI cs (len*sz) (ys.flatMap V.cells))))else none else if len*sz<=cs.length then some (.aU loc aI 0 (len+ys.length) (len+ys.length) sz ag,(Z.j3 kC).setObj loc aI (.cells (cs.take (len*sz)++ys.flatMap V.cells)))else none else none
  |_=>none:=by
 unfold ku;simp only[h1,h2,h3,h4,h5,Option.bind_some,hi,hy,ho,if_true];rw[if_pos ⟨trivial,h6,h7,h8⟩];cases x<;>try rfl
 .rename_i c l;cases c<;>rfl
 .simp only[true_and]
omit hR in
theorem bN.Mr {o q s n:Nat}{x:bI R.T}{a:jZ}(hne:q≠o):bN true q st C Z (st.new o x) (C.AL o s n) (Z.setObj (C.aj.lc o) s a):=⟨(Xh q hne).1,(Xh q hne).2,rfl,mF _,⟨fun _ _=>rfl,fun _ _=>rfl⟩,fun _ _ hL=>Xn hL,(bN.new (nr:=true) (C:=C) (s:=s) (a:=a) hne).ro⟩
omit hR in
theorem bN.del {o q:Nat}{y:bI R.T}(hl:look st.ob o=some y)(hy:vD y=false):bN true q st C Z (st.del o) C (Z.j3 (C.aj.lc o)):=⟨rfl,rfl,rfl,mF _,⟨fun _ _=>rfl,fun _ _=>rfl⟩,fun _ _ hL=>aqz hL,fun hr=>by
 have hne:q≠o:=by rintro rfl;rw[hr y hl] at hy;cases hy
 refine⟨fun z hz=>?_,fun s'=>?_⟩
 .have hz':look (j6 o st.ob) q=some z:=hz;rw[uy hne] at hz';exact hr z hz'
 .unfold ah.dK ah.jh;rw[afY Z hne];exact⟨rfl,rfl⟩⟩
omit hR in
theorem bN.del' {o q:Nat}{y:bI R.T}(hl:look st.ob o=some y)(hy:vD y=false):bN true q st C Z (st.del o) C Z:=⟨rfl,rfl,rfl,mF _,⟨fun _ _=>rfl,fun _ _=>rfl⟩,fun _ _ _=>rfl,fun hr=>by
 have hne:q≠o:=by rintro rfl;rw[hr y hl] at hy;cases hy
 refine⟨fun z hz=>?_,fun s'=>⟨rfl,rfl⟩⟩;have hz':look (j6 o st.ob) q=some z:=hz;rw[uy hne] at hz';exact hr z hz'⟩
omit hR in
theorem XE {J:Type}{p:Nat}:∀l:List (Nat×J),look (j6 p l) p=none
 | []=>rfl| (j,x)::l=>by
   unfold j6;cases hj:Nat.beq j p
   .show (bif Nat.beq j p then some x else look (j6 p l) p)=none;rw[hj];exact XE l
   .exact XE l
omit hR in
theorem aT.del' (h:aT C b st fr Z)(o:Nat):aT C b (st.del o) fr Z:={h with
 ob:=fun p y hy=>by
  by_cases e:p=o
  .subst e;have:look (j6 p st.ob) p=some y:=hy;rw[XE] at this;cases this
  .have hy':look (j6 o st.ob) p=some y:=hy;rw[uy e] at hy';exact h.ob p y hy'
 fr:=h.fr}
omit hR in
theorem Fa {d0 d aI:Nat}{τ:Ty}{l:List (Den R.T τ)}{L:List V}{st0:aM R.T}{rM:ah}{o:Oper}{v:V}{Z1:ah}(hd:o.dst=some d0)(hcd:d=d0\/d=E.cn d0)(hi:aT C (aI+1) st0 fr rM)(hk:∀p,bN true p st C Z st0 C rM)(hn:rM.next=Z.next)(hL:aF R C rM.top (l.flatMap fun x=>(iI R .any τ x).cells) L)(hs:nQ E fr Z aI o v Z1)(hv:v= .aU (C.aj.lc d) aI 0 l.length l.length (dB R τ) (jC τ))(h1:Z1=rM.setObj (C.aj.lc d) aI (.cells L)):∃x Z' C',nQ E fr Z aI o x Z'/\aT C' (aI+1) (st0.new d (.arr τ l)) fr Z'/\Z'.next=Z.next/\aA R C' Z'.top (.aU d τ) x/\∀p,qm E o p->bN true p st C Z (st0.new d (.arr τ l)) C' Z':=by
 subst hv;subst h1;refine⟨_,_,C.AL d aI l.length,hs,hi.Mr d aI l.length ⟨(CJ (C:=C.nP d aI)).symm,.inr ⟨aI,L,Ae (C:=C),su _ _ _ _,zx l L hL⟩⟩,hn,?_,fun p hp=>?_⟩
 .unfold aA;exact .inl ⟨aI,Ae (C:=C),by rw[show (C.AL d aI l.length).ln d=l.length from CJ (C:=C.nP d aI)];rfl⟩
 .have hne:p≠d:=by
   rcases hcd with e|e
   .exact fun e2=>hp.1 (by rw[hd,e2,e])
   .exact fun e2=>hp.2 _ hd (by rw[e2,e])
  exact(hk p).trans (bN.Mr hne)
theorem aq9 {d:Option Nat}{t:TypeId}{len:Nat}{ps:List (Nat×au R.T)}{qs:List (Nat×V)}{r:eY R}{aI:Nat}{o:Oper}(h:WG E R d t len ps st=some r)(hi:ps.map (·.1)=qs.map (·.1))(hr:aF R C Z.top (ps.map (·.2)) (qs.map (·.2)))(him:aT C aI st fr Z)(hd:o.dst=d)(ho:∀y Z',BO E Z aI (d.map fun t=>(fr.d,E.cn t)) t len qs=some (y,Z')->nQ E fr Z aI o y Z'):sN E st C aI fr Z o r:=by
 unfold WG at h;split at h
 .rename_i d e u sz gy he;obtain⟨z,e1,e2,e3,e4,e5,e6,e7,e8,e9⟩:=RY he;obtain⟨hc,h⟩:=fI h;rw[aZ] at hc;split at h
  .rename_i xs hx;cases hbl:Nat.ble F0 (E.cn d);case true=>rw[hbl] at h;cases h
   rw[hbl,cond_false] at h;cases h;have hcn:E.cn d<F0:=by have:=mt Nat.ble_eq_true_of_le (by rw[hbl];simp);omega
   rw[Option.map_some,show (fr.d,E.cn d)=C.aj.lc (E.cn d) by rw[him.d,eG.WY _ hcn]] at ho;have hlen:xs.length=len:=by rw[agy ps 0 xs hx];exact fH hc.2
   obtain⟨vs,k1,k2,k3,k4,k5⟩:=XA hR (len:=len) e6 ps qs xs 0 [] ((List.replicate len z.cells).flatten) hx hi hr aB (by simp[e9,hlen]) RS;rw[List.nil_append,List.nil_append] at k1;have key:BO E Z aI (some (C.aj.lc (E.cn d))) t len qs=some (.aU (C.aj.lc (E.cn d)) aI 0 len len sz (jC u),Z.setObj (C.aj.lc (E.cn d)) aI (.cells (vs.flatMap V.cells))):=by unfold BO;rw[e1];simp only[Option.bind_some,e2,e4,e5];rw[if_pos ⟨nY hc.1,e9,e7⟩,k1];rfl
   exact Fa (rM:=Z) hd (.inr rfl) (him.le (jY aI)) (fun q=>.refl) rfl k5 (ho _ _ key) (by rw[hlen,e6]) rfl
  .cases h
 .cases h
theorem ara {d:Option Nat}{t u:TypeId}{x y:au R.T}{v w:V}{r:eY R}{aI:Nat}{o:Oper}(h:Mf E R d t u x y st=some r)(hx:aA R C Z.top x v)(hy:aA R C Z.top y w)(hi:aT C aI st fr Z)(hd:o.dst=d)(ho:∀y Z',ku E.P true false Z aI (d.map fun t=>(fr.d,E.cn t)) t v w=some (y,Z')->nQ E fr Z aI o y Z'):sN E st C aI fr Z o r:=by
 have hi1:=hi.le (jY aI);unfold Mf at h;split at h
 .rename_i d;cases hbl:Nat.ble F0 (E.cn d);case true=>rw[hbl] at h;cases h
  rw[hbl,cond_false] at h;have hcn:E.cn d<F0:=by have:=mt Nat.ble_eq_true_of_le (by rw[hbl];simp);omega
  rw[Option.map_some,show (fr.d,E.cn d)=C.aj.lc (E.cn d) by rw[hi.d,eG.WY _ hcn]] at ho;split at h
  .rename_i e τ sz gy he;obtain⟨z,e1,e2,e3,e4,e5,e6,e7,e8,e9⟩:=RY he;obtain⟨hss,h⟩:=fI h;split at h
   .rename_i l' hs;subst e6;obtain⟨g1,g2⟩:=XC hR (ag:=jC τ) (z:=z) (Z:=Z) hs hy;have hap:=fun x=>aq8 hR (Z:=Z) (x:=x) (loc:=some (C.aj.lc (E.cn d))) (aI:=aI) e1 e2 e3 e4 e5 e9 e7 e8 g1 g2 (XB hR l');split at h
    .rename_i p afA _;split at h
     .rename_i e0;subst e0;split at h
      .rename_i gT l0 hl;split at h
       .rename_i l2 hl2;obtain⟨e,e2'⟩:=vK hl2;subst e;cases e2';have ne:∀(a:Den R.T gT)(l1:List (Den R.T gT)),l'=a::l1->sN E st C aI fr Z o (.wc (cK (l0.length+(a::l1).length) gy) (.aU (E.cn d) gT) ((st.del p).new (E.cn d) (.arr gT (l0++a::l1)))):=by
         intro a l1 el;subst el;intro hroom;have hO:=hi.ob _ _ hl;have hlen:l0.length=C.ln p:=hO.1;have hnr:vD (bI.arr gT l0)=false:=rfl;have hne:¬((a::l1).map (aO R gT)).isEmpty=true:=aB;rcases hx.AJ with ⟨s,k1,rfl⟩| ⟨k1,k2⟩
         .rcases hO.2 with hO2| ⟨s',cs,k3,k4,k5⟩
          .rw[k1] at hO2;exact absurd hO2.2 aB
          .rw[k1] at k3;cases k3;have:=hap (.aU (C.aj.lc p) s 0 (C.ln p) (C.ln p) (dB R gT) (jC gT));dsimp only at this;have hlc:cs.length=l0.length*dB R gT:=(by rw[k5.length,E9]);rw[if_pos ⟨by rw[eU,<-hlen];exact hroom,rfl,rfl⟩] at this;simp only[Option.bind_some,k4] at this;rw[if_neg (by rw[eU,List.length_cons];omega),if_pos Gc] at this;refine Fa (rM:=Z.j3 (C.aj.lc p)) (L:=cs.take (C.ln p*dB R gT)++((a::l1).map (aO R gT)).flatMap V.cells) hd (.inr rfl) (hi1.del p) (fun q=>bN.del hl hnr) rfl ?_ (ho _ _ this) ?_ rfl
           .rw[List.flatMap_append,qZ Gc];exact aF.append k5 (IG hR _ _)
           .rw[eU,iP,hlen]
         .have hl0:l0=[]:=lF RS;subst hl0;have hroom':cK (([]:List V).length+((a::l1).map (aO R gT)).length) gy=true/\og (dB R gT) ([]:List V)=true:=⟨by rw[eU];exact hroom,rfl⟩;rcases k2 with rfl|rfl
          .have:=hap (.ak .nil []);dsimp only at this;rw[if_pos hroom'] at this;refine Fa (rM:=Z) hd (.inr rfl) (hi1.del' p) (fun q=>bN.del' hl hnr) rfl (IG hR _ _) (ho _ _ this) ?_ rfl;simp
          .have:=hap (.ak .full []);dsimp only at this;rw[if_pos hroom',if_neg hne] at this;refine Fa (rM:=Z) hd (.inr rfl) (hi1.del' p) (fun q=>bN.del' hl hnr) rfl (IG hR _ _) (ho _ _ this) ?_ rfl;simp
        cases hpc:Nat.beq p (E.cn d) with
        |true=>
         rw[hpc,cond_true] at h;cases h;cases l' with
         |cons a l1=>exact ne a l1 rfl|nil=>
          have hp:=fH hpc;intro hroom;have hO:=hi.ob _ _ hl;have hlen:l0.length=C.ln p:=hO.1;have hnr:vD (bI.arr gT l0)=false:=rfl;have hroom':∀(k:Nat),k=l0.length->cK (k+(([]:List (Den R.T gT)).map (aO R gT)).length) gy=true:=fun k hk=>by rw[hk];exact hroom
          rcases hx.AJ with ⟨s,k1,rfl⟩| ⟨k1,k2⟩
          .rcases hO.2 with hO2| ⟨s',cs,k3,k4,k5⟩
           .rw[k1] at hO2;exact absurd hO2.2 aB
           .rw[k1] at k3;cases k3;have:=hap (.aU (C.aj.lc p) s 0 (C.ln p) (C.ln p) (dB R gT) (jC gT));dsimp only at this;have hlc:cs.length=l0.length*dB R gT:=(by rw[k5.length,E9]);rw[if_pos ⟨hroom' _ hlen.symm,rfl,rfl⟩] at this;simp only[Option.bind_some,k4,List.map_nil,List.length_nil,Nat.add_zero] at this;rw[if_pos (mF _),if_pos Gc] at this;have hsp:gI cs (C.ln p*dB R gT) (([]:List V).flatMap V.cells)=cs:=(by unfold gI;simp);rw[hsp] at this;rw[iV,<-hp];refine⟨_,_,C.AL p s l0.length,ho _ _ this,(hi1.del' p).Mr p s l0.length (x:=.arr gT l0) (a:=.cells cs) ⟨(CJ (C:=C.nP p s)).symm,.inr ⟨s,cs,Ae (C:=C),su _ _ _ _,zx l0 cs k5⟩⟩,rfl,?_,fun q hq=>?_⟩
            .unfold aA;exact .inl ⟨s,Ae (C:=C),by rw[show (C.AL p s l0.length).ln p=l0.length from CJ (C:=C.nP p s),hlen];rfl⟩
            .have hne:q≠p:=fun e=>hq.2 _ hd (by rw[e,hp]);exact(bN.del' hl hnr).trans (bN.Mr hne)
          .have hl0:l0=[]:=lF RS;subst hl0;rcases k2 with rfl|rfl
           .have:=hap (.ak .nil []);dsimp only at this;rw[if_pos ⟨hroom' 0 rfl,rfl⟩] at this;exact Fa (rM:=Z) hd (.inr rfl) (hi1.del' p) (fun q=>bN.del' hl hnr) rfl rfl (ho _ _ this) rfl rfl
           .have:=hap (.ak .full []);dsimp only at this;rw[if_pos ⟨hroom' 0 rfl,rfl⟩,if_pos bC] at this;refine⟨_,_,C.gh (E.cn d),ho _ _ this,(hi1.del' p).ghost (E.cn d) gT,rfl,by unfold aA;exact .inr ⟨CJ (C:=C) (n:=0),.inr rfl⟩,fun q hq=>?_⟩;have Fb:q≠E.cn d:=fun e=>hq.2 _ hd e.symm;refine(bN.del' hl hnr).trans ?_;exact⟨(zy q Fb).1,(zy q Fb).2,rfl,mF _,⟨fun _ _=>rfl,fun _ _=>rfl⟩,fun _ _ _=>rfl,fun hr=>⟨((bN.new (nr:=true) (C:=C) (Z:=Z) (s:=0) (a:=.cells []) Fb).ro hr).1,fun _=>⟨rfl,rfl⟩⟩⟩
        |false=>
         rw[hpc,cond_false] at h;split at h
         .rename_i a l1;cases h;exact ne _ _ rfl
         .cases h
       .cases h
      .cases h
     .cases h
    .obtain⟨hE,h⟩:=fI h;cases h;intro hroom;have hroom':cK (([]:List V).length+(l'.map (aO R τ)).length) gy=true/\og (dB R τ) ([]:List V)=true:=⟨by rw[eU,List.length_nil,nX];exact hroom,rfl⟩;rcases agh (fr:=fr) hE (.of hx) with rfl|rfl
     .have:=hap (.ak .nil []);dsimp only at this;rw[if_pos hroom'] at this;refine Fa (rM:=Z) hd (.inr rfl) hi1 (fun q=>.refl) rfl (IG hR _ _) (ho _ _ this) ?_ rfl;simp
     .have:=hap (.ak .full []);dsimp only at this;rw[if_pos hroom'] at this;by_cases hne:((l'.map (aO R τ)).isEmpty)=true
      .rw[if_pos hne] at this;have hl':l'=[]:=(by simpa using hne);subst hl';refine⟨_,_,C.gh (E.cn d),ho _ _ this,hi1.ghost (E.cn d) τ,rfl,by unfold aA;exact .inr ⟨CJ (C:=C) (n:=0),.inr rfl⟩,fun p hp=>?_⟩;have Fb:p≠E.cn d:=fun e=>hp.2 _ hd e.symm;exact⟨(zy p Fb).1,(zy p Fb).2,rfl,mF _,⟨fun _ _=>rfl,fun _ _=>rfl⟩,fun _ _ _=>rfl,fun hr=>⟨((bN.new (nr:=true) (C:=C) (Z:=Z) (s:=0) (a:=.cells []) Fb).ro hr).1,fun _=>⟨rfl,rfl⟩⟩⟩
      .rw[if_neg hne] at this;refine Fa (rM:=Z) hd (.inr rfl) hi1 (fun q=>.refl) rfl (IG hR _ _) (ho _ _ this) ?_ rfl;simp
   .cases h
  .cases h
 .cases h
theorem arb {aj:Bool}{d:Option Nat}{t:TypeId}{x y:au R.T}{v w:V}{r:eY R}{aI:Nat}{o:Oper}(h:WH E R aj d t x y st=some r)(hx:aA R C Z.top x v)(hy:aA R C Z.top y w)(hi:aT C aI st fr Z)(hd:o.dst=d)(ho:∀y Z',Ai E.P aj Z aI (d.map fun t=>(C.aj.lc t)) t v w=some (y,Z')->nQ E fr Z aI o y Z'):sN E st C aI fr Z o r:=by
 unfold WH at h;cases h
theorem agF {x:au R.T}{v:V}{o:Nat}{τ:Ty}{a c:Int}(h:H9 st x=some (o,τ,a,c))(hx:aA R C Z.top x v)(hi:aT C b st fr Z):aA R C Z.top (.sub o τ a c) v:=by
 unfold H9 at h;split at h
 .split at h
  .rename_i l hl;cases h;have h1:=(hi.rd hl).1;unfold aA;refine⟨RS,RS,RS,?_⟩;rcases hx.AJ with ⟨s,k1,rfl⟩| ⟨h0,h2⟩
   .refine .inl ⟨s,C.ln o,k1,RS,?_⟩
    .rw[show ((l.length:Int)-0).toNat=C.ln o by omega];simp
   .refine .inr ⟨RS,?_⟩;rcases h2 with rfl|rfl<;>exact⟨_,rfl⟩
  .cases h
 .cases h;exact hx
 .cases h
omit hR in
theorem agG {n:Int}{cp:Nat}{lo hi':Option Int}{vl vh:Option V}(hl:(lo=none/\vl=none)\/∃n k,lo=some n/\vl=some (.int k n))(hh:(hi'=none/\vh=none)\/∃n k,hi'=some n/\vh=some (.int k n))(hc:n.toNat<=cp)(h0:0<=n)(hb:afw (pK lo) (sI n hi') n=true):
 jq n.toNat cp vl vh none=some ((pK lo).toNat,(sI n hi').toNat,cp):=by
 have hb':0<=pK lo/\pK lo<=sI n hi'/\sI n hi'<=n:=of_decide_eq_true hb;rcases hl with ⟨rfl,rfl⟩| ⟨i,k,rfl,rfl⟩<;>rcases hh with ⟨rfl,rfl⟩| ⟨m,k',rfl,rfl⟩<;>simp only[pK,sI] at hb'⊢
 .rfl
 .simp only[jq,bnd,pG,Option.bind_some];rw[if_pos ⟨RS,RS⟩];rfl
 .simp only[jq,bnd,pG,Option.bind_some];rw[if_pos ⟨RS,RS⟩];rfl
 .simp only[jq,bnd,pG,Option.bind_some];rw[if_pos ⟨RS,RS⟩];simp only[Option.bind_some];rw[if_pos ⟨RS,RS⟩];rfl
theorem ard {t:TypeId}{x:au R.T}{lo hi':Option (au R.T)}{v:V}{vl vh:Option V}{r:eY R}(h:Ro E R t x lo hi' st=some r)(hx:aA R C Z.top x v)(hi:aT C b st fr Z)(hl:∀y,lo=some y->∃w,vl=some w/\aA R C Z.top y w)(hln:lo=none->vl=none)(hh:∀y,hi'=some y->∃w,vh=some w/\aA R C Z.top y w)(hhn:hi'=none->vh=none):qo C Z.top (kQ E.P Z t v vl vh none) r:=by
 unfold Ro at h;split at h
 .rename_i o τ a c lo' hi2 e hw e1 e2 hu;have b1:=CS e1 hl hln;have b2:=CS e2 hh hhn;have hxs:=agF hR hw hx hi;split at h
  .rename_i sz hs;obtain⟨hb,h⟩:=fI h;cases h;have:=fH hb;subst this;intro hc;have hc':0<=pK lo'/\pK lo'<=sI (c-a) hi2/\sI (c-a) hi2<=c-a:=of_decide_eq_true hc;obtain⟨g0,g1,g2,h⟩:=hxs.EY;rcases h with ⟨s,cp,h1,h2,rfl⟩| ⟨e,q,rfl⟩
   .have hsb:=agG b1 b2 h2 RS hc;unfold kQ;rw[hu];dsimp only;simp only[hs,Option.bind_some,hsb];rw[if_true];by_cases hz:(pK lo').toNat=(sI (c-a) hi2).toNat/\0< (pK lo').toNat
    .rw[if_pos hz];exact⟨_,rfl,by unfold aA;exact⟨RS,RS,RS,.inr ⟨RS,_,rfl⟩⟩⟩
    .rw[if_neg hz];refine⟨_,rfl,?_⟩;unfold aA;refine⟨RS,RS,RS,.inl ⟨s,cp-(pK lo').toNat,h1,RS,?_⟩⟩;rw[<-qy,show a.toNat+(pK lo').toNat=(a+pK lo').toNat by omega,show (sI (c-a) hi2).toNat-(pK lo').toNat=(a+sI (c-a) hi2-(a+pK lo')).toNat by omega]
   .have e0:c-a=0:=RS;have hsb:=agG (n:=0) (cp:=0) b1 b2 aB RS (by rw[<-e0];exact hc);unfold kQ;rw[hu];dsimp only;rw[e0] at hc';have arf:jq ([]:List V).length ([]:List V).length vl vh none=some (0,0,0):=(by have e3:jq ([]:List V).length ([]:List V).length vl vh none=some ((pK lo').toNat,(sI 0 hi2).toNat,0):=hsb;rw[e3,show (pK lo').toNat=0 by omega,show (sI 0 hi2).toNat=0 by omega]);simp only[hs,Option.bind_some,arf,og];rw[if_true,e0];refine⟨_,rfl,?_⟩;have hl0:pK lo'=0:=RS;have hh0:sI 0 hi2=0:=RS;rw[hl0,hh0];have:∀(k:Cap),aA R C Z.top (.sub o τ (a+0) (a+0)) (.ak k []):=fun k=>by unfold aA;exact⟨RS,RS,RS,.inr ⟨rfl,_,rfl⟩⟩
    exact this _
  .cases h
 .cases h
theorem RZ {t:TypeId}{x:au R.T}{lo hi':Option (au R.T)}{v:V}{vl vh:Option V}{r:eY R}(h:Cv E R t x lo hi' st=some r)(hx:aA R C Z.top x v)(hi:aT C b st fr Z)(hl:∀y,lo=some y->∃w,vl=some w/\aA R C Z.top y w)(hln:lo=none->vl=none)(hh:∀y,hi'=some y->∃w,vh=some w/\aA R C Z.top y w)(hhn:hi'=none->vh=none):qo C Z.top (kQ E.P Z t v vl vh none) r:=by
 unfold Cv at h;split at h
 .rename_i r' hr;cases h;exact ard hR hr hx hi hl hln hh hhn
 .exact aqQ hR (Z:=Z) h hx hl hln hh hhn
theorem arh {t:TypeId}{p:Nat}{τ:Ty}{a c:Int}{y:au R.T}{v w:V}{r:eY R}(h:WM E R t p τ a c y=some r)(hx:aA R C Z.top (.sub p τ a c) v)(hy:aA R C Z.top y w)(hi:aT C b st fr Z):qo C Z.top (p9 E.P t v w) r:=by
 unfold WM at h;split at h
 .rename_i e k n hu;split at h
  .rename_i sz hs;obtain⟨hb,h⟩:=fI h;cases h;have:=fH hb;subst this;rw[hy.iO];intro hc;have hc':0<=n/\n<c-a:=of_decide_eq_true hc;obtain⟨g0,g1,g2,h⟩:=hx.EY;rcases h with ⟨s,cp,h1,h2,rfl⟩| ⟨e,_,rfl⟩
   .refine⟨.ref (C.aj.lc p) s (a.toNat*dB R τ+n.toNat*dB R τ),?_,by unfold aA;exact⟨s,h1,RS,by rw[<-qy,Nat.add_zero];congr 2;omega⟩⟩;unfold p9;rw[hu];simp only[hs,Option.bind_some,idx,pG];rw[if_pos ⟨hc'.1,RS⟩];simp
   .omega
  .cases h
 .cases h
theorem ari {aj:Bool}{t:TypeId}{p:Nat}{τ:Ty}{y:au R.T}{v w:V}{r:eY R}(h:WL E R t p τ y st=some r)(hx:aA R C Z.top (.aU p τ) v)(hy:aA R C Z.top y w)(hi:aT C b st fr Z):qo C Z.top (p9 E.P t v w) r:=by
 unfold WL at h;split at h
 .rename_i e k n hu;split at h
  .rename_i sz hs;obtain⟨hb,h⟩:=fI h;split at h
   .rename_i gT l hl;cases h;have:=fH hb;subst this;rw[hy.iO];intro hc;have hc':=of_decide_eq_true hc;have hlen:=(hi.rd hl).1;rcases hx.AJ with ⟨s,k1,rfl⟩| ⟨h0,_⟩
    .refine⟨.ref (C.aj.lc p) s (n.toNat*dB R τ),?_,by unfold aA;exact⟨s,k1,hc'.1,rfl⟩⟩;unfold p9;rw[hu];simp only[hs,Option.bind_some,idx,pG];rw[if_pos ⟨hc'.1,by rw[<-hlen];exact hc'.2⟩];simp
    .rw[hlen,h0] at hc';omega
   .cases h
  .cases h
 .cases h
end
end aR
end
