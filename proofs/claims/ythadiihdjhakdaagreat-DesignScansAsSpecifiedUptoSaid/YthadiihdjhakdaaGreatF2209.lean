import Derived.Test.YthadiihdjhakdaaGreatF2208
set_option linter.all false
section
namespace aR
open Go
section
variable {R:iI}{E:Env}
variable {ρ:aV}{top:Nat->Nat}
def qH (ρ:aV)(top:Nat->Nat)(v:Option V):eT R->Prop
 |.t x=>∃y,v=some y/\aB R ρ top x y|.c c x=>c=true->∃y,v=some y/\aB R ρ top x y|.p _ _ o f=>∀a,o=some a->∃y,v=some y/\aB R ρ top (f a) y|.alt l=>∀(β:Type)(k:au R.T->Option β)(r:β),EX k l=some r->∃x y,k x=some r/\v=some y/\aB R ρ top x y|_=>False
theorem agW {op:BinOp}{k:IntKind}{x y:Int}{r:eT R}(h:Vq R op k x y=some r):qH ρ top (lY op k x y) r:=by
 unfold Vq at h;cases op<;>cases h<;>first
  |exact⟨_,rfl,iY⟩
  | (intro hc
     have hy:¬y=0:=Us;exact⟨_,if_neg hy,iY⟩)
theorem atm {op:BinOp}{k:IntKind}{x y:Int}{r:eT R}(h:ZL R op k x y=some r):qH ρ top (Nf op k x y) r:=by
 unfold ZL at h;cases op<;>cases h<;>
  (intro hc
   have hy:¬y<0:=by have:=of_decide_eq_true hc;omega
   exact⟨_,if_neg hy,iY⟩)
theorem atn {op:BinOp}{x y:List UInt8}{r:eT R}(h:ZM R op x y=some r):qH ρ top (CO op x y) r:=by
 unfold ZM at h;cases op<;>cases h<;>first
  |exact⟨_,rfl,iY⟩
  | (intro hc
     have hy:¬((x.length+y.length:Nat):Int)>IntKind.i64.max:=(by have:=of_decide_eq_true hc;omega);exact⟨_,if_neg hy,iY⟩)
theorem ato {P:Program}{op:BinOp}{t:TypeId}{k:IntKind}{a b:Int}(h:Iq op=false):tu P op t (.int k a) (.int k b)=lY op k a b:=by
 cases op<;>first| (simp[Iq] at h;done)|simp[tu]
theorem atp {P:Program}{op:BinOp}{t:TypeId}{k k':IntKind}{a b:Int}(h:Iq op=true):tu P op t (.int k a) (.int k' b)=Nf op k a b:=by
 cases op<;>first| (simp[Iq] at h;done)|rfl
theorem atq {P:Program}{op:BinOp}{t:TypeId}{a b:List UInt8}:tu P op t (.str a) (.str b)=CO op a b:=by
 cases op<;>rfl
theorem atr {P:Program}{t:TypeId}{x y:V}{b:Bool}(h:qQ P t x y=some b):(∀k n k' m,x= .int k n->y= .int k' m->False)/\∀s s',x= .str s->y= .str s'->False:=by
 unfold qQ at h;constructor
 ·intro k n k' m hx hy;subst hx;subst hy;split at h<;>simp_all
 ·intro s s' hx hy;subst hx;subst hy;split at h<;>simp_all
theorem V6 {P:Program}{t:TypeId}{x y:V}{b:Bool}(h:qQ P t x y=some b):tu P .eql t x y=some (.bool b)/\tu P .neq t x y=some (.bool !b):=by
 obtain⟨h1,h2⟩:=atr h;constructor;all_goals
  unfold tu;split
  ·rename_i he;cases he
  ·rename_i he;cases he
  ·exact(h1 _ _ _ _ rfl rfl).elim
  ·exact(h2 _ _ rfl rfl).elim
  all_goals first| (rw[h];rfl)| (rename_i he;cases he)|simp_all
theorem agX {t:TypeId}{x y:au R.T}{v w:V}{c b:Bool}(h:Vr E R t x y=some (c,b))(hx:aB R ρ top x v)(hy:aB R ρ top y w)(hc:c=true):qQ E.P t v w=some b:=by
 unfold Vr at h;split at h
 ·rename_i hu
  cases h;rw[hx.p8,hy.p8];unfold qQ;rw[hu]
 ·rename_i hu
  cases h;obtain⟨c',rfl,hcr⟩:=hx.lU;have att:c'= .nil:=hcr;subst att;rw[hy.p8,List.isEmpty_iff.1 hc];unfold qQ;rw[hu];rfl
 ·rename_i _ _ l _ hu
  cases h;obtain⟨c',rfl,hcr⟩:=hx.lU
  match l,hc with
  |a::l,_=>rw[hy.p8];unfold qQ;rw[hu];cases c'<;>rfl
 ·cases h
theorem atu {op:BinOp}{t:TypeId}{x y:au R.T}{v w:V}{r:eT R}(h:ZN E R op t x y=some r)(hx:aB R ρ top x v)(hy:aB R ρ top y w):qH ρ top (tu E.P op t v w) r:=by
 unfold ZN at h;split at h
 ·rename_i k a k' b
  rw[hx.kI,hy.kI];cases hs:Iq op
  ·rw[hs,cond_false] at h
   split at h
   ·rename_i e;subst e;rw[ato hs];exact agW h
   ·cases h
  ·rw[hs,cond_true] at h;rw[atp hs];exact atm h
 ·rw[hx.o7,hy.o7,atq];exact atn h
 ·split at h
  ·split at h
   ·rename_i c b hb;cases h
    exact fun hc=>⟨_,(V6 (agX hb hx hy hc)).1,iY⟩
   ·split at h
    ·rename_i b hb;cases h
     exact⟨_,(V6 (agV hb hx hy)).1,iY⟩
    ·cases h
  ·split at h
   ·rename_i c b hb;cases h
    exact fun hc=>⟨_,(V6 (agX hb hx hy hc)).2,iY⟩
   ·split at h
    ·rename_i b hb;cases h
     exact⟨_,(V6 (agV hb hx hy)).2,iY⟩
    ·cases h
  ·cases h
theorem atv {op:UnOp}{x:au R.T}{v:V}{r:eT R}(h:ZO R op x=some r)(hx:aB R ρ top x v):qH ρ top (Ew op v) r:=by
 unfold ZO at h;split at h
 ·cases h;rw[hx.kI];exact⟨_,rfl,iY⟩
 ·rw[hx.kI];exact agW h
 ·cases h;rw[hx.q9];exact⟨_,rfl,iY⟩
 ·cases h;rw[hx.vv];exact⟨_,rfl,iY⟩
 ·cases h
theorem atw (s:List UInt8):s.map zy=List.map (aP R (.int .u8)) (s.map fun b=>(b.toNat:Int)):=by show s.map zy=List.map (fun n:Int=>V.int .u8 n) (List.map (fun b:UInt8=>(b.toNat:Int)) s);rw[CF];rfl
theorem agY:∀l:List Int,(List.map (aP R (.int .u8)) l).mapM Ey=some (List.map (fun n:Int=>UInt8.ofNat n.toNat) l)
 | []=>rfl|n::l=>by show List.mapM Ey (V.int .u8 n::List.map (aP R (.int .u8)) l)=_;rw[j5,agY l];rfl
theorem atx {a b:TypeId}{x:au R.T}{v:V}{σ:ak}{r:eT R}(h:Vs E R a b x=some r)(hx:aB R ρ top x v):qH ρ top (CP E.P σ a b v) r:=by
 unfold Vs at h;unfold CP;split at h
 ·rename_i hu hv;cases h;rw[hx.kI,hu,hv];exact⟨_,rfl,iY⟩
 ·rename_i hu hv;cases h;rw[hx.o7,hu,hv];exact⟨_,rfl,iY⟩
 ·rename_i l hu hv
  obtain⟨c',rfl,_⟩:=hx.lU;rw[hu,hv];split at h
  ·rename_i he;cases h
   dsimp only;rw[he];exact⟨_,congrArg (Option.map V.str) (agY (R:=R) l),iY⟩
  ·cases h
 ·rename_i hu hv
  rw[hx.p8,hu,hv];split at h
  ·rename_i he;cases h
   dsimp only;rw[he];exact⟨_,rfl,iY⟩
  ·cases h
 ·cases h
theorem V7 {x:Option (au R.T)}{v:Option V}{i:Option Int}(h:Ir R x=some i)(hx:∀y,x=some y->∃w,v=some w/\aB R ρ top y w)(hn:x=none->v=none):(i=none/\v=none)\/∃n k,i=some n/\v=some (.int k n):=by
 unfold Ir at h;split at h
 ·cases h;exact .inl ⟨rfl,hn rfl⟩
 ·rename_i k n
  cases h;obtain⟨w,rfl,hw⟩:=hx _ rfl;exact .inr ⟨n,k,rfl,by rw[hw.kI]⟩
 ·cases h
theorem V8 {k:IntKind}{n:Int}{m:Nat}(h:u6 n m=true):bnd (.int k n) m=some n.toNat:=by unfold u6 at h;have:=of_decide_eq_true h;simp[bnd,oG,this]
theorem aty {α:Type}(l:List α){lo hi:Option Int}{vl vh:Option V}(hl:(lo=none/\vl=none)\/∃n k,lo=some n/\vl=some (.int k n))(hh:(hi=none/\vh=none)\/∃n k,hi=some n/\vh=some (.int k n))(hb:af4 l.length lo hi=true):
 ∃a c,tC l.length l.length vl vh none=some (a,c,l.length)/\(l.take c).drop a=kS l lo hi:=by
 rcases hl with ⟨rfl,rfl⟩| ⟨n,k,rfl,rfl⟩<;>rcases hh with ⟨rfl,rfl⟩| ⟨m,k',rfl,rfl⟩
 ·exact⟨0,l.length,rfl,by simp[kS]⟩
 ·have h1:u6 m l.length=true:=hb
  exact⟨0,m.toNat,by simp[tC,V8 h1],by simp[kS]⟩
 ·have h1:u6 n l.length=true:=hb
  exact⟨n.toNat,l.length,by simp[tC,V8 h1],by simp[kS]⟩
 ·have h1:(u6 m l.length&& u6 n m.toNat)=true:=hb
  rw[aT] at h1;exact⟨n.toNat,m.toNat,by simp[tC,V8 h1.1,V8 h1.2],by simp[kS]⟩
theorem atz {α:Type}(f:α->V)(l:List α)(a c:Nat):((l.map f).take c).drop a=((l.take c).drop a).map f:=aD
variable (hR:qE R)
include hR
theorem I4 (t:Ty)(x:Den R.T t):(aP R t x).cells.length=dA R t/\dU (aP R t x).cells=true/\er (aP R t x)=aP R t x/\(jq t=true->∃l,aP R t x= .agg l)/\(jq t=false->(aP R t x).cells=[aP R t x]):=by
 cases t with
 |int k=>exact⟨rfl,rfl,rfl,by simp[jq],fun _=>rfl⟩
 |bool=>exact⟨rfl,rfl,rfl,by simp[jq],fun _=>rfl⟩
 |str=>exact⟨rfl,rfl,rfl,by simp[jq],fun _=>rfl⟩
 |slice t=>exact⟨rfl,rfl,rfl,by simp[jq],fun _=>rfl⟩
 |st n=>
  have he:aP R (.st n) x= .agg (encs R (R.lf n) (R.of n x)):=hR.enc n x;rw[he];have hl:=hR.leaf n;have key:∀(l:List Ty)(p:pV R.T l),l.all oZ=true->dU (encs R l p)=true/\(encs R l p).map fB=encs R l p:=by
   intro l;induction l with
   |nil=>intro p _;exact⟨rfl,rfl⟩|cons t l ih=>
    intro p h;rw[List.all_cons,aT] at h;have h1:∀y:Den R.T t,oneCell (aP R t y)=true/\fB (aP R t y)=aP R t y:=(by intro y;cases t<;>first|exact⟨rfl,rfl⟩| (have:=h.1;simp[oZ] at this));cases l with
    |nil=>exact⟨by simp[encs,dU,(h1 p).1],by simp[encs,(h1 p).2]⟩|cons u l=>have:=ih p.2 h.2;exact⟨by show (oneCell _&& dU (encs R (u::l) p.2))=true;rw[(h1 p.1).1,this.1];rfl,by show fB _::List.map fB (encs R (u::l) p.2)=_;rw[(h1 p.1).2,this.2];rfl⟩
  have:=key (R.lf n) (R.of n x) hl;exact⟨aak _ _,this.1,by show V.agg (List.map fB _)=_;rw[this.2],fun _=>⟨_,rfl⟩,by simp[jq]⟩
theorem aaw {t:Ty}(l:List (Den R.T t)):qR (dA R t) (l.map (aP R t))=true:=by
 cases l with
 |nil=>rfl|cons x l=>show ((aP R t x).cells.length==dA R t)=true;rw[(I4 hR t x).1];simp
theorem atA {t:TypeId}{x:au R.T}{lo hi:Option (au R.T)}{v:V}{vl vh:Option V}{σ:ak}{r:eT R}(h:Vt E R t x lo hi=some r)(hx:aB R ρ top x v)(hl:∀y,lo=some y->∃w,vl=some w/\aB R ρ top y w)(hln:lo=none->vl=none)(hh:∀y,hi=some y->∃w,vh=some w/\aB R ρ top y w)(hhn:hi=none->vh=none):qH ρ top (wB E.P σ t v vl vh none) r:=by
 unfold Vt at h;split at h
 ·rename_i lo' hi' e1 e2
  have b1:=V7 e1 hl hln;have b2:=V7 e2 hh hhn;split at h
  ·rename_i e c u l hu
   split at h
   ·rename_i sz hs
    cases hb:Nat.beq sz (dA R u)
    ·rw[hb] at h;cases h
    ·rw[hb,cond_true] at h;cases h
     have:=iK hb;subst this;obtain⟨c',rfl,_⟩:=hx.lU;intro hc;obtain⟨a,m,h1,h2⟩:=aty l b1 b2 hc;unfold wB;rw[hu];dsimp only;rw[hs];simp only[Option.bind_some,iG,h1,aaw hR,if_true];by_cases hcs:a=0/\m=l.length/\(none:Option V).isNone=true
     ·refine⟨_,by rw[if_pos hcs],?_⟩
      unfold aB;refine⟨c',?_,trivial⟩;rw[<-h2,hcs.1,hcs.2.1];simp
     ·refine⟨_,by rw[if_neg hcs],?_⟩
      unfold aB;exact⟨_,by rw[<-h2,atz],trivial⟩
   ·cases h
  ·cases h
 ·cases h
theorem V9 {t:TypeId}{k:Ty}(hk:Bt E t k=true)(x y:Den R.T k):pJ (aP R k x) (aP R k y)=some (jo R k x y)/\nJ E.P t (aP R k x)=true:=by
 unfold Bt at hk;split at hk
 ·rename_i hu;exact⟨by simp[pJ,aP,jo],by unfold nJ;rw[hu];rfl⟩
 ·rename_i hu;exact⟨rfl,by unfold nJ;rw[hu];rfl⟩
 ·rename_i hu;exact⟨rfl,by unfold nJ;rw[hu];rfl⟩
 ·cases hk
theorem agZ {t:TypeId}{k e:Ty}(hk:Bt E t k=true)(x:Den R.T k):∀m:List (Den R.T k×Den R.T e),rT (aP R k x) (m.map fun p=>aP R k p.1) (m.map fun p=>aP R e p.2)=some ((oV (jo R k) x m).map (aP R e))
 | []=>rfl| (a,v)::m=>by
   show (pJ (aP R k x) (aP R k a)).bind _=some ((bif jo R k x a then some v else oV (jo R k) x m).map (aP R e));rw[(V9 hR hk x a).1,Option.bind_some];cases jo R k x a
   ·exact agZ hk x m
   ·rfl
theorem ag0 {t:TypeId}{k e:Ty}(hk:Bt E t k=true)(x:Den R.T k)(v:Den R.T e):∀m:List (Den R.T k×Den R.T e),zA (aP R k x) (aP R e v) (m.map fun p=>aP R k p.1) (m.map fun p=>aP R e p.2)=some ((wT (jo R k) x v m).map (fun p=>aP R k p.1),(wT (jo R k) x v m).map fun p=>aP R e p.2)
 | []=>rfl| (a,w)::m=>by
   show (pJ (aP R k x) (aP R k a)).bind _=_;rw[(V9 hR hk x a).1,Option.bind_some];show _=some (List.map _ (bif jo R k x a then (x,v)::m else (a,w)::wT (jo R k) x v m),List.map _ (bif jo R k x a then (x,v)::m else (a,w)::wT (jo R k) x v m));cases jo R k x a
   ·simp only[dL,if_false,cond_false]
    rw[ag0 hk x v m];rfl
   ·rfl
theorem ag1 {t:TypeId}{k:Ty}(hk:Bt E t k=true){x:Den R.T k}{y:au R.T}{v:V}(h:tZ R k y=some x)(hr:aB R ρ top y v):v=aP R k x:=by
 unfold Bt at hk;split at hk
 ·exact aah h hr
 ·exact aaj h hr
 ·exact aai h hr
 ·cases hk
omit hR in
def mapOf (σ:ak):V->Option (List V×List V)
 |.gD=>some ([],[])|.cu loc s=>σ.gB loc s|.dV ks vs=>some (ks,vs)|_=>none
omit hR in
theorem ag2 {P:Program}{σ:ak}{t:TypeId}{m k:V}{ok:Bool}:zB P σ t m k ok=(wz P t).bind fun p=>if nJ P p.1 k then (mapOf σ m).bind fun q=>(rT k q.1 q.2).bind fun r=>(match r with|some v=>some (v,true)|none=>(kC P p.2).map fun z=>(z,false)).map fun (x:V×Bool)=>if ok then .bB [x.1,.bool x.2] else x.1 else none:=by
 cases m<;>rfl
theorem aax {t:TypeId}{k e:Ty}{m:List (Den R.T k×Den R.T e)}{y:au R.T}{w mv:V}{ok:Bool}{σ:ak}{r:eT R}(h:Ow E R t k e m y ok=some r)(hy:aB R ρ top y w)(hm:mapOf σ mv=some (m.map (fun p=>aP R k p.1),m.map fun p=>aP R e p.2)):qH ρ top (zB E.P σ t mv w ok) r:=by
 unfold Ow at h;split at h
 ·rename_i kt et ht
  cases hk:Bt E kt k
  ·rw[hk] at h;cases h
  ·rw[hk,cond_true] at h
   split at h
   ·rename_i z hz
    split at h
    ·rename_i z' x hz' hx
     cases h;have hw:=ag1 hR hk hx hy;subst hw;obtain⟨zv,hzv,aay⟩:=V4 (ρ:=ρ) (top:=top) hz;have atB:=OI hR hz' aay;rw[ag2,ht];simp only[Option.bind_some];rw[if_pos (V9 hR hk x x).2,hm];simp only[Option.bind_some];rw[agZ hR hk x m];simp only[Option.bind_some];cases hg:oV (jo R k) x m with
     |some v=>
      simp only[Option.map_some];cases ok
      ·exact⟨_,rfl,VW hR .any (.inl rfl) e v⟩
      ·refine⟨_,rfl,?_⟩
       rw[cond_true];unfold aB;exact⟨_,rfl,.cons' (VW hR .any (.inl rfl) e v) (.cons' iY rfl)⟩
     |none=>
      simp only[Option.map_none,hzv,Option.map_some];have hz3:aB R ρ top (iJ R .any e z') zv:=atB;cases ok
      ·exact⟨_,rfl,hz3⟩
      ·refine⟨_,rfl,?_⟩
       rw[cond_true];unfold aB;exact⟨_,rfl,.cons' hz3 (.cons' iY rfl)⟩
    ·cases h
   ·cases h
 ·cases h
end
section
variable {R:iI}{E:Env}
variable {ρ:aV}{top:Nat->Nat}{b:Nat}{st:aH R.T}{fr:Fr}{σ:ak}
theorem gH.{u} {α:Type u}{c:Bool}{o:Option α}{y:α}(h:(bif c then o else none)=some y):c=true/\o=some y:=by
 cases c
 ·cases h
 ·exact⟨rfl,h⟩
theorem Wd {t e:TypeId}{u:Ty}{sz iO:Nat}(h:Iy E R t=some (e,u,sz,iO)):∃z,nW E.P t=some e/\fq E.P e=some sz/\xQ E.P e=some iO/\pI E.P e=some (jq u)/\kC E.P e=some z/\
 sz=dA R u/\0<sz/\(jq u||sz==1)=true/\z.cells.length=sz:=by
 unfold Iy at h;split at h
 ·rename_i e' he
  split at h
  ·rename_i u' sz' by' ag z h1 h2 h3 h4 h5
   obtain⟨hc,h⟩:=gH h;cases h;simp only[aT] at hc;obtain⟨⟨⟨⟨c1,c2⟩,c3⟩,c4⟩,c5⟩:=hc;have:ag=jq u:=by simpa using c5
   subst this;refine⟨z,he,h2,h3,h4,h5,iK c1,lN c2,?_,iK c4⟩;rw[oF] at c3⊢;rcases c3 with c3|c3
   ·exact .inl c3
   ·exact .inr (by rw[iK c3];rfl)
  ·cases h
 ·cases h
theorem aaz (ag:Bool)(sz:Nat):∀vs:List V,(∀v∈vs,v.cells.length=sz)->chunks ag sz vs.length (vs.flatMap V.cells)=vs.map fun v=>if ag then .agg v.cells else v.cells.headD aL
 | [],_=>rfl|v::vs,h=>by
  have h1:=h v aD;have h2:=aaz ag sz vs (fun w hw=>h w (by simp[hw]));show _::chunks ag sz vs.length ((v.cells++vs.flatMap V.cells).drop sz)=_;rw[List.drop_left' h1,h2,fQ];congr 1;cases ag
  ·simp only[dL,if_false]
   show (v.cells++vs.flatMap V.cells).headD aL=_;cases hv:v.cells with
   |nil=>
    have h0:sz=0:=(by rw[<-h1,hv];rfl);cases vs with
    |nil=>rfl|cons w vs=>have:w.cells=[]:=mh (by rw[h w aD,h0]);simp only[mo,this,List.nil_append];have:∀vs:List V,(∀v∈vs,v.cells.length=sz)->vs.flatMap V.cells=[]:=(by intro vs hvs;rw[List.flatMap_eq_nil_iff];intro x hx;exact mh (by rw[hvs x hx,h0]));rw[this vs (fun x hx=>h x zm)]
   |cons a l=>rfl
  ·simp only[if_true]
   show V.agg ((v.cells++vs.flatMap V.cells).take sz)=_;rw[List.take_left' h1]
variable (hR:qE R)
include hR
theorem atC {t:Ty}{x:Den R.T t}{v:V}(h:er v=aP R t x):fM v=true:=by
 cases v<;>try rfl
 have h1:=qF hR t x;rw[<-h] at h1;simp[er,aW] at h1
theorem aaA {u:Ty}{sz len:Nat}(hsz:sz=dA R u):∀(ps:List (Nat×au R.T))(qs:List (Nat×V))(xs:List (Den R.T u))(n:Nat)(done rest:List V),Bu R u n ps=some xs->ps.map (·.1)=qs.map (·.1)->
 aI R ρ top (ps.map (·.2)) (qs.map (·.2))->done.length=n*sz->rest.length=xs.length*sz->n+xs.length<=len->
 ∃vs:List V,uN (fun i=>if i<len then some (i*sz,sz) else none) (done++rest) qs=some (done++vs.flatMap V.cells)/\vs.length=xs.length/\vs.map er=xs.map (aP R u)/\(∀v∈vs,v.cells.length=sz/\dU v.cells=true)/\aI R ρ top (xs.flatMap fun x=>(iJ R .any u x).cells) (vs.flatMap V.cells)
 | [],[],xs,n,done,rest,h,_,_,h1,h2,_=>by
   cases h;have:rest=[]:=mh pq;subst this;exact⟨[],by simp[uN],rfl,rfl,aD,uI⟩
 | [],_::_,_,_,_,_,_,h,_,_,_,_=>uH|_::_,[],_,_,_,_,_,h,_,_,_,_=>uH| (i,v)::ps,(j,w)::qs,xs,n,done,rest,h,hi,hr,h1,h2,h3=>by
   simp only[fQ,qO] at hi;obtain⟨rfl,hi⟩:=hi;obtain⟨y,ys,e,g1,g2⟩:=hr.dS;simp only[fQ,qO] at e;obtain⟨rfl,rfl⟩:=e;unfold Bu at h;cases hb:Nat.beq i n
   ·rw[hb] at h;cases h
   ·rw[hb,cond_true] at h
    have:=iK hb;subst this;cases hu:tZ R u v with
    |none=>simp only[hu] at h;cases h|some x=>
     cases hs:Bu R u (i+1) ps with
     |none=>simp only[hu,hs] at h;cases h|some xs'=>
      simp only[hu,hs] at h;obtain rfl:=jP h;obtain⟨a1,a2,a3,a4,a5⟩:=aam hR hu g1;rw[<-hsz] at a4;have hlen:rest.length=sz+xs'.length*sz:=(by rw[h2,List.length_cons,rP];omega);have q1:(done++w.cells).length=(i+1)*sz:=(by rw[RS,h1,a4,rP]);have q2:(rest.drop sz).length=xs'.length*sz:=(by rw[vZ,hlen,GL]);have q3:i+1+xs'.length<=len:=(by rw[List.length_cons] at h3;omega);obtain⟨vs,k1,k2,k3,k4,k5⟩:=aaA hsz ps qs xs' (i+1) (done++w.cells) (rest.drop sz) hs hi g2 q1 q2 q3;refine⟨w::vs,?_,by simp[k2],by simp[a1,k3],?_,?_⟩
      ·simp only[List.length_cons] at h3
       unfold uN;simp only[if_pos (show i<len by omega)];rw[if_pos ⟨a4,by rw[RS,h1,hlen];exact Nat.add_le_add_left (gF _ _) _,atC hR a1⟩];have:iT (done++rest) (i*sz) w.cells=done++w.cells++rest.drop sz:=(by unfold iT;rw[List.take_left' h1,a4,Nb,h1,GL,GN ah];rfl);rw[this,k1];simp
      ·intro z hz
       rcases fV.1 hz with rfl|hz
       ·exact⟨a4,a5⟩
       ·exact k4 z hz
      ·rw[mo,mo]
       refine aI.append ?_ k5;have h1:=OI hR hu g1;refine(yJ ?_ h1).1;cases u<;>rfl
theorem atD {u:Ty}{sz:Nat}(hsz:sz=dA R u)(h1:(jq u||sz==1)=true){v:V}{x:Den R.T u}(he:er v=aP R u x)(hl:v.cells.length=sz):er (if jq u then .agg v.cells else v.cells.headD aL)=aP R u x:=by
 cases hs:jq u
 ·simp only[dL,if_false]
  have hne:∀cs,v≠ .agg cs:=by rintro cs rfl;cases u<;>first| (simp[jq] at hs;done)| (simp[er,aP] at he;done)
  have:v.cells=[v]:=by cases v<;>first|rfl|exact absurd rfl (hne _)
  rw[this];exact he
 ·simp only[if_true]
  obtain⟨l,hl'⟩:=(I4 hR u x).2.2.2.1 hs;cases v<;>first|exact he| (rw[hl'] at he;simp[er] at he)
omit hR in
theorem ag3 {u:Ty}:∀(ps:List (Nat×au R.T))(n:Nat)(xs:List (Den R.T u)),Bu R u n ps=some xs->xs.length=ps.length:=by
 intro ps;induction ps with
 |nil=>intro n xs h;cases h;rfl|cons p ps ih=>
  intro n xs h;obtain⟨i,v⟩:=p;unfold Bu at h;obtain⟨_,h⟩:=gH h;cases hu:tZ R u v with
  |none=>simp only[hu] at h;cases h|some x=>
   cases hs:Bu R u (n+1) ps with
   |none=>simp only[hu,hs] at h;cases h|some xs'=>simp only[hu,hs] at h;cases h;simp[ih _ _ hs]
theorem atE {t:TypeId}{len:Nat}{ps:List (Nat×au R.T)}{qs:List (Nat×V)}{r:eT R}(h:ZP E R t len ps=some r)(hi:ps.map (·.1)=qs.map (·.1))(hr:aI R ρ top (ps.map (·.2)) (qs.map (·.2))):qH ρ top (zF E t len qs) r:=by
 unfold ZP at h;split at h
 ·rename_i e u sz iO he
  obtain⟨z,e1,e2,e3,e4,e5,e6,e7,e8,e9⟩:=Wd he
  ·obtain⟨hc,h⟩:=gH h
   rw[aT] at hc;split at h
   ·rename_i xs hx
    cases h;have hlen:xs.length=len:=(by rw[ag3 ps 0 xs hx];exact iK hc.2);obtain⟨vs,k1,k2,k3,k4,_⟩:=aaA hR (len:=len) e6 ps qs xs 0 [] ((List.replicate len z.cells).flatten) hx hi hr aD (by simp[e9,hlen]) ah;refine⟨.ay .full (xs.map (aP R u)),?_,by unfold aB;exact⟨.full,rfl,rfl⟩⟩;unfold zF;rw[e1];simp only[Option.bind_some,e2,e4,e5];rw[if_pos ⟨lN hc.1,e9,e7,e8⟩];rw[List.nil_append,List.nil_append] at k1;rw[k1];simp only[Option.bind_some];have hone:dU (vs.flatMap V.cells)=true:=(by unfold dU;rw[List.all_flatMap,kG];intro v hv;exact(k4 v hv).2);rw[hone,if_pos rfl,<-hlen,<-k2,aaz _ _ _ (fun v hv=>(k4 v hv).1),CF];congr 2;have:∀(vs:List V)(xs:List (Den R.T u)),vs.map er=xs.map (aP R u)->(∀v∈vs,v.cells.length=sz/\dU v.cells=true)->vs.map (er∘fun v=>if jq u then .agg v.cells else v.cells.headD aL)=xs.map (aP R u):=by
     intro vs;induction vs with
     |nil=>intro xs h _;exact h|cons v vs ih=>
      intro xs h hk;cases xs with
      |nil=>simp at h|cons x xs=>simp only[fQ,qO] at h;rw[fQ,fQ,ih xs h.2 (fun w hw=>hk w (by simp[hw]))];congr 1;exact atD hR e6 e8 h.1 (hk v aD).1
    rw[this vs xs k3 k4]
   ·cases h
 ·cases h
theorem aaB {u:Ty}(l:List (Den R.T u)):(l.map (aP R u)).all (fun v=>dU v.cells)=true:=by simp[List.all_map,(I4 hR u _).2.1]
theorem ag4 {u:Ty}{ag:Bool}{y:au R.T}{v z:V}{l:List (Den R.T u)}(h:Vz R u y=some l)(hy:aB R ρ top y v):tF σ ag (dA R u) z v=some (l.map (aP R u))/\Ng v=false:=by
 unfold Vz at h;split at h
 ·obtain⟨e,e2⟩:=vB h;subst e;cases e2
  obtain⟨c',rfl,_⟩:=hy.lU;exact⟨by show (if qR _ _=true then _ else _)=_;rw[if_pos (aaw hR _)],rfl⟩
 ·cases h;rw[hy.p8];exact⟨rfl,rfl⟩
 ·rename_i s
  obtain⟨e,e2⟩:=vB h;subst e;cases e2;rw[hy.o7];exact⟨by show (if 1=1 then some (s.map zy) else none)=_;rw[if_pos rfl];exact congrArg some (atw (R:=R) s),rfl⟩
 ·cases h
theorem atF {t e:TypeId}{sz iO:Nat}{ag:Bool}{z:V}{c:Cap}{l ys:List V}{y:V}{loc:Option Loc}{aK:Nat}{P:Program}(h1:nW P t=some e)(h2:fq P e=some sz)(h3:xQ P e=some iO)(h4:pI P e=some ag)(h5:kC P e=some z)(h6:z.cells.length=sz)(h7:0<sz)(h8:(ag||sz==1)=true)(hy:tF σ ag sz z y=some ys)(hi:Ng y=false)(ho:ys.all (fun v=>dU v.cells)=true)(hr:dB (l.length+ys.length) iO=true)(hh:qR sz l=true):
 mR P false false σ aK loc t (.ay c l) y=match c with
  |.own n s=>if n=sz/\σ.top s=l.length then some (.ay (.own n s) (l++ys),σ.dR s (l.length+ys.length)) else none|.nil|.full=>some (.ay (.own sz aK) (l++ys),σ.dR aK (l.length+ys.length))|_=>none:=by
 unfold mR;simp only[h1,h2,h3,h4,h5,Option.bind_some,hi,hy,ho,if_true];rw[if_pos ⟨trivial,h6,h7,h8⟩];simp only[hr,hh,and_self,if_true];cases c<;>rfl
theorem atG {d:Option Nat}{t u:TypeId}{x y:au R.T}{v w:V}{r:eT R}{aK:Nat}{loc:Option Loc}{o:Oper}(h:Ox E R d t u x y st=some r)(hx:aB R ρ σ.top x v)(hy:aB R ρ σ.top y w)(hi:aO ρ aK st fr σ)(ho:∀y σ',mR E.P false false σ aK loc t v w=some (y,σ')->l9 E fr σ aK o y σ'):sJ E st ρ aK fr σ o r:=by
 unfold Ox at h;split at h
 ·rename_i d
  split at h
  ·rename_i e τ sz iO he
   obtain⟨z,e1,e2,e3,e4,e5,e6,e7,e8,e9⟩:=Wd he
   ·obtain⟨hss,h⟩:=gH h
    split at h
    ·rename_i tk l l' hd hs
     cases h;intro hroom;subst e6;obtain⟨g1,g2⟩:=ag4 hR (ag:=jq τ) (z:=z) (σ:=σ) hs hy;have hlen:dB ((l.map (aP R τ)).length+(l'.map (aP R τ)).length) iO=true:=(by rw[iG,iG];exact hroom);have hap:∀c,mR E.P false false σ aK loc t (.ay c (l.map (aP R τ))) w=_:=fun c=>atF hR (σ:=σ) (c:=c) (loc:=loc) (aK:=aK) e1 e2 e3 e4 e5 e9 e7 e8 g1 g2 (aaB hR l') hlen (aaw hR l);have fresh:∀(c:Cap),(c= .nil\/c= .full)->v= .ay c (l.map (aP R τ))->∃x σ' ρ',l9 E fr σ aK o x σ'/\aO ρ' (aK+1) (st.wk tk) fr σ'/\σ'.next=σ.next/\aB R ρ' σ'.top (.ay (.own tk) τ (l++l')) x/\∀p,nA E o p->bF true p st ρ σ (st.wk tk) ρ' σ':=by
      intro c hc hv;subst hv;have:=hap c;refine⟨.ay (.own (dA R τ) aK) (l.map (aP R τ)++l'.map (aP R τ)),σ.dR aK ((l.map (aP R τ)).length+(l'.map (aP R τ)).length),ρ.jM tk aK,ho _ _ (by rw[this];rcases hc with rfl|rfl<;>rfl),?_,rfl,?_,?_⟩
      ·exact hi.wk tk aK _ (j4 _) (Cz _) hi.nx (fun u _ hu=>MW)
      ·unfold aB
       exact⟨_,by rw[nU],.inr (.inr ⟨aK,rfl,by simp[aV.jM,upd],by rw[Oe];simp⟩)⟩
      ·exact fun p _=>bF.wk hi.nx
     unfold af7 at hd;split at hd
     ·rename_i l0
      split at hd
      ·rename_i l1 hl1
       cases hd;obtain⟨e,e2⟩:=vB hl1;subst e;cases e2;obtain⟨c',rfl,hc'⟩:=hx.lU;exact fresh c' (.inl hc') rfl
      ·cases hd
     ·rename_i l0
      split at hd
      ·rename_i l1 hl1
       cases hd;obtain⟨e,e2⟩:=vB hl1;subst e;cases e2;obtain⟨c',rfl,hc'⟩:=hx.lU;exact fresh c' (.inr hc') rfl
      ·cases hd
     ·rename_i tk' gq l0
      split at hd
      ·rename_i l1 hl1
       cases hd;obtain⟨e,e2⟩:=vB hl1;subst e;cases e2;obtain⟨c',rfl,hc'⟩:=hx.lU;rcases hc' with hc'|hc'| ⟨s,hc',ht,hl⟩
       ·exact fresh c' (.inl hc') rfl
       ·exact fresh c' (.inr hc') rfl
       ·subst hc'
        have:=hap (.own (dA R gq) s);dsimp only at this;rw[if_pos ⟨rfl,by rw[iG];exact hl⟩] at this;refine⟨_,_,ρ.jM tk s,ho _ _ this,?_,rfl,?_,?_⟩
        ·exact hi.wk tk s _ (j4 _) (by have:=hi.lt tk s ht;omega) (hi.ge tk s ht) (fun u hu h'=>hu (hi.inj u tk s h' ht))
        ·unfold aB
         exact⟨_,by rw[nU],.inr (.inr ⟨s,rfl,by simp[aV.jM,upd],by rw[Oe];simp⟩)⟩
        ·exact fun p _=>bF.wk (hi.ge tk s ht)
      ·cases hd
     ·cases hd
      rw[hx.p8] at fresh;have hx':=hx.p8;subst hx';exact fresh .nil (.inl rfl) rfl
     ·cases hd
    ·cases h
  ·cases h
 ·cases h
omit hR in
theorem atH {t:TypeId}{x:au R.T}{v:V}{n:Nat}(h:ZT E t x st=some n)(hx:aB R ρ σ.top x v)(hi:aO ρ b st fr σ):rV E σ t v=some n:=by
 unfold ZT at h;unfold rV;split at h
 ·rename_i hu;cases h;obtain⟨c',rfl,_⟩:=hx.lU;rw[hu];simp
 ·rename_i hu;cases h;rw[hx.p8,hu];rfl
 ·rename_i o t hu
  split at h
  ·rename_i t' l hl
   cases h;have h1:=(hi.rd hl).1;rcases hx.z8 with ⟨s,_,rfl⟩| ⟨h0,rfl|rfl⟩
   ·rw[hu];dsimp only;rw[h1]
   ·rw[hu];dsimp only;rw[h1,h0];rfl
   ·rw[hu];dsimp only;rw[h1,h0];rfl
  ·cases h
 ·rename_i o' t' a' b' hu
  cases h;rcases hx.BA with ⟨_,_,_,⟨s,cp,_,_,rfl⟩| ⟨e,c,rfl⟩⟩
  ·rw[hu]
  ·rw[hu];dsimp only;rw[e,Int.sub_self];rfl
 ·rename_i hu;cases h;rw[hx.o7,hu]
 ·rename_i o hu
  split at h
  ·rename_i k e m hl
   cases h;obtain⟨s,h1,rfl⟩:=hx.zZ;obtain⟨s',h2,h3⟩:=hi.rd hl;rw[h1] at h2;cases h2;rw[hu];dsimp only;rw[h3];simp
  ·cases h
 ·rename_i hu;cases h;rw[hx.Du,hu];simp
 ·rename_i hu;cases h;unfold aB at hx;subst hx;rw[hu]
 ·rename_i hu;cases h;rw[hu]
 ·cases h
omit hR in
theorem aaC (mx:Bool):∀{l:List (au R.T)}{x y:au R.T}{v:V}{k:List V},IB mx x l=some y->aB R ρ top x v->aI R ρ top l k->∃w,xS mx v k=some w/\aB R ρ top y w
 | [],x,y,v,k,h,hx,hl=>by rw[hl.iq];unfold IB at h;cases h;exact⟨v,by cases v<;>rfl,hx⟩|z::l,x,y,v,k,h,hx,hl=>by
  obtain⟨w,ws,rfl,h1,h2⟩:=hl.dS;unfold IB at h;split at h
  ·rename_i hz;cases hz
  ·rename_i k a k' b l' hz
   simp only[qO] at hz;obtain⟨rfl,rfl⟩:=hz;split at h
   ·rename_i e;subst e
    rw[hx.kI,h1.kI];unfold xS;rw[if_pos rfl];refine aaC mx h ?_ h2;unfold aB;cases mx<;>rfl
   ·cases h
  ·cases h
omit hR in
theorem ag5 (c:Cp):∀(l:List Ty)(p:pV R.T l),(fJ R c l p).length=l.length
 | [],_=>rfl| [_],_=>rfl|_::u::l,p=>by show (fJ R c (u::l) p.2).length+1=_;rw[ag5 c (u::l)];rfl
omit hR in
theorem I5 (c:Cp)(t:Ty)(x:Den R.T t):(iJ R c t x).cells.length=dA R t:=by
 cases t with
 |st n=>exact ag5 c _ _|_=>rfl
omit hR in
theorem ag6 {α β:Type}{f:α->List β}{sz:Nat}(hf:∀x,(f x).length=sz):∀(n:Nat)(l:List α),(l.flatMap f).drop (n*sz)=(l.drop n).flatMap f
 |0,l=>aD|n+1,[]=>aD|n+1,x::l=>by rw[mo,List.drop_succ_cons,<-ag6 hf n l,rP,Nat.add_comm,<-List.drop_drop,<-hf x,List.drop_left]
omit hR in
theorem ag7 {α β:Type}{f:α->List β}{sz:Nat}(hf:∀x,(f x).length=sz):∀(n:Nat)(l:List α),(l.flatMap f).take (n*sz)=(l.take n).flatMap f
 |0,l=>aD|n+1,[]=>aD|n+1,x::l=>by rw[mo,List.take_succ_cons,mo,<-ag7 hf n l,rP,Nat.add_comm,<-hf x,List.take_length_add_append]
omit hR in
theorem ag8 {α:Type}{l:List α}{a b:Int}(h0:0<=a)(h1:a<=b):Bq l a b=(l.drop a.toNat).take (b-a).toNat:=by unfold Bq;rw[List.take_drop];congr 2;omega
omit hR in
theorem atI {t:Ty}{l:List (Den R.T t)}{cs:List V}{ρ:aV}{top:Nat->Nat}{a b:Int}(h0:0<=a)(h1:a<=b)(h:aI R ρ top (l.flatMap fun x=>(iJ R .any t x).cells) cs):aI R ρ top ((Bq l a b).flatMap fun x=>(iJ R .any t x).cells) ((cs.drop (a.toNat*dA R t)).take ((b-a).toNat*dA R t)):=by rw[ag8 h0 h1,<-ag7 (fun x=>I5 .any t x),<-ag6 (fun x=>I5 .any t x)];exact(h.drop _).take _
omit hR in
theorem sK (t:Ty):∀l:List (Den R.T t),(l.flatMap fun x=>(iJ R .any t x).cells).length=l.length*dA R t
 | []=>aD|x::l=>by rw[mo,RS,I5,sK t l,List.length_cons,rP];omega
omit hR in
theorem ag9 {α:Type}:∀{l:List α}{i:Nat}{x:α},l[i]? =some x->∃a b,l=a++x::b/\a.length=i
 | [],_,_,h=>uH|y::l,0,x,h=>by simp at h;subst h;exact⟨[],l,rfl,rfl⟩|y::l,i+1,x,h=>by obtain⟨a,b,rfl,hl⟩:=ag9 (l:=l) (i:=i) xJ;exact⟨y::a,b,rfl,by simp[hl]⟩
omit hR in
theorem atJ {α:Type}{l:List α}{i:Int}{x:α}(h:aN l i=some x):∃a b,l=a++x::b/\a.length=i.toNat/\0<=i:=by
 unfold aN at h;split at h
 ·rename_i hi
  obtain⟨a,b,h1,h2⟩:=ag9 h;exact⟨a,b,h1,h2,hi.1⟩
 ·cases h
omit hR in
theorem atK {ag:Bool}{n off:Nat}{pre el post:List (au R.T)}{v:au R.T}(h:Vm ag n el off=some v):Vm ag n (pre++el++post) (pre.length+off)=some v:=by
 cases ag with
 |true=>
  have h':(bif Nat.ble (off+n) el.length then some (au.agg ((el.drop off).take n)) else none)=some v:=h;obtain⟨hb,h'⟩:=gH h';have hle:=lN hb;show (bif Nat.ble (pre.length+off+n) (pre++el++post).length then some (au.agg (((pre++el++post).drop (pre.length+off)).take n)) else none)=some v;have hb':Nat.ble (pre.length+off+n) (pre++el++post).length=true:=Nat.ble_eq_true_of_le eY;rw[hb',cond_true,<-h'];congr 2;have e1:(pre++el++post).drop (pre.length+off)=(el++post).drop off:=by rw[jR,Nb,GN ah];simp
  rw[e1,Nb,List.take_append];have e2:n-(el.drop off).length=0:=eY
  rw[e2];simp
 |false=>
  have h':el[off]? =some v:=h;show (pre++el++post)[pre.length+off]? =some v;have hlt:off<el.length:=by rw[qm] at h';exact h'.1
  rw[jR,List.getElem?_append_right ah,GL,Eu hlt];exact h'
omit hR in
theorem atL {t:TypeId}{off:Nat}{pre el post:List (au R.T)}{v:au R.T}(h:nk E t el off=some v):nk E t (pre++el++post) (pre.length+off)=some v:=by
 unfold nk at h⊢;cases h1:pI E.P t with
 |none=>simp only[h1] at h;cases h|some a=>
  cases h2:fq E.P t with
  |none=>simp only[h1,h2] at h;cases h|some n=>simp only[h1,h2] at h⊢;exact atK h
omit hR in
theorem atM {t:TypeId}{off:Nat}{cs cs':List (au R.T)}(hl:cs.length=cs'.length)(h:(nk E t cs off).isSome=true):∃v,nk E t cs' off=some v:=by
 unfold nk at h⊢;cases h1:pI E.P t with
 |none=>simp only[h1] at h;cases h|some a=>
  cases h2:fq E.P t with
  |none=>simp only[h1,h2] at h;cases h|some n=>
   simp only[h1,h2] at h⊢;cases a with
   |true=>
    have h':(bif Nat.ble (off+n) cs.length then some (au.agg ((cs.drop off).take n)) else none).isSome=true:=h;cases hb:Nat.ble (off+n) cs.length
    ·rw[hb] at h';cases h'
    ·exact⟨.agg ((cs'.drop off).take n),by show (bif Nat.ble (off+n) cs'.length then _ else _)=_;rw[<-hl,hb];rfl⟩
   |false=>have h':cs[off]?.isSome=true:=h;have hlt:off<cs'.length:=(by rw[<-hl];simpa using h');exact⟨cs'[off],jc hlt⟩
omit hR in
theorem aha {o s:Nat}{τ:Ty}{l:List (Den R.T τ)}{i:Int}{y:Den R.T τ}(hO:eZ ρ σ o (.arr τ l))(hs:ρ.ob o=some s)(hy:aN l i=some y):
 ∃a b cs,l=a++y::b/\a.length=i.toNat/\σ.bQ (ρ.aj.lc o) s=some cs/\aI R ρ σ.top ((a.flatMap fun x=>(iJ R .any τ x).cells)++(iJ R .any τ y).cells++b.flatMap fun x=>(iJ R .any τ x).cells) cs/\(a.flatMap fun x=>(iJ R .any τ x).cells).length=i.toNat*dA R τ:=by
 obtain⟨a,b,rfl,h1,h2⟩:=atJ hy;rcases hO.2 with h| ⟨s',cs,h3,h4,h5⟩
 ·exact absurd h.1 aD
 ·rw[hs] at h3;cases h3
  refine⟨a,b,cs,rfl,h1,h4,?_,by rw[sK,h1]⟩;rw[List.flatMap_append,mo] at h5;rw[jR];exact h5
omit hR in
theorem atN {t:TypeId}{o s off:Nat}{τ:Ty}{i:Int}{ob:bA R.T}{r:eT R}(h:ZY E R t τ i off ob=some r)(hO:eZ ρ σ o ob)(hs:ρ.ob o=some s):∃(l:List (Den R.T τ)) (f:Den R.T τ->au R.T),r= .p (Den R.T τ) (Ib R τ) (aN l i) f/\
 ∀y,aN l i=some y->∃cs w,σ.bQ (ρ.aj.lc o) s=some cs/\kN E.P t cs (i.toNat*dA R τ+off)=some w/\aB R ρ σ.top (f y) w:=by
 unfold ZY at h;split at h
 ·rename_i gq l0
  split at h
  ·rename_i l1 hl
   obtain⟨e,e2⟩:=vB hl;subst e;cases e2;obtain⟨hb,h⟩:=gH h;cases h;refine⟨l0,_,rfl,fun y hy=>?_⟩;obtain⟨a,b,cs,h1,h2,h3,h4,h5⟩:=aha hO hs hy;obtain⟨v,hv⟩:=atM (cs':=(iJ R .any gq y).cells) (by rw[I5,I5]) hb;have:=atL (pre:=a.flatMap fun x=>(iJ R .any gq x).cells) (post:=b.flatMap fun x=>(iJ R .any gq x).cells) hv;rw[h5] at this;obtain⟨w,hw,hr⟩:=BH h4 this;exact⟨cs,w,h3,hw,by rw[hv];exact hr⟩
  ·cases h
 ·cases h
theorem atO {τ:Ty}{cs:List (au R.T)}{x:Den R.T τ}{vs:List V}(h:Z0 R τ cs=some x)(hr:aI R ρ top cs vs):aI R ρ top (iJ R .any τ x).cells vs:=by
 have one:∀(t:Ty)(x:Den R.T t),oZ t=true->tY R t (hd1 R cs)=some x->aI R ρ top [Bo R .any t x] vs:=by
  intro t x ht h;cases cs with
  |nil=>cases t<;>cases h|cons c cs=>
   cases cs with
   |nil=>obtain⟨v,l,rfl,h1,h2⟩:=hr.dS;rw[h2.iq];exact .cons' (Fw hR h h1) rfl
   |cons c' cs=>cases t<;>cases h
 cases τ with
 |st n=>have:=OI hR (t:=.st n) (show tZ R (.st n) (.agg cs)=some x from h) (v:=.agg vs) (by unfold aB;exact⟨vs,rfl,hr⟩);obtain⟨l,e,hl⟩:=aB.mH this;cases e;exact hl
 |int k=>exact one (.int k) x rfl h|bool=>exact one .bool x rfl h|str=>exact one .str x rfl h|slice t=>exact one (.slice t) x rfl h
omit hR in
theorem atP {α:Type}(pre el post vs:List α)(off:Nat)(h:off+vs.length<=el.length):(pre++el++post).take (pre.length+off)++vs++(pre++el++post).drop (pre.length+off+vs.length)=pre++(el.take off++vs++el.drop (off+vs.length))++post:=by
 have e1:(pre++el++post).take (pre.length+off)=pre++el.take off:=by rw[jR,List.take_append,uM ah,GL,List.take_append,Nat.sub_eq_zero_of_le ah];simp
 have e2:(pre++el++post).drop (pre.length+off+vs.length)=el.drop (off+vs.length)++post:=by rw[jR,Nb,GN ah,show pre.length+off+vs.length-pre.length=off+vs.length by omega,Nb,Nat.sub_eq_zero_of_le ah];simp
 rw[e1,e2];simp
theorem atQ {o s off:Nat}{τ:Ty}{i:Int}{l:List (Den R.T τ)}{y y':Den R.T τ}{vc:List (au R.T)}{vl:List V}(hO:eZ ρ σ o (.arr τ l))(hs:ρ.ob o=some s)(hy:aN l i=some y)(hv:aI R ρ σ.top vc vl)(hle:off+vc.length<=dA R τ)(hu:Z0 R τ (Im (iJ R .any τ y).cells off vc)=some y'):∃cs,σ.bQ (ρ.aj.lc o) s=some cs/\i.toNat*dA R τ+off+vl.length<=cs.length/\aI R ρ σ.top ((dH l i y').flatMap fun x=>(iJ R .any τ x).cells) (iT cs (i.toNat*dA R τ+off) vl)/\(dH l i y').length=l.length:=by
 obtain⟨a,b,cs,rfl,h2,h3,h4,h5⟩:=aha hO hs hy;obtain⟨p1,post,rfl,g1,g2⟩:=h4.split;obtain⟨pre,el,rfl,g3,g4⟩:=g1.split;have l1:pre.length=i.toNat*dA R τ:=by rw[g3.length,h5]
 have l2:el.length=dA R τ:=by rw[g4.length,I5]
 have l3:=hv.length;refine⟨_,h3,?_,?_,?_⟩
 ·rw[RS,RS];omega
 ·have e:dH (a++y::b) i y'=a++y'::b:=by unfold dH;rw[<-h2,List.set_append_right _ _ (iP _),Nat.sub_self];rfl
  rw[e,List.flatMap_append,mo,<-jR];have e2:iT (pre++el++post) (i.toNat*dA R τ+off) vl=pre++iT el off vl++post:=by unfold iT;rw[<-l1];exact atP pre el post vl off ah
  rw[e2];exact(g3.append (atO hR hu (aau off g4 hv))).append g2
 ·unfold dH;rw[List.length_set]
theorem atS (τ:Ty)(x:Den R.T τ):aI R ρ top (iJ R .any τ x).cells (aP R τ x).cells:=by refine(yJ ?_ (VW hR .any (.inl rfl) τ x)).1;cases τ<;>rfl
theorem I6 (τ:Ty):∀l:List (Den R.T τ),aI R ρ top (l.flatMap fun x=>(iJ R .any τ x).cells) ((l.map (aP R τ)).flatMap V.cells)
 | []=>rfl|x::l=>by rw[fQ,mo,mo];exact(atS hR τ x).append (I6 τ l)
theorem atT {t e:TypeId}{sz iO:Nat}{ag:Bool}{z:V}{ys:List V}{x y:V}{loc:Option Loc}{aK:Nat}{P:Program}(h1:nW P t=some e)(h2:fq P e=some sz)(h3:xQ P e=some iO)(h4:pI P e=some ag)(h5:kC P e=some z)(h6:z.cells.length=sz)(h7:0<sz)(h8:(ag||sz==1)=true)(hy:tF σ ag sz z y=some ys)(hi:Ng y=false)(ho:ys.all (fun v=>dU v.cells)=true):
 mR P true false σ aK loc t x y=match x with
  |.ay c l=>if dB (l.length+ys.length) iO=true/\qR sz l=true then match c with
     |.nil=>loc.map fun loc=>(.aM loc aK 0 (l.length+ys.length) (l.length+ys.length) sz ag,σ.setObj loc aK (.cells ((l++ys).flatMap V.cells)))
     |.full=>if ys.isEmpty then some (.ay .full l,σ) else loc.map fun loc=>(.aM loc aK 0 (l.length+ys.length) (l.length+ys.length) sz ag,σ.setObj loc aK (.cells ((l++ys).flatMap V.cells)))
     |_=>none else none
  |.aM jH s off len cap bZ _=>
   if dB (len+ys.length) iO=true/\off=0/\bZ=sz then loc.bind fun loc=>(σ.bQ jH s).bind fun cs=>
     if len+ys.length<=cap then if (len+ys.length)*sz<=cs.length then some (.aM jH s 0 (len+ys.length) cap sz ag,σ.setObj jH s (.cells (iT cs (len*sz) (ys.flatMap V.cells))))else none else if len*sz<=cs.length then some (.aM loc aK 0 (len+ys.length) (len+ys.length) sz ag,(σ.eu jH).setObj loc aK (.cells (cs.take (len*sz)++ys.flatMap V.cells)))else none else none
  |_=>none:=by
 unfold mR;simp only[h1,h2,h3,h4,h5,Option.bind_some,hi,hy,ho,if_true];rw[if_pos ⟨trivial,h6,h7,h8⟩];cases x<;>try rfl
 ·rename_i c l
  cases c<;>rfl
 ·simp only[true_and]
omit hR in
theorem bF.Fv {o q s n:Nat}{x:bA R.T}{a:iN}(hne:q≠o):bF true q st ρ σ (st.new o x) (ρ.yG o s n) (σ.setObj (ρ.aj.lc o) s a):=⟨(aao q hne).1,(aao q hne).2,rfl,iP _,⟨fun _ _=>rfl,fun _ _=>rfl⟩,fun _ _ hL=>aas hL,(bF.new (nr:=true) (ρ:=ρ) (s:=s) (a:=a) hne).ro⟩
omit hR in
theorem bF.del {o q:Nat}{y:bA R.T}(hl:look st.ob o=some y)(hy:qZ y=false):bF true q st ρ σ (st.del o) ρ (σ.eu (ρ.aj.lc o)):=⟨rfl,rfl,rfl,iP _,⟨fun _ _=>rfl,fun _ _=>rfl⟩,fun _ _ hL=>atd hL,fun hr=>by
 have hne:q≠o:=by rintro rfl;rw[hr y hl] at hy;cases hy
 refine⟨fun z hz=>?_,fun s'=>?_⟩
 ·have hz':look (jE o st.ob) q=some z:=hz
  rw[qG hne] at hz';exact hr z hz'
 ·unfold ak.bQ ak.gB;rw[agw σ hne];exact⟨rfl,rfl⟩⟩
omit hR in
theorem bF.del' {o q:Nat}{y:bA R.T}(hl:look st.ob o=some y)(hy:qZ y=false):bF true q st ρ σ (st.del o) ρ σ:=⟨rfl,rfl,rfl,iP _,⟨fun _ _=>rfl,fun _ _=>rfl⟩,fun _ _ _=>rfl,fun hr=>by
 have hne:q≠o:=by rintro rfl;rw[hr y hl] at hy;cases hy
 refine⟨fun z hz=>?_,fun s'=>⟨rfl,rfl⟩⟩;have hz':look (jE o st.ob) q=some z:=hz;rw[qG hne] at hz';exact hr z hz'⟩
omit hR in
theorem Wh {α:Type}{p:Nat}:∀l:List (Nat×α),look (jE p l) p=none
 | []=>rfl| (j,x)::l=>by
   unfold jE;cases hj:Nat.beq j p
   ·show (bif Nat.beq j p then some x else look (jE p l) p)=none
    rw[hj];exact Wh l
   ·exact Wh l
omit hR in
theorem aO.del' (h:aO ρ b st fr σ)(o:Nat):aO ρ b (st.del o) fr σ:={h with
 ob:=fun p y hy=>by
  by_cases e:p=o
  ·subst e
   have:look (jE p st.ob) p=some y:=hy;rw[Wh] at this;cases this
  ·have hy':look (jE o st.ob) p=some y:=hy
   rw[qG e] at hy';exact h.ob p y hy'
 fr:=h.fr}
omit hR in
theorem Fx {d0 d aK:Nat}{τ:Ty}{l:List (Den R.T τ)}{L:List V}{st0:aH R.T}{iy:ak}{o:Oper}{v:V}{σ1:ak}(hd:o.dst=some d0)(hcd:d=d0\/d=E.cn d0)(hi:aO ρ (aK+1) st0 fr iy)(hk:∀p,bF true p st ρ σ st0 ρ iy)(hn:iy.next=σ.next)(hL:aI R ρ iy.top (l.flatMap fun x=>(iJ R .any τ x).cells) L)(hs:l9 E fr σ aK o v σ1)(hv:v= .aM (ρ.aj.lc d) aK 0 l.length l.length (dA R τ) (jq τ))(h1:σ1=iy.setObj (ρ.aj.lc d) aK (.cells L)):∃x σ' ρ',l9 E fr σ aK o x σ'/\aO ρ' (aK+1) (st0.new d (.arr τ l)) fr σ'/\σ'.next=σ.next/\aB R ρ' σ'.top (.aM d τ) x/\∀p,nA E o p->bF true p st ρ σ (st0.new d (.arr τ l)) ρ' σ':=by
 subst hv;subst h1;refine⟨_,_,ρ.yG d aK l.length,hs,hi.Fv d aK l.length ⟨(wZ (ρ:=ρ.mI d aK)).symm,.inr ⟨aK,L,vY (ρ:=ρ),zP _ _ _ _,wY l L hL⟩⟩,hn,?_,fun p hp=>?_⟩
 ·unfold aB
  exact .inl ⟨aK,vY (ρ:=ρ),by rw[show (ρ.yG d aK l.length).ln d=l.length from wZ (ρ:=ρ.mI d aK)];rfl⟩
 ·have hne:p≠d:=by
   rcases hcd with e|e
   ·exact fun e2=>hp.1 (by rw[hd,e2,e])
   ·exact fun e2=>hp.2 _ hd (by rw[e2,e])
  exact(hk p).trans (bF.Fv hne)
theorem atU {d:Option Nat}{t:TypeId}{len:Nat}{ps:List (Nat×au R.T)}{qs:List (Nat×V)}{r:eT R}{aK:Nat}{o:Oper}(h:ZQ E R d t len ps st=some r)(hi:ps.map (·.1)=qs.map (·.1))(hr:aI R ρ σ.top (ps.map (·.2)) (qs.map (·.2)))(him:aO ρ aK st fr σ)(hd:o.dst=d)(ho:∀y σ',CS E σ aK (d.map fun t=>(fr.d,E.cn t)) t len qs=some (y,σ')->l9 E fr σ aK o y σ'):sJ E st ρ aK fr σ o r:=by
 unfold ZQ at h;split at h
 ·rename_i d e u sz iO he
  obtain⟨z,e1,e2,e3,e4,e5,e6,e7,e8,e9⟩:=Wd he;obtain⟨hc,h⟩:=gH h;rw[aT] at hc;split at h
  ·rename_i xs hx
   cases hbl:Nat.ble F0 (E.cn d);case true=>rw[hbl] at h;cases h
   rw[hbl,cond_false] at h;cases h;have hcn:E.cn d<F0:=by have:=mt Nat.ble_eq_true_of_le (by rw[hbl];simp);omega
   rw[Option.map_some,show (fr.d,E.cn d)=ρ.aj.lc (E.cn d) by rw[him.d,cZ.Fj _ hcn]] at ho;have hlen:xs.length=len:=by rw[ag3 ps 0 xs hx];exact iK hc.2
   obtain⟨vs,k1,k2,k3,k4,k5⟩:=aaA hR (len:=len) e6 ps qs xs 0 [] ((List.replicate len z.cells).flatten) hx hi hr aD (by simp[e9,hlen]) ah;rw[List.nil_append,List.nil_append] at k1;have key:CS E σ aK (some (ρ.aj.lc (E.cn d))) t len qs=some (.aM (ρ.aj.lc (E.cn d)) aK 0 len len sz (jq u),σ.setObj (ρ.aj.lc (E.cn d)) aK (.cells (vs.flatMap V.cells))):=by unfold CS;rw[e1];simp only[Option.bind_some,e2,e4,e5];rw[if_pos ⟨lN hc.1,e9,e7⟩,k1];rfl
   exact Fx (iy:=σ) hd (.inr rfl) (him.le (j4 aK)) (fun q=>.refl) rfl k5 (ho _ _ key) (by rw[hlen,e6]) rfl
  ·cases h
 ·cases h
theorem atV {d:Option Nat}{t u:TypeId}{x y:au R.T}{v w:V}{r:eT R}{aK:Nat}{o:Oper}(h:Oy E R d t u x y st=some r)(hx:aB R ρ σ.top x v)(hy:aB R ρ σ.top y w)(hi:aO ρ aK st fr σ)(hd:o.dst=d)(ho:∀y σ',mR E.P true false σ aK (d.map fun t=>(fr.d,E.cn t)) t v w=some (y,σ')->l9 E fr σ aK o y σ'):sJ E st ρ aK fr σ o r:=by
 have hi1:=hi.le (j4 aK);unfold Oy at h;split at h
 ·rename_i d
  cases hbl:Nat.ble F0 (E.cn d);case true=>rw[hbl] at h;cases h
  rw[hbl,cond_false] at h;have hcn:E.cn d<F0:=by have:=mt Nat.ble_eq_true_of_le (by rw[hbl];simp);omega
  rw[Option.map_some,show (fr.d,E.cn d)=ρ.aj.lc (E.cn d) by rw[hi.d,cZ.Fj _ hcn]] at ho;split at h
  ·rename_i e τ sz iO he
   obtain⟨z,e1,e2,e3,e4,e5,e6,e7,e8,e9⟩:=Wd he;obtain⟨hss,h⟩:=gH h;split at h
   ·rename_i l' hs
    subst e6;obtain⟨g1,g2⟩:=ag4 hR (ag:=jq τ) (z:=z) (σ:=σ) hs hy;have hap:=fun x=>atT hR (σ:=σ) (x:=x) (loc:=some (ρ.aj.lc (E.cn d))) (aK:=aK) e1 e2 e3 e4 e5 e9 e7 e8 g1 g2 (aaB hR l');split at h
    ·rename_i p af8 _
     split at h
     ·rename_i e0
      subst e0;split at h
      ·rename_i gq l0 hl
       split at h
       ·rename_i l2 hl2
        obtain⟨e,e2'⟩:=vB hl2;subst e;cases e2';have ne:∀(a:Den R.T gq)(l1:List (Den R.T gq)),l'=a::l1->sJ E st ρ aK fr σ o (.wc (dB (l0.length+(a::l1).length) iO) (.aM (E.cn d) gq) ((st.del p).new (E.cn d) (.arr gq (l0++a::l1)))):=by
         intro a l1 el;subst el;intro hroom;have hO:=hi.ob _ _ hl;have hlen:l0.length=ρ.ln p:=hO.1;have hnr:qZ (bA.arr gq l0)=false:=rfl;have hne:¬((a::l1).map (aP R gq)).isEmpty=true:=aD;rcases hx.z8 with ⟨s,k1,rfl⟩| ⟨k1,k2⟩
         ·rcases hO.2 with hO2| ⟨s',cs,k3,k4,k5⟩
          ·rw[k1] at hO2;exact absurd hO2.2 aD
          ·rw[k1] at k3;cases k3
           have:=hap (.aM (ρ.aj.lc p) s 0 (ρ.ln p) (ρ.ln p) (dA R gq) (jq gq));dsimp only at this;have hlc:cs.length=l0.length*dA R gq:=(by rw[k5.length,sK]);rw[if_pos ⟨by rw[iG,<-hlen];exact hroom,rfl,rfl⟩] at this;simp only[Option.bind_some,k4] at this;rw[if_neg (by rw[iG,List.length_cons];omega),if_pos Gy] at this;refine Fx (iy:=σ.eu (ρ.aj.lc p)) (L:=cs.take (ρ.ln p*dA R gq)++((a::l1).map (aP R gq)).flatMap V.cells) hd (.inr rfl) (hi1.del p) (fun q=>bF.del hl hnr) rfl ?_ (ho _ _ this) ?_ rfl
           ·rw[List.flatMap_append,uM Gy]
            exact aI.append k5 (I6 hR _ _)
           ·rw[iG,RS,hlen]
         ·have hl0:l0=[]:=mh ah
          subst hl0;have hroom':dB (([]:List V).length+((a::l1).map (aP R gq)).length) iO=true/\qR (dA R gq) ([]:List V)=true:=⟨by rw[iG];exact hroom,rfl⟩;rcases k2 with rfl|rfl
          ·have:=hap (.ay .nil [])
           dsimp only at this;rw[if_pos hroom'] at this;refine Fx (iy:=σ) hd (.inr rfl) (hi1.del' p) (fun q=>bF.del' hl hnr) rfl (I6 hR _ _) (ho _ _ this) ?_ rfl;simp
          ·have:=hap (.ay .full [])
           dsimp only at this;rw[if_pos hroom',if_neg hne] at this;refine Fx (iy:=σ) hd (.inr rfl) (hi1.del' p) (fun q=>bF.del' hl hnr) rfl (I6 hR _ _) (ho _ _ this) ?_ rfl;simp
        cases hpc:Nat.beq p (E.cn d) with
        |true=>
         rw[hpc,cond_true] at h;cases h;cases l' with
         |cons a l1=>exact ne a l1 rfl|nil=>
          have hp:=iK hpc;intro hroom;have hO:=hi.ob _ _ hl;have hlen:l0.length=ρ.ln p:=hO.1;have hnr:qZ (bA.arr gq l0)=false:=rfl;have hroom':∀(k:Nat),k=l0.length->dB (k+(([]:List (Den R.T gq)).map (aP R gq)).length) iO=true:=fun k hk=>by rw[hk];exact hroom
          rcases hx.z8 with ⟨s,k1,rfl⟩| ⟨k1,k2⟩
          ·rcases hO.2 with hO2| ⟨s',cs,k3,k4,k5⟩
           ·rw[k1] at hO2;exact absurd hO2.2 aD
           ·rw[k1] at k3;cases k3
            have:=hap (.aM (ρ.aj.lc p) s 0 (ρ.ln p) (ρ.ln p) (dA R gq) (jq gq));dsimp only at this;have hlc:cs.length=l0.length*dA R gq:=(by rw[k5.length,sK]);rw[if_pos ⟨hroom' _ hlen.symm,rfl,rfl⟩] at this;simp only[Option.bind_some,k4,List.map_nil,List.length_nil,Nat.add_zero] at this;rw[if_pos (iP _),if_pos Gy] at this;have hsp:iT cs (ρ.ln p*dA R gq) (([]:List V).flatMap V.cells)=cs:=(by unfold iT;simp);rw[hsp] at this;rw[nV,<-hp];refine⟨_,_,ρ.yG p s l0.length,ho _ _ this,(hi1.del' p).Fv p s l0.length (x:=.arr gq l0) (a:=.cells cs) ⟨(wZ (ρ:=ρ.mI p s)).symm,.inr ⟨s,cs,vY (ρ:=ρ),zP _ _ _ _,wY l0 cs k5⟩⟩,rfl,?_,fun q hq=>?_⟩
            ·unfold aB
             exact .inl ⟨s,vY (ρ:=ρ),by rw[show (ρ.yG p s l0.length).ln p=l0.length from wZ (ρ:=ρ.mI p s),hlen];rfl⟩
            ·have hne:q≠p:=fun e=>hq.2 _ hd (by rw[e,hp])
             exact(bF.del' hl hnr).trans (bF.Fv hne)
          ·have hl0:l0=[]:=mh ah
           subst hl0;rcases k2 with rfl|rfl
           ·have:=hap (.ay .nil [])
            dsimp only at this;rw[if_pos ⟨hroom' 0 rfl,rfl⟩] at this;exact Fx (iy:=σ) hd (.inr rfl) (hi1.del' p) (fun q=>bF.del' hl hnr) rfl rfl (ho _ _ this) rfl rfl
           ·have:=hap (.ay .full [])
            dsimp only at this;rw[if_pos ⟨hroom' 0 rfl,rfl⟩,if_pos uI] at this;refine⟨_,_,ρ.gh (E.cn d),ho _ _ this,(hi1.del' p).ghost (E.cn d) gq,rfl,by unfold aB;exact .inr ⟨wZ (ρ:=ρ) (n:=0),.inr rfl⟩,fun q hq=>?_⟩;have sM:q≠E.cn d:=fun e=>hq.2 _ hd e.symm;refine(bF.del' hl hnr).trans ?_;exact⟨(p9 q sM).1,(p9 q sM).2,rfl,iP _,⟨fun _ _=>rfl,fun _ _=>rfl⟩,fun _ _ _=>rfl,fun hr=>⟨((bF.new (nr:=true) (ρ:=ρ) (σ:=σ) (s:=0) (a:=.cells []) sM).ro hr).1,fun _=>⟨rfl,rfl⟩⟩⟩
        |false=>
         rw[hpc,cond_false] at h;split at h
         ·rename_i a l1
          cases h;exact ne _ _ rfl
         ·cases h
       ·cases h
      ·cases h
     ·cases h
    ·obtain⟨hE,h⟩:=gH h
     cases h;intro hroom;have hroom':dB (([]:List V).length+(l'.map (aP R τ)).length) iO=true/\qR (dA R τ) ([]:List V)=true:=⟨by rw[iG,List.length_nil,nH];exact hroom,rfl⟩;rcases OP (fr:=fr) hE (.of hx) with rfl|rfl
     ·have:=hap (.ay .nil [])
      dsimp only at this;rw[if_pos hroom'] at this;refine Fx (iy:=σ) hd (.inr rfl) hi1 (fun q=>.refl) rfl (I6 hR _ _) (ho _ _ this) ?_ rfl;simp
     ·have:=hap (.ay .full [])
      dsimp only at this;rw[if_pos hroom'] at this;by_cases hne:((l'.map (aP R τ)).isEmpty)=true
      ·rw[if_pos hne] at this
       have hl':l'=[]:=(by simpa using hne);subst hl';refine⟨_,_,ρ.gh (E.cn d),ho _ _ this,hi1.ghost (E.cn d) τ,rfl,by unfold aB;exact .inr ⟨wZ (ρ:=ρ) (n:=0),.inr rfl⟩,fun p hp=>?_⟩;have sM:p≠E.cn d:=fun e=>hp.2 _ hd e.symm;exact⟨(p9 p sM).1,(p9 p sM).2,rfl,iP _,⟨fun _ _=>rfl,fun _ _=>rfl⟩,fun _ _ _=>rfl,fun hr=>⟨((bF.new (nr:=true) (ρ:=ρ) (σ:=σ) (s:=0) (a:=.cells []) sM).ro hr).1,fun _=>⟨rfl,rfl⟩⟩⟩
      ·rw[if_neg hne] at this
       refine Fx (iy:=σ) hd (.inr rfl) hi1 (fun q=>.refl) rfl (I6 hR _ _) (ho _ _ this) ?_ rfl;simp
   ·cases h
  ·cases h
 ·cases h
theorem atW {aj:Bool}{d:Option Nat}{t:TypeId}{x y:au R.T}{v w:V}{r:eT R}{aK:Nat}{o:Oper}(h:ZR E R aj d t x y st=some r)(hx:aB R ρ σ.top x v)(hy:aB R ρ σ.top y w)(hi:aO ρ aK st fr σ)(hd:o.dst=d)(ho:∀y σ',wC E.P aj σ aK (d.map fun t=>(ρ.aj.lc t)) t v w=some (y,σ')->l9 E fr σ aK o y σ'):sJ E st ρ aK fr σ o r:=by
 unfold ZR at h;cases h
theorem ahb {x:au R.T}{v:V}{o:Nat}{τ:Ty}{a c:Int}(h:Iu st x=some (o,τ,a,c))(hx:aB R ρ σ.top x v)(hi:aO ρ b st fr σ):aB R ρ σ.top (.sub o τ a c) v:=by
 unfold Iu at h;split at h
 ·split at h
  ·rename_i l hl
   cases h;have h1:=(hi.rd hl).1;unfold aB;refine⟨ah,ah,ah,?_⟩;rcases hx.z8 with ⟨s,k1,rfl⟩| ⟨h0,h2⟩
   ·refine .inl ⟨s,ρ.ln o,k1,ah,?_⟩
    ·rw[show ((l.length:Int)-0).toNat=ρ.ln o by omega];simp
   ·refine .inr ⟨ah,?_⟩
    rcases h2 with rfl|rfl<;>exact⟨_,rfl⟩
  ·cases h
 ·cases h;exact hx
 ·cases h
omit hR in
theorem ahc {n:Int}{cp:Nat}{lo hi':Option Int}{vl vh:Option V}(hl:(lo=none/\vl=none)\/∃n k,lo=some n/\vl=some (.int k n))(hh:(hi'=none/\vh=none)\/∃n k,hi'=some n/\vh=some (.int k n))(hc:n.toNat<=cp)(h0:0<=n)(hb:Vu (oU lo) (sD n hi') n=true):
 tC n.toNat cp vl vh none=some ((oU lo).toNat,(sD n hi').toNat,cp):=by
 have hb':0<=oU lo/\oU lo<=sD n hi'/\sD n hi'<=n:=of_decide_eq_true hb;rcases hl with ⟨rfl,rfl⟩| ⟨i,k,rfl,rfl⟩<;>rcases hh with ⟨rfl,rfl⟩| ⟨m,k',rfl,rfl⟩<;>simp only[oU,sD] at hb'⊢
 ·rfl
 ·simp only[tC,bnd,oG,Option.bind_some]
  rw[if_pos ⟨ah,ah⟩];rfl
 ·simp only[tC,bnd,oG,Option.bind_some]
  rw[if_pos ⟨ah,ah⟩];rfl
 ·simp only[tC,bnd,oG,Option.bind_some]
  rw[if_pos ⟨ah,ah⟩];simp only[Option.bind_some];rw[if_pos ⟨ah,ah⟩];rfl
theorem atX {t:TypeId}{x:au R.T}{lo hi':Option (au R.T)}{v:V}{vl vh:Option V}{r:eT R}(h:Vv E R t x lo hi' st=some r)(hx:aB R ρ σ.top x v)(hi:aO ρ b st fr σ)(hl:∀y,lo=some y->∃w,vl=some w/\aB R ρ σ.top y w)(hln:lo=none->vl=none)(hh:∀y,hi'=some y->∃w,vh=some w/\aB R ρ σ.top y w)(hhn:hi'=none->vh=none):qH ρ σ.top (wB E.P σ t v vl vh none) r:=by
 unfold Vv at h;split at h
 ·rename_i o τ a c lo' hi2 e hw e1 e2 hu
  have b1:=V7 e1 hl hln;have b2:=V7 e2 hh hhn;have hxs:=ahb hR hw hx hi;split at h
  ·rename_i sz hs
   obtain⟨hb,h⟩:=gH h;cases h;have:=iK hb;subst this;intro hc;have hc':0<=oU lo'/\oU lo'<=sD (c-a) hi2/\sD (c-a) hi2<=c-a:=of_decide_eq_true hc;obtain⟨g0,g1,g2,h⟩:=hxs.BA;rcases h with ⟨s,cp,h1,h2,rfl⟩| ⟨e,q,rfl⟩
   ·have hsb:=ahc b1 b2 h2 ah hc
    unfold wB;rw[hu];dsimp only;simp only[hs,Option.bind_some,hsb];rw[if_true];by_cases hz:(oU lo').toNat=(sD (c-a) hi2).toNat/\0< (oU lo').toNat
    ·rw[if_pos hz]
     exact⟨_,rfl,by unfold aB;exact⟨ah,ah,ah,.inr ⟨ah,_,rfl⟩⟩⟩
    ·rw[if_neg hz]
     refine⟨_,rfl,?_⟩;unfold aB;refine⟨ah,ah,ah,.inl ⟨s,cp-(oU lo').toNat,h1,ah,?_⟩⟩;rw[<-rM,show a.toNat+(oU lo').toNat=(a+oU lo').toNat by omega,show (sD (c-a) hi2).toNat-(oU lo').toNat=(a+sD (c-a) hi2-(a+oU lo')).toNat by omega]
   ·have e0:c-a=0:=ah
    have hsb:=ahc (n:=0) (cp:=0) b1 b2 aD ah (by rw[<-e0];exact hc);unfold wB;rw[hu];dsimp only;rw[e0] at hc';have atY:tC ([]:List V).length ([]:List V).length vl vh none=some (0,0,0):=(by have e3:tC ([]:List V).length ([]:List V).length vl vh none=some ((oU lo').toNat,(sD 0 hi2).toNat,0):=hsb;rw[e3,show (oU lo').toNat=0 by omega,show (sD 0 hi2).toNat=0 by omega]);simp only[hs,Option.bind_some,atY,qR];rw[if_true,e0];refine⟨_,rfl,?_⟩;have hl0:oU lo'=0:=ah;have hh0:sD 0 hi2=0:=ah;rw[hl0,hh0];have:∀(k:Cap),aB R ρ σ.top (.sub o τ (a+0) (a+0)) (.ay k []):=fun k=>by unfold aB;exact⟨ah,ah,ah,.inr ⟨rfl,_,rfl⟩⟩
    exact this _
  ·cases h
 ·cases h
theorem Wi {t:TypeId}{x:au R.T}{lo hi':Option (au R.T)}{v:V}{vl vh:Option V}{r:eT R}(h:Dp E R t x lo hi' st=some r)(hx:aB R ρ σ.top x v)(hi:aO ρ b st fr σ)(hl:∀y,lo=some y->∃w,vl=some w/\aB R ρ σ.top y w)(hln:lo=none->vl=none)(hh:∀y,hi'=some y->∃w,vh=some w/\aB R ρ σ.top y w)(hhn:hi'=none->vh=none):qH ρ σ.top (wB E.P σ t v vl vh none) r:=by
 unfold Dp at h;split at h
 ·rename_i r' hr
  cases h;exact atX hR hr hx hi hl hln hh hhn
 ·exact atA hR (σ:=σ) h hx hl hln hh hhn
theorem atZ {t:TypeId}{p:Nat}{τ:Ty}{a c:Int}{y:au R.T}{v w:V}{r:eT R}(h:ZX E R t p τ a c y=some r)(hx:aB R ρ σ.top (.sub p τ a c) v)(hy:aB R ρ σ.top y w)(hi:aO ρ b st fr σ):qH ρ σ.top (qU E.P t v w) r:=by
 unfold ZX at h;split at h
 ·rename_i e k n hu
  split at h
  ·rename_i sz hs
   obtain⟨hb,h⟩:=gH h;cases h;have:=iK hb;subst this;rw[hy.kI];intro hc;have hc':0<=n/\n<c-a:=of_decide_eq_true hc;obtain⟨g0,g1,g2,h⟩:=hx.BA;rcases h with ⟨s,cp,h1,h2,rfl⟩| ⟨e,_,rfl⟩
   ·refine⟨.ref (ρ.aj.lc p) s (a.toNat*dA R τ+n.toNat*dA R τ),?_,by unfold aB;exact⟨s,h1,ah,by rw[<-rM,Nat.add_zero];congr 2;omega⟩⟩
    unfold qU;rw[hu];simp only[hs,Option.bind_some,idx,oG];rw[if_pos ⟨hc'.1,ah⟩];simp
   ·omega
  ·cases h
 ·cases h
theorem at0 {aj:Bool}{t:TypeId}{p:Nat}{τ:Ty}{y:au R.T}{v w:V}{r:eT R}(h:ZW E R t p τ y st=some r)(hx:aB R ρ σ.top (.aM p τ) v)(hy:aB R ρ σ.top y w)(hi:aO ρ b st fr σ):qH ρ σ.top (qU E.P t v w) r:=by
 unfold ZW at h;split at h
 ·rename_i e k n hu
  split at h
  ·rename_i sz hs
   obtain⟨hb,h⟩:=gH h;split at h
   ·rename_i gq l hl
    cases h;have:=iK hb;subst this;rw[hy.kI];intro hc;have hc':=of_decide_eq_true hc;have hlen:=(hi.rd hl).1;rcases hx.z8 with ⟨s,k1,rfl⟩| ⟨h0,_⟩
    ·refine⟨.ref (ρ.aj.lc p) s (n.toNat*dA R τ),?_,by unfold aB;exact⟨s,k1,hc'.1,rfl⟩⟩
     unfold qU;rw[hu];simp only[hs,Option.bind_some,idx,oG];rw[if_pos ⟨hc'.1,by rw[<-hlen];exact hc'.2⟩];simp
    ·rw[hlen,h0] at hc';omega
   ·cases h
  ·cases h
 ·cases h
end
end aR
end
