import Derived.Test.YthadiihdjhakdaaGreatF2908
set_option linter.all false
section
namespace aY
open Go
section
variable {R:gY}{E:Env}
variable {ρ:aT}{top:Nat->Nat}
def qD (ρ:aT)(top:Nat->Nat)(v:Option V):eZ R->Prop
 |.t x=>∃y,v=some y/\av R ρ top x y|.c c x=>c=true->∃y,v=some y/\av R ρ top x y|.p _ _ o f=>∀a,o=some a->∃y,v=some y/\av R ρ top (f a) y|.alt l=>∀(β:Type)(k:ak R.T->Option β)(r:β),zk k l=some r->∃x y,k x=some r/\v=some y/\av R ρ top x y|_=>False
theorem agB {op:BinOp}{k:IntKind}{x y:Int}{r:eZ R}(h:Te R op k x y=some r):qD ρ top (mH op k x y) r:=by
 unfold Te at h;cases op<;>cases h<;>first
  |exact⟨_,rfl,jJ⟩
  | (intro hc
     have hy:¬y=0:=RD;exact⟨_,if_neg hy,jJ⟩)
theorem aqr {op:BinOp}{k:IntKind}{x y:Int}{r:eZ R}(h:Y8 R op k x y=some r):qD ρ top (LA op k x y) r:=by
 unfold Y8 at h;cases op<;>cases h<;>
  (intro hc
   have hy:¬y<0:=by have:=of_decide_eq_true hc;omega
   exact⟨_,if_neg hy,jJ⟩)
theorem aqs {op:BinOp}{x y:List UInt8}{r:eZ R}(h:Y9 R op x y=some r):qD ρ top (CU op x y) r:=by
 unfold Y9 at h;cases op<;>cases h<;>first
  |exact⟨_,rfl,jJ⟩
  | (intro hc
     have hy:¬((x.length+y.length:Nat):Int)>IntKind.i64.max:=(by have:=of_decide_eq_true hc;omega);exact⟨_,if_neg hy,jJ⟩)
theorem aqt {P:Program}{op:BinOp}{t:TypeId}{k:IntKind}{a b:Int}(h:IL op=false):uS P op t (.int k a) (.int k b)=mH op k a b:=by
 cases op<;>first| (simp[IL] at h;done)|simp[uS]
theorem aqu {P:Program}{op:BinOp}{t:TypeId}{k k':IntKind}{a b:Int}(h:IL op=true):uS P op t (.int k a) (.int k' b)=LA op k a b:=by
 cases op<;>first| (simp[IL] at h;done)|rfl
theorem aqv {P:Program}{op:BinOp}{t:TypeId}{a b:List UInt8}:uS P op t (.str a) (.str b)=CU op a b:=by
 cases op<;>rfl
theorem aqw {P:Program}{t:TypeId}{x y:V}{b:Bool}(h:rX P t x y=some b):(∀k n k' m,x= .int k n->y= .int k' m->False)/\∀s s',x= .str s->y= .str s'->False:=by
 unfold rX at h;constructor
 ·intro k n k' m hx hy;subst hx;subst hy;split at h<;>simp_all
 ·intro s s' hx hy;subst hx;subst hy;split at h<;>simp_all
theorem TW {P:Program}{t:TypeId}{x y:V}{b:Bool}(h:rX P t x y=some b):uS P .eql t x y=some (.bool b)/\uS P .neq t x y=some (.bool !b):=by
 obtain⟨h1,h2⟩:=aqw h;constructor;all_goals
  unfold uS;split
  ·rename_i he;cases he
  ·rename_i he;cases he
  ·exact(h1 _ _ _ _ rfl rfl).elim
  ·exact(h2 _ _ rfl rfl).elim
  all_goals first| (rw[h];rfl)| (rename_i he;cases he)|simp_all
theorem agC {t:TypeId}{x y:ak R.T}{v w:V}{c b:Bool}(h:Tf E R t x y=some (c,b))(hx:av R ρ top x v)(hy:av R ρ top y w)(hc:c=true):rX E.P t v w=some b:=by
 unfold Tf at h;split at h
 ·rename_i hu
  cases h;rw[hx.qB,hy.qB];unfold rX;rw[hu]
 ·rename_i hu
  cases h;obtain⟨c',rfl,hcr⟩:=hx.lU;have aqx:c'= .nil:=hcr;subst aqx;rw[hy.qB,List.isEmpty_iff.1 hc];unfold rX;rw[hu];rfl
 ·rename_i _ _ l _ hu
  cases h;obtain⟨c',rfl,hcr⟩:=hx.lU
  match l,hc with
  |a::l,_=>rw[hy.qB];unfold rX;rw[hu];cases c'<;>rfl
 ·cases h
theorem aqy {op:BinOp}{t:TypeId}{x y:ak R.T}{v w:V}{r:eZ R}(h:Za E R op t x y=some r)(hx:av R ρ top x v)(hy:av R ρ top y w):qD ρ top (uS E.P op t v w) r:=by
 unfold Za at h;split at h
 ·rename_i k a k' b
  rw[hx.kS,hy.kS];cases hs:IL op
  ·rw[hs,cond_false] at h
   split at h
   ·rename_i e;subst e;rw[aqt hs];exact agB h
   ·cases h
  ·rw[hs,cond_true] at h;rw[aqu hs];exact aqr h
 ·rw[hx.rG,hy.rG,aqv];exact aqs h
 ·split at h
  ·split at h
   ·rename_i c b hb;cases h
    exact fun hc=>⟨_,(TW (agC hb hx hy hc)).1,jJ⟩
   ·split at h
    ·rename_i b hb;cases h
     exact⟨_,(TW (agA hb hx hy)).1,jJ⟩
    ·cases h
  ·split at h
   ·rename_i c b hb;cases h
    exact fun hc=>⟨_,(TW (agC hb hx hy hc)).2,jJ⟩
   ·split at h
    ·rename_i b hb;cases h
     exact⟨_,(TW (agA hb hx hy)).2,jJ⟩
    ·cases h
  ·cases h
theorem aqz {op:UnOp}{x:ak R.T}{v:V}{r:eZ R}(h:Zb R op x=some r)(hx:av R ρ top x v):qD ρ top (EH op v) r:=by
 unfold Zb at h;split at h
 ·cases h;rw[hx.kS];exact⟨_,rfl,jJ⟩
 ·rw[hx.kS];exact agB h
 ·cases h;rw[hx.rF];exact⟨_,rfl,jJ⟩
 ·cases h;rw[hx.vB];exact⟨_,rfl,jJ⟩
 ·cases h
theorem aqA (s:List UInt8):s.map Ai=List.map (aX R (.int .u8)) (s.map fun b=>(b.toNat:Int)):=by show s.map Ai=List.map (fun n:Int=>V.int .u8 n) (List.map (fun b:UInt8=>(b.toNat:Int)) s);rw[G5];rfl
theorem agD:∀l:List Int,(List.map (aX R (.int .u8)) l).mapM EI=some (List.map (fun n:Int=>UInt8.ofNat n.toNat) l)
 | []=>rfl|n::l=>by show List.mapM EI (V.int .u8 n::List.map (aX R (.int .u8)) l)=_;rw[jL,agD l];rfl
theorem aqB {a b:TypeId}{x:ak R.T}{v:V}{σ:au}{r:eZ R}(h:Tg E R a b x=some r)(hx:av R ρ top x v):qD ρ top (CV E.P σ a b v) r:=by
 unfold Tg at h;unfold CV;split at h
 ·rename_i hu hv;cases h;rw[hx.kS,hu,hv];exact⟨_,rfl,jJ⟩
 ·rename_i hu hv;cases h;rw[hx.rG,hu,hv];exact⟨_,rfl,jJ⟩
 ·rename_i l hu hv
  obtain⟨c',rfl,_⟩:=hx.lU;rw[hu,hv];split at h
  ·rename_i he;cases h
   dsimp only;rw[he];exact⟨_,congrArg (Option.map V.str) (agD (R:=R) l),jJ⟩
  ·cases h
 ·rename_i hu hv
  rw[hx.qB,hu,hv];split at h
  ·rename_i he;cases h
   dsimp only;rw[he];exact⟨_,rfl,jJ⟩
  ·cases h
 ·cases h
theorem TY {x:Option (ak R.T)}{v:Option V}{i:Option Int}(h:IQ R x=some i)(hx:∀y,x=some y->∃w,v=some w/\av R ρ top y w)(hn:x=none->v=none):(i=none/\v=none)\/∃n k,i=some n/\v=some (.int k n):=by
 unfold IQ at h;split at h
 ·cases h;exact .inl ⟨rfl,hn rfl⟩
 ·rename_i k n
  cases h;obtain⟨w,rfl,hw⟩:=hx _ rfl;exact .inr ⟨n,k,rfl,by rw[hw.kS]⟩
 ·cases h
theorem T9 {k:IntKind}{n:Int}{m:Nat}(h:AA n m=true):bnd (.int k n) m=some n.toNat:=by unfold AA at h;have:=of_decide_eq_true h;simp[bnd,oF,this]
theorem aqC {α:Type}(l:List α){lo hi:Option Int}{vl vh:Option V}(hl:(lo=none/\vl=none)\/∃n k,lo=some n/\vl=some (.int k n))(hh:(hi=none/\vh=none)\/∃n k,hi=some n/\vh=some (.int k n))(hb:afz l.length lo hi=true):
 ∃a c,uT l.length l.length vl vh none=some (a,c,l.length)/\(l.take c).drop a=IU l lo hi:=by
 rcases hl with ⟨rfl,rfl⟩| ⟨n,k,rfl,rfl⟩<;>rcases hh with ⟨rfl,rfl⟩| ⟨m,k',rfl,rfl⟩
 ·exact⟨0,l.length,rfl,by simp[IU]⟩
 ·have h1:AA m l.length=true:=hb
  exact⟨0,m.toNat,by simp[uT,T9 h1],by simp[IU]⟩
 ·have h1:AA n l.length=true:=hb
  exact⟨n.toNat,l.length,by simp[uT,T9 h1],by simp[IU]⟩
 ·have h1:(AA m l.length&& AA n m.toNat)=true:=hb
  rw[iP] at h1;exact⟨n.toNat,m.toNat,by simp[uT,T9 h1.1,T9 h1.2],by simp[IU]⟩
theorem aqD {α:Type}(f:α->V)(l:List α)(a c:Nat):((l.map f).take c).drop a=((l.take c).drop a).map f:=aC
variable (hR:rE R)
include hR
theorem Jk (t:Ty)(x:Den R.T t):(aX R t x).cells.length=cK R t/\dD (aX R t x).cells=true/\er (aX R t x)=aX R t x/\(iA t=true->∃l,aX R t x= .agg l)/\(iA t=false->(aX R t x).cells=[aX R t x]):=by
 cases t with
 |int k=>exact⟨rfl,rfl,rfl,by simp[iA],fun _=>rfl⟩
 |bool=>exact⟨rfl,rfl,rfl,by simp[iA],fun _=>rfl⟩
 |str=>exact⟨rfl,rfl,rfl,by simp[iA],fun _=>rfl⟩
 |slice t=>exact⟨rfl,rfl,rfl,by simp[iA],fun _=>rfl⟩
 |st n=>
  have he:aX R (.st n) x= .agg (encs R (R.lf n) (R.of n x)):=hR.enc n x;rw[he];have hl:=hR.leaf n;have key:∀(l:List Ty)(p:qx R.T l),l.all pR=true->dD (encs R l p)=true/\(encs R l p).map eD=encs R l p:=by
   intro l;induction l with
   |nil=>intro p _;exact⟨rfl,rfl⟩|cons t l ih=>
    intro p h;rw[List.all_cons,iP] at h;have h1:∀y:Den R.T t,oneCell (aX R t y)=true/\eD (aX R t y)=aX R t y:=(by intro y;cases t<;>first|exact⟨rfl,rfl⟩| (have:=h.1;simp[pR] at this));cases l with
    |nil=>exact⟨by simp[encs,dD,(h1 p).1],by simp[encs,(h1 p).2]⟩|cons u l=>have:=ih p.2 h.2;exact⟨by show (oneCell _&& dD (encs R (u::l) p.2))=true;rw[(h1 p.1).1,this.1];rfl,by show eD _::List.map eD (encs R (u::l) p.2)=_;rw[(h1 p.1).2,this.2];rfl⟩
  have:=key (R.lf n) (R.of n x) hl;exact⟨Zy _ _,this.1,by show V.agg (List.map eD _)=_;rw[this.2],fun _=>⟨_,rfl⟩,by simp[iA]⟩
theorem Ua {t:Ty}(l:List (Den R.T t)):qR (cK R t) (l.map (aX R t))=true:=by
 cases l with
 |nil=>rfl|cons x l=>show ((aX R t x).cells.length==cK R t)=true;rw[(Jk hR t x).1];simp
theorem aqE {t:TypeId}{x:ak R.T}{lo hi:Option (ak R.T)}{v:V}{vl vh:Option V}{σ:au}{r:eZ R}(h:Ti E R t x lo hi=some r)(hx:av R ρ top x v)(hl:∀y,lo=some y->∃w,vl=some w/\av R ρ top y w)(hln:lo=none->vl=none)(hh:∀y,hi=some y->∃w,vh=some w/\av R ρ top y w)(hhn:hi=none->vh=none):qD ρ top (xI E.P σ t v vl vh none) r:=by
 unfold Ti at h;split at h
 ·rename_i lo' hi' e1 e2
  have b1:=TY e1 hl hln;have b2:=TY e2 hh hhn;split at h
  ·rename_i e c u l hu
   split at h
   ·rename_i sz hs
    cases hb:Nat.beq sz (cK R u)
    ·rw[hb] at h;cases h
    ·rw[hb,cond_true] at h;cases h
     have:=gG hb;subst this;obtain⟨c',rfl,_⟩:=hx.lU;intro hc;obtain⟨a,m,h1,h2⟩:=aqC l b1 b2 hc;unfold xI;rw[hu];dsimp only;rw[hs];simp only[Option.bind_some,jS,h1,Ua hR,if_true];by_cases hcs:a=0/\m=l.length/\(none:Option V).isNone=true
     ·refine⟨_,by rw[if_pos hcs],?_⟩
      unfold av;refine⟨c',?_,trivial⟩;rw[<-h2,hcs.1,hcs.2.1];simp
     ·refine⟨_,by rw[if_neg hcs],?_⟩
      unfold av;exact⟨_,by rw[<-h2,aqD],trivial⟩
   ·cases h
  ·cases h
 ·cases h
omit hR in
end
section
variable {R:gY}{E:Env}
variable {ρ:aT}{top:Nat->Nat}{b:Nat}{st:aD R.T}{fr:Fr}{σ:au}
theorem gH.{u} {α:Type u}{c:Bool}{o:Option α}{y:α}(h:(bif c then o else none)=some y):c=true/\o=some y:=by
 cases c
 ·cases h
 ·exact⟨rfl,h⟩
theorem Nk {t e:TypeId}{u:Ty}{sz iF:Nat}(h:Fp E R t=some (e,u,sz,iF)):∃z,mW E.P t=some e/\eX E.P e=some sz/\Ah E.P e=some iF/\nU E.P e=some (iA u)/\kR E.P e=some z/\
 sz=cK R u/\0<sz/\(iA u||sz==1)=true/\z.cells.length=sz:=by
 unfold Fp at h;split at h
 ·rename_i e' he
  split at h
  ·rename_i u' sz' by' ag z h1 h2 h3 h4 h5
   obtain⟨hc,h⟩:=gH h;cases h;simp only[iP] at hc;obtain⟨⟨⟨⟨c1,c2⟩,c3⟩,c4⟩,c5⟩:=hc;have:ag=iA u:=by simpa using c5
   subst this;refine⟨z,he,h2,h3,h4,h5,gG c1,kQ c2,?_,gG c4⟩;rw[qP] at c3⊢;rcases c3 with c3|c3
   ·exact .inl c3
   ·exact .inr (by rw[gG c3];rfl)
  ·cases h
 ·cases h
theorem Ub (ag:Bool)(sz:Nat):∀vs:List V,(∀v∈vs,v.cells.length=sz)->chunks ag sz vs.length (vs.flatMap V.cells)=vs.map fun v=>if ag then .agg v.cells else v.cells.headD aK
 | [],_=>rfl|v::vs,h=>by
  have h1:=h v aC;have h2:=Ub ag sz vs (fun w hw=>h w (by simp[hw]));show _::chunks ag sz vs.length ((v.cells++vs.flatMap V.cells).drop sz)=_;rw[List.drop_left' h1,h2,fG];congr 1;cases ag
  ·simp only[dO,if_false]
   show (v.cells++vs.flatMap V.cells).headD aK=_;cases hv:v.cells with
   |nil=>
    have h0:sz=0:=(by rw[<-h1,hv];rfl);cases vs with
    |nil=>rfl|cons w vs=>have:w.cells=[]:=lZ (by rw[h w aC,h0]);simp only[ny,this,List.nil_append];have:∀vs:List V,(∀v∈vs,v.cells.length=sz)->vs.flatMap V.cells=[]:=(by intro vs hvs;rw[List.flatMap_eq_nil_iff];intro x hx;exact lZ (by rw[hvs x hx,h0]));rw[this vs (fun x hx=>h x zZ)]
   |cons a l=>rfl
  ·simp only[if_true]
   show V.agg ((v.cells++vs.flatMap V.cells).take sz)=_;rw[List.take_left' h1]
variable (hR:rE R)
include hR
theorem aqF {t:Ty}{x:Den R.T t}{v:V}(h:er v=aX R t x):fV v=true:=by
 cases v<;>try rfl
 have h1:=qC hR t x;rw[<-h] at h1;simp[er,aU] at h1
theorem ZJ {u:Ty}{sz len:Nat}(hsz:sz=cK R u):∀(ps:List (Nat×ak R.T))(qs:List (Nat×V))(xs:List (Den R.T u))(n:Nat)(done rest:List V),BQ R u n ps=some xs->ps.map (·.1)=qs.map (·.1)->
 aF R ρ top (ps.map (·.2)) (qs.map (·.2))->done.length=n*sz->rest.length=xs.length*sz->n+xs.length<=len->
 ∃vs:List V,rW (fun i=>if i<len then some (i*sz,sz) else none) (done++rest) qs=some (done++vs.flatMap V.cells)/\vs.length=xs.length/\vs.map er=xs.map (aX R u)/\(∀v∈vs,v.cells.length=sz/\dD v.cells=true)/\aF R ρ top (xs.flatMap fun x=>(jk R .any u x).cells) (vs.flatMap V.cells)
 | [],[],xs,n,done,rest,h,_,_,h1,h2,_=>by
   cases h;have:rest=[]:=lZ qN;subst this;exact⟨[],by simp[rW],rfl,rfl,aC,by rfl⟩
 | [],_::_,_,_,_,_,_,h,_,_,_,_=>xD|_::_,[],_,_,_,_,_,h,_,_,_,_=>xD| (i,v)::ps,(j,w)::qs,xs,n,done,rest,h,hi,hr,h1,h2,h3=>by
   simp only[fG,qb] at hi;obtain⟨rfl,hi⟩:=hi;obtain⟨y,ys,e,g1,g2⟩:=hr.dW;simp only[fG,qb] at e;obtain⟨rfl,rfl⟩:=e;unfold BQ at h;cases hb:Nat.beq i n
   ·rw[hb] at h;cases h
   ·rw[hb,cond_true] at h
    have:=gG hb;subst this;cases hu:BN R u v with
    |none=>simp only[hu] at h;cases h|some x=>
     cases hs:BQ R u (i+1) ps with
     |none=>simp only[hu,hs] at h;cases h|some xs'=>
      simp only[hu,hs] at h;obtain rfl:=lX h;obtain⟨a1,a2,a3,a4,a5⟩:=afY hR hu g1;rw[<-hsz] at a4;have hlen:rest.length=sz+xs'.length*sz:=(by rw[h2,List.length_cons,qO];omega);have q1:(done++w.cells).length=(i+1)*sz:=(by rw[bE,h1,a4,qO]);have q2:(rest.drop sz).length=xs'.length*sz:=(by rw[yO,hlen,CQ]);have q3:i+1+xs'.length<=len:=(by rw[List.length_cons] at h3;omega);obtain⟨vs,k1,k2,k3,k4,k5⟩:=ZJ hsz ps qs xs' (i+1) (done++w.cells) (rest.drop sz) hs hi g2 q1 q2 q3;refine⟨w::vs,?_,by simp[k2],by simp[a1,k3],?_,?_⟩
      ·simp only[List.length_cons] at h3
       unfold rW;simp only[if_pos (show i<len by omega)];rw[if_pos ⟨a4,by rw[bE,h1,hlen];exact Nat.add_le_add_left (gD _ _) _,aqF hR a1⟩];have:jN (done++rest) (i*sz) w.cells=done++w.cells++rest.drop sz:=(by unfold jN;rw[List.take_left' h1,a4,G6,h1,CQ,Lv ah];rfl);rw[this,k1];simp
      ·intro z hz
       rcases iC.1 hz with rfl|hz
       ·exact⟨a4,a5⟩
       ·exact k4 z hz
      ·rw[ny,ny]
       refine aF.append ?_ k5;have h1:=TS hR hu g1;refine(zA ?_ h1).1;cases u<;>rfl
theorem aqG {u:Ty}{sz:Nat}(hsz:sz=cK R u)(h1:(iA u||sz==1)=true){v:V}{x:Den R.T u}(he:er v=aX R u x)(hl:v.cells.length=sz):er (if iA u then .agg v.cells else v.cells.headD aK)=aX R u x:=by
 cases hs:iA u
 ·simp only[dO,if_false]
  have hne:∀cs,v≠ .agg cs:=by rintro cs rfl;cases u<;>first| (simp[iA] at hs;done)| (simp[er,aX] at he;done)
  have:v.cells=[v]:=by cases v<;>first|rfl|exact absurd rfl (hne _)
  rw[this];exact he
 ·simp only[if_true]
  obtain⟨l,hl'⟩:=(Jk hR u x).2.2.2.1 hs;cases v<;>first|exact he| (rw[hl'] at he;simp[er] at he)
omit hR in
theorem agE {u:Ty}:∀(ps:List (Nat×ak R.T))(n:Nat)(xs:List (Den R.T u)),BQ R u n ps=some xs->xs.length=ps.length:=by
 intro ps;induction ps with
 |nil=>intro n xs h;cases h;rfl|cons p ps ih=>
  intro n xs h;obtain⟨i,v⟩:=p;unfold BQ at h;obtain⟨_,h⟩:=gH h;cases hu:BN R u v with
  |none=>simp only[hu] at h;cases h|some x=>
   cases hs:BQ R u (n+1) ps with
   |none=>simp only[hu,hs] at h;cases h|some xs'=>simp only[hu,hs] at h;cases h;simp[ih _ _ hs]
theorem aqH {t:TypeId}{len:Nat}{ps:List (Nat×ak R.T)}{qs:List (Nat×V)}{r:eZ R}(h:Zc E R t len ps=some r)(hi:ps.map (·.1)=qs.map (·.1))(hr:aF R ρ top (ps.map (·.2)) (qs.map (·.2))):qD ρ top (CW E t len qs) r:=by
 unfold Zc at h;split at h
 ·rename_i e u sz iF he
  obtain⟨z,e1,e2,e3,e4,e5,e6,e7,e8,e9⟩:=Nk he
  ·obtain⟨hc,h⟩:=gH h
   rw[iP] at hc;split at h
   ·rename_i xs hx
    cases h;have hlen:xs.length=len:=(by rw[agE ps 0 xs hx];exact gG hc.2);obtain⟨vs,k1,k2,k3,k4,_⟩:=ZJ hR (len:=len) e6 ps qs xs 0 [] ((List.replicate len z.cells).flatten) hx hi hr aC (by simp[e9,hlen]) ah;refine⟨.ay .full (xs.map (aX R u)),?_,by unfold av;exact⟨.full,rfl,rfl⟩⟩;unfold CW;rw[e1];simp only[Option.bind_some,e2,e4,e5];rw[if_pos ⟨kQ hc.1,e9,e7,e8⟩];rw[List.nil_append,List.nil_append] at k1;rw[k1];simp only[Option.bind_some];have hone:dD (vs.flatMap V.cells)=true:=(by unfold dD;rw[List.all_flatMap,kM];intro v hv;exact(k4 v hv).2);rw[hone,if_pos rfl,<-hlen,<-k2,Ub _ _ _ (fun v hv=>(k4 v hv).1),G5];congr 2;have:∀(vs:List V)(xs:List (Den R.T u)),vs.map er=xs.map (aX R u)->(∀v∈vs,v.cells.length=sz/\dD v.cells=true)->vs.map (er∘fun v=>if iA u then .agg v.cells else v.cells.headD aK)=xs.map (aX R u):=by
     intro vs;induction vs with
     |nil=>intro xs h _;exact h|cons v vs ih=>
      intro xs h hk;cases xs with
      |nil=>simp at h|cons x xs=>simp only[fG,qb] at h;rw[fG,fG,ih xs h.2 (fun w hw=>hk w (by simp[hw]))];congr 1;exact aqG hR e6 e8 h.1 (hk v aC).1
    rw[this vs xs k3 k4]
   ·cases h
 ·cases h
omit hR in
theorem aqI {x:ak R.T}{v:V}(h:afC x=true)(hr:av R ρ top x v):eD v=v/\oneCell v=true:=by
 cases x<;>first| (cases h;done)|skip
 ·rw[hr.kS];exact⟨rfl,rfl⟩
 ·rw[hr.rF];exact⟨rfl,rfl⟩
 ·rw[hr.vB];exact⟨rfl,rfl⟩
 ·rw[hr.rG];exact⟨rfl,rfl⟩
 ·unfold av at hr;subst hr;exact⟨rfl,rfl⟩
 ·unfold av at hr;subst hr;exact⟨rfl,rfl⟩
 ·obtain⟨a',b',rfl,_⟩:=hr.lg;exact⟨rfl,rfl⟩
omit hR in
theorem agF:∀{x:List (ak R.T)}{v:List V},Tm x=true->aF R ρ top x v->v.map eD=v/\dD v=true
 | [],v,_,h=>by rw[h.iJ];exact⟨rfl,rfl⟩|x::l,v,hs,h=>by obtain⟨w,ws,rfl,h1,h2⟩:=h.dW;unfold Tm at hs;rw[iP] at hs;obtain⟨a1,a2⟩:=aqI hs.1 h1;obtain⟨b1,b2⟩:=agF hs.2 h2;exact⟨by rw[fG,a1,b1],by unfold dD at*;rw[List.all_cons,a2,b2];rfl⟩
omit hR in
theorem agG {sz len:Nat}:∀(ps:List (Nat×ak R.T))(qs:List (Nat×V))(xs:List (ak R.T))(i:Nat)(done rest:List V),Tn sz i ps=some xs->ps.map (·.1)=qs.map (·.1)->aF R ρ top (ps.map (·.2)) (qs.map (·.2))->
 done.length=i*sz->rest.length=ps.length*sz->i+ps.length<=len->
 ∃vs:List V,rW (fun j=>if j<len then some (j*sz,sz) else none) (done++rest) qs=some (done++vs.flatMap V.cells)/\vs.length=ps.length/\vs.map er=vs/\(∀v∈vs,v.cells.length=sz/\dD v.cells=true/\V.agg v.cells=v)/\aF R ρ top xs vs
 | [],qs,xs,i,done,rest,h,hi,hr,h1,h2,h3=>by
   cases h;cases qs with
   |nil=>have:rest=[]:=lZ qN;subst this;exact⟨[],by simp[rW],rfl,rfl,aC,rfl⟩|cons q qs=>simp at hi
 | (j,tv)::ps,qs,xs,i,done,rest,h,hi,hr,h1,h2,h3=>by
   cases qs with
   |nil=>simp at hi|cons q qs=>
    obtain⟨j',w⟩:=q;simp only[fG,qb] at hi;obtain⟨rfl,hi⟩:=hi;obtain⟨w',ws,e,g1,g2⟩:=hr.dW;simp only[fG,qb] at e;obtain⟨rfl,rfl⟩:=e;unfold Tn at h;split at h
    ·rename_i cs
     obtain⟨hb,h⟩:=gH h;simp only[iP] at hb;obtain⟨hb1,hb2,hb3⟩:=hb;have hb1:=gG hb1;have hb2:=gG hb2;subst hb1;split at h
     ·rename_i y hy
      cases h;obtain⟨l,rfl,hl⟩:=g1.lT;obtain⟨o1,o2⟩:=agF hb3 hl;have ll:l.length=sz:=(by rw[hl.length];exact hb2);simp only[List.length_cons] at h2 h3;have hlen:rest.length=sz+ps.length*sz:=(by rw[h2,qO];omega);have q1:(done++l).length=(j+1)*sz:=(by rw[bE,h1,ll,qO]);have q2:(rest.drop sz).length=ps.length*sz:=(by rw[yO,hlen,CQ]);obtain⟨vs,k1,k2,k3,k4,k5⟩:=agG (len:=len) ps qs y (j+1) (done++l) (rest.drop sz) hy hi g2 q1 q2 ah;refine⟨.agg l::vs,?_,by simp[k2],by rw[fG,k3];congr 1;show V.agg (l.map eD)=_;rw[o1],?_,.cons' g1 k5⟩
      ·unfold rW
       simp only[if_pos (show j<len by omega)];rw[if_pos ⟨ll,by rw[bE,h1,hlen];exact Nat.add_le_add_left (gD _ _) _,rfl⟩];have:jN (done++rest) (j*sz) (V.agg l).cells=done++l++rest.drop sz:=(by unfold jN;show List.take _ _++l++List.drop (j*sz+l.length) _=_;rw[List.take_left' h1,ll,G6,h1,CQ,Lv ah];rfl);rw[this,k1];simp[V.cells]
      ·intro z hz
       rcases iC.1 hz with rfl|hz
       ·exact⟨ll,o2,rfl⟩
       ·exact k4 z hz
     ·cases h
    ·cases h
omit hR in
theorem aqJ {t:TypeId}{len:Nat}{ps:List (Nat×ak R.T)}{qs:List (Nat×V)}{r:eZ R}(h:Zd E R t len ps=some r)(hi:ps.map (·.1)=qs.map (·.1))(hr:aF R ρ top (ps.map (·.2)) (qs.map (·.2))):qD ρ top (CW E t len qs) r:=by
 unfold Zd at h;split at h
 ·rename_i e he
  split at h
  ·rename_i sz ag z h1 h2 h3
   obtain⟨hc,h'⟩:=gH h;clear h;simp only[iP] at hc;obtain⟨c1,c2,c3,c4,c5⟩:=hc;subst c1;have c3:=gG c3;have c4:0<sz:=Nat.lt_of_succ_le (kQ c4);have c5:=gG c5;split at h'
   ·rename_i xs hx
    cases h';obtain⟨vs,k1,k2,k3,k4,k5⟩:=agG (len:=len) ps qs xs 0 [] ((List.replicate len z.cells).flatten) hx hi hr aC (by simp[c3,c5]) ah;refine⟨.ay .full vs,?_,by unfold av;exact⟨.full,vs,rfl,k5⟩⟩;unfold CW;rw[he];simp only[Option.bind_some,h1,h2,h3];rw[if_pos ⟨kQ c2,c3,c4,rfl⟩];rw[List.nil_append,List.nil_append] at k1;rw[k1];simp only[Option.bind_some];have hone:dD (vs.flatMap V.cells)=true:=(by unfold dD;rw[List.all_flatMap,kM];intro v hv;exact(k4 v hv).2.1);rw[hone,if_pos rfl,<-c5,<-k2,Ub _ _ _ (fun v hv=>(k4 v hv).1),G5];congr 2;have:∀vs:List V,vs.map er=vs->(∀v∈vs,V.agg v.cells=v)->vs.map (er∘fun v=>if true then .agg v.cells else v.cells.headD aK)=vs:=by
     intro vs;induction vs with
     |nil=>intro _ _;rfl|cons v vs ih=>intro h hk;simp only[fG,qb] at h;rw[fG,ih h.2 (fun w hw=>hk w (by simp[hw]))];congr 1;simp only[Function.comp,if_true];rw[hk v aC];exact h.1
    exact this vs k3 (fun v hv=>(k4 v hv).2.2)
   ·cases h'
  ·cases h
 ·cases h
theorem Uc {u:Ty}(l:List (Den R.T u)):(l.map (aX R u)).all (fun v=>dD v.cells)=true:=by simp[List.all_map,(Jk hR u _).2.1]
theorem agH {u:Ty}{ag:Bool}{y:ak R.T}{v z:V}{l:List (Den R.T u)}(h:Tp R u y=some l)(hy:av R ρ top y v):tO σ ag (cK R u) z v=some (l.map (aX R u))/\EK v=false:=by
 unfold Tp at h;split at h
 ·obtain⟨e,e2⟩:=vC h;subst e;cases e2
  obtain⟨c',rfl,_⟩:=hy.lU;exact⟨by show (if qR _ _=true then _ else _)=_;rw[if_pos (Ua hR _)],rfl⟩
 ·cases h;rw[hy.qB];exact⟨rfl,rfl⟩
 ·rename_i s
  obtain⟨e,e2⟩:=vC h;subst e;cases e2;rw[hy.rG];exact⟨by show (if 1=1 then some (s.map Ai) else none)=_;rw[if_pos rfl];exact congrArg some (aqA (R:=R) s),rfl⟩
 ·cases h
theorem aqK {t e:TypeId}{sz iF:Nat}{ag:Bool}{z:V}{c:Cap}{l ys:List V}{y:V}{loc:Option Loc}{aH:Nat}{P:Program}(h1:mW P t=some e)(h2:eX P e=some sz)(h3:Ah P e=some iF)(h4:nU P e=some ag)(h5:kR P e=some z)(h6:z.cells.length=sz)(h7:0<sz)(h8:(ag||sz==1)=true)(hy:tO σ ag sz z y=some ys)(hi:EK y=false)(ho:ys.all (fun v=>dD v.cells)=true)(hr:dG (l.length+ys.length) iF=true)(hh:qR sz l=true):
 mI P false false σ aH loc t (.ay c l) y=match c with
  |.own n s=>if n=sz/\σ.top s=l.length then some (.ay (.own n s) (l++ys),σ.dZ s (l.length+ys.length)) else none|.nil|.full=>some (.ay (.own sz aH) (l++ys),σ.dZ aH (l.length+ys.length))|_=>none:=by
 unfold mI;simp only[h1,h2,h3,h4,h5,Option.bind_some,hi,hy,ho,if_true];rw[if_pos ⟨trivial,h6,h7,h8⟩];simp only[hr,hh,and_self,if_true];cases c<;>rfl
theorem aqL {d:Option Nat}{t u:TypeId}{x y:ak R.T}{v w:V}{r:eZ R}{aH:Nat}{loc:Option Loc}{o:Oper}(h:ug E R d t u x y st=some r)(hx:av R ρ σ.top x v)(hy:av R ρ σ.top y w)(hi:aL ρ aH st fr σ)(ho:∀y σ',mI E.P false false σ aH loc t v w=some (y,σ')->mo E fr σ aH o y σ'):sH E st ρ aH fr σ o r:=by
 unfold ug at h;split at h
 ·rename_i d
  split at h
  ·rename_i e τ sz iF he
   obtain⟨z,e1,e2,e3,e4,e5,e6,e7,e8,e9⟩:=Nk he
   ·obtain⟨hss,h⟩:=gH h
    split at h
    ·rename_i tk l l' hd hs
     cases h;intro hroom;subst e6;obtain⟨g1,g2⟩:=agH hR (ag:=iA τ) (z:=z) (σ:=σ) hs hy;have hlen:dG ((l.map (aX R τ)).length+(l'.map (aX R τ)).length) iF=true:=(by rw[jS,jS];exact hroom);have hap:∀c,mI E.P false false σ aH loc t (.ay c (l.map (aX R τ))) w=_:=fun c=>aqK hR (σ:=σ) (c:=c) (loc:=loc) (aH:=aH) e1 e2 e3 e4 e5 e9 e7 e8 g1 g2 (Uc hR l') hlen (Ua hR l);have fresh:∀(c:Cap),(c= .nil\/c= .full)->v= .ay c (l.map (aX R τ))->∃x σ' ρ',mo E fr σ aH o x σ'/\aL ρ' (aH+1) (st.wk tk) fr σ'/\σ'.next=σ.next/\av R ρ' σ'.top (.ay (.own tk) τ (l++l')) x/\∀p,nJ E o p->bB true p st ρ σ (st.wk tk) ρ' σ':=by
      intro c hc hv;subst hv;have:=hap c;refine⟨.ay (.own (cK R τ) aH) (l.map (aX R τ)++l'.map (aX R τ)),σ.dZ aH ((l.map (aX R τ)).length+(l'.map (aX R τ)).length),ρ.jU tk aH,ho _ _ (by rw[this];rcases hc with rfl|rfl<;>rfl),?_,rfl,?_,?_⟩
      ·exact hi.wk tk aH _ (kD _) (CO _) hi.nx (fun u _ hu=>Le)
      ·unfold av
       exact⟨_,by rw[oV],.inr (.inr ⟨aH,rfl,by simp[aT.jU,upd],by rw[MG];simp⟩)⟩
      ·exact fun p _=>bB.wk hi.nx
     unfold afD at hd;split at hd
     ·rename_i l0
      split at hd
      ·rename_i l1 hl1
       cases hd;obtain⟨e,e2⟩:=vC hl1;subst e;cases e2;obtain⟨c',rfl,hc'⟩:=hx.lU;exact fresh c' (.inl hc') rfl
      ·cases hd
     ·rename_i l0
      split at hd
      ·rename_i l1 hl1
       cases hd;obtain⟨e,e2⟩:=vC hl1;subst e;cases e2;obtain⟨c',rfl,hc'⟩:=hx.lU;exact fresh c' (.inr hc') rfl
      ·cases hd
     ·rename_i tk' fO l0
      split at hd
      ·rename_i l1 hl1
       cases hd;obtain⟨e,e2⟩:=vC hl1;subst e;cases e2;obtain⟨c',rfl,hc'⟩:=hx.lU;rcases hc' with hc'|hc'| ⟨s,hc',ht,hl⟩
       ·exact fresh c' (.inl hc') rfl
       ·exact fresh c' (.inr hc') rfl
       ·subst hc'
        have:=hap (.own (cK R fO) s);dsimp only at this;rw[if_pos ⟨rfl,by rw[jS];exact hl⟩] at this;refine⟨_,_,ρ.jU tk s,ho _ _ this,?_,rfl,?_,?_⟩
        ·exact hi.wk tk s _ (kD _) (by have:=hi.lt tk s ht;omega) (hi.ge tk s ht) (fun u hu h'=>hu (hi.inj u tk s h' ht))
        ·unfold av
         exact⟨_,by rw[oV],.inr (.inr ⟨s,rfl,by simp[aT.jU,upd],by rw[MG];simp⟩)⟩
        ·exact fun p _=>bB.wk (hi.ge tk s ht)
      ·cases hd
     ·cases hd
      rw[hx.qB] at fresh;have hx':=hx.qB;subst hx';exact fresh .nil (.inl rfl) rfl
     ·cases hd
    ·cases h
  ·cases h
 ·cases h
omit hR in
theorem aqM {t:TypeId}{x:ak R.T}{v:V}{n:Nat}(h:Zg E t x st=some n)(hx:av R ρ σ.top x v)(hi:aL ρ b st fr σ):vV E σ t v=some n:=by
 unfold Zg at h;unfold vV;split at h
 ·rename_i hu;cases h;obtain⟨c',rfl,_⟩:=hx.lU;rw[hu];simp
 ·rename_i hu;cases h;rw[hx.qB,hu];rfl
 ·rename_i hu;cases h;obtain⟨c',l',rfl,hl⟩:=hx.DC;rw[hu];simp[hl.length]
 ·rename_i o t hu
  split at h
  ·rename_i t' l hl
   cases h;have h1:=(hi.rd hl).1;rcases hx.zw with ⟨s,_,rfl⟩| ⟨h0,rfl|rfl⟩
   ·rw[hu];dsimp only;rw[h1]
   ·rw[hu];dsimp only;rw[h1,h0];rfl
   ·rw[hu];dsimp only;rw[h1,h0];rfl
  ·cases h
 ·rename_i o' t' a' b' hu
  cases h;rcases hx.BU with ⟨_,_,_,⟨s,cp,_,_,rfl⟩| ⟨e,c,rfl⟩⟩
  ·rw[hu]
  ·rw[hu];dsimp only;rw[e,Int.sub_self];rfl
 ·rename_i hu;cases h;rw[hx.rG,hu]
 ·rename_i o hu
  split at h
  ·rename_i k e m hl
   cases h;obtain⟨s,h1,rfl⟩:=hx.Na;obtain⟨s',h2,h3⟩:=hi.rd hl;rw[h1] at h2;cases h2;rw[hu];dsimp only;rw[h3];simp
  ·cases h
 ·rename_i hu;cases h;rw[hx.FB,hu];simp
 ·rename_i hu;cases h;unfold av at hx;subst hx;rw[hu]
 ·rename_i hu;cases h;rw[hu]
 ·cases h
omit hR in
theorem ZK (mx:Bool):∀{l:List (ak R.T)}{x y:ak R.T}{v:V}{k:List V},IY mx x l=some y->av R ρ top x v->aF R ρ top l k->∃w,yR mx v k=some w/\av R ρ top y w
 | [],x,y,v,k,h,hx,hl=>by rw[hl.iJ];unfold IY at h;cases h;exact⟨v,by cases v<;>rfl,hx⟩|z::l,x,y,v,k,h,hx,hl=>by
  obtain⟨w,ws,rfl,h1,h2⟩:=hl.dW;unfold IY at h;split at h
  ·rename_i hz;cases hz
  ·rename_i k a k' b l' hz
   simp only[qb] at hz;obtain⟨rfl,rfl⟩:=hz;split at h
   ·rename_i e;subst e
    rw[hx.kS,h1.kS];unfold yR;rw[if_pos rfl];refine ZK mx h ?_ h2;unfold av;cases mx<;>rfl
   ·cases h
  ·cases h
omit hR in
theorem agI (c:Cp):∀(l:List Ty)(p:qx R.T l),(gq R c l p).length=l.length
 | [],_=>rfl| [_],_=>rfl|_::u::l,p=>by show (gq R c (u::l) p.2).length+1=_;rw[agI c (u::l)];rfl
omit hR in
theorem Jl (c:Cp)(t:Ty)(x:Den R.T t):(jk R c t x).cells.length=cK R t:=by
 cases t with
 |st n=>exact agI c _ _|_=>rfl
omit hR in
theorem agJ {α β:Type}{f:α->List β}{sz:Nat}(hf:∀x,(f x).length=sz):∀(n:Nat)(l:List α),(l.flatMap f).drop (n*sz)=(l.drop n).flatMap f
 |0,l=>aC|n+1,[]=>aC|n+1,x::l=>by rw[ny,List.drop_succ_cons,<-agJ hf n l,qO,Nat.add_comm,<-List.drop_drop,<-hf x,List.drop_left]
omit hR in
theorem agK {α β:Type}{f:α->List β}{sz:Nat}(hf:∀x,(f x).length=sz):∀(n:Nat)(l:List α),(l.flatMap f).take (n*sz)=(l.take n).flatMap f
 |0,l=>aC|n+1,[]=>aC|n+1,x::l=>by rw[ny,List.take_succ_cons,ny,<-agK hf n l,qO,Nat.add_comm,<-hf x,List.take_length_add_append]
omit hR in
theorem agL {α:Type}{l:List α}{a b:Int}(h0:0<=a)(h1:a<=b):Fh l a b=(l.drop a.toNat).take (b-a).toNat:=by unfold Fh;rw[List.take_drop];congr 2;omega
omit hR in
theorem aqN {t:Ty}{l:List (Den R.T t)}{cs:List V}{ρ:aT}{top:Nat->Nat}{a b:Int}(h0:0<=a)(h1:a<=b)(h:aF R ρ top (l.flatMap fun x=>(jk R .any t x).cells) cs):aF R ρ top ((Fh l a b).flatMap fun x=>(jk R .any t x).cells) ((cs.drop (a.toNat*cK R t)).take ((b-a).toNat*cK R t)):=by rw[agL h0 h1,<-agK (fun x=>Jl .any t x),<-agJ (fun x=>Jl .any t x)];exact(h.drop _).take _
omit hR in
theorem DJ (t:Ty):∀l:List (Den R.T t),(l.flatMap fun x=>(jk R .any t x).cells).length=l.length*cK R t
 | []=>aC|x::l=>by rw[ny,bE,Jl,DJ t l,List.length_cons,qO];omega
omit hR in
theorem agM {α:Type}:∀{l:List α}{i:Nat}{x:α},l[i]? =some x->∃a b,l=a++x::b/\a.length=i
 | [],_,_,h=>xD|y::l,0,x,h=>by simp at h;subst h;exact⟨[],l,rfl,rfl⟩|y::l,i+1,x,h=>by obtain⟨a,b,rfl,hl⟩:=agM (l:=l) (i:=i) Bt;exact⟨y::a,b,rfl,by simp[hl]⟩
omit hR in
theorem aqO {α:Type}{l:List α}{i:Int}{x:α}(h:aR l i=some x):∃a b,l=a++x::b/\a.length=i.toNat/\0<=i:=by
 unfold aR at h;split at h
 ·rename_i hi
  obtain⟨a,b,h1,h2⟩:=agM h;exact⟨a,b,h1,h2,hi.1⟩
 ·cases h
omit hR in
theorem aqP {ag:Bool}{n off:Nat}{pre el post:List (ak R.T)}{v:ak R.T}(h:S9 ag n el off=some v):S9 ag n (pre++el++post) (pre.length+off)=some v:=by
 cases ag with
 |true=>
  have h':(bif Nat.ble (off+n) el.length then some (ak.agg ((el.drop off).take n)) else none)=some v:=h;obtain⟨hb,h'⟩:=gH h';have hle:=kQ hb;show (bif Nat.ble (pre.length+off+n) (pre++el++post).length then some (ak.agg (((pre++el++post).drop (pre.length+off)).take n)) else none)=some v;have hb':Nat.ble (pre.length+off+n) (pre++el++post).length=true:=Nat.ble_eq_true_of_le jR;rw[hb',cond_true,<-h'];congr 2;have e1:(pre++el++post).drop (pre.length+off)=(el++post).drop off:=by rw[jD,G6,Lv ah];simp
  rw[e1,G6,List.take_append];have e2:n-(el.drop off).length=0:=jR
  rw[e2];simp
 |false=>
  have h':el[off]? =some v:=h;show (pre++el++post)[pre.length+off]? =some v;have hlt:off<el.length:=by rw[oC] at h';exact h'.1
  rw[jD,List.getElem?_append_right ah,CQ,GZ hlt];exact h'
omit hR in
theorem aqQ {t:TypeId}{off:Nat}{pre el post:List (ak R.T)}{v:ak R.T}(h:nH E t el off=some v):nH E t (pre++el++post) (pre.length+off)=some v:=by
 unfold nH at h⊢;cases h1:nU E.P t with
 |none=>simp only[h1] at h;cases h|some a=>
  cases h2:eX E.P t with
  |none=>simp only[h1,h2] at h;cases h|some n=>simp only[h1,h2] at h⊢;exact aqP h
omit hR in
theorem aqR {t:TypeId}{off:Nat}{cs cs':List (ak R.T)}(hl:cs.length=cs'.length)(h:(nH E t cs off).isSome=true):∃v,nH E t cs' off=some v:=by
 unfold nH at h⊢;cases h1:nU E.P t with
 |none=>simp only[h1] at h;cases h|some a=>
  cases h2:eX E.P t with
  |none=>simp only[h1,h2] at h;cases h|some n=>
   simp only[h1,h2] at h⊢;cases a with
   |true=>
    have h':(bif Nat.ble (off+n) cs.length then some (ak.agg ((cs.drop off).take n)) else none).isSome=true:=h;cases hb:Nat.ble (off+n) cs.length
    ·rw[hb] at h';cases h'
    ·exact⟨.agg ((cs'.drop off).take n),by show (bif Nat.ble (off+n) cs'.length then _ else _)=_;rw[<-hl,hb];rfl⟩
   |false=>have h':cs[off]?.isSome=true:=h;have hlt:off<cs'.length:=(by rw[<-hl];simpa using h');exact⟨cs'[off],jM hlt⟩
omit hR in
theorem agN {o s:Nat}{τ:Ty}{l:List (Den R.T τ)}{i:Int}{y:Den R.T τ}(hO:eT ρ σ o (.arr τ l))(hs:ρ.ob o=some s)(hy:aR l i=some y):
 ∃a b cs,l=a++y::b/\a.length=i.toNat/\σ.dB (ρ.aj.lc o) s=some cs/\aF R ρ σ.top ((a.flatMap fun x=>(jk R .any τ x).cells)++(jk R .any τ y).cells++b.flatMap fun x=>(jk R .any τ x).cells) cs/\(a.flatMap fun x=>(jk R .any τ x).cells).length=i.toNat*cK R τ:=by
 obtain⟨a,b,rfl,h1,h2⟩:=aqO hy;rcases hO.2 with h| ⟨s',cs,h3,h4,h5⟩
 ·exact absurd h.1 aC
 ·rw[hs] at h3;cases h3
  refine⟨a,b,cs,rfl,h1,h4,?_,by rw[DJ,h1]⟩;rw[List.flatMap_append,ny] at h5;rw[jD];exact h5
omit hR in
theorem aqS {t:TypeId}{o s off:Nat}{τ:Ty}{i:Int}{ob:aG R.T}{r:eZ R}(h:Zl E R t τ i off ob=some r)(hO:eT ρ σ o ob)(hs:ρ.ob o=some s):∃(l:List (Den R.T τ)) (f:Den R.T τ->ak R.T),r= .p (Den R.T τ) (Iq R τ) (aR l i) f/\
 ∀y,aR l i=some y->∃cs w,σ.dB (ρ.aj.lc o) s=some cs/\iN E.P t cs (i.toNat*cK R τ+off)=some w/\av R ρ σ.top (f y) w:=by
 unfold Zl at h;split at h
 ·rename_i fO l0
  split at h
  ·rename_i l1 hl
   obtain⟨e,e2⟩:=vC hl;subst e;cases e2;obtain⟨hb,h⟩:=gH h;cases h;refine⟨l0,_,rfl,fun y hy=>?_⟩;obtain⟨a,b,cs,h1,h2,h3,h4,h5⟩:=agN hO hs hy;obtain⟨v,hv⟩:=aqR (cs':=(jk R .any fO y).cells) (by rw[Jl,Jl]) hb;have:=aqQ (pre:=a.flatMap fun x=>(jk R .any fO x).cells) (post:=b.flatMap fun x=>(jk R .any fO x).cells) hv;rw[h5] at this;obtain⟨w,hw,hr⟩:=Cb h4 this;exact⟨cs,w,h3,hw,by rw[hv];exact hr⟩
  ·cases h
 ·cases h
theorem aqT {τ:Ty}{cs:List (ak R.T)}{x:Den R.T τ}{vs:List V}(h:Zm R τ cs=some x)(hr:aF R ρ top cs vs):aF R ρ top (jk R .any τ x).cells vs:=by
 have one:∀(t:Ty)(x:Den R.T t),pR t=true->u7 R t (hd1 R cs)=some x->aF R ρ top [BM R .any t x] vs:=by
  intro t x ht h;cases cs with
  |nil=>cases t<;>cases h|cons c cs=>
   cases cs with
   |nil=>obtain⟨v,l,rfl,h1,h2⟩:=hr.dW;rw[h2.iJ];exact .cons' (FH hR h h1) rfl
   |cons c' cs=>cases t<;>cases h
 cases τ with
 |st n=>have:=TS hR (t:=.st n) (show BN R (.st n) (.agg cs)=some x from h) (v:=.agg vs) (by unfold av;exact⟨vs,rfl,hr⟩);obtain⟨l,e,hl⟩:=av.lT this;cases e;exact hl
 |int k=>exact one (.int k) x rfl h|bool=>exact one .bool x rfl h|str=>exact one .str x rfl h|slice t=>exact one (.slice t) x rfl h
omit hR in
theorem aqU {α:Type}(pre el post vs:List α)(off:Nat)(h:off+vs.length<=el.length):(pre++el++post).take (pre.length+off)++vs++(pre++el++post).drop (pre.length+off+vs.length)=pre++(el.take off++vs++el.drop (off+vs.length))++post:=by
 have e1:(pre++el++post).take (pre.length+off)=pre++el.take off:=by rw[jD,List.take_append,RG ah,CQ,List.take_append,Nat.sub_eq_zero_of_le ah];simp
 have e2:(pre++el++post).drop (pre.length+off+vs.length)=el.drop (off+vs.length)++post:=by rw[jD,G6,Lv ah,show pre.length+off+vs.length-pre.length=off+vs.length by omega,G6,Nat.sub_eq_zero_of_le ah];simp
 rw[e1,e2];simp
theorem aqV {o s off:Nat}{τ:Ty}{i:Int}{l:List (Den R.T τ)}{y y':Den R.T τ}{vc:List (ak R.T)}{vl:List V}(hO:eT ρ σ o (.arr τ l))(hs:ρ.ob o=some s)(hy:aR l i=some y)(hv:aF R ρ σ.top vc vl)(hle:off+vc.length<=cK R τ)(hu:Zm R τ (II (jk R .any τ y).cells off vc)=some y'):∃cs,σ.dB (ρ.aj.lc o) s=some cs/\i.toNat*cK R τ+off+vl.length<=cs.length/\aF R ρ σ.top ((iO l i y').flatMap fun x=>(jk R .any τ x).cells) (jN cs (i.toNat*cK R τ+off) vl)/\(iO l i y').length=l.length:=by
 obtain⟨a,b,cs,rfl,h2,h3,h4,h5⟩:=agN hO hs hy;obtain⟨p1,post,rfl,g1,g2⟩:=h4.split;obtain⟨pre,el,rfl,g3,g4⟩:=g1.split;have l1:pre.length=i.toNat*cK R τ:=by rw[g3.length,h5]
 have l2:el.length=cK R τ:=by rw[g4.length,Jl]
 have l3:=hv.length;refine⟨_,h3,?_,?_,?_⟩
 ·rw[bE,bE];omega
 ·have e:iO (a++y::b) i y'=a++y'::b:=by unfold iO;rw[<-h2,List.set_append_right _ _ (RS _),Nat.sub_self];rfl
  rw[e,List.flatMap_append,ny,<-jD];have e2:jN (pre++el++post) (i.toNat*cK R τ+off) vl=pre++jN el off vl++post:=by unfold jN;rw[<-l1];exact aqU pre el post vl off ah
  rw[e2];exact(g3.append (aqT hR hu (ZH off g4 hv))).append g2
 ·unfold iO;rw[List.length_set]
theorem aqW (τ:Ty)(x:Den R.T τ):aF R ρ top (jk R .any τ x).cells (aX R τ x).cells:=by refine(zA ?_ (TP hR .any (.inl rfl) τ x)).1;cases τ<;>rfl
theorem FI (τ:Ty):∀l:List (Den R.T τ),aF R ρ top (l.flatMap fun x=>(jk R .any τ x).cells) ((l.map (aX R τ)).flatMap V.cells)
 | []=>rfl|x::l=>by rw[fG,ny,ny];exact(aqW hR τ x).append (FI τ l)
theorem aqX {t e:TypeId}{sz iF:Nat}{ag:Bool}{z:V}{ys:List V}{x y:V}{loc:Option Loc}{aH:Nat}{P:Program}(h1:mW P t=some e)(h2:eX P e=some sz)(h3:Ah P e=some iF)(h4:nU P e=some ag)(h5:kR P e=some z)(h6:z.cells.length=sz)(h7:0<sz)(h8:(ag||sz==1)=true)(hy:tO σ ag sz z y=some ys)(hi:EK y=false)(ho:ys.all (fun v=>dD v.cells)=true):
 mI P true false σ aH loc t x y=match x with
  |.ay c l=>if dG (l.length+ys.length) iF=true/\qR sz l=true then match c with
     |.nil=>loc.map fun loc=>(.aJ loc aH 0 (l.length+ys.length) (l.length+ys.length) sz ag,σ.setObj loc aH (.cells ((l++ys).flatMap V.cells)))
     |.full=>if ys.isEmpty then some (.ay .full l,σ) else loc.map fun loc=>(.aJ loc aH 0 (l.length+ys.length) (l.length+ys.length) sz ag,σ.setObj loc aH (.cells ((l++ys).flatMap V.cells)))
     |_=>none else none
  |.aJ jO s off len cap bS _=>
   if dG (len+ys.length) iF=true/\off=0/\bS=sz then loc.bind fun loc=>(σ.dB jO s).bind fun cs=>
     if len+ys.length<=cap then if (len+ys.length)*sz<=cs.length then some (.aJ jO s 0 (len+ys.length) cap sz ag,σ.setObj jO s (.cells (jN cs (len*sz) (ys.flatMap V.cells))))else none else if len*sz<=cs.length then some (.aJ loc aH 0 (len+ys.length) (len+ys.length) sz ag,(σ.eG jO).setObj loc aH (.cells (cs.take (len*sz)++ys.flatMap V.cells)))else none else none
  |_=>none:=by
 unfold mI;simp only[h1,h2,h3,h4,h5,Option.bind_some,hi,hy,ho,if_true];rw[if_pos ⟨trivial,h6,h7,h8⟩];cases x<;>try rfl
 ·rename_i c l
  cases c<;>rfl
 ·simp only[true_and]
omit hR in
theorem bB.BX {o q s n:Nat}{x:aG R.T}{a:jo}(hne:q≠o):bB true q st ρ σ (st.new o x) (ρ.vE o s n) (σ.setObj (ρ.aj.lc o) s a):=⟨(ZA q hne).1,(ZA q hne).2,rfl,RS _,⟨fun _ _=>rfl,fun _ _=>rfl⟩,fun _ _ hL=>ZF hL,(bB.new (nr:=true) (ρ:=ρ) (s:=s) (a:=a) hne).ro⟩
omit hR in
theorem bB.del {o q:Nat}{y:aG R.T}(hl:look st.ob o=some y)(hy:su y=false):bB true q st ρ σ (st.del o) ρ (σ.eG (ρ.aj.lc o)):=⟨rfl,rfl,rfl,RS _,⟨fun _ _=>rfl,fun _ _=>rfl⟩,fun _ _ hL=>aqi hL,fun hr=>by
 have hne:q≠o:=by rintro rfl;rw[hr y hl] at hy;cases hy
 refine⟨fun z hz=>?_,fun s'=>?_⟩
 ·have hz':look (jE o st.ob) q=some z:=hz
  rw[rH hne] at hz';exact hr z hz'
 ·unfold au.dB au.jw;rw[af7 σ hne];exact⟨rfl,rfl⟩⟩
omit hR in
theorem bB.del' {o q:Nat}{y:aG R.T}(hl:look st.ob o=some y)(hy:su y=false):bB true q st ρ σ (st.del o) ρ σ:=⟨rfl,rfl,rfl,RS _,⟨fun _ _=>rfl,fun _ _=>rfl⟩,fun _ _ _=>rfl,fun hr=>by
 have hne:q≠o:=by rintro rfl;rw[hr y hl] at hy;cases hy
 refine⟨fun z hz=>?_,fun s'=>⟨rfl,rfl⟩⟩;have hz':look (jE o st.ob) q=some z:=hz;rw[rH hne] at hz';exact hr z hz'⟩
omit hR in
theorem Ud {α:Type}{p:Nat}:∀l:List (Nat×α),look (jE p l) p=none
 | []=>rfl| (j,x)::l=>by
   unfold jE;cases hj:Nat.beq j p
   ·show (bif Nat.beq j p then some x else look (jE p l) p)=none
    rw[hj];exact Ud l
   ·exact Ud l
omit hR in
theorem aL.del' (h:aL ρ b st fr σ)(o:Nat):aL ρ b (st.del o) fr σ:={h with
 ob:=fun p y hy=>by
  by_cases e:p=o
  ·subst e
   have:look (jE p st.ob) p=some y:=hy;rw[Ud] at this;cases this
  ·have hy':look (jE o st.ob) p=some y:=hy
   rw[rH e] at hy';exact h.ob p y hy'
 fr:=h.fr}
omit hR in
theorem FJ {d0 d aH:Nat}{τ:Ty}{l:List (Den R.T τ)}{L:List V}{st0:aD R.T}{gZ:au}{o:Oper}{v:V}{σ1:au}(hd:o.dst=some d0)(hcd:d=d0\/d=E.cn d0)(hi:aL ρ (aH+1) st0 fr gZ)(hk:∀p,bB true p st ρ σ st0 ρ gZ)(hn:gZ.next=σ.next)(hL:aF R ρ gZ.top (l.flatMap fun x=>(jk R .any τ x).cells) L)(hs:mo E fr σ aH o v σ1)(hv:v= .aJ (ρ.aj.lc d) aH 0 l.length l.length (cK R τ) (iA τ))(h1:σ1=gZ.setObj (ρ.aj.lc d) aH (.cells L)):∃x σ' ρ',mo E fr σ aH o x σ'/\aL ρ' (aH+1) (st0.new d (.arr τ l)) fr σ'/\σ'.next=σ.next/\av R ρ' σ'.top (.aJ d τ) x/\∀p,nJ E o p->bB true p st ρ σ (st0.new d (.arr τ l)) ρ' σ':=by
 subst hv;subst h1;refine⟨_,_,ρ.vE d aH l.length,hs,hi.BX d aH l.length ⟨(um (ρ:=ρ.mh d aH)).symm,.inr ⟨aH,L,uO (ρ:=ρ),Av _ _ _ _,yw l L hL⟩⟩,hn,?_,fun p hp=>?_⟩
 ·unfold av
  exact .inl ⟨aH,uO (ρ:=ρ),by rw[show (ρ.vE d aH l.length).ln d=l.length from um (ρ:=ρ.mh d aH)];rfl⟩
 ·have hne:p≠d:=by
   rcases hcd with e|e
   ·exact fun e2=>hp.1 (by rw[hd,e2,e])
   ·exact fun e2=>hp.2 _ hd (by rw[e2,e])
  exact(hk p).trans (bB.BX hne)
theorem aqY {d:Option Nat}{t:TypeId}{len:Nat}{ps:List (Nat×ak R.T)}{qs:List (Nat×V)}{r:eZ R}{aH:Nat}{o:Oper}(h:Ze E R d t len ps st=some r)(hi:ps.map (·.1)=qs.map (·.1))(hr:aF R ρ σ.top (ps.map (·.2)) (qs.map (·.2)))(him:aL ρ aH st fr σ)(hd:o.dst=d)(ho:∀y σ',CX E σ aH (d.map fun t=>(fr.d,E.cn t)) t len qs=some (y,σ')->mo E fr σ aH o y σ'):sH E st ρ aH fr σ o r:=by
 unfold Ze at h;split at h
 ·rename_i d e u sz iF he
  obtain⟨z,e1,e2,e3,e4,e5,e6,e7,e8,e9⟩:=Nk he;obtain⟨hc,h⟩:=gH h;rw[iP] at hc;split at h
  ·rename_i xs hx
   cases hbl:Nat.ble F0 (E.cn d);case true=>rw[hbl] at h;cases h
   rw[hbl,cond_false] at h;cases h;have hcn:E.cn d<F0:=by have:=mt Nat.ble_eq_true_of_le (by rw[hbl];simp);omega
   rw[Option.map_some,show (fr.d,E.cn d)=ρ.aj.lc (E.cn d) by rw[him.d,cu.Dz _ hcn]] at ho;have hlen:xs.length=len:=by rw[agE ps 0 xs hx];exact gG hc.2
   obtain⟨vs,k1,k2,k3,k4,k5⟩:=ZJ hR (len:=len) e6 ps qs xs 0 [] ((List.replicate len z.cells).flatten) hx hi hr aC (by simp[e9,hlen]) ah;rw[List.nil_append,List.nil_append] at k1;have key:CX E σ aH (some (ρ.aj.lc (E.cn d))) t len qs=some (.aJ (ρ.aj.lc (E.cn d)) aH 0 len len sz (iA u),σ.setObj (ρ.aj.lc (E.cn d)) aH (.cells (vs.flatMap V.cells))):=by unfold CX;rw[e1];simp only[Option.bind_some,e2,e4,e5];rw[if_pos ⟨kQ hc.1,e9,e7⟩,k1];rfl
   exact FJ (gZ:=σ) hd (.inr rfl) (him.le (kD aH)) (fun q=>.refl) rfl k5 (ho _ _ key) (by rw[hlen,e6]) rfl
  ·cases h
 ·cases h
theorem agO {d:Option Nat}{t u:TypeId}{x y:ak R.T}{v w:V}{r:eZ R}{aH:Nat}{o:Oper}(h:Fq E R d t u x y st=some r)(hx:av R ρ σ.top x v)(hy:av R ρ σ.top y w)(hi:aL ρ aH st fr σ)(hd:o.dst=d)(ho:∀y σ',mI E.P true false σ aH (d.map fun t=>(fr.d,E.cn t)) t v w=some (y,σ')->mo E fr σ aH o y σ'):sH E st ρ aH fr σ o r:=by
 have hi1:=hi.le (kD aH);unfold Fq at h;split at h
 ·rename_i d
  cases hbl:Nat.ble F0 (E.cn d);case true=>rw[hbl] at h;cases h
  rw[hbl,cond_false] at h;have hcn:E.cn d<F0:=by have:=mt Nat.ble_eq_true_of_le (by rw[hbl];simp);omega
  rw[Option.map_some,show (fr.d,E.cn d)=ρ.aj.lc (E.cn d) by rw[hi.d,cu.Dz _ hcn]] at ho;split at h
  ·rename_i e τ sz iF he
   obtain⟨z,e1,e2,e3,e4,e5,e6,e7,e8,e9⟩:=Nk he;obtain⟨hss,h⟩:=gH h;split at h
   ·rename_i l' hs
    subst e6;obtain⟨g1,g2⟩:=agH hR (ag:=iA τ) (z:=z) (σ:=σ) hs hy;have hap:=fun x=>aqX hR (σ:=σ) (x:=x) (loc:=some (ρ.aj.lc (E.cn d))) (aH:=aH) e1 e2 e3 e4 e5 e9 e7 e8 g1 g2 (Uc hR l');split at h
    ·rename_i p afE _
     split at h
     ·rename_i e0
      subst e0;split at h
      ·rename_i fO l0 hl
       split at h
       ·rename_i l2 hl2
        obtain⟨e,e2'⟩:=vC hl2;subst e;cases e2';have ne:∀(a:Den R.T fO)(l1:List (Den R.T fO)),l'=a::l1->sH E st ρ aH fr σ o (.wc (dG (l0.length+(a::l1).length) iF) (.aJ (E.cn d) fO) ((st.del p).new (E.cn d) (.arr fO (l0++a::l1)))):=by
         intro a l1 el;subst el;intro hroom;have hO:=hi.ob _ _ hl;have hlen:l0.length=ρ.ln p:=hO.1;have hnr:su (aG.arr fO l0)=false:=rfl;have hne:¬((a::l1).map (aX R fO)).isEmpty=true:=aC;rcases hx.zw with ⟨s,k1,rfl⟩| ⟨k1,k2⟩
         ·rcases hO.2 with hO2| ⟨s',cs,k3,k4,k5⟩
          ·rw[k1] at hO2;exact absurd hO2.2 aC
          ·rw[k1] at k3;cases k3
           have:=hap (.aJ (ρ.aj.lc p) s 0 (ρ.ln p) (ρ.ln p) (cK R fO) (iA fO));dsimp only at this;have hlc:cs.length=l0.length*cK R fO:=(by rw[k5.length,DJ]);rw[if_pos ⟨by rw[jS,<-hlen];exact hroom,rfl,rfl⟩] at this;simp only[Option.bind_some,k4] at this;rw[if_neg (by rw[jS,List.length_cons];omega),if_pos GN] at this;refine FJ (gZ:=σ.eG (ρ.aj.lc p)) (L:=cs.take (ρ.ln p*cK R fO)++((a::l1).map (aX R fO)).flatMap V.cells) hd (.inr rfl) (hi1.del p) (fun q=>bB.del hl hnr) rfl ?_ (ho _ _ this) ?_ rfl
           ·rw[List.flatMap_append,RG GN]
            exact aF.append k5 (FI hR _ _)
           ·rw[jS,bE,hlen]
         ·have hl0:l0=[]:=lZ ah
          subst hl0;have hroom':dG (([]:List V).length+((a::l1).map (aX R fO)).length) iF=true/\qR (cK R fO) ([]:List V)=true:=⟨by rw[jS];exact hroom,rfl⟩;rcases k2 with rfl|rfl
          ·have:=hap (.ay .nil [])
           dsimp only at this;rw[if_pos hroom'] at this;refine FJ (gZ:=σ) hd (.inr rfl) (hi1.del' p) (fun q=>bB.del' hl hnr) rfl (FI hR _ _) (ho _ _ this) ?_ rfl;simp
          ·have:=hap (.ay .full [])
           dsimp only at this;rw[if_pos hroom',if_neg hne] at this;refine FJ (gZ:=σ) hd (.inr rfl) (hi1.del' p) (fun q=>bB.del' hl hnr) rfl (FI hR _ _) (ho _ _ this) ?_ rfl;simp
        cases hpc:Nat.beq p (E.cn d) with
        |true=>
         rw[hpc,cond_true] at h;cases h;cases l' with
         |cons a l1=>exact ne a l1 rfl|nil=>
          have hp:=gG hpc;intro hroom;have hO:=hi.ob _ _ hl;have hlen:l0.length=ρ.ln p:=hO.1;have hnr:su (aG.arr fO l0)=false:=rfl;have hroom':∀(k:Nat),k=l0.length->dG (k+(([]:List (Den R.T fO)).map (aX R fO)).length) iF=true:=fun k hk=>by rw[hk];exact hroom
          rcases hx.zw with ⟨s,k1,rfl⟩| ⟨k1,k2⟩
          ·rcases hO.2 with hO2| ⟨s',cs,k3,k4,k5⟩
           ·rw[k1] at hO2;exact absurd hO2.2 aC
           ·rw[k1] at k3;cases k3
            have:=hap (.aJ (ρ.aj.lc p) s 0 (ρ.ln p) (ρ.ln p) (cK R fO) (iA fO));dsimp only at this;have hlc:cs.length=l0.length*cK R fO:=(by rw[k5.length,DJ]);rw[if_pos ⟨hroom' _ hlen.symm,rfl,rfl⟩] at this;simp only[Option.bind_some,k4,List.map_nil,List.length_nil,Nat.add_zero] at this;rw[if_pos (RS _),if_pos GN] at this;have hsp:jN cs (ρ.ln p*cK R fO) (([]:List V).flatMap V.cells)=cs:=(by unfold jN;simp);rw[hsp] at this;rw[lF,<-hp];refine⟨_,_,ρ.vE p s l0.length,ho _ _ this,(hi1.del' p).BX p s l0.length (x:=.arr fO l0) (a:=.cells cs) ⟨(um (ρ:=ρ.mh p s)).symm,.inr ⟨s,cs,uO (ρ:=ρ),Av _ _ _ _,yw l0 cs k5⟩⟩,rfl,?_,fun q hq=>?_⟩
            ·unfold av
             exact .inl ⟨s,uO (ρ:=ρ),by rw[show (ρ.vE p s l0.length).ln p=l0.length from um (ρ:=ρ.mh p s),hlen];rfl⟩
            ·have hne:q≠p:=fun e=>hq.2 _ hd (by rw[e,hp])
             exact(bB.del' hl hnr).trans (bB.BX hne)
          ·have hl0:l0=[]:=lZ ah
           subst hl0;rcases k2 with rfl|rfl
           ·have:=hap (.ay .nil [])
            dsimp only at this;rw[if_pos ⟨hroom' 0 rfl,rfl⟩] at this;exact FJ (gZ:=σ) hd (.inr rfl) (hi1.del' p) (fun q=>bB.del' hl hnr) rfl rfl (ho _ _ this) rfl rfl
           ·have:=hap (.ay .full [])
            dsimp only at this;rw[if_pos ⟨hroom' 0 rfl,rfl⟩,if_pos (by rfl)] at this;refine⟨_,_,ρ.gh (E.cn d),ho _ _ this,(hi1.del' p).ghost (E.cn d) fO,rfl,by unfold av;exact .inr ⟨um (ρ:=ρ) (n:=0),.inr rfl⟩,fun q hq=>?_⟩;have oh:q≠E.cn d:=fun e=>hq.2 _ hd e.symm;refine(bB.del' hl hnr).trans ?_;exact⟨(oL q oh).1,(oL q oh).2,rfl,RS _,⟨fun _ _=>rfl,fun _ _=>rfl⟩,fun _ _ _=>rfl,fun hr=>⟨((bB.new (nr:=true) (ρ:=ρ) (σ:=σ) (s:=0) (a:=.cells []) oh).ro hr).1,fun _=>⟨rfl,rfl⟩⟩⟩
        |false=>
         rw[hpc,cond_false] at h;split at h
         ·rename_i a l1
          cases h;exact ne _ _ rfl
         ·cases h
       ·cases h
      ·cases h
     ·cases h
    ·obtain⟨hE,h⟩:=gH h
     cases h;intro hroom;have hroom':dG (([]:List V).length+(l'.map (aX R τ)).length) iF=true/\qR (cK R τ) ([]:List V)=true:=⟨by rw[jS,List.length_nil,nS];exact hroom,rfl⟩;rcases Nh (fr:=fr) hE (.of hx) with rfl|rfl
     ·have:=hap (.ay .nil [])
      dsimp only at this;rw[if_pos hroom'] at this;refine FJ (gZ:=σ) hd (.inr rfl) hi1 (fun q=>.refl) rfl (FI hR _ _) (ho _ _ this) ?_ rfl;simp
     ·have:=hap (.ay .full [])
      dsimp only at this;rw[if_pos hroom'] at this;by_cases hne:((l'.map (aX R τ)).isEmpty)=true
      ·rw[if_pos hne] at this
       have hl':l'=[]:=(by simpa using hne);subst hl';refine⟨_,_,ρ.gh (E.cn d),ho _ _ this,hi1.ghost (E.cn d) τ,rfl,by unfold av;exact .inr ⟨um (ρ:=ρ) (n:=0),.inr rfl⟩,fun p hp=>?_⟩;have oh:p≠E.cn d:=fun e=>hp.2 _ hd e.symm;exact⟨(oL p oh).1,(oL p oh).2,rfl,RS _,⟨fun _ _=>rfl,fun _ _=>rfl⟩,fun _ _ _=>rfl,fun hr=>⟨((bB.new (nr:=true) (ρ:=ρ) (σ:=σ) (s:=0) (a:=.cells []) oh).ro hr).1,fun _=>⟨rfl,rfl⟩⟩⟩
      ·rw[if_neg hne] at this
       refine FJ (gZ:=σ) hd (.inr rfl) hi1 (fun q=>.refl) rfl (FI hR _ _) (ho _ _ this) ?_ rfl;simp
   ·cases h
  ·cases h
 ·cases h
theorem aqZ {aj:Bool}{d:Option Nat}{t:TypeId}{x y:ak R.T}{v w:V}{r:eZ R}{aH:Nat}{o:Oper}(h:Zf E R aj d t x y st=some r)(hx:av R ρ σ.top x v)(hy:av R ρ σ.top y w)(hi:aL ρ aH st fr σ)(hd:o.dst=d)(ho:∀y σ',BA E.P aj σ aH (d.map fun t=>(ρ.aj.lc t)) t v w=some (y,σ')->mo E fr σ aH o y σ'):sH E st ρ aH fr σ o r:=by
 unfold Zf at h;cases h
theorem agP {x:ak R.T}{v:V}{o:Nat}{τ:Ty}{a c:Int}(h:IV st x=some (o,τ,a,c))(hx:av R ρ σ.top x v)(hi:aL ρ b st fr σ):av R ρ σ.top (.sub o τ a c) v:=by
 unfold IV at h;split at h
 ·split at h
  ·rename_i l hl
   cases h;have h1:=(hi.rd hl).1;unfold av;refine⟨ah,ah,ah,?_⟩;rcases hx.zw with ⟨s,k1,rfl⟩| ⟨h0,h2⟩
   ·refine .inl ⟨s,ρ.ln o,k1,ah,?_⟩
    ·rw[show ((l.length:Int)-0).toNat=ρ.ln o by omega];simp
   ·refine .inr ⟨ah,?_⟩
    rcases h2 with rfl|rfl<;>exact⟨_,rfl⟩
  ·cases h
 ·cases h;exact hx
 ·cases h
omit hR in
theorem agQ {n:Int}{cp:Nat}{lo hi':Option Int}{vl vh:Option V}(hl:(lo=none/\vl=none)\/∃n k,lo=some n/\vl=some (.int k n))(hh:(hi'=none/\vh=none)\/∃n k,hi'=some n/\vh=some (.int k n))(hc:n.toNat<=cp)(h0:0<=n)(hb:afA (pO lo) (uf n hi') n=true):
 uT n.toNat cp vl vh none=some ((pO lo).toNat,(uf n hi').toNat,cp):=by
 have hb':0<=pO lo/\pO lo<=uf n hi'/\uf n hi'<=n:=of_decide_eq_true hb;rcases hl with ⟨rfl,rfl⟩| ⟨i,k,rfl,rfl⟩<;>rcases hh with ⟨rfl,rfl⟩| ⟨m,k',rfl,rfl⟩<;>simp only[pO,uf] at hb'⊢
 ·rfl
 ·simp only[uT,bnd,oF,Option.bind_some]
  rw[if_pos ⟨ah,ah⟩];rfl
 ·simp only[uT,bnd,oF,Option.bind_some]
  rw[if_pos ⟨ah,ah⟩];rfl
 ·simp only[uT,bnd,oF,Option.bind_some]
  rw[if_pos ⟨ah,ah⟩];simp only[Option.bind_some];rw[if_pos ⟨ah,ah⟩];rfl
theorem aq0 {t:TypeId}{x:ak R.T}{lo hi':Option (ak R.T)}{v:V}{vl vh:Option V}{r:eZ R}(h:Tj E R t x lo hi' st=some r)(hx:av R ρ σ.top x v)(hi:aL ρ b st fr σ)(hl:∀y,lo=some y->∃w,vl=some w/\av R ρ σ.top y w)(hln:lo=none->vl=none)(hh:∀y,hi'=some y->∃w,vh=some w/\av R ρ σ.top y w)(hhn:hi'=none->vh=none):qD ρ σ.top (xI E.P σ t v vl vh none) r:=by
 unfold Tj at h;split at h
 ·rename_i o τ a c lo' hi2 e hw e1 e2 hu
  have b1:=TY e1 hl hln;have b2:=TY e2 hh hhn;have hxs:=agP hR hw hx hi;split at h
  ·rename_i sz hs
   obtain⟨hb,h⟩:=gH h;cases h;have:=gG hb;subst this;intro hc;have hc':0<=pO lo'/\pO lo'<=uf (c-a) hi2/\uf (c-a) hi2<=c-a:=of_decide_eq_true hc;obtain⟨g0,g1,g2,h⟩:=hxs.BU;rcases h with ⟨s,cp,h1,h2,rfl⟩| ⟨e,q,rfl⟩
   ·have hsb:=agQ b1 b2 h2 ah hc
    unfold xI;rw[hu];dsimp only;simp only[hs,Option.bind_some,hsb];rw[if_true];by_cases hz:(pO lo').toNat=(uf (c-a) hi2).toNat/\0< (pO lo').toNat
    ·rw[if_pos hz]
     exact⟨_,rfl,by unfold av;exact⟨ah,ah,ah,.inr ⟨ah,_,rfl⟩⟩⟩
    ·rw[if_neg hz]
     refine⟨_,rfl,?_⟩;unfold av;refine⟨ah,ah,ah,.inl ⟨s,cp-(pO lo').toNat,h1,ah,?_⟩⟩;rw[<-tJ,show a.toNat+(pO lo').toNat=(a+pO lo').toNat by omega,show (uf (c-a) hi2).toNat-(pO lo').toNat=(a+uf (c-a) hi2-(a+pO lo')).toNat by omega]
   ·have e0:c-a=0:=ah
    have hsb:=agQ (n:=0) (cp:=0) b1 b2 aC ah (by rw[<-e0];exact hc);unfold xI;rw[hu];dsimp only;rw[e0] at hc';have aq1:uT ([]:List V).length ([]:List V).length vl vh none=some (0,0,0):=(by have e3:uT ([]:List V).length ([]:List V).length vl vh none=some ((pO lo').toNat,(uf 0 hi2).toNat,0):=hsb;rw[e3,show (pO lo').toNat=0 by omega,show (uf 0 hi2).toNat=0 by omega]);simp only[hs,Option.bind_some,aq1,qR];rw[if_true,e0];refine⟨_,rfl,?_⟩;have hl0:pO lo'=0:=ah;have hh0:uf 0 hi2=0:=ah;rw[hl0,hh0];have:∀(k:Cap),av R ρ σ.top (.sub o τ (a+0) (a+0)) (.ay k []):=fun k=>by unfold av;exact⟨ah,ah,ah,.inr ⟨rfl,_,rfl⟩⟩
    exact this _
  ·cases h
 ·cases h
theorem Ue {t:TypeId}{x:ak R.T}{lo hi':Option (ak R.T)}{v:V}{vl vh:Option V}{r:eZ R}(h:Dv E R t x lo hi' st=some r)(hx:av R ρ σ.top x v)(hi:aL ρ b st fr σ)(hl:∀y,lo=some y->∃w,vl=some w/\av R ρ σ.top y w)(hln:lo=none->vl=none)(hh:∀y,hi'=some y->∃w,vh=some w/\av R ρ σ.top y w)(hhn:hi'=none->vh=none):qD ρ σ.top (xI E.P σ t v vl vh none) r:=by
 unfold Dv at h;split at h
 ·rename_i r' hr
  cases h;exact aq0 hR hr hx hi hl hln hh hhn
 ·exact aqE hR (σ:=σ) h hx hl hln hh hhn
theorem aq2 {t:TypeId}{p:Nat}{τ:Ty}{a c:Int}{y:ak R.T}{v w:V}{r:eZ R}(h:Zk E R t p τ a c y=some r)(hx:av R ρ σ.top (.sub p τ a c) v)(hy:av R ρ σ.top y w)(hi:aL ρ b st fr σ):qD ρ σ.top (qU E.P t v w) r:=by
 unfold Zk at h;split at h
 ·rename_i e k n hu
  split at h
  ·rename_i sz hs
   obtain⟨hb,h⟩:=gH h;cases h;have:=gG hb;subst this;rw[hy.kS];intro hc;have hc':0<=n/\n<c-a:=of_decide_eq_true hc;obtain⟨g0,g1,g2,h⟩:=hx.BU;rcases h with ⟨s,cp,h1,h2,rfl⟩| ⟨e,_,rfl⟩
   ·refine⟨.ref (ρ.aj.lc p) s (a.toNat*cK R τ+n.toNat*cK R τ),?_,by unfold av;exact⟨s,h1,ah,by rw[<-tJ,Nat.add_zero];congr 2;omega⟩⟩
    unfold qU;rw[hu];simp only[hs,Option.bind_some,idx,oF];rw[if_pos ⟨hc'.1,ah⟩];simp
   ·omega
  ·cases h
 ·cases h
theorem aq3 {aj:Bool}{t:TypeId}{p:Nat}{τ:Ty}{y:ak R.T}{v w:V}{r:eZ R}(h:Zj E R t p τ y st=some r)(hx:av R ρ σ.top (.aJ p τ) v)(hy:av R ρ σ.top y w)(hi:aL ρ b st fr σ):qD ρ σ.top (qU E.P t v w) r:=by
 unfold Zj at h;split at h
 ·rename_i e k n hu
  split at h
  ·rename_i sz hs
   obtain⟨hb,h⟩:=gH h;split at h
   ·rename_i fO l hl
    cases h;have:=gG hb;subst this;rw[hy.kS];intro hc;have hc':=of_decide_eq_true hc;have hlen:=(hi.rd hl).1;rcases hx.zw with ⟨s,k1,rfl⟩| ⟨h0,_⟩
    ·refine⟨.ref (ρ.aj.lc p) s (n.toNat*cK R τ),?_,by unfold av;exact⟨s,k1,hc'.1,rfl⟩⟩
     unfold qU;rw[hu];simp only[hs,Option.bind_some,idx,oF];rw[if_pos ⟨hc'.1,by rw[<-hlen];exact hc'.2⟩];simp
    ·rw[hlen,h0] at hc';omega
   ·cases h
  ·cases h
 ·cases h
end
end aY
end
