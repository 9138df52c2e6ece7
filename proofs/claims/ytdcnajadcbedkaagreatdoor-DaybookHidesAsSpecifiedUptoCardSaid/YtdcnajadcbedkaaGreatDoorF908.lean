import Derived.Test.YtdcnajadcbedkaaGreatDoorF907
set_option linter.all false
section
namespace aR
open Go
def qA (E:Env)(o:Oper)(p:Nat):Prop:=o.dst≠some p/\∀d,o.dst=some d->E.cn d≠p
section
variable {R:jY}{E:Env}
variable {Z:bC}{b:Nat}{st:aO R.T}{fr:Fr}{Y:ah}
def yJ (E:Env)(fr:Fr)(o:Oper):Bool:=match o.op with
 |.call c=>match c.callee with
  |.value f=>lT E fr o f|_=>false
 |_=>false
def oq (E:Env)(fr:Fr)(Y:ah)(aN:Nat)(o:Oper)(x:V)(Y':ah):Prop:=
 (yJ E fr o=false->∀all os Q,fM all fr o=some true->ay E all (aN+1) os (fr.put o.dst x) Y' Q->ay E all aN (o::os) fr Y Q)/\
 (yJ E fr o=false->∀ms all os fs Q,fM all fr o=some true->dL E ms all (aN+1) os (fr.put o.dst x) Y' (fs++[d9 E all fr o true]) Q->dL E ms all aN (o::os) fr Y fs Q)
theorem oq.of {aN:Nat}{o:Oper}{x:V}{Y':ah}(h:∀S,opC E S fr Y aN o=some (x,fr,Y')):oq E fr Y aN o x Y':=
 ⟨fun _ _ _ _ hw h'=>ay.op hw h h',fun _ _ _ _ _ _ hw h'=>dL.op hw h h'⟩
theorem auQ {S:iV}{aN:Nat}{o:Oper}{x:V}{Y':ah}(h:dM E fr Y aN o=some (x,Y')):opC E S fr Y aN o=some (x,fr,Y'):=by
 unfold opC;split
 .rename_i c hc;unfold dM at h;rw[hc] at h;cases h
 .rename_i c hc;unfold dM at h;rw[hc] at h;cases h
 .rw[h];rfl
theorem ajC {o:Oper}{c:Call}{f:Operand}{g:FuncId}{a b:List V}(ho:o.op= .call c)(fT:c.callee= .value f)(hf:fr.ev E f= .fn (.func g) a b)(h:yJ E fr o=false):∀d,o.dst=some d->E.own g d=false:=by intro d hd;unfold yJ at h;rw[ho] at h;dsimp only at h;rw[fT] at h;dsimp only at h;unfold lT at h;rw[hf,hd] at h;exact h
theorem oq.kL {aN:Nat}{o:Oper}{x:V}{Y':ah}(h:dM E fr Y aN o=some (x,Y')):oq E fr Y aN o x Y':=.of fun S=>auQ h
def sZ (E:Env)(st:aO R.T)(Z:bC)(aN:Nat)(fr:Fr)(Y:ah)(o:Oper):fE R->Prop
 |.t v=>∃x,oq E fr Y aN o x Y/\aC R Z Y.top v x|.c c v=>c=true->∃x,oq E fr Y aN o x Y/\aC R Z Y.top v x|.w v st'=>∃x Y' Z',oq E fr Y aN o x Y'/\aU Z' (aN+1) st' fr Y'/\Y'.next=Y.next/\aC R Z' Y'.top v x/\∀p,qA E o p->bV true p st Z Y st' Z' Y'|.wc c v st'=>c=true->∃x Y' Z',oq E fr Y aN o x Y'/\aU Z' (aN+1) st' fr Y'/\Y'.next=Y.next/\aC R Z' Y'.top v x/\∀p,qA E o p->bV true p st Z Y st' Z' Y'|.p _ _ o' f=>∀a,o'=some a->∃x,oq E fr Y aN o x Y/\aC R Z Y.top (f a) x
theorem yK {top:Nat->Nat}{x:aA R.T}{v:V}(hg:w9 x=true)(h:aC R Z top x v):aK R Z top x.cells v.cells/\fI v=true:=by
 cases x with
 |agg cs=>obtain⟨l,rfl,hl⟩:=h.mX;exact⟨hl,rfl⟩
 |int k n=>rw[h.jB];exact⟨.cons' gX rfl,rfl⟩|bool b=>rw[h.rR];exact⟨.cons' gX rfl,rfl⟩|jK b=>rw[h.vL];exact⟨.cons' gX rfl,rfl⟩|str b=>rw[h.qV];exact⟨.cons' gX rfl,rfl⟩|fU=>rw[h.uy];exact⟨.cons' gX rfl,rfl⟩|bW cs=>obtain⟨l,rfl,hl⟩:=h.Jf;exact⟨.cons' h rfl,rfl⟩
 |ak c t l=>obtain⟨c',rfl,hl⟩:=h.mY;exact⟨.cons' h rfl,rfl⟩
 |ref o off=>obtain⟨s,hs,rfl⟩:=h.rT;exact⟨.cons' h rfl,rfl⟩
 |aY o off=>obtain⟨s,rfl,hs⟩:=h.uz;exact⟨.cons' h rfl,rfl⟩
 |fu o=>obtain⟨s,hs,rfl⟩:=h.Ni;exact⟨.cons' h rfl,rfl⟩
 |fH k e m=>have:=h.FJ;subst this;exact⟨.cons' h rfl,rfl⟩|fn f a b=>obtain⟨a',b',rfl,_⟩:=h.pE;exact⟨.cons' h rfl,rfl⟩
 |undef=>have:=h.ai0;subst this;exact⟨.cons' h rfl,rfl⟩|aS o t=>rcases h.Bf with ⟨s,_,rfl⟩| ⟨_,rfl|rfl⟩<;>exact⟨.cons' h rfl,rfl⟩
 |sub o t a b=>rcases h.FK with ⟨_,_,_,⟨s,cp,_,_,rfl⟩| ⟨_,c,rfl⟩⟩<;>exact⟨.cons' h rfl,rfl⟩
 |mU o t i off=>obtain⟨s,_,_,rfl⟩:=h.FL;exact⟨.cons' h rfl,rfl⟩
 |sv o off k n lo hi=>obtain⟨s,_,_,rfl⟩:=h.C9;exact⟨.cons' h rfl,rfl⟩
 |sel o off k n i m=>obtain⟨s,_,_,_,rfl⟩:=h.Nj;exact⟨.cons' h rfl,rfl⟩
 |vE k n y i=>obtain⟨_,_,rfl⟩:=h.SS;exact⟨.cons' h rfl,rfl⟩
 |sg _=>cases hg|gY=>have h':=h;unfold aC at h';subst h';exact⟨.cons' h rfl,rfl⟩|gL=>have h':=h;unfold aC at h';subst h';exact⟨.cons' h rfl,rfl⟩|iq=>have h':=h;unfold aC at h';subst h';exact⟨.cons' h rfl,rfl⟩|iN=>have h':=h;unfold aC at h';subst h';exact⟨.cons' h rfl,rfl⟩|opt j w y=>cases hg|gone=>cases hg
theorem auR {top:Nat->Nat}{x:aA R.T}{v:V}(hg:XQ x=true)(h:aC R Z top x v):oneCell v=true:=by
 cases x with
 |agg cs=>cases hg|int k n=>rw[h.jB];rfl|bool b=>rw[h.rR];rfl|jK b=>rw[h.vL];rfl|str b=>rw[h.qV];rfl|fU=>rw[h.uy];rfl|bW cs=>cases hg|ak c t l=>obtain⟨c',rfl,hl⟩:=h.mY;rfl
 |ref o off=>obtain⟨s,hs,rfl⟩:=h.rT;rfl
 |aY o off=>obtain⟨s,rfl,hs⟩:=h.uz;rfl
 |fu o=>obtain⟨s,hs,rfl⟩:=h.Ni;rfl
 |fH k e m=>have:=h.FJ;subst this;rfl|fn f a b=>obtain⟨a',b',rfl,_⟩:=h.pE;rfl
 |undef=>cases hg|aS o t=>rcases h.Bf with ⟨s,_,rfl⟩| ⟨_,rfl|rfl⟩<;>rfl
 |sub o t a b=>rcases h.FK with ⟨_,_,_,⟨s,cp,_,_,rfl⟩| ⟨_,c,rfl⟩⟩<;>rfl
 |mU o t i off=>obtain⟨s,_,_,rfl⟩:=h.FL;rfl
 |sv o off k n lo hi=>obtain⟨s,_,_,rfl⟩:=h.C9;rfl
 |sel o off k n i m=>obtain⟨s,_,_,_,rfl⟩:=h.Nj;rfl
 |vE k n y i=>obtain⟨_,_,rfl⟩:=h.SS;rfl
 |sg _=>cases hg|gY=>unfold aC at h;subst h;rfl|gL=>unfold aC at h;subst h;rfl|iq=>unfold aC at h;subst h;rfl|iN=>unfold aC at h;subst h;rfl|opt j w y=>cases hg|gone=>cases hg
theorem Nn {top:Nat->Nat}:∀{x:List (aA R.T)}{v:List V},CP x=true->aK R Z top x v->dA v=true
 | [],v,_,h=>LW|x::xs,v,hg,h=>by obtain⟨y,ys,rfl,h1,h2⟩:=h.fV;unfold CP at hg;rw[bf] at hg;rw[aiF,auR hg.1 h1,Nn hg.2 h2];rfl
theorem auS {top:Nat->Nat}{ag:Bool}{n off:Nat}{cs:List (aA R.T)}{l:List V}{x:aA R.T}(h:aK R Z top cs l)(hp:Sk ag n cs off=some x):∃v,rD ag n l off=some v/\aC R Z top x v:=by
 cases ag with
 |true=>
  have hp':(bif Nat.ble (off+n) cs.length then some (aA.agg ((cs.drop off).take n)) else none)=some x:=hp;cases hb:Nat.ble (off+n) cs.length
  .rw[hb] at hp';cases hp'
  .rw[hb] at hp';cases hp';have hle:=oD hb;refine⟨.agg ((l.drop off).take n),?_,by unfold aC;exact⟨_,rfl,(h.drop off).take n⟩⟩;unfold rD;rw[if_pos rfl,if_pos (by rw[h.length];exact hle)]
 |false=>obtain⟨v,h1,h2⟩:=h.get (show cs[off]? =some x from hp);exact⟨v,by unfold rD;simpa using h1,h2⟩
theorem Bh {top:Nat->Nat}{t:TypeId}{off:Nat}{cs:List (aA R.T)}{l:List V}{x:aA R.T}(h:aK R Z top cs l)(hp:om E t cs off=some x):∃v,gT E.P t l off=some v/\aC R Z top x v:=by
 unfold om at hp;cases h1:jX E.P t with
 |none=>simp only[h1] at hp;cases hp|some a=>
  cases h2:dO E.P t with
  |none=>simp only[h1,h2] at hp;cases hp|some n=>simp only[h1,h2] at hp;unfold gT;rw[h1,h2];exact auS h hp
theorem YA {top:Nat->Nat}{cs vs:List (aA R.T)}{l k:List V}(off:Nat)(h:aK R Z top cs l)(h':aK R Z top vs k):aK R Z top (IL cs off vs) (gM l off k):=by unfold IL gM;rw[h'.length];exact((h.take off).append h').append (h.drop _)
theorem YB {top:Nat->Nat}{t:TypeId}{z:aA R.T}(h:IQ E t=some z):∃v,je E.P t=some v/\aC R Z top z v:=by
 unfold IQ at h;unfold je;cases h1:E.P.info? t with
 |none=>simp only[h1] at h;cases h|some i=>
  cases h2:i.zero with
  |none=>simp only[h1,h2] at h;cases h|some z'=>simp only[h1,h2] at h;obtain⟨v,hv,hr⟩:=ajn (Z:=Z) (top:=top) h;exact⟨v,by simp[h2,hv],hr⟩
theorem ajD {top:Nat->Nat}(place:Nat->Option (Nat×Nat)):∀{ps:List (Nat×aA R.T)}{qs:List (Nat×V)}{cs:List (aA R.T)}{l:List V}{cs':List (aA R.T)},ps.map (·.1)=qs.map (·.1)->aK R Z top (ps.map (·.2)) (qs.map (·.2))->
 aK R Z top cs l->Sl place cs ps=some cs'->∃l',sH place l qs=some l'/\aK R Z top cs' l'
 | [],[],cs,l,cs',_,_,h,hf=>by cases hf;exact⟨l,rfl,h⟩| [],_::_,_,_,_,h,_,_,_=>wL|_::_,[],_,_,_,h,_,_,_=>wL| (i,v)::ps,(j,w)::qs,cs,l,cs',hi,hr,h,hf=>by
   simp only[iH,sD] at hi;obtain⟨rfl,hi⟩:=hi;obtain⟨y,ys,e,h1,h2⟩:=hr.fV;simp only[iH,sD] at e;obtain⟨rfl,rfl⟩:=e;unfold Sl at hf;unfold sH;cases hp:place i with
   |none=>simp only[hp] at hf;cases hf|some q=>
    obtain⟨off,size⟩:=q;simp only[hp] at hf⊢;cases hb:(Nat.beq v.cells.length size&& Nat.ble (off+size) cs.length&& w9 v)
    .rw[hb] at hf;cases hf
    .rw[hb,cond_true] at hf;simp only[bf] at hb;obtain⟨⟨b1,b2⟩,b3⟩:=hb;obtain⟨hc,hn⟩:=yK b3 h1;rw[if_pos ⟨by rw[hc.length];exact fQ b1,by rw[h.length];exact oD b2,hn⟩];exact ajD place hi h2 (YA off h hc) hf
theorem ajE {top:Nat->Nat}{x:aA R.T}{v:V}{a:Bool}(h:M5 x=some a)(hr:aC R Z top x v):v= .bool a:=by
 cases x<;>cases h
 .exact hr.rR
 .exact hr.vL
theorem ajF {top:Nat->Nat}{x y:aA R.T}{v w:V}{r:Bool}(h:Sm x y=some r)(hx:aC R Z top x v)(hy:aC R Z top y w):∃a b,v= .bool a/\w= .bool b/\r=(a==b):=by
 unfold Sm at h;cases h1:M5 x with
 |none=>simp only[h1] at h;cases h|some a=>
  cases h2:M5 y with
  |none=>simp only[h1,h2] at h;cases h|some b=>simp only[h1,h2] at h;cases h;exact⟨a,b,ajE h1 hx,ajE h2 hy,rfl⟩
theorem YC {top:Nat->Nat}{Bj:TypeId->aA R.T->aA R.T->Option Bool}{eqv:TypeId->V->V->Option Bool}(he:∀t x y v w r,Bj t x y=some r->aC R Z top x v->aC R Z top y w->eqv t v w=some r){xs ys:List (aA R.T)}{vs ws:List V}(hx:aK R Z top xs vs)(hy:aK R Z top ys ws):∀{fs:List Field}{r:Bool},IU E Bj xs ys fs=some r->EM E.P eqv vs ws fs=some r
 | [],r,h=>by cases h;rfl|f::fs,r,h=>by
  unfold IU at h;unfold EM;split at h
  .rename_i hn;rw[if_pos hn];exact YC he hx hy h
  .rename_i hn;rw[if_neg hn];cases h1:om E f.type xs f.offset with
   |none=>simp only[h1] at h;cases h|some a=>
    cases h2:om E f.type ys f.offset with
    |none=>simp only[h1,h2] at h;cases h|some c=>
     cases h3:Bj f.type a c with
     |none=>simp only[h1,h2,h3] at h;cases h|some r1=>
      cases h4:IU E Bj xs ys fs with
      |none=>simp only[h1,h2,h3,h4] at h;cases h|some q=>simp only[h1,h2,h3,h4] at h;cases h;obtain⟨v1,e1,g1⟩:=Bh hx h1;obtain⟨v2,e2,g2⟩:=Bh hy h2;simp[e1,e2,he _ _ _ _ _ _ h3 g1 g2,YC he hx hy h4]
theorem ajG {top:Nat->Nat}{Bj:TypeId->aA R.T->aA R.T->Option Bool}{eqv:TypeId->V->V->Option Bool}(he:∀t x y v w r,Bj t x y=some r->aC R Z top x v->aC R Z top y w->eqv t v w=some r){e:TypeId}{sz:Nat}{xs ys:List (aA R.T)}{vs ws:List V}(hx:aK R Z top xs vs)(hy:aK R Z top ys ws):∀{is:List Nat}{r:Bool},M6 E Bj e sz xs ys is=some r->Hg E.P eqv e sz vs ws is=some r
 | [],r,h=>by cases h;rfl|i::is,r,h=>by
  unfold M6 at h;unfold Hg;cases h1:om E e xs (i*sz) with
  |none=>simp only[h1] at h;cases h|some a=>
   cases h2:om E e ys (i*sz) with
   |none=>simp only[h1,h2] at h;cases h|some c=>
    cases h3:Bj e a c with
    |none=>simp only[h1,h2,h3] at h;cases h|some r1=>
     cases h4:M6 E Bj e sz xs ys is with
     |none=>simp only[h1,h2,h3,h4] at h;cases h|some q=>simp only[h1,h2,h3,h4] at h;cases h;obtain⟨v1,e1,g1⟩:=Bh hx h1;obtain⟨v2,e2,g2⟩:=Bh hy h2;simp[e1,e2,he _ _ _ _ _ _ h3 g1 g2,ajG he hx hy h4]
theorem Tc {top:Nat->Nat}:∀(d:Nat)(t:TypeId)(x y:aA R.T)(v w:V)(r:Bool),IV E d t x y=some r->aC R Z top x v->aC R Z top y w->Ck E.P d t v w=some r
 |0,_,_,_,_,_,_,h,_,_=>dh|d+1,t,x,y,v,w,r,h,hx,hy=>by
  unfold IV at h;unfold Ck;split at h
  .rename_i fs xs ys hu;obtain⟨l,rfl,h1⟩:=hx.mX;obtain⟨k,rfl,h2⟩:=hy.mX;rw[hu];dsimp only;split at h
   .cases h
   .rename_i hs;rw[if_neg hs];exact YC (Tc d) h1 h2 h
  .rename_i n e xs ys hu;obtain⟨l,rfl,h1⟩:=hx.mX;obtain⟨k,rfl,h2⟩:=hy.mX;rw[hu];dsimp only;cases hs:dO E.P e with
   |none=>simp only[hs] at h;cases h|some sz=>simp only[hs] at h;simp only[Option.bind_some];exact ajG (Tc d) h1 h2 h
  .cases h
  .cases h
  .rename_i hu;obtain⟨a,c,rfl,rfl,rfl⟩:=ajF h hx hy;rw[hu]
  .rename_i k a k' c hu;rw[hx.jB,hy.jB,hu];exact h
  .rename_i a c hu;rw[hx.qV,hy.qV,hu];exact h
  .cases h
theorem ajH {top:Nat->Nat}{t:TypeId}{x y:aA R.T}{v w:V}{r:Bool}(h:Sn E t x y=some r)(hx:aC R Z top x v)(hy:aC R Z top y w):u6 E.P t v w=some r:=by
 unfold Sn at h;unfold u6;split at h
 .rename_i fs xs ys hu;split at h
  .cases h
  .rename_i hs;have:=Tc 8 t _ _ v w r h hx hy;obtain⟨l,rfl,h1⟩:=hx.mX;obtain⟨k,rfl,h2⟩:=hy.mX;rw[hu];dsimp only;rw[if_neg hs];exact this
 .rename_i fs xs ys hu;split at h
  .cases h
  .rename_i hs;have:=Tc 8 t _ _ v w r h hx hy;obtain⟨l,rfl,h1⟩:=hx.mX;obtain⟨k,rfl,h2⟩:=hy.mX;rw[hu];dsimp only;rw[if_neg hs];exact this
 .rename_i hu;cases h;unfold aC at hx hy;subst hx;subst hy;rw[hu]
 .rename_i hu;cases h;obtain⟨a,b,rfl,_⟩:=hy.pE;unfold aC at hx;subst hx;rw[hu]
 .rename_i hu;cases h;obtain⟨a,b,rfl,_⟩:=hx.pE;unfold aC at hy;subst hy;rw[hu]
 .rename_i hu;obtain⟨a,c,rfl,rfl,rfl⟩:=ajF h hx hy;rw[hu]
 .cases h
end
section
variable {R:jY}{E:Env}
variable {Z:bC}{top:Nat->Nat}
def qX (Z:bC)(top:Nat->Nat)(v:Option V):fE R->Prop
 |.t x=>∃y,v=some y/\aC R Z top x y|.c c x=>c=true->∃y,v=some y/\aC R Z top x y|.p _ _ o f=>∀a,o=some a->∃y,v=some y/\aC R Z top (f a) y|_=>False
theorem ajI {op:BinOp}{k:IntKind}{x y:Int}{r:fE R}(h:Sq R op k x y=some r):qX Z top (nG op k x y) r:=by
 unfold Sq at h;cases op<;>cases h<;>first
  |exact⟨_,rfl,gX⟩
  | (intro hc
     have hy:¬y=0:=(by simpa using hc);exact⟨_,if_neg hy,gX⟩)
theorem auT {op:BinOp}{k:IntKind}{x y:Int}{r:fE R}(h:XT R op k x y=some r):qX Z top (LY op k x y) r:=by
 unfold XT at h;cases op<;>cases h<;>
  (intro hc
   have hy:¬y<0:=by have:=of_decide_eq_true hc;omega
   exact⟨_,if_neg hy,gX⟩)
theorem auU {op:BinOp}{x y:List UInt8}{r:fE R}(h:XU R op x y=some r):qX Z top (Cm op x y) r:=by
 unfold XU at h;cases op<;>cases h<;>first
  |exact⟨_,rfl,gX⟩
  | (intro hc
     have hy:¬((x.length+y.length:Nat):Int)>IntKind.i64.max:=(by have:=of_decide_eq_true hc;omega);exact⟨_,if_neg hy,gX⟩)
theorem auV {P:Program}{op:BinOp}{t:TypeId}{k:IntKind}{a b:Int}(h:IW op=false):sI P op t (.int k a) (.int k b)=nG op k a b:=by
 cases op<;>first| (simp[IW] at h;done)|simp[sI]
theorem auW {P:Program}{op:BinOp}{t:TypeId}{k k':IntKind}{a b:Int}(h:IW op=true):sI P op t (.int k a) (.int k' b)=LY op k a b:=by
 cases op<;>first| (simp[IW] at h;done)|rfl
theorem auX {P:Program}{op:BinOp}{t:TypeId}{a b:List UInt8}:sI P op t (.str a) (.str b)=Cm op a b:=by
 cases op<;>rfl
theorem auY {P:Program}{t:TypeId}{x y:V}{b:Bool}(h:u6 P t x y=some b):(∀k n k' m,x= .int k n->y= .int k' m->False)/\∀s s',x= .str s->y= .str s'->False:=by
 unfold u6 at h;constructor
 .intro k n k' m hx hy;subst hx;subst hy;split at h<;>simp_all
 .intro s s' hx hy;subst hx;subst hy;split at h<;>simp_all
theorem ajJ {P:Program}{t:TypeId}{x y:V}{b:Bool}(h:u6 P t x y=some b):sI P .eql t x y=some (.bool b)/\sI P .neq t x y=some (.bool !b):=by
 obtain⟨h1,h2⟩:=auY h;constructor;all_goals
  unfold sI;split
  .rename_i he;cases he
  .rename_i he;cases he
  .exact(h1 _ _ _ _ rfl rfl).elim
  .exact(h2 _ _ rfl rfl).elim
  all_goals first| (rw[h];rfl)| (rename_i he;cases he)|simp_all
theorem auZ {op:BinOp}{t:TypeId}{x y:aA R.T}{v w:V}{r:fE R}(h:XV E R op t x y=some r)(hx:aC R Z top x v)(hy:aC R Z top y w):qX Z top (sI E.P op t v w) r:=by
 unfold XV at h;split at h
 .rename_i k a k' b;rw[hx.jB,hy.jB];cases hs:IW op
  .rw[hs,cond_false] at h;split at h
   .rename_i e;subst e;rw[auV hs];exact ajI h
   .cases h
  .rw[hs,cond_true] at h;rw[auW hs];exact auT h
 .rw[hx.qV,hy.qV,auX];exact auU h
 .split at h
  .split at h
   .rename_i b hb;cases h;exact⟨_,(ajJ (ajH hb hx hy)).1,gX⟩
   .cases h
  .split at h
   .rename_i b hb;cases h;exact⟨_,(ajJ (ajH hb hx hy)).2,gX⟩
   .cases h
  .cases h
theorem au0 {op:UnOp}{x:aA R.T}{v:V}{r:fE R}(h:XW R op x=some r)(hx:aC R Z top x v):qX Z top (EN op v) r:=by
 unfold XW at h;split at h
 .cases h;rw[hx.jB];exact⟨_,rfl,gX⟩
 .rw[hx.jB];exact ajI h
 .cases h;rw[hx.rR];exact⟨_,rfl,gX⟩
 .cases h;rw[hx.vL];exact⟨_,rfl,gX⟩
 .cases h
theorem au1 (s:List UInt8):s.map wN=List.map (aV R (.int .u8)) (s.map fun b=>(b.toNat:Int)):=by show s.map wN=List.map (fun n:Int=>V.int .u8 n) (List.map (fun b:UInt8=>(b.toNat:Int)) s);rw[AA];rfl
theorem YD:∀l:List Int,(List.map (aV R (.int .u8)) l).mapM EO=some (List.map (fun n:Int=>UInt8.ofNat n.toNat) l)
 | []=>rfl|n::l=>by show List.mapM EO (V.int .u8 n::List.map (aV R (.int .u8)) l)=_;rw[iM,YD l];rfl
theorem au2 {a b:TypeId}{x:aA R.T}{v:V}{Y:ah}{r:fE R}(h:Sr E R a b x=some r)(hx:aC R Z top x v):qX Z top (AJ E.P Y a b v) r:=by
 unfold Sr at h;unfold AJ;split at h
 .rename_i hu hv;cases h;rw[hx.jB,hu,hv];exact⟨_,rfl,gX⟩
 .rename_i hu hv;cases h;rw[hx.qV,hu,hv];exact⟨_,rfl,gX⟩
 .rename_i l hu hv;obtain⟨c',rfl,_⟩:=hx.mY;rw[hu,hv];split at h
  .rename_i he;cases h;dsimp only;rw[he];exact⟨_,congrArg (Option.map V.str) (YD (R:=R) l),gX⟩
  .cases h
 .rename_i hu hv;rw[hx.uy,hu,hv];split at h
  .rename_i he;cases h;dsimp only;rw[he];exact⟨_,rfl,gX⟩
  .cases h
 .cases h
theorem Dj {x:Option (aA R.T)}{v:Option V}{i:Option Int}(h:CV R x=some i)(hx:∀y,x=some y->∃w,v=some w/\aC R Z top y w)(hn:x=none->v=none):(i=none/\v=none)\/∃n k,i=some n/\v=some (.int k n):=by
 unfold CV at h;split at h
 .cases h;exact .inl ⟨rfl,hn rfl⟩
 .rename_i k n;cases h;obtain⟨w,rfl,hw⟩:=hx _ rfl;exact .inr ⟨n,k,rfl,by rw[hw.jB]⟩
 .cases h
theorem vN {k:IntKind}{n:Int}{m:Nat}(h:iQ n m=true):bnd (.int k n) m=some n.toNat:=by unfold iQ at h;have:=of_decide_eq_true h;simp[bnd,pQ,this]
theorem ajK {U:Type}(l:List U){lo hi:Option Int}{vl vh:Option V}(hl:(lo=none/\vl=none)\/∃n k,lo=some n/\vl=some (.int k n))(hh:(hi=none/\vh=none)\/∃n k,hi=some n/\vh=some (.int k n))(hb:XY l.length lo hi=true):
 ∃a c,jH l.length l.length vl vh none=some (a,c,l.length)/\(l.take c).drop a=um l lo hi:=by
 rcases hl with ⟨rfl,rfl⟩| ⟨n,k,rfl,rfl⟩<;>rcases hh with ⟨rfl,rfl⟩| ⟨m,k',rfl,rfl⟩
 .exact⟨0,l.length,rfl,by simp[um]⟩
 .have h1:iQ m l.length=true:=hb;exact⟨0,m.toNat,by simp[jH,vN h1],by simp[um]⟩
 .have h1:iQ n l.length=true:=hb;exact⟨n.toNat,l.length,by simp[jH,vN h1],by simp[um]⟩
 .have h1:(iQ m l.length&& iQ n m.toNat)=true:=hb;rw[bf] at h1;exact⟨n.toNat,m.toNat,by simp[jH,vN h1.1,vN h1.2],by simp[um]⟩
theorem YE {U:Type}(f:U->V)(l:List U)(a c:Nat):((l.map f).take c).drop a=((l.take c).drop a).map f:=aD
variable (hR:rQ R)
include hR
theorem Jl (t:Ty)(x:Den R.T t):(aV R t x).cells.length=dN R t/\dA (aV R t x).cells=true/\er (aV R t x)=aV R t x/\(jM t=true->∃l,aV R t x= .agg l)/\(jM t=false->(aV R t x).cells=[aV R t x]):=by
 cases t with
 |int k=>exact⟨rfl,rfl,rfl,by simp[jM],fun _=>rfl⟩
 |bool=>exact⟨rfl,rfl,rfl,by simp[jM],fun _=>rfl⟩
 |str=>exact⟨rfl,rfl,rfl,by simp[jM],fun _=>rfl⟩
 |slice t=>exact⟨rfl,rfl,rfl,by simp[jM],fun _=>rfl⟩
 |st n=>
  have he:aV R (.st n) x= .agg (encs R (R.lf n) (R.of n x)):=hR.enc n x;rw[he];have hl:=hR.leaf n;have key:∀(l:List Ty)(p:qw R.T l),l.all pV=true->dA (encs R l p)=true/\(encs R l p).map gH=encs R l p:=by
   intro l;induction l with
   |nil=>intro p _;exact⟨rfl,rfl⟩|cons t l ih=>
    intro p h;rw[List.all_cons,bf] at h;have h1:∀y:Den R.T t,oneCell (aV R t y)=true/\gH (aV R t y)=aV R t y:=(by intro y;cases t<;>first|exact⟨rfl,rfl⟩| (have:=h.1;simp[pV] at this));cases l with
    |nil=>exact⟨by simp[encs,dA,(h1 p).1],by simp[encs,(h1 p).2]⟩|cons u l=>have:=ih p.2 h.2;exact⟨by show (oneCell _&& dA (encs R (u::l) p.2))=true;rw[(h1 p.1).1,this.1];rfl,by show gH _::List.map gH (encs R (u::l) p.2)=_;rw[(h1 p.1).2,this.2];rfl⟩
  have:=key (R.lf n) (R.of n x) hl;exact⟨Yk _ _,this.1,by show V.agg (List.map gH _)=_;rw[this.2],fun _=>⟨_,rfl⟩,by simp[jM]⟩
theorem Np {t:Ty}(l:List (Den R.T t)):oF (dN R t) (l.map (aV R t))=true:=by
 cases l with
 |nil=>rfl|cons x l=>show ((aV R t x).cells.length==dN R t)=true;rw[(Jl hR t x).1];simp
theorem au3 {t:TypeId}{x:aA R.T}{lo hi:Option (aA R.T)}{v:V}{vl vh:Option V}{Y:ah}{r:fE R}(h:Sv E R t x lo hi=some r)(hx:aC R Z top x v)(hl:∀y,lo=some y->∃w,vl=some w/\aC R Z top y w)(hln:lo=none->vl=none)(hh:∀y,hi=some y->∃w,vh=some w/\aC R Z top y w)(hhn:hi=none->vh=none):qX Z top (lC E.P Y t v vl vh none) r:=by
 unfold Sv at h;split at h
 .rename_i lo' hi' e1 e2;have b1:=Dj e1 hl hln;have b2:=Dj e2 hh hhn;split at h
  .rename_i s hu;cases h;rw[hx.qV];intro hc;obtain⟨a,c,h1,h2⟩:=ajK s b1 b2 hc;refine⟨.str (um s lo' hi'),?_,gX⟩;unfold lC;rw[hu];dsimp only;rw[h1];simp[h2]
  .rename_i e c u l hu;split at h
   .rename_i sz hs;cases hb:Nat.beq sz (dN R u)
    .rw[hb] at h;cases h
    .rw[hb,cond_true] at h;cases h;have:=fQ hb;subst this;obtain⟨c',rfl,_⟩:=hx.mY;intro hc;obtain⟨a,m,h1,h2⟩:=ajK l b1 b2 hc;unfold lC;rw[hu];dsimp only;rw[hs];simp only[Option.bind_some,fF,h1,Np hR,if_true];by_cases hcs:a=0/\m=l.length/\(none:Option V).isNone=true
     .refine⟨_,by rw[if_pos hcs],?_⟩;unfold aC;refine⟨c',?_,trivial⟩;rw[<-h2,hcs.1,hcs.2.1];simp
     .refine⟨_,by rw[if_neg hcs],?_⟩;unfold aC;exact⟨_,by rw[<-h2,YE],trivial⟩
   .cases h
  .cases h
 .cases h
omit hR in
end
section
variable {R:jY}{E:Env}
variable {Z:bC}{top:Nat->Nat}{b:Nat}{st:aO R.T}{fr:Fr}{Y:ah}
theorem gG.{u} {U:Type u}{c:Bool}{o:Option U}{y:U}(h:(bif c then o else none)=some y):c=true/\o=some y:=by
 cases c
 .cases h
 .exact⟨rfl,h⟩
theorem Td {t e:TypeId}{u:Ty}{sz gI:Nat}(h:IZ E R t=some (e,u,sz,gI)):∃z,lS E.P t=some e/\dO E.P e=some sz/\uY E.P e=some gI/\jX E.P e=some (jM u)/\je E.P e=some z/\
 sz=dN R u/\0<sz/\(jM u||sz==1)=true/\z.cells.length=sz:=by
 unfold IZ at h;split at h
 .rename_i e' he;split at h
  .rename_i u' sz' by' ag z h1 h2 h3 h4 h5;obtain⟨hc,h⟩:=gG h;cases h;simp only[bf] at hc;obtain⟨⟨⟨⟨c1,c2⟩,c3⟩,c4⟩,c5⟩:=hc;have:ag=jM u:=by simpa using c5
   subst this;refine⟨z,he,h2,h3,h4,h5,fQ c1,oD c2,?_,fQ c4⟩;rw[wM] at c3⊢;rcases c3 with c3|c3
   .exact .inl c3
   .exact .inr (by rw[fQ c3];rfl)
  .cases h
 .cases h
theorem YF (ag:Bool)(sz:Nat):∀vs:List V,(∀v∈vs,v.cells.length=sz)->chunks ag sz vs.length (vs.flatMap V.cells)=vs.map fun v=>if ag then .agg v.cells else v.cells.headD aP
 | [],_=>rfl|v::vs,h=>by
  have h1:=h v aD;have h2:=YF ag sz vs (fun w hw=>h w (by simp[hw]));show _::chunks ag sz vs.length ((v.cells++vs.flatMap V.cells).drop sz)=_;rw[List.drop_left' h1,h2,iH];congr 1;cases ag
  .simp only[dI,if_false];show (v.cells++vs.flatMap V.cells).headD aP=_;cases hv:v.cells with
   |nil=>
    have h0:sz=0:=(by rw[<-h1,hv];rfl);cases vs with
    |nil=>rfl|cons w vs=>have:w.cells=[]:=qg (by rw[h w aD,h0]);simp only[lu,this,List.nil_append];have:∀vs:List V,(∀v∈vs,v.cells.length=sz)->vs.flatMap V.cells=[]:=(by intro vs hvs;rw[List.flatMap_eq_nil_iff];intro x hx;exact qg (by rw[hvs x hx,h0]));rw[this vs (fun x hx=>h x (by simp[hx]))]
   |cons a l=>rfl
  .simp only[if_true];show V.agg ((v.cells++vs.flatMap V.cells).take sz)=_;rw[List.take_left' h1]
variable (hR:rQ R)
include hR
theorem au4 {t:Ty}{x:Den R.T t}{v:V}(h:er v=aV R t x):fI v=true:=by
 cases v<;>try rfl
 have h1:=qW hR t x;rw[<-h] at h1;simp[er,aQ] at h1
theorem YG {u:Ty}{sz len:Nat}(hsz:sz=dN R u):∀(ps:List (Nat×aA R.T))(qs:List (Nat×V))(xs:List (Den R.T u))(n:Nat)(done rest:List V),A9 R u n ps=some xs->ps.map (·.1)=qs.map (·.1)->
 aK R Z top (ps.map (·.2)) (qs.map (·.2))->done.length=n*sz->rest.length=xs.length*sz->n+xs.length<=len->
 ∃vs:List V,sH (fun i=>if i<len then some (i*sz,sz) else none) (done++rest) qs=some (done++vs.flatMap V.cells)/\vs.length=xs.length/\vs.map er=xs.map (aV R u)/\(∀v∈vs,v.cells.length=sz/\dA v.cells=true)/\aK R Z top (xs.flatMap fun x=>(jg R .any u x).cells) (vs.flatMap V.cells)
 | [],[],xs,n,done,rest,h,_,_,h1,h2,_=>by
   cases h;have:rest=[]:=qg uQ;subst this;exact⟨[],by simp[sH],rfl,rfl,aD,bD⟩
 | [],_::_,_,_,_,_,_,h,_,_,_,_=>wL|_::_,[],_,_,_,_,_,h,_,_,_,_=>wL| (i,v)::ps,(j,w)::qs,xs,n,done,rest,h,hi,hr,h1,h2,h3=>by
   simp only[iH,sD] at hi;obtain⟨rfl,hi⟩:=hi;obtain⟨y,ys,e,g1,g2⟩:=hr.fV;simp only[iH,sD] at e;obtain⟨rfl,rfl⟩:=e;unfold A9 at h;cases hb:Nat.beq i n
   .rw[hb] at h;cases h
   .rw[hb,cond_true] at h;have:=fQ hb;subst this;cases hu:A8 R u v with
    |none=>simp only[hu] at h;cases h|some x=>
     cases hs:A9 R u (i+1) ps with
     |none=>simp only[hu,hs] at h;cases h|some xs'=>
      simp only[hu,hs] at h;obtain rfl:=kP h;obtain⟨a1,a2,a3,a4,a5⟩:=ajb hR hu g1;rw[<-hsz] at a4;have hlen:rest.length=sz+xs'.length*sz:=(by rw[h2,List.length_cons,su];omega);have q1:(done++w.cells).length=(i+1)*sz:=(by rw[eU,h1,a4,su]);have q2:(rest.drop sz).length=xs'.length*sz:=(by rw[qD,hlen,AB]);have q3:i+1+xs'.length<=len:=(by rw[List.length_cons] at h3;omega);obtain⟨vs,k1,k2,k3,k4,k5⟩:=YG hsz ps qs xs' (i+1) (done++w.cells) (rest.drop sz) hs hi g2 q1 q2 q3;refine⟨w::vs,?_,by simp[k2],by simp[a1,k3],?_,?_⟩
      .simp only[List.length_cons] at h3;unfold sH;simp only[if_pos (show i<len by omega)];rw[if_pos ⟨a4,by rw[eU,h1,hlen];exact Nat.add_le_add_left (mg _ _) _,au4 hR a1⟩];have:gM (done++rest) (i*sz) w.cells=done++w.cells++rest.drop sz:=(by unfold gM;rw[List.take_left' h1,a4,EG,h1,AB,nE RS];rfl);rw[this,k1];simp
      .intro z hz;rcases jd.1 hz with rfl|hz
       .exact⟨a4,a5⟩
       .exact k4 z hz
      .rw[lu,lu];refine aK.append ?_ k5;have h1:=SY hR hu g1;refine(yK ?_ h1).1;cases u<;>rfl
theorem au5 {u:Ty}{sz:Nat}(hsz:sz=dN R u)(h1:(jM u||sz==1)=true){v:V}{x:Den R.T u}(he:er v=aV R u x)(hl:v.cells.length=sz):er (if jM u then .agg v.cells else v.cells.headD aP)=aV R u x:=by
 cases hs:jM u
 .simp only[dI,if_false];have hne:∀cs,v≠ .agg cs:=by rintro cs rfl;cases u<;>first| (simp[jM] at hs;done)| (simp[er,aV] at he;done)
  have:v.cells=[v]:=by cases v<;>first|rfl|exact absurd rfl (hne _)
  rw[this];exact he
 .simp only[if_true];obtain⟨l,hl'⟩:=(Jl hR u x).2.2.2.1 hs;cases v<;>first|exact he| (rw[hl'] at he;simp[er] at he)
omit hR in
theorem ajL {u:Ty}:∀(ps:List (Nat×aA R.T))(n:Nat)(xs:List (Den R.T u)),A9 R u n ps=some xs->xs.length=ps.length:=by
 intro ps;induction ps with
 |nil=>intro n xs h;cases h;rfl|cons p ps ih=>
  intro n xs h;obtain⟨i,v⟩:=p;unfold A9 at h;obtain⟨_,h⟩:=gG h;cases hu:A8 R u v with
  |none=>simp only[hu] at h;cases h|some x=>
   cases hs:A9 R u (n+1) ps with
   |none=>simp only[hu,hs] at h;cases h|some xs'=>simp only[hu,hs] at h;cases h;simp[ih _ _ hs]
theorem au6 {t:TypeId}{len:Nat}{ps:List (Nat×aA R.T)}{qs:List (Nat×V)}{r:fE R}(h:XZ E R t len ps=some r)(hi:ps.map (·.1)=qs.map (·.1))(hr:aK R Z top (ps.map (·.2)) (qs.map (·.2))):qX Z top (Cn E t len qs) r:=by
 unfold XZ at h;split at h
 .rename_i e u sz gI he;obtain⟨z,e1,e2,e3,e4,e5,e6,e7,e8,e9⟩:=Td he
  .obtain⟨hc,h⟩:=gG h;rw[bf] at hc;split at h
   .rename_i xs hx;cases h;have hlen:xs.length=len:=(by rw[ajL ps 0 xs hx];exact fQ hc.2);obtain⟨vs,k1,k2,k3,k4,_⟩:=YG hR (len:=len) e6 ps qs xs 0 [] ((List.replicate len z.cells).flatten) hx hi hr aD (by simp[e9,hlen]) RS;refine⟨.ak .full (xs.map (aV R u)),?_,by unfold aC;exact⟨.full,rfl,rfl⟩⟩;unfold Cn;rw[e1];simp only[Option.bind_some,e2,e4,e5];rw[if_pos ⟨oD hc.1,e9,e7,e8⟩];rw[List.nil_append,List.nil_append] at k1;rw[k1];simp only[Option.bind_some];have hone:dA (vs.flatMap V.cells)=true:=(by unfold dA;rw[List.all_flatMap,lK];intro v hv;exact(k4 v hv).2);rw[hone,if_pos rfl,<-hlen,<-k2,YF _ _ _ (fun v hv=>(k4 v hv).1),AA];congr 2;have:∀(vs:List V)(xs:List (Den R.T u)),vs.map er=xs.map (aV R u)->(∀v∈vs,v.cells.length=sz/\dA v.cells=true)->vs.map (er∘fun v=>if jM u then .agg v.cells else v.cells.headD aP)=xs.map (aV R u):=by
     intro vs;induction vs with
     |nil=>intro xs h _;exact h|cons v vs ih=>
      intro xs h hk;cases xs with
      |nil=>simp at h|cons x xs=>simp only[iH,sD] at h;rw[iH,iH,ih xs h.2 (fun w hw=>hk w (by simp[hw]))];congr 1;exact au5 hR e6 e8 h.1 (hk v aD).1
    rw[this vs xs k3 k4]
   .cases h
 .cases h
theorem YH {u:Ty}(l:List (Den R.T u)):(l.map (aV R u)).all (fun v=>dA v.cells)=true:=by simp[List.all_map,(Jl hR u _).2.1]
theorem YI {u:Ty}{ag:Bool}{y:aA R.T}{v z:V}{l:List (Den R.T u)}(h:M7 R u y=some l)(hy:aC R Z top y v):nN Y ag (dN R u) z v=some (l.map (aV R u))/\zu v=false:=by
 unfold M7 at h;split at h
 .obtain⟨e,e2⟩:=vM h;subst e;cases e2;obtain⟨c',rfl,_⟩:=hy.mY;exact⟨by show (if oF _ _=true then _ else _)=_;rw[if_pos (Np hR _)],rfl⟩
 .cases h;rw[hy.uy];exact⟨rfl,rfl⟩
 .rename_i s;obtain⟨e,e2⟩:=vM h;subst e;cases e2;rw[hy.qV];exact⟨by show (if 1=1 then some (s.map wN) else none)=_;rw[if_pos rfl];exact congrArg some (au1 (R:=R) s),rfl⟩
 .cases h
theorem au7 {t e:TypeId}{sz gI:Nat}{ag:Bool}{z:V}{c:Cap}{l ys:List V}{y:V}{loc:Option Loc}{aN:Nat}{P:Program}(h1:lS P t=some e)(h2:dO P e=some sz)(h3:uY P e=some gI)(h4:jX P e=some ag)(h5:je P e=some z)(h6:z.cells.length=sz)(h7:0<sz)(h8:(ag||sz==1)=true)(hy:nN Y ag sz z y=some ys)(hi:zu y=false)(ho:ys.all (fun v=>dA v.cells)=true)(hr:cB (l.length+ys.length) gI=true)(hh:oF sz l=true):
 kI P false false Y aN loc t (.ak c l) y=match c with
  |.own n s=>if n=sz/\Y.top s=l.length then some (.ak (.own n s) (l++ys),Y.eB s (l.length+ys.length)) else none|.nil|.full=>some (.ak (.own sz aN) (l++ys),Y.eB aN (l.length+ys.length))|_=>none:=by
 unfold kI;simp only[h1,h2,h3,h4,h5,Option.bind_some,hi,hy,ho,if_true];rw[if_pos ⟨trivial,h6,h7,h8⟩];simp only[hr,hh,and_self,if_true];cases c<;>rfl
theorem au8 {d:Option Nat}{t u:TypeId}{x y:aA R.T}{v w:V}{r:fE R}{aN:Nat}{loc:Option Loc}{o:Oper}(h:M8 E R d t u x y st=some r)(hx:aC R Z Y.top x v)(hy:aC R Z Y.top y w)(hi:aU Z aN st fr Y)(ho:∀y Y',kI E.P false false Y aN loc t v w=some (y,Y')->oq E fr Y aN o y Y'):sZ E st Z aN fr Y o r:=by
 unfold M8 at h;split at h
 .rename_i d;split at h
  .rename_i e τ sz gI he;obtain⟨z,e1,e2,e3,e4,e5,e6,e7,e8,e9⟩:=Td he
   .obtain⟨hss,h⟩:=gG h;split at h
    .rename_i tk l l' hd hs;cases h;intro hroom;subst e6;obtain⟨g1,g2⟩:=YI hR (ag:=jM τ) (z:=z) (Y:=Y) hs hy;have hlen:cB ((l.map (aV R τ)).length+(l'.map (aV R τ)).length) gI=true:=(by rw[fF,fF];exact hroom);have hap:∀c,kI E.P false false Y aN loc t (.ak c (l.map (aV R τ))) w=_:=fun c=>au7 hR (Y:=Y) (c:=c) (loc:=loc) (aN:=aN) e1 e2 e3 e4 e5 e9 e7 e8 g1 g2 (YH hR l') hlen (Np hR l);have fresh:∀(c:Cap),(c= .nil\/c= .full)->v= .ak c (l.map (aV R τ))->∃x Y' Z',oq E fr Y aN o x Y'/\aU Z' (aN+1) (st.wk tk) fr Y'/\Y'.next=Y.next/\aC R Z' Y'.top (.ak (.own tk) τ (l++l')) x/\∀p,qA E o p->bV true p st Z Y (st.wk tk) Z' Y':=by
      intro c hc hv;subst hv;have:=hap c;refine⟨.ak (.own (dN R τ) aN) (l.map (aV R τ)++l'.map (aV R τ)),Y.eB aN ((l.map (aV R τ)).length+(l'.map (aV R τ)).length),Z.jQ tk aN,ho _ _ (by rw[this];rcases hc with rfl|rfl<;>rfl),?_,rfl,?_,?_⟩
      .exact hi.wk tk aN _ (kR _) (EF _) hi.nx (fun u _ hu=>LJ)
      .unfold aC;exact⟨_,by rw[qH],.inr (.inr ⟨aN,rfl,by simp[bC.jQ,upd],by rw[MR];simp⟩)⟩
      .exact fun p _=>bV.wk hi.nx
     unfold aiO at hd;split at hd
     .rename_i l0;split at hd
      .rename_i l1 hl1;cases hd;obtain⟨e,e2⟩:=vM hl1;subst e;cases e2;obtain⟨c',rfl,hc'⟩:=hx.mY;exact fresh c' (.inl hc') rfl
      .cases hd
     .rename_i l0;split at hd
      .rename_i l1 hl1;cases hd;obtain⟨e,e2⟩:=vM hl1;subst e;cases e2;obtain⟨c',rfl,hc'⟩:=hx.mY;exact fresh c' (.inr hc') rfl
      .cases hd
     .rename_i tk' gW l0;split at hd
      .rename_i l1 hl1;cases hd;obtain⟨e,e2⟩:=vM hl1;subst e;cases e2;obtain⟨c',rfl,hc'⟩:=hx.mY;rcases hc' with hc'|hc'| ⟨s,hc',ht,hl⟩
       .exact fresh c' (.inl hc') rfl
       .exact fresh c' (.inr hc') rfl
       .subst hc';have:=hap (.own (dN R gW) s);dsimp only at this;rw[if_pos ⟨rfl,by rw[fF];exact hl⟩] at this;refine⟨_,_,Z.jQ tk s,ho _ _ this,?_,rfl,?_,?_⟩
        .exact hi.wk tk s _ (kR _) (by have:=hi.lt tk s ht;omega) (hi.ge tk s ht) (fun u hu h'=>hu (hi.inj u tk s h' ht))
        .unfold aC;exact⟨_,by rw[qH],.inr (.inr ⟨s,rfl,by simp[bC.jQ,upd],by rw[MR];simp⟩)⟩
        .exact fun p _=>bV.wk (hi.ge tk s ht)
      .cases hd
     .cases hd;rw[hx.uy] at fresh;have hx':=hx.uy;subst hx';exact fresh .nil (.inl rfl) rfl
     .cases hd
    .cases h
  .cases h
 .cases h
omit hR in
theorem au9 {t:TypeId}{x:aA R.T}{v:V}{n:Nat}(h:X4 E t x st=some n)(hx:aC R Z Y.top x v)(hi:aU Z b st fr Y):u7 E Y t v=some n:=by
 unfold X4 at h;unfold u7;split at h
 .rename_i hu;cases h;obtain⟨c',rfl,_⟩:=hx.mY;rw[hu];simp
 .rename_i hu;cases h;rw[hx.uy,hu];rfl
 .rename_i o t hu;split at h
  .rename_i t' l hl;cases h;have h1:=(hi.rd hl).1;rcases hx.Bf with ⟨s,_,rfl⟩| ⟨h0,rfl|rfl⟩
   .rw[hu];dsimp only;rw[h1]
   .rw[hu];dsimp only;rw[h1,h0];rfl
   .rw[hu];dsimp only;rw[h1,h0];rfl
  .cases h
 .rename_i o' t' a' b' hu;cases h;rcases hx.FK with ⟨_,_,_,⟨s,cp,_,_,rfl⟩| ⟨e,c,rfl⟩⟩
  .rw[hu]
  .rw[hu];dsimp only;rw[e,Int.sub_self];rfl
 .rename_i hu;cases h;rw[hx.qV,hu]
 .rename_i o hu;split at h
  .rename_i k e m hl;cases h;obtain⟨s,h1,rfl⟩:=hx.Ni;obtain⟨s',h2,h3⟩:=hi.rd hl;rw[h1] at h2;cases h2;rw[hu];dsimp only;rw[h3];simp
  .cases h
 .rename_i hu;cases h;rw[hx.FJ,hu];simp
 .rename_i hu;cases h;unfold aC at hx;subst hx;rw[hu]
 .rename_i hu;cases h;rw[hu]
 .cases h
omit hR in
theorem YJ (mx:Bool):∀{l:List (aA R.T)}{x y:aA R.T}{v:V}{k:List V},I5 mx x l=some y->aC R Z top x v->aK R Z top l k->∃w,yc mx v k=some w/\aC R Z top y w
 | [],x,y,v,k,h,hx,hl=>by rw[hl.jw];unfold I5 at h;cases h;exact⟨v,by cases v<;>rfl,hx⟩|z::l,x,y,v,k,h,hx,hl=>by
  obtain⟨w,ws,rfl,h1,h2⟩:=hl.fV;unfold I5 at h;split at h
  .rename_i hz;cases hz
  .rename_i k a k' b l' hz;simp only[sD] at hz;obtain⟨rfl,rfl⟩:=hz;split at h
   .rename_i e;subst e;rw[hx.jB,h1.jB];unfold yc;rw[if_pos rfl];refine YJ mx h ?_ h2;unfold aC;cases mx<;>rfl
   .cases h
  .cases h
omit hR in
theorem ajM (c:Cp):∀(l:List Ty)(p:qw R.T l),(mV R c l p).length=l.length
 | [],_=>rfl| [_],_=>rfl|_::u::l,p=>by show (mV R c (u::l) p.2).length+1=_;rw[ajM c (u::l)];rfl
omit hR in
theorem Jm (c:Cp)(t:Ty)(x:Den R.T t):(jg R c t x).cells.length=dN R t:=by
 cases t with
 |st n=>exact ajM c _ _|_=>rfl
omit hR in
theorem ajN {U β:Type}{f:U->List β}{sz:Nat}(hf:∀x,(f x).length=sz):∀(n:Nat)(l:List U),(l.flatMap f).drop (n*sz)=(l.drop n).flatMap f
 |0,l=>aD|n+1,[]=>aD|n+1,x::l=>by rw[lu,List.drop_succ_cons,<-ajN hf n l,su,Nat.add_comm,<-List.drop_drop,<-hf x,List.drop_left]
omit hR in
theorem ajO {U β:Type}{f:U->List β}{sz:Nat}(hf:∀x,(f x).length=sz):∀(n:Nat)(l:List U),(l.flatMap f).take (n*sz)=(l.take n).flatMap f
 |0,l=>aD|n+1,[]=>aD|n+1,x::l=>by rw[lu,List.take_succ_cons,lu,<-ajO hf n l,su,Nat.add_comm,<-hf x,List.take_length_add_append]
omit hR in
theorem ajP {U:Type}{l:List U}{a b:Int}(h0:0<=a)(h1:a<=b):Fw l a b=(l.drop a.toNat).take (b-a).toNat:=by unfold Fw;rw[List.take_drop];congr 2;omega
omit hR in
theorem ava {t:Ty}{l:List (Den R.T t)}{cs:List V}{Z:bC}{top:Nat->Nat}{a b:Int}(h0:0<=a)(h1:a<=b)(h:aK R Z top (l.flatMap fun x=>(jg R .any t x).cells) cs):aK R Z top ((Fw l a b).flatMap fun x=>(jg R .any t x).cells) ((cs.drop (a.toNat*dN R t)).take ((b-a).toNat*dN R t)):=by rw[ajP h0 h1,<-ajO (fun x=>Jm .any t x),<-ajN (fun x=>Jm .any t x)];exact(h.drop _).take _
omit hR in
theorem FP (t:Ty):∀l:List (Den R.T t),(l.flatMap fun x=>(jg R .any t x).cells).length=l.length*dN R t
 | []=>aD|x::l=>by rw[lu,eU,Jm,FP t l,List.length_cons,su];omega
omit hR in
theorem ajQ {U:Type}:∀{l:List U}{i:Nat}{x:U},l[i]? =some x->∃a b,l=a++x::b/\a.length=i
 | [],_,_,h=>wL|y::l,0,x,h=>by simp at h;subst h;exact⟨[],l,rfl,rfl⟩|y::l,i+1,x,h=>by obtain⟨a,b,rfl,hl⟩:=ajQ (l:=l) (i:=i) zl;exact⟨y::a,b,rfl,by simp[hl]⟩
omit hR in
theorem avb {U:Type}{l:List U}{i:Int}{x:U}(h:aH l i=some x):∃a b,l=a++x::b/\a.length=i.toNat/\0<=i:=by
 unfold aH at h;split at h
 .rename_i hi;obtain⟨a,b,h1,h2⟩:=ajQ h;exact⟨a,b,h1,h2,hi.1⟩
 .cases h
omit hR in
theorem avc {ag:Bool}{n off:Nat}{pre el post:List (aA R.T)}{v:aA R.T}(h:Sk ag n el off=some v):Sk ag n (pre++el++post) (pre.length+off)=some v:=by
 cases ag with
 |true=>
  have h':(bif Nat.ble (off+n) el.length then some (aA.agg ((el.drop off).take n)) else none)=some v:=h;obtain⟨hb,h'⟩:=gG h';have hle:=oD hb;show (bif Nat.ble (pre.length+off+n) (pre++el++post).length then some (aA.agg (((pre++el++post).drop (pre.length+off)).take n)) else none)=some v;have hb':Nat.ble (pre.length+off+n) (pre++el++post).length=true:=Nat.ble_eq_true_of_le dz;rw[hb',cond_true,<-h'];congr 2;have e1:(pre++el++post).drop (pre.length+off)=(el++post).drop off:=by rw[fP,EG,nE RS];simp
  rw[e1,EG,List.take_append];have e2:n-(el.drop off).length=0:=dz
  rw[e2];simp
 |false=>
  have h':el[off]? =some v:=h;show (pre++el++post)[pre.length+off]? =some v;have hlt:off<el.length:=by rw[uU] at h';exact h'.1
  rw[fP,List.getElem?_append_right RS,AB,Wd hlt];exact h'
omit hR in
theorem avd {t:TypeId}{off:Nat}{pre el post:List (aA R.T)}{v:aA R.T}(h:om E t el off=some v):om E t (pre++el++post) (pre.length+off)=some v:=by
 unfold om at h⊢;cases h1:jX E.P t with
 |none=>simp only[h1] at h;cases h|some a=>
  cases h2:dO E.P t with
  |none=>simp only[h1,h2] at h;cases h|some n=>simp only[h1,h2] at h⊢;exact avc h
omit hR in
theorem ave {t:TypeId}{off:Nat}{cs cs':List (aA R.T)}(hl:cs.length=cs'.length)(h:(om E t cs off).isSome=true):∃v,om E t cs' off=some v:=by
 unfold om at h⊢;cases h1:jX E.P t with
 |none=>simp only[h1] at h;cases h|some a=>
  cases h2:dO E.P t with
  |none=>simp only[h1,h2] at h;cases h|some n=>
   simp only[h1,h2] at h⊢;cases a with
   |true=>
    have h':(bif Nat.ble (off+n) cs.length then some (aA.agg ((cs.drop off).take n)) else none).isSome=true:=h;cases hb:Nat.ble (off+n) cs.length
    .rw[hb] at h';cases h'
    .exact⟨.agg ((cs'.drop off).take n),by show (bif Nat.ble (off+n) cs'.length then _ else _)=_;rw[<-hl,hb];rfl⟩
   |false=>have h':cs[off]?.isSome=true:=h;have hlt:off<cs'.length:=(by rw[<-hl];simpa using h');exact⟨cs'[off],fA hlt⟩
omit hR in
theorem ajR {o s:Nat}{τ:Ty}{l:List (Den R.T τ)}{i:Int}{y:Den R.T τ}(hO:gK Z Y o (.arr τ l))(hs:Z.ob o=some s)(hy:aH l i=some y):
 ∃a b cs,l=a++y::b/\a.length=i.toNat/\Y.dS (Z.aj.lc o) s=some cs/\aK R Z Y.top ((a.flatMap fun x=>(jg R .any τ x).cells)++(jg R .any τ y).cells++b.flatMap fun x=>(jg R .any τ x).cells) cs/\(a.flatMap fun x=>(jg R .any τ x).cells).length=i.toNat*dN R τ:=by
 obtain⟨a,b,rfl,h1,h2⟩:=avb hy;rcases hO.2 with h| ⟨s',cs,h3,h4,h5⟩
 .exact absurd h.1 aD
 .rw[hs] at h3;cases h3;refine⟨a,b,cs,rfl,h1,h4,?_,by rw[FP,h1]⟩;rw[List.flatMap_append,lu] at h5;rw[fP];exact h5
omit hR in
theorem avf {t:TypeId}{o s off:Nat}{τ:Ty}{i:Int}{ob:bP R.T}{r:fE R}(h:X9 E R t τ i off ob=some r)(hO:gK Z Y o ob)(hs:Z.ob o=some s):∃(l:List (Den R.T τ)) (f:Den R.T τ->aA R.T),r= .p (Den R.T τ) (Iw R τ) (aH l i) f/\
 ∀y,aH l i=some y->∃cs w,Y.dS (Z.aj.lc o) s=some cs/\gT E.P t cs (i.toNat*dN R τ+off)=some w/\aC R Z Y.top (f y) w:=by
 unfold X9 at h;split at h
 .rename_i gW l0;split at h
  .rename_i l1 hl;obtain⟨e,e2⟩:=vM hl;subst e;cases e2;obtain⟨hb,h⟩:=gG h;cases h;refine⟨l0,_,rfl,fun y hy=>?_⟩;obtain⟨a,b,cs,h1,h2,h3,h4,h5⟩:=ajR hO hs hy;obtain⟨v,hv⟩:=ave (cs':=(jg R .any gW y).cells) (by rw[Jm,Jm]) hb;have:=avd (pre:=a.flatMap fun x=>(jg R .any gW x).cells) (post:=b.flatMap fun x=>(jg R .any gW x).cells) hv;rw[h5] at this;obtain⟨w,hw,hr⟩:=Bh h4 this;exact⟨cs,w,h3,hw,by rw[hv];exact hr⟩
  .cases h
 .cases h
theorem avg {τ:Ty}{cs:List (aA R.T)}{x:Den R.T τ}{vs:List V}(h:Ya R τ cs=some x)(hr:aK R Z top cs vs):aK R Z top (jg R .any τ x).cells vs:=by
 have one:∀(t:Ty)(x:Den R.T t),pV t=true->uh R t (hd1 R cs)=some x->aK R Z top [AZ R .any t x] vs:=by
  intro t x ht h;cases cs with
  |nil=>cases t<;>cases h|cons c cs=>
   cases cs with
   |nil=>obtain⟨v,l,rfl,h1,h2⟩:=hr.fV;rw[h2.jw];exact .cons' (FN hR h h1) rfl
   |cons c' cs=>cases t<;>cases h
 cases τ with
 |st n=>have:=SY hR (t:=.st n) (show A8 R (.st n) (.agg cs)=some x from h) (v:=.agg vs) (by unfold aC;exact⟨vs,rfl,hr⟩);obtain⟨l,e,hl⟩:=aC.mX this;cases e;exact hl
 |int k=>exact one (.int k) x rfl h|bool=>exact one .bool x rfl h|str=>exact one .str x rfl h|slice t=>exact one (.slice t) x rfl h
omit hR in
theorem avh {U:Type}(pre el post vs:List U)(off:Nat)(h:off+vs.length<=el.length):(pre++el++post).take (pre.length+off)++vs++(pre++el++post).drop (pre.length+off+vs.length)=pre++(el.take off++vs++el.drop (off+vs.length))++post:=by
 have e1:(pre++el++post).take (pre.length+off)=pre++el.take off:=by rw[fP,List.take_append,rC RS,AB,List.take_append,Nat.sub_eq_zero_of_le RS];simp
 have e2:(pre++el++post).drop (pre.length+off+vs.length)=el.drop (off+vs.length)++post:=by rw[fP,EG,nE RS,show pre.length+off+vs.length-pre.length=off+vs.length by omega,EG,Nat.sub_eq_zero_of_le RS];simp
 rw[e1,e2];simp
theorem avi {o s off:Nat}{τ:Ty}{i:Int}{l:List (Den R.T τ)}{y y':Den R.T τ}{vc:List (aA R.T)}{vl:List V}(hO:gK Z Y o (.arr τ l))(hs:Z.ob o=some s)(hy:aH l i=some y)(hv:aK R Z Y.top vc vl)(hle:off+vc.length<=dN R τ)(hu:Ya R τ (IL (jg R .any τ y).cells off vc)=some y'):∃cs,Y.dS (Z.aj.lc o) s=some cs/\i.toNat*dN R τ+off+vl.length<=cs.length/\aK R Z Y.top ((bn l i y').flatMap fun x=>(jg R .any τ x).cells) (gM cs (i.toNat*dN R τ+off) vl)/\(bn l i y').length=l.length:=by
 obtain⟨a,b,cs,rfl,h2,h3,h4,h5⟩:=ajR hO hs hy;obtain⟨p1,post,rfl,g1,g2⟩:=h4.split;obtain⟨pre,el,rfl,g3,g4⟩:=g1.split;have l1:pre.length=i.toNat*dN R τ:=by rw[g3.length,h5]
 have l2:el.length=dN R τ:=by rw[g4.length,Jm]
 have l3:=hv.length;refine⟨_,h3,?_,?_,?_⟩
 .rw[eU,eU];omega
 .have e:bn (a++y::b) i y'=a++y'::b:=by unfold bn;rw[<-h2,List.set_append_right _ _ (iR _),Nat.sub_self];rfl
  rw[e,List.flatMap_append,lu,<-fP];have e2:gM (pre++el++post) (i.toNat*dN R τ+off) vl=pre++gM el off vl++post:=by unfold gM;rw[<-l1];exact avh pre el post vl off RS
  rw[e2];exact(g3.append (avg hR hu (YA off g4 hv))).append g2
 .unfold bn;rw[List.length_set]
theorem avj (τ:Ty)(x:Den R.T τ):aK R Z top (jg R .any τ x).cells (aV R τ x).cells:=by refine(yK ?_ (ai4 hR .any (.inl rfl) τ x)).1;cases τ<;>rfl
theorem Jo (τ:Ty):∀l:List (Den R.T τ),aK R Z top (l.flatMap fun x=>(jg R .any τ x).cells) ((l.map (aV R τ)).flatMap V.cells)
 | []=>rfl|x::l=>by rw[iH,lu,lu];exact(avj hR τ x).append (Jo τ l)
theorem avk {t e:TypeId}{sz gI:Nat}{ag:Bool}{z:V}{ys:List V}{x y:V}{loc:Option Loc}{aN:Nat}{P:Program}(h1:lS P t=some e)(h2:dO P e=some sz)(h3:uY P e=some gI)(h4:jX P e=some ag)(h5:je P e=some z)(h6:z.cells.length=sz)(h7:0<sz)(h8:(ag||sz==1)=true)(hy:nN Y ag sz z y=some ys)(hi:zu y=false)(ho:ys.all (fun v=>dA v.cells)=true):
 kI P true false Y aN loc t x y=match x with
  |.ak c l=>if cB (l.length+ys.length) gI=true/\oF sz l=true then match c with
     |.nil=>loc.map fun loc=>(.aS loc aN 0 (l.length+ys.length) (l.length+ys.length) sz ag,Y.setObj loc aN (.cells ((l++ys).flatMap V.cells)))
     |.full=>if ys.isEmpty then some (.ak .full l,Y) else loc.map fun loc=>(.aS loc aN 0 (l.length+ys.length) (l.length+ys.length) sz ag,Y.setObj loc aN (.cells ((l++ys).flatMap V.cells)))
     |_=>none else none
  |.aS kJ s off len cap bE _=>
   if cB (len+ys.length) gI=true/\off=0/\bE=sz then loc.bind fun loc=>(Y.dS kJ s).bind fun cs=>
     if len+ys.length<=cap then if (len+ys.length)*sz<=cs.length then some (.aS kJ s 0 (len+ys.length) cap sz ag,Y.setObj kJ s (.cells (gM cs (len*sz) (ys.flatMap V.cells))))else none else if len*sz<=cs.length then some (.aS loc aN 0 (len+ys.length) (len+ys.length) sz ag,(Y.ko kJ).setObj loc aN (.cells (cs.take (len*sz)++ys.flatMap V.cells)))else none else none
  |_=>none:=by
 unfold kI;simp only[h1,h2,h3,h4,h5,Option.bind_some,hi,hy,ho,if_true];rw[if_pos ⟨trivial,h6,h7,h8⟩];cases x<;>try rfl
 .rename_i c l;cases c<;>rfl
 .simp only[true_and]
omit hR in
theorem bV.Nk {o q s n:Nat}{x:bP R.T}{a:kH}(hne:q≠o):bV true q st Z Y (st.new o x) (Z.Bg o s n) (Y.setObj (Z.aj.lc o) s a):=⟨(Yo q hne).1,(Yo q hne).2,rfl,iR _,⟨fun _ _=>rfl,fun _ _=>rfl⟩,fun _ _ hL=>Yv hL,(bV.new (nr:=true) (Z:=Z) (s:=s) (a:=a) hne).ro⟩
omit hR in
theorem bV.del {o q:Nat}{y:bP R.T}(hl:look st.ob o=some y)(hy:vF y=false):bV true q st Z Y (st.del o) Z (Y.ko (Z.aj.lc o)):=⟨rfl,rfl,rfl,iR _,⟨fun _ _=>rfl,fun _ _=>rfl⟩,fun _ _ hL=>auM hL,fun hr=>by
 have hne:q≠o:=by rintro rfl;rw[hr y hl] at hy;cases hy
 refine⟨fun z hz=>?_,fun s'=>?_⟩
 .have hz':look (ku o st.ob) q=some z:=hz;rw[uD hne] at hz';exact hr z hz'
 .unfold ah.dS ah.lg;rw[ajj Y hne];exact⟨rfl,rfl⟩⟩
omit hR in
theorem bV.del' {o q:Nat}{y:bP R.T}(hl:look st.ob o=some y)(hy:vF y=false):bV true q st Z Y (st.del o) Z Y:=⟨rfl,rfl,rfl,iR _,⟨fun _ _=>rfl,fun _ _=>rfl⟩,fun _ _ _=>rfl,fun hr=>by
 have hne:q≠o:=by rintro rfl;rw[hr y hl] at hy;cases hy
 refine⟨fun z hz=>?_,fun s'=>⟨rfl,rfl⟩⟩;have hz':look (ku o st.ob) q=some z:=hz;rw[uD hne] at hz';exact hr z hz'⟩
omit hR in
theorem YK {U:Type}{p:Nat}:∀l:List (Nat×U),look (ku p l) p=none
 | []=>rfl| (j,x)::l=>by
   unfold ku;cases hj:Nat.beq j p
   .show (bif Nat.beq j p then some x else look (ku p l) p)=none;rw[hj];exact YK l
   .exact YK l
omit hR in
theorem aU.del' (h:aU Z b st fr Y)(o:Nat):aU Z b (st.del o) fr Y:={h with
 ob:=fun p y hy=>by
  by_cases e:p=o
  .subst e;have:look (ku p st.ob) p=some y:=hy;rw[YK] at this;cases this
  .have hy':look (ku o st.ob) p=some y:=hy;rw[uD e] at hy';exact h.ob p y hy'
 fr:=h.fr}
omit hR in
theorem FQ {d0 d aN:Nat}{τ:Ty}{l:List (Den R.T τ)}{L:List V}{st0:aO R.T}{rU:ah}{o:Oper}{v:V}{aB:ah}(hd:o.dst=some d0)(hcd:d=d0\/d=E.cn d0)(hi:aU Z (aN+1) st0 fr rU)(hk:∀p,bV true p st Z Y st0 Z rU)(hn:rU.next=Y.next)(hL:aK R Z rU.top (l.flatMap fun x=>(jg R .any τ x).cells) L)(hs:oq E fr Y aN o v aB)(hv:v= .aS (Z.aj.lc d) aN 0 l.length l.length (dN R τ) (jM τ))(h1:aB=rU.setObj (Z.aj.lc d) aN (.cells L)):∃x Y' Z',oq E fr Y aN o x Y'/\aU Z' (aN+1) (st0.new d (.arr τ l)) fr Y'/\Y'.next=Y.next/\aC R Z' Y'.top (.aS d τ) x/\∀p,qA E o p->bV true p st Z Y (st0.new d (.arr τ l)) Z' Y':=by
 subst hv;subst h1;refine⟨_,_,Z.Bg d aN l.length,hs,hi.Nk d aN l.length ⟨(Db (Z:=Z.oo d aN)).symm,.inr ⟨aN,L,Aw (Z:=Z),sK _ _ _ _,zN l L hL⟩⟩,hn,?_,fun p hp=>?_⟩
 .unfold aC;exact .inl ⟨aN,Aw (Z:=Z),by rw[show (Z.Bg d aN l.length).ln d=l.length from Db (Z:=Z.oo d aN)];rfl⟩
 .have hne:p≠d:=by
   rcases hcd with e|e
   .exact fun e2=>hp.1 (by rw[hd,e2,e])
   .exact fun e2=>hp.2 _ hd (by rw[e2,e])
  exact(hk p).trans (bV.Nk hne)
theorem avl {d:Option Nat}{t:TypeId}{len:Nat}{ps:List (Nat×aA R.T)}{qs:List (Nat×V)}{r:fE R}{aN:Nat}{o:Oper}(h:X0 E R d t len ps st=some r)(hi:ps.map (·.1)=qs.map (·.1))(hr:aK R Z Y.top (ps.map (·.2)) (qs.map (·.2)))(him:aU Z aN st fr Y)(hd:o.dst=d)(ho:∀y Y',Co E Y aN (d.map fun t=>(fr.d,E.cn t)) t len qs=some (y,Y')->oq E fr Y aN o y Y'):sZ E st Z aN fr Y o r:=by
 unfold X0 at h;split at h
 .rename_i d e u sz gI he;obtain⟨z,e1,e2,e3,e4,e5,e6,e7,e8,e9⟩:=Td he;obtain⟨hc,h⟩:=gG h;rw[bf] at hc;split at h
  .rename_i xs hx;cases hbl:Nat.ble F0 (E.cn d);case true=>rw[hbl] at h;cases h
   rw[hbl,cond_false] at h;cases h;have hcn:E.cn d<F0:=by have:=mt Nat.ble_eq_true_of_le (by rw[hbl];simp);omega
   rw[Option.map_some,show (fr.d,E.cn d)=Z.aj.lc (E.cn d) by rw[him.d,eP.Yi _ hcn]] at ho;have hlen:xs.length=len:=by rw[ajL ps 0 xs hx];exact fQ hc.2
   obtain⟨vs,k1,k2,k3,k4,k5⟩:=YG hR (len:=len) e6 ps qs xs 0 [] ((List.replicate len z.cells).flatten) hx hi hr aD (by simp[e9,hlen]) RS;rw[List.nil_append,List.nil_append] at k1;have key:Co E Y aN (some (Z.aj.lc (E.cn d))) t len qs=some (.aS (Z.aj.lc (E.cn d)) aN 0 len len sz (jM u),Y.setObj (Z.aj.lc (E.cn d)) aN (.cells (vs.flatMap V.cells))):=by unfold Co;rw[e1];simp only[Option.bind_some,e2,e4,e5];rw[if_pos ⟨oD hc.1,e9,e7⟩,k1];rfl
   exact FQ (rU:=Y) hd (.inr rfl) (him.le (kR aN)) (fun q=>.refl) rfl k5 (ho _ _ key) (by rw[hlen,e6]) rfl
  .cases h
 .cases h
theorem avm {d:Option Nat}{t u:TypeId}{x y:aA R.T}{v w:V}{r:fE R}{aN:Nat}{o:Oper}(h:M9 E R d t u x y st=some r)(hx:aC R Z Y.top x v)(hy:aC R Z Y.top y w)(hi:aU Z aN st fr Y)(hd:o.dst=d)(ho:∀y Y',kI E.P true false Y aN (d.map fun t=>(fr.d,E.cn t)) t v w=some (y,Y')->oq E fr Y aN o y Y'):sZ E st Z aN fr Y o r:=by
 have hi1:=hi.le (kR aN);unfold M9 at h;split at h
 .rename_i d;cases hbl:Nat.ble F0 (E.cn d);case true=>rw[hbl] at h;cases h
  rw[hbl,cond_false] at h;have hcn:E.cn d<F0:=by have:=mt Nat.ble_eq_true_of_le (by rw[hbl];simp);omega
  rw[Option.map_some,show (fr.d,E.cn d)=Z.aj.lc (E.cn d) by rw[hi.d,eP.Yi _ hcn]] at ho;split at h
  .rename_i e τ sz gI he;obtain⟨z,e1,e2,e3,e4,e5,e6,e7,e8,e9⟩:=Td he;obtain⟨hss,h⟩:=gG h;split at h
   .rename_i l' hs;subst e6;obtain⟨g1,g2⟩:=YI hR (ag:=jM τ) (z:=z) (Y:=Y) hs hy;have hap:=fun x=>avk hR (Y:=Y) (x:=x) (loc:=some (Z.aj.lc (E.cn d))) (aN:=aN) e1 e2 e3 e4 e5 e9 e7 e8 g1 g2 (YH hR l');split at h
    .rename_i p aiP _;split at h
     .rename_i e0;subst e0;split at h
      .rename_i gW l0 hl;split at h
       .rename_i l2 hl2;obtain⟨e,e2'⟩:=vM hl2;subst e;cases e2';have ne:∀(a:Den R.T gW)(l1:List (Den R.T gW)),l'=a::l1->sZ E st Z aN fr Y o (.wc (cB (l0.length+(a::l1).length) gI) (.aS (E.cn d) gW) ((st.del p).new (E.cn d) (.arr gW (l0++a::l1)))):=by
         intro a l1 el;subst el;intro hroom;have hO:=hi.ob _ _ hl;have hlen:l0.length=Z.ln p:=hO.1;have hnr:vF (bP.arr gW l0)=false:=rfl;have hne:¬((a::l1).map (aV R gW)).isEmpty=true:=aD;rcases hx.Bf with ⟨s,k1,rfl⟩| ⟨k1,k2⟩
         .rcases hO.2 with hO2| ⟨s',cs,k3,k4,k5⟩
          .rw[k1] at hO2;exact absurd hO2.2 aD
          .rw[k1] at k3;cases k3;have:=hap (.aS (Z.aj.lc p) s 0 (Z.ln p) (Z.ln p) (dN R gW) (jM gW));dsimp only at this;have hlc:cs.length=l0.length*dN R gW:=(by rw[k5.length,FP]);rw[if_pos ⟨by rw[fF,<-hlen];exact hroom,rfl,rfl⟩] at this;simp only[Option.bind_some,k4] at this;rw[if_neg (by rw[fF,List.length_cons];omega),if_pos GV] at this;refine FQ (rU:=Y.ko (Z.aj.lc p)) (L:=cs.take (Z.ln p*dN R gW)++((a::l1).map (aV R gW)).flatMap V.cells) hd (.inr rfl) (hi1.del p) (fun q=>bV.del hl hnr) rfl ?_ (ho _ _ this) ?_ rfl
           .rw[List.flatMap_append,rC GV];exact aK.append k5 (Jo hR _ _)
           .rw[fF,eU,hlen]
         .have hl0:l0=[]:=qg RS;subst hl0;have hroom':cB (([]:List V).length+((a::l1).map (aV R gW)).length) gI=true/\oF (dN R gW) ([]:List V)=true:=⟨by rw[fF];exact hroom,rfl⟩;rcases k2 with rfl|rfl
          .have:=hap (.ak .nil []);dsimp only at this;rw[if_pos hroom'] at this;refine FQ (rU:=Y) hd (.inr rfl) (hi1.del' p) (fun q=>bV.del' hl hnr) rfl (Jo hR _ _) (ho _ _ this) ?_ rfl;simp
          .have:=hap (.ak .full []);dsimp only at this;rw[if_pos hroom',if_neg hne] at this;refine FQ (rU:=Y) hd (.inr rfl) (hi1.del' p) (fun q=>bV.del' hl hnr) rfl (Jo hR _ _) (ho _ _ this) ?_ rfl;simp
        cases hpc:Nat.beq p (E.cn d) with
        |true=>
         rw[hpc,cond_true] at h;cases h;cases l' with
         |cons a l1=>exact ne a l1 rfl|nil=>
          have hp:=fQ hpc;intro hroom;have hO:=hi.ob _ _ hl;have hlen:l0.length=Z.ln p:=hO.1;have hnr:vF (bP.arr gW l0)=false:=rfl;have hroom':∀(k:Nat),k=l0.length->cB (k+(([]:List (Den R.T gW)).map (aV R gW)).length) gI=true:=fun k hk=>by rw[hk];exact hroom
          rcases hx.Bf with ⟨s,k1,rfl⟩| ⟨k1,k2⟩
          .rcases hO.2 with hO2| ⟨s',cs,k3,k4,k5⟩
           .rw[k1] at hO2;exact absurd hO2.2 aD
           .rw[k1] at k3;cases k3;have:=hap (.aS (Z.aj.lc p) s 0 (Z.ln p) (Z.ln p) (dN R gW) (jM gW));dsimp only at this;have hlc:cs.length=l0.length*dN R gW:=(by rw[k5.length,FP]);rw[if_pos ⟨hroom' _ hlen.symm,rfl,rfl⟩] at this;simp only[Option.bind_some,k4,List.map_nil,List.length_nil,Nat.add_zero] at this;rw[if_pos (iR _),if_pos GV] at this;have hsp:gM cs (Z.ln p*dN R gW) (([]:List V).flatMap V.cells)=cs:=(by unfold gM;simp);rw[hsp] at this;rw[jG,<-hp];refine⟨_,_,Z.Bg p s l0.length,ho _ _ this,(hi1.del' p).Nk p s l0.length (x:=.arr gW l0) (a:=.cells cs) ⟨(Db (Z:=Z.oo p s)).symm,.inr ⟨s,cs,Aw (Z:=Z),sK _ _ _ _,zN l0 cs k5⟩⟩,rfl,?_,fun q hq=>?_⟩
            .unfold aC;exact .inl ⟨s,Aw (Z:=Z),by rw[show (Z.Bg p s l0.length).ln p=l0.length from Db (Z:=Z.oo p s),hlen];rfl⟩
            .have hne:q≠p:=fun e=>hq.2 _ hd (by rw[e,hp]);exact(bV.del' hl hnr).trans (bV.Nk hne)
          .have hl0:l0=[]:=qg RS;subst hl0;rcases k2 with rfl|rfl
           .have:=hap (.ak .nil []);dsimp only at this;rw[if_pos ⟨hroom' 0 rfl,rfl⟩] at this;exact FQ (rU:=Y) hd (.inr rfl) (hi1.del' p) (fun q=>bV.del' hl hnr) rfl rfl (ho _ _ this) rfl rfl
           .have:=hap (.ak .full []);dsimp only at this;rw[if_pos ⟨hroom' 0 rfl,rfl⟩,if_pos bD] at this;refine⟨_,_,Z.gh (E.cn d),ho _ _ this,(hi1.del' p).ghost (E.cn d) gW,rfl,by unfold aC;exact .inr ⟨Db (Z:=Z) (n:=0),.inr rfl⟩,fun q hq=>?_⟩;have FR:q≠E.cn d:=fun e=>hq.2 _ hd e.symm;refine(bV.del' hl hnr).trans ?_;exact⟨(zO q FR).1,(zO q FR).2,rfl,iR _,⟨fun _ _=>rfl,fun _ _=>rfl⟩,fun _ _ _=>rfl,fun hr=>⟨((bV.new (nr:=true) (Z:=Z) (Y:=Y) (s:=0) (a:=.cells []) FR).ro hr).1,fun _=>⟨rfl,rfl⟩⟩⟩
        |false=>
         rw[hpc,cond_false] at h;split at h
         .rename_i a l1;cases h;exact ne _ _ rfl
         .cases h
       .cases h
      .cases h
     .cases h
    .obtain⟨hE,h⟩:=gG h;cases h;intro hroom;have hroom':cB (([]:List V).length+(l'.map (aV R τ)).length) gI=true/\oF (dN R τ) ([]:List V)=true:=⟨by rw[fF,List.length_nil,oW];exact hroom,rfl⟩;rcases ajz (fr:=fr) hE (.of hx) with rfl|rfl
     .have:=hap (.ak .nil []);dsimp only at this;rw[if_pos hroom'] at this;refine FQ (rU:=Y) hd (.inr rfl) hi1 (fun q=>.refl) rfl (Jo hR _ _) (ho _ _ this) ?_ rfl;simp
     .have:=hap (.ak .full []);dsimp only at this;rw[if_pos hroom'] at this;by_cases hne:((l'.map (aV R τ)).isEmpty)=true
      .rw[if_pos hne] at this;have hl':l'=[]:=(by simpa using hne);subst hl';refine⟨_,_,Z.gh (E.cn d),ho _ _ this,hi1.ghost (E.cn d) τ,rfl,by unfold aC;exact .inr ⟨Db (Z:=Z) (n:=0),.inr rfl⟩,fun p hp=>?_⟩;have FR:p≠E.cn d:=fun e=>hp.2 _ hd e.symm;exact⟨(zO p FR).1,(zO p FR).2,rfl,iR _,⟨fun _ _=>rfl,fun _ _=>rfl⟩,fun _ _ _=>rfl,fun hr=>⟨((bV.new (nr:=true) (Z:=Z) (Y:=Y) (s:=0) (a:=.cells []) FR).ro hr).1,fun _=>⟨rfl,rfl⟩⟩⟩
      .rw[if_neg hne] at this;refine FQ (rU:=Y) hd (.inr rfl) hi1 (fun q=>.refl) rfl (Jo hR _ _) (ho _ _ this) ?_ rfl;simp
   .cases h
  .cases h
 .cases h
theorem avn {aj:Bool}{d:Option Nat}{t:TypeId}{x y:aA R.T}{v w:V}{r:fE R}{aN:Nat}{o:Oper}(h:X3 E R aj d t x y st=some r)(hx:aC R Z Y.top x v)(hy:aC R Z Y.top y w)(hi:aU Z aN st fr Y)(hd:o.dst=d)(ho:∀y Y',AO E.P aj Y aN (d.map fun t=>(Z.aj.lc t)) t v w=some (y,Y')->oq E fr Y aN o y Y'):sZ E st Z aN fr Y o r:=by
 unfold X3 at h;cases h
theorem ajS {x:aA R.T}{v:V}{o:Nat}{τ:Ty}{a c:Int}(h:IX st x=some (o,τ,a,c))(hx:aC R Z Y.top x v)(hi:aU Z b st fr Y):aC R Z Y.top (.sub o τ a c) v:=by
 unfold IX at h;split at h
 .split at h
  .rename_i l hl;cases h;have h1:=(hi.rd hl).1;unfold aC;refine⟨RS,RS,RS,?_⟩;rcases hx.Bf with ⟨s,k1,rfl⟩| ⟨h0,h2⟩
   .refine .inl ⟨s,Z.ln o,k1,RS,?_⟩
    .rw[show ((l.length:Int)-0).toNat=Z.ln o by omega];simp
   .refine .inr ⟨RS,?_⟩;rcases h2 with rfl|rfl<;>exact⟨_,rfl⟩
  .cases h
 .cases h;exact hx
 .cases h
omit hR in
theorem ajT {n:Int}{cp:Nat}{lo hi':Option Int}{vl vh:Option V}(hl:(lo=none/\vl=none)\/∃n k,lo=some n/\vl=some (.int k n))(hh:(hi'=none/\vh=none)\/∃n k,hi'=some n/\vh=some (.int k n))(hc:n.toNat<=cp)(h0:0<=n)(hb:aiM (pU lo) (sS n hi') n=true):
 jH n.toNat cp vl vh none=some ((pU lo).toNat,(sS n hi').toNat,cp):=by
 have hb':0<=pU lo/\pU lo<=sS n hi'/\sS n hi'<=n:=of_decide_eq_true hb;rcases hl with ⟨rfl,rfl⟩| ⟨i,k,rfl,rfl⟩<;>rcases hh with ⟨rfl,rfl⟩| ⟨m,k',rfl,rfl⟩<;>simp only[pU,sS] at hb'⊢
 .rfl
 .simp only[jH,bnd,pQ,Option.bind_some];rw[if_pos ⟨RS,RS⟩];rfl
 .simp only[jH,bnd,pQ,Option.bind_some];rw[if_pos ⟨RS,RS⟩];rfl
 .simp only[jH,bnd,pQ,Option.bind_some];rw[if_pos ⟨RS,RS⟩];simp only[Option.bind_some];rw[if_pos ⟨RS,RS⟩];rfl
theorem avo {t:TypeId}{x:aA R.T}{lo hi':Option (aA R.T)}{v:V}{vl vh:Option V}{r:fE R}(h:Sw E R t x lo hi' st=some r)(hx:aC R Z Y.top x v)(hi:aU Z b st fr Y)(hl:∀y,lo=some y->∃w,vl=some w/\aC R Z Y.top y w)(hln:lo=none->vl=none)(hh:∀y,hi'=some y->∃w,vh=some w/\aC R Z Y.top y w)(hhn:hi'=none->vh=none):qX Z Y.top (lC E.P Y t v vl vh none) r:=by
 unfold Sw at h;split at h
 .rename_i o τ a c lo' hi2 e hw e1 e2 hu;have b1:=Dj e1 hl hln;have b2:=Dj e2 hh hhn;have hxs:=ajS hR hw hx hi;split at h
  .rename_i sz hs;obtain⟨hb,h⟩:=gG h;cases h;have:=fQ hb;subst this;intro hc;have hc':0<=pU lo'/\pU lo'<=sS (c-a) hi2/\sS (c-a) hi2<=c-a:=of_decide_eq_true hc;obtain⟨g0,g1,g2,h⟩:=hxs.FK;rcases h with ⟨s,cp,h1,h2,rfl⟩| ⟨e,q,rfl⟩
   .have hsb:=ajT b1 b2 h2 RS hc;unfold lC;rw[hu];dsimp only;simp only[hs,Option.bind_some,hsb];rw[if_true];by_cases hz:(pU lo').toNat=(sS (c-a) hi2).toNat/\0< (pU lo').toNat
    .rw[if_pos hz];exact⟨_,rfl,by unfold aC;exact⟨RS,RS,RS,.inr ⟨RS,_,rfl⟩⟩⟩
    .rw[if_neg hz];refine⟨_,rfl,?_⟩;unfold aC;refine⟨RS,RS,RS,.inl ⟨s,cp-(pU lo').toNat,h1,RS,?_⟩⟩;rw[<-qE,show a.toNat+(pU lo').toNat=(a+pU lo').toNat by omega,show (sS (c-a) hi2).toNat-(pU lo').toNat=(a+sS (c-a) hi2-(a+pU lo')).toNat by omega]
   .have e0:c-a=0:=RS;have hsb:=ajT (n:=0) (cp:=0) b1 b2 aD RS (by rw[<-e0];exact hc);unfold lC;rw[hu];dsimp only;rw[e0] at hc';have avp:jH ([]:List V).length ([]:List V).length vl vh none=some (0,0,0):=(by have e3:jH ([]:List V).length ([]:List V).length vl vh none=some ((pU lo').toNat,(sS 0 hi2).toNat,0):=hsb;rw[e3,show (pU lo').toNat=0 by omega,show (sS 0 hi2).toNat=0 by omega]);simp only[hs,Option.bind_some,avp,oF];rw[if_true,e0];refine⟨_,rfl,?_⟩;have hl0:pU lo'=0:=RS;have hh0:sS 0 hi2=0:=RS;rw[hl0,hh0];have:∀(k:Cap),aC R Z Y.top (.sub o τ (a+0) (a+0)) (.ak k []):=fun k=>by unfold aC;exact⟨RS,RS,RS,.inr ⟨rfl,_,rfl⟩⟩
    exact this _
  .cases h
 .cases h
theorem Te {t:TypeId}{x:aA R.T}{lo hi':Option (aA R.T)}{v:V}{vl vh:Option V}{r:fE R}(h:CW E R t x lo hi' st=some r)(hx:aC R Z Y.top x v)(hi:aU Z b st fr Y)(hl:∀y,lo=some y->∃w,vl=some w/\aC R Z Y.top y w)(hln:lo=none->vl=none)(hh:∀y,hi'=some y->∃w,vh=some w/\aC R Z Y.top y w)(hhn:hi'=none->vh=none):qX Z Y.top (lC E.P Y t v vl vh none) r:=by
 unfold CW at h;split at h
 .rename_i r' hr;cases h;exact avo hR hr hx hi hl hln hh hhn
 .exact au3 hR (Y:=Y) h hx hl hln hh hhn
theorem avq {t:TypeId}{p:Nat}{τ:Ty}{a c:Int}{y:aA R.T}{v w:V}{r:fE R}(h:X8 E R t p τ a c y=some r)(hx:aC R Z Y.top (.sub p τ a c) v)(hy:aC R Z Y.top y w)(hi:aU Z b st fr Y):qX Z Y.top (qh E.P t v w) r:=by
 unfold X8 at h;split at h
 .rename_i e k n hu;split at h
  .rename_i sz hs;obtain⟨hb,h⟩:=gG h;cases h;have:=fQ hb;subst this;rw[hy.jB];intro hc;have hc':0<=n/\n<c-a:=of_decide_eq_true hc;obtain⟨g0,g1,g2,h⟩:=hx.FK;rcases h with ⟨s,cp,h1,h2,rfl⟩| ⟨e,_,rfl⟩
   .refine⟨.ref (Z.aj.lc p) s (a.toNat*dN R τ+n.toNat*dN R τ),?_,by unfold aC;exact⟨s,h1,RS,by rw[<-qE,Nat.add_zero];congr 2;omega⟩⟩;unfold qh;rw[hu];simp only[hs,Option.bind_some,idx,pQ];rw[if_pos ⟨hc'.1,RS⟩];simp
   .omega
  .cases h
 .cases h
theorem avr {aj:Bool}{t:TypeId}{p:Nat}{τ:Ty}{y:aA R.T}{v w:V}{r:fE R}(h:X7 E R t p τ y st=some r)(hx:aC R Z Y.top (.aS p τ) v)(hy:aC R Z Y.top y w)(hi:aU Z b st fr Y):qX Z Y.top (qh E.P t v w) r:=by
 unfold X7 at h;split at h
 .rename_i e k n hu;split at h
  .rename_i sz hs;obtain⟨hb,h⟩:=gG h;split at h
   .rename_i gW l hl;cases h;have:=fQ hb;subst this;rw[hy.jB];intro hc;have hc':=of_decide_eq_true hc;have hlen:=(hi.rd hl).1;rcases hx.Bf with ⟨s,k1,rfl⟩| ⟨h0,_⟩
    .refine⟨.ref (Z.aj.lc p) s (n.toNat*dN R τ),?_,by unfold aC;exact⟨s,k1,hc'.1,rfl⟩⟩;unfold qh;rw[hu];simp only[hs,Option.bind_some,idx,pQ];rw[if_pos ⟨hc'.1,by rw[<-hlen];exact hc'.2⟩];simp
    .rw[hlen,h0] at hc';omega
   .cases h
  .cases h
 .cases h
end
end aR
end
