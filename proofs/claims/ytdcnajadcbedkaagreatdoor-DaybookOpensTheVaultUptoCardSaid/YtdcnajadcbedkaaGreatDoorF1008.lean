import Derived.Test.YtdcnajadcbedkaaGreatDoorF1007
set_option linter.all false
section
namespace aQ
open Go
def qF (E:Env)(o:Oper)(p:Nat):Prop:=o.dst≠some p/\∀d,o.dst=some d->E.cn d≠p
section
variable {R:jV}{E:Env}
variable {Z:bC}{b:Nat}{st:aO R.T}{fr:Fr}{Y:ah}
def yJ (E:Env)(fr:Fr)(o:Oper):Bool:=match o.op with
 |.call c=>match c.callee with
  |.value f=>lU E fr o f|_=>false
 |_=>false
def oC (E:Env)(fr:Fr)(Y:ah)(aN:Nat)(o:Oper)(x:V)(Y':ah):Prop:=
 (yJ E fr o=false->∀all os Q,fJ all fr o=some true->ay E all (aN+1) os (fr.put o.dst x) Y' Q->ay E all aN (o::os) fr Y Q)/\
 (yJ E fr o=false->∀ms all os fs Q,fJ all fr o=some true->dJ E ms all (aN+1) os (fr.put o.dst x) Y' (fs++[d9 E all fr o true]) Q->dJ E ms all aN (o::os) fr Y fs Q)
theorem oC.of {aN:Nat}{o:Oper}{x:V}{Y':ah}(h:∀S,opC E S fr Y aN o=some (x,fr,Y')):oC E fr Y aN o x Y':=
 ⟨fun _ _ _ _ hw h'=>ay.op hw h h',fun _ _ _ _ _ _ hw h'=>dJ.op hw h h'⟩
theorem atV {S:iW}{aN:Nat}{o:Oper}{x:V}{Y':ah}(h:dK E fr Y aN o=some (x,Y')):opC E S fr Y aN o=some (x,fr,Y'):=by
 unfold opC;split
 .rename_i c hc;unfold dK at h;rw[hc] at h;cases h
 .rename_i c hc;unfold dK at h;rw[hc] at h;cases h
 .rw[h];rfl
theorem aiN {o:Oper}{c:Call}{f:Operand}{g:FuncId}{a b:List V}(ho:o.op= .call c)(fV:c.callee= .value f)(hf:fr.ev E f= .fn (.func g) a b)(h:yJ E fr o=false):∀d,o.dst=some d->E.own g d=false:=by intro d hd;unfold yJ at h;rw[ho] at h;dsimp only at h;rw[fV] at h;dsimp only at h;unfold lU at h;rw[hf,hd] at h;exact h
theorem oC.kL {aN:Nat}{o:Oper}{x:V}{Y':ah}(h:dK E fr Y aN o=some (x,Y')):oC E fr Y aN o x Y':=.of fun S=>atV h
def tF (E:Env)(st:aO R.T)(Z:bC)(aN:Nat)(fr:Fr)(Y:ah)(o:Oper):fC R->Prop
 |.t v=>∃x,oC E fr Y aN o x Y/\aC R Z Y.top v x|.c c v=>c=true->∃x,oC E fr Y aN o x Y/\aC R Z Y.top v x|.w v st'=>∃x Y' Z',oC E fr Y aN o x Y'/\aT Z' (aN+1) st' fr Y'/\Y'.next=Y.next/\aC R Z' Y'.top v x/\∀p,qF E o p->bT true p st Z Y st' Z' Y'|.wc c v st'=>c=true->∃x Y' Z',oC E fr Y aN o x Y'/\aT Z' (aN+1) st' fr Y'/\Y'.next=Y.next/\aC R Z' Y'.top v x/\∀p,qF E o p->bT true p st Z Y st' Z' Y'|.p _ _ o' f=>∀a,o'=some a->∃x,oC E fr Y aN o x Y/\aC R Z Y.top (f a) x
theorem yK {top:Nat->Nat}{x:aA R.T}{v:V}(hg:wW x=true)(h:aC R Z top x v):aJ R Z top x.cells v.cells/\fE v=true:=by
 cases x with
 |agg cs=>obtain⟨l,rfl,hl⟩:=h.mY;exact⟨hl,rfl⟩
 |int k n=>rw[h.jy];exact⟨.cons' gY rfl,rfl⟩|bool b=>rw[h.rY];exact⟨.cons' gY rfl,rfl⟩|jH b=>rw[h.vO];exact⟨.cons' gY rfl,rfl⟩|str b=>rw[h.q8];exact⟨.cons' gY rfl,rfl⟩|fQ=>rw[h.uI];exact⟨.cons' gY rfl,rfl⟩|bV cs=>obtain⟨l,rfl,hl⟩:=h.IU;exact⟨.cons' h rfl,rfl⟩
 |ak c t l=>obtain⟨c',rfl,hl⟩:=h.mZ;exact⟨.cons' h rfl,rfl⟩
 |ref o off=>obtain⟨s,hs,rfl⟩:=h.rZ;exact⟨.cons' h rfl,rfl⟩
 |aW o off=>obtain⟨s,rfl,hs⟩:=h.uJ;exact⟨.cons' h rfl,rfl⟩
 |fq o=>obtain⟨s,hs,rfl⟩:=h.MU;exact⟨.cons' h rfl,rfl⟩
 |fD k e m=>have:=h.Fu;subst this;exact⟨.cons' h rfl,rfl⟩|fn f a b=>obtain⟨a',b',rfl,_⟩:=h.pF;exact⟨.cons' h rfl,rfl⟩
 |undef=>have:=h.ah7;subst this;exact⟨.cons' h rfl,rfl⟩|aS o t=>rcases h.AY with ⟨s,_,rfl⟩| ⟨_,rfl|rfl⟩<;>exact⟨.cons' h rfl,rfl⟩
 |sub o t a b=>rcases h.Fv with ⟨_,_,_,⟨s,cp,_,_,rfl⟩| ⟨_,c,rfl⟩⟩<;>exact⟨.cons' h rfl,rfl⟩
 |mV o t i off=>obtain⟨s,_,_,rfl⟩:=h.Fw;exact⟨.cons' h rfl,rfl⟩
 |sv o off k n lo hi=>obtain⟨s,_,_,rfl⟩:=h.CQ;exact⟨.cons' h rfl,rfl⟩
 |sel o off k n i m=>obtain⟨s,_,_,_,rfl⟩:=h.MV;exact⟨.cons' h rfl,rfl⟩
 |vH k n y i=>obtain⟨_,_,rfl⟩:=h.Sw;exact⟨.cons' h rfl,rfl⟩
 |sg _=>cases hg|gZ=>have h':=h;unfold aC at h';subst h';exact⟨.cons' h rfl,rfl⟩|gL=>have h':=h;unfold aC at h';subst h';exact⟨.cons' h rfl,rfl⟩|iq=>have h':=h;unfold aC at h';subst h';exact⟨.cons' h rfl,rfl⟩|iO=>have h':=h;unfold aC at h';subst h';exact⟨.cons' h rfl,rfl⟩|opt j w y=>cases hg|gone=>cases hg
theorem atW {top:Nat->Nat}{x:aA R.T}{v:V}(hg:Xt x=true)(h:aC R Z top x v):oneCell v=true:=by
 cases x with
 |agg cs=>cases hg|int k n=>rw[h.jy];rfl|bool b=>rw[h.rY];rfl|jH b=>rw[h.vO];rfl|str b=>rw[h.q8];rfl|fQ=>rw[h.uI];rfl|bV cs=>cases hg|ak c t l=>obtain⟨c',rfl,hl⟩:=h.mZ;rfl
 |ref o off=>obtain⟨s,hs,rfl⟩:=h.rZ;rfl
 |aW o off=>obtain⟨s,rfl,hs⟩:=h.uJ;rfl
 |fq o=>obtain⟨s,hs,rfl⟩:=h.MU;rfl
 |fD k e m=>have:=h.Fu;subst this;rfl|fn f a b=>obtain⟨a',b',rfl,_⟩:=h.pF;rfl
 |undef=>cases hg|aS o t=>rcases h.AY with ⟨s,_,rfl⟩| ⟨_,rfl|rfl⟩<;>rfl
 |sub o t a b=>rcases h.Fv with ⟨_,_,_,⟨s,cp,_,_,rfl⟩| ⟨_,c,rfl⟩⟩<;>rfl
 |mV o t i off=>obtain⟨s,_,_,rfl⟩:=h.Fw;rfl
 |sv o off k n lo hi=>obtain⟨s,_,_,rfl⟩:=h.CQ;rfl
 |sel o off k n i m=>obtain⟨s,_,_,_,rfl⟩:=h.MV;rfl
 |vH k n y i=>obtain⟨_,_,rfl⟩:=h.Sw;rfl
 |sg _=>cases hg|gZ=>unfold aC at h;subst h;rfl|gL=>unfold aC at h;subst h;rfl|iq=>unfold aC at h;subst h;rfl|iO=>unfold aC at h;subst h;rfl|opt j w y=>cases hg|gone=>cases hg
theorem MZ {top:Nat->Nat}:∀{x:List (aA R.T)}{v:List V},Cx x=true->aJ R Z top x v->dx v=true
 | [],v,_,h=>Lp|x::xs,v,hg,h=>by obtain⟨y,ys,rfl,h1,h2⟩:=h.fZ;unfold Cx at hg;rw[aZ] at hg;rw[ahM,atW hg.1 h1,MZ hg.2 h2];rfl
theorem atX {top:Nat->Nat}{ag:Bool}{n off:Nat}{cs:List (aA R.T)}{l:List V}{x:aA R.T}(h:aJ R Z top cs l)(hp:RY ag n cs off=some x):∃v,rM ag n l off=some v/\aC R Z top x v:=by
 cases ag with
 |true=>
  have hp':(bif Nat.ble (off+n) cs.length then some (aA.agg ((cs.drop off).take n)) else none)=some x:=hp;cases hb:Nat.ble (off+n) cs.length
  .rw[hb] at hp';cases hp'
  .rw[hb] at hp';cases hp';have hle:=oJ hb;refine⟨.agg ((l.drop off).take n),?_,by unfold aC;exact⟨_,rfl,(h.drop off).take n⟩⟩;unfold rM;rw[if_pos rfl,if_pos (by rw[h.length];exact hle)]
 |false=>obtain⟨v,h1,h2⟩:=h.get (show cs[off]? =some x from hp);exact⟨v,by unfold rM;simpa using h1,h2⟩
theorem A8 {top:Nat->Nat}{t:TypeId}{off:Nat}{cs:List (aA R.T)}{l:List V}{x:aA R.T}(h:aJ R Z top cs l)(hp:ow E t cs off=some x):∃v,gT E.P t l off=some v/\aC R Z top x v:=by
 unfold ow at hp;cases h1:jU E.P t with
 |none=>simp only[h1] at hp;cases hp|some a=>
  cases h2:dM E.P t with
  |none=>simp only[h1,h2] at hp;cases hp|some n=>simp only[h1,h2] at hp;unfold gT;rw[h1,h2];exact atX h hp
theorem Yd {top:Nat->Nat}{cs vs:List (aA R.T)}{l k:List V}(off:Nat)(h:aJ R Z top cs l)(h':aJ R Z top vs k):aJ R Z top (Il cs off vs) (gM l off k):=by unfold Il gM;rw[h'.length];exact((h.take off).append h').append (h.drop _)
theorem Ye {top:Nat->Nat}{t:TypeId}{z:aA R.T}(h:Im E t=some z):∃v,jc E.P t=some v/\aC R Z top z v:=by
 unfold Im at h;unfold jc;cases h1:E.P.info? t with
 |none=>simp only[h1] at h;cases h|some i=>
  cases h2:i.zero with
  |none=>simp only[h1,h2] at h;cases h|some z'=>simp only[h1,h2] at h;obtain⟨v,hv,hr⟩:=aiy (Z:=Z) (top:=top) h;exact⟨v,by simp[h2,hv],hr⟩
theorem aiO {top:Nat->Nat}(place:Nat->Option (Nat×Nat)):∀{ps:List (Nat×aA R.T)}{qs:List (Nat×V)}{cs:List (aA R.T)}{l:List V}{cs':List (aA R.T)},ps.map (·.1)=qs.map (·.1)->aJ R Z top (ps.map (·.2)) (qs.map (·.2))->
 aJ R Z top cs l->RZ place cs ps=some cs'->∃l',sM place l qs=some l'/\aJ R Z top cs' l'
 | [],[],cs,l,cs',_,_,h,hf=>by cases hf;exact⟨l,rfl,h⟩| [],_::_,_,_,_,h,_,_,_=>wH|_::_,[],_,_,_,h,_,_,_=>wH| (i,v)::ps,(j,w)::qs,cs,l,cs',hi,hr,h,hf=>by
   simp only[iH,sJ] at hi;obtain⟨rfl,hi⟩:=hi;obtain⟨y,ys,e,h1,h2⟩:=hr.fZ;simp only[iH,sJ] at e;obtain⟨rfl,rfl⟩:=e;unfold RZ at hf;unfold sM;cases hp:place i with
   |none=>simp only[hp] at hf;cases hf|some q=>
    obtain⟨off,size⟩:=q;simp only[hp] at hf⊢;cases hb:(Nat.beq v.cells.length size&& Nat.ble (off+size) cs.length&& wW v)
    .rw[hb] at hf;cases hf
    .rw[hb,cond_true] at hf;simp only[aZ] at hb;obtain⟨⟨b1,b2⟩,b3⟩:=hb;obtain⟨hc,hn⟩:=yK b3 h1;rw[if_pos ⟨by rw[hc.length];exact fT b1,by rw[h.length];exact oJ b2,hn⟩];exact aiO place hi h2 (Yd off h hc) hf
theorem aiP {top:Nat->Nat}{x:aA R.T}{v:V}{a:Bool}(h:MH x=some a)(hr:aC R Z top x v):v= .bool a:=by
 cases x<;>cases h
 .exact hr.rY
 .exact hr.vO
theorem aiQ {top:Nat->Nat}{x y:aA R.T}{v w:V}{r:Bool}(h:R3 x y=some r)(hx:aC R Z top x v)(hy:aC R Z top y w):∃a b,v= .bool a/\w= .bool b/\r=(a==b):=by
 unfold R3 at h;cases h1:MH x with
 |none=>simp only[h1] at h;cases h|some a=>
  cases h2:MH y with
  |none=>simp only[h1,h2] at h;cases h|some b=>simp only[h1,h2] at h;cases h;exact⟨a,b,aiP h1 hx,aiP h2 hy,rfl⟩
theorem Yf {top:Nat->Nat}{A9:TypeId->aA R.T->aA R.T->Option Bool}{eqv:TypeId->V->V->Option Bool}(he:∀t x y v w r,A9 t x y=some r->aC R Z top x v->aC R Z top y w->eqv t v w=some r){xs ys:List (aA R.T)}{vs ws:List V}(hx:aJ R Z top xs vs)(hy:aJ R Z top ys ws):∀{fs:List Field}{r:Bool},Io E A9 xs ys fs=some r->Ez E.P eqv vs ws fs=some r
 | [],r,h=>by cases h;rfl|f::fs,r,h=>by
  unfold Io at h;unfold Ez;split at h
  .rename_i hn;rw[if_pos hn];exact Yf he hx hy h
  .rename_i hn;rw[if_neg hn];cases h1:ow E f.type xs f.offset with
   |none=>simp only[h1] at h;cases h|some a=>
    cases h2:ow E f.type ys f.offset with
    |none=>simp only[h1,h2] at h;cases h|some c=>
     cases h3:A9 f.type a c with
     |none=>simp only[h1,h2,h3] at h;cases h|some r1=>
      cases h4:Io E A9 xs ys fs with
      |none=>simp only[h1,h2,h3,h4] at h;cases h|some q=>simp only[h1,h2,h3,h4] at h;cases h;obtain⟨v1,e1,g1⟩:=A8 hx h1;obtain⟨v2,e2,g2⟩:=A8 hy h2;simp[e1,e2,he _ _ _ _ _ _ h3 g1 g2,Yf he hx hy h4]
theorem aiR {top:Nat->Nat}{A9:TypeId->aA R.T->aA R.T->Option Bool}{eqv:TypeId->V->V->Option Bool}(he:∀t x y v w r,A9 t x y=some r->aC R Z top x v->aC R Z top y w->eqv t v w=some r){e:TypeId}{sz:Nat}{xs ys:List (aA R.T)}{vs ws:List V}(hx:aJ R Z top xs vs)(hy:aJ R Z top ys ws):∀{is:List Nat}{r:Bool},MI E A9 e sz xs ys is=some r->GK E.P eqv e sz vs ws is=some r
 | [],r,h=>by cases h;rfl|i::is,r,h=>by
  unfold MI at h;unfold GK;cases h1:ow E e xs (i*sz) with
  |none=>simp only[h1] at h;cases h|some a=>
   cases h2:ow E e ys (i*sz) with
   |none=>simp only[h1,h2] at h;cases h|some c=>
    cases h3:A9 e a c with
    |none=>simp only[h1,h2,h3] at h;cases h|some r1=>
     cases h4:MI E A9 e sz xs ys is with
     |none=>simp only[h1,h2,h3,h4] at h;cases h|some q=>simp only[h1,h2,h3,h4] at h;cases h;obtain⟨v1,e1,g1⟩:=A8 hx h1;obtain⟨v2,e2,g2⟩:=A8 hy h2;simp[e1,e2,he _ _ _ _ _ _ h3 g1 g2,aiR he hx hy h4]
theorem SE {top:Nat->Nat}:∀(d:Nat)(t:TypeId)(x y:aA R.T)(v w:V)(r:Bool),Ip E d t x y=some r->aC R Z top x v->aC R Z top y w->BZ E.P d t v w=some r
 |0,_,_,_,_,_,_,h,_,_=>cZ|d+1,t,x,y,v,w,r,h,hx,hy=>by
  unfold Ip at h;unfold BZ;split at h
  .rename_i fs xs ys hu;obtain⟨l,rfl,h1⟩:=hx.mY;obtain⟨k,rfl,h2⟩:=hy.mY;rw[hu];dsimp only;split at h
   .cases h
   .rename_i hs;rw[if_neg hs];exact Yf (SE d) h1 h2 h
  .rename_i n e xs ys hu;obtain⟨l,rfl,h1⟩:=hx.mY;obtain⟨k,rfl,h2⟩:=hy.mY;rw[hu];dsimp only;cases hs:dM E.P e with
   |none=>simp only[hs] at h;cases h|some sz=>simp only[hs] at h;simp only[Option.bind_some];exact aiR (SE d) h1 h2 h
  .cases h
  .cases h
  .rename_i hu;obtain⟨a,c,rfl,rfl,rfl⟩:=aiQ h hx hy;rw[hu]
  .rename_i k a k' c hu;rw[hx.jy,hy.jy,hu];exact h
  .rename_i a c hu;rw[hx.q8,hy.q8,hu];exact h
  .cases h
theorem aiS {top:Nat->Nat}{t:TypeId}{x y:aA R.T}{v w:V}{r:Bool}(h:R4 E t x y=some r)(hx:aC R Z top x v)(hy:aC R Z top y w):vk E.P t v w=some r:=by
 unfold R4 at h;unfold vk;split at h
 .rename_i fs xs ys hu;split at h
  .cases h
  .rename_i hs;have:=SE 8 t _ _ v w r h hx hy;obtain⟨l,rfl,h1⟩:=hx.mY;obtain⟨k,rfl,h2⟩:=hy.mY;rw[hu];dsimp only;rw[if_neg hs];exact this
 .rename_i fs xs ys hu;split at h
  .cases h
  .rename_i hs;have:=SE 8 t _ _ v w r h hx hy;obtain⟨l,rfl,h1⟩:=hx.mY;obtain⟨k,rfl,h2⟩:=hy.mY;rw[hu];dsimp only;rw[if_neg hs];exact this
 .rename_i hu;cases h;unfold aC at hx hy;subst hx;subst hy;rw[hu]
 .rename_i hu;cases h;obtain⟨a,b,rfl,_⟩:=hy.pF;unfold aC at hx;subst hx;rw[hu]
 .rename_i hu;cases h;obtain⟨a,b,rfl,_⟩:=hx.pF;unfold aC at hy;subst hy;rw[hu]
 .rename_i hu;obtain⟨a,c,rfl,rfl,rfl⟩:=aiQ h hx hy;rw[hu]
 .cases h
end
section
variable {R:jV}{E:Env}
variable {Z:bC}{top:Nat->Nat}
def ru (Z:bC)(top:Nat->Nat)(v:Option V):fC R->Prop
 |.t x=>∃y,v=some y/\aC R Z top x y|.c c x=>c=true->∃y,v=some y/\aC R Z top x y|.p _ _ o f=>∀a,o=some a->∃y,v=some y/\aC R Z top (f a) y|_=>False
theorem aiT {op:BinOp}{k:IntKind}{x y:Int}{r:fC R}(h:R5 R op k x y=some r):ru Z top (nH op k x y) r:=by
 unfold R5 at h;cases op<;>cases h<;>first
  |exact⟨_,rfl,gY⟩
  | (intro hc
     have hy:¬y=0:=(by simpa using hc);exact⟨_,if_neg hy,gY⟩)
theorem atY {op:BinOp}{k:IntKind}{x y:Int}{r:fC R}(h:Xv R op k x y=some r):ru Z top (Lu op k x y) r:=by
 unfold Xv at h;cases op<;>cases h<;>
  (intro hc
   have hy:¬y<0:=by have:=of_decide_eq_true hc;omega
   exact⟨_,if_neg hy,gY⟩)
theorem atZ {op:BinOp}{x y:List UInt8}{r:fC R}(h:Xw R op x y=some r):ru Z top (Ca op x y) r:=by
 unfold Xw at h;cases op<;>cases h<;>first
  |exact⟨_,rfl,gY⟩
  | (intro hc
     have hy:¬((x.length+y.length:Nat):Int)>IntKind.i64.max:=(by have:=of_decide_eq_true hc;omega);exact⟨_,if_neg hy,gY⟩)
theorem at0 {P:Program}{op:BinOp}{t:TypeId}{k:IntKind}{a b:Int}(h:Iq op=false):sN P op t (.int k a) (.int k b)=nH op k a b:=by
 cases op<;>first| (simp[Iq] at h;done)|simp[sN]
theorem at1 {P:Program}{op:BinOp}{t:TypeId}{k k':IntKind}{a b:Int}(h:Iq op=true):sN P op t (.int k a) (.int k' b)=Lu op k a b:=by
 cases op<;>first| (simp[Iq] at h;done)|rfl
theorem at5 {P:Program}{op:BinOp}{t:TypeId}{a b:List UInt8}:sN P op t (.str a) (.str b)=Ca op a b:=by
 cases op<;>rfl
theorem at6 {P:Program}{t:TypeId}{x y:V}{b:Bool}(h:vk P t x y=some b):(∀k n k' m,x= .int k n->y= .int k' m->False)/\∀s s',x= .str s->y= .str s'->False:=by
 unfold vk at h;constructor
 .intro k n k' m hx hy;subst hx;subst hy;split at h<;>simp_all
 .intro s s' hx hy;subst hx;subst hy;split at h<;>simp_all
theorem aiU {P:Program}{t:TypeId}{x y:V}{b:Bool}(h:vk P t x y=some b):sN P .eql t x y=some (.bool b)/\sN P .neq t x y=some (.bool !b):=by
 obtain⟨h1,h2⟩:=at6 h;constructor;all_goals
  unfold sN;split
  .rename_i he;cases he
  .rename_i he;cases he
  .exact(h1 _ _ _ _ rfl rfl).elim
  .exact(h2 _ _ rfl rfl).elim
  all_goals first| (rw[h];rfl)| (rename_i he;cases he)|simp_all
theorem at7 {op:BinOp}{t:TypeId}{x y:aA R.T}{v w:V}{r:fC R}(h:Xx E R op t x y=some r)(hx:aC R Z top x v)(hy:aC R Z top y w):ru Z top (sN E.P op t v w) r:=by
 unfold Xx at h;split at h
 .rename_i k a k' b;rw[hx.jy,hy.jy];cases hs:Iq op
  .rw[hs,cond_false] at h;split at h
   .rename_i e;subst e;rw[at0 hs];exact aiT h
   .cases h
  .rw[hs,cond_true] at h;rw[at1 hs];exact atY h
 .rw[hx.q8,hy.q8,at5];exact atZ h
 .split at h
  .split at h
   .rename_i b hb;cases h;exact⟨_,(aiU (aiS hb hx hy)).1,gY⟩
   .cases h
  .split at h
   .rename_i b hb;cases h;exact⟨_,(aiU (aiS hb hx hy)).2,gY⟩
   .cases h
  .cases h
theorem aua {op:UnOp}{x:aA R.T}{v:V}{r:fC R}(h:Xy R op x=some r)(hx:aC R Z top x v):ru Z top (EA op v) r:=by
 unfold Xy at h;split at h
 .cases h;rw[hx.jy];exact⟨_,rfl,gY⟩
 .rw[hx.jy];exact aiT h
 .cases h;rw[hx.rY];exact⟨_,rfl,gY⟩
 .cases h;rw[hx.vO];exact⟨_,rfl,gY⟩
 .cases h
theorem aub (s:List UInt8):s.map wJ=List.map (aU R (.int .u8)) (s.map fun b=>(b.toNat:Int)):=by show s.map wJ=List.map (fun n:Int=>V.int .u8 n) (List.map (fun b:UInt8=>(b.toNat:Int)) s);rw[Ap];rfl
theorem Yg:∀l:List Int,(List.map (aU R (.int .u8)) l).mapM EB=some (List.map (fun n:Int=>UInt8.ofNat n.toNat) l)
 | []=>rfl|n::l=>by show List.mapM EB (V.int .u8 n::List.map (aU R (.int .u8)) l)=_;rw[iN,Yg l];rfl
theorem auc {a b:TypeId}{x:aA R.T}{v:V}{Y:ah}{r:fC R}(h:R6 E R a b x=some r)(hx:aC R Z top x v):ru Z top (Ar E.P Y a b v) r:=by
 unfold R6 at h;unfold Ar;split at h
 .rename_i hu hv;cases h;rw[hx.jy,hu,hv];exact⟨_,rfl,gY⟩
 .rename_i hu hv;cases h;rw[hx.q8,hu,hv];exact⟨_,rfl,gY⟩
 .rename_i l hu hv;obtain⟨c',rfl,_⟩:=hx.mZ;rw[hu,hv];split at h
  .rename_i he;cases h;dsimp only;rw[he];exact⟨_,congrArg (Option.map V.str) (Yg (R:=R) l),gY⟩
  .cases h
 .rename_i hu hv;rw[hx.uI,hu,hv];split at h
  .rename_i he;cases h;dsimp only;rw[he];exact⟨_,rfl,gY⟩
  .cases h
 .cases h
theorem CZ {x:Option (aA R.T)}{v:Option V}{i:Option Int}(h:CF R x=some i)(hx:∀y,x=some y->∃w,v=some w/\aC R Z top y w)(hn:x=none->v=none):(i=none/\v=none)\/∃n k,i=some n/\v=some (.int k n):=by
 unfold CF at h;split at h
 .cases h;exact .inl ⟨rfl,hn rfl⟩
 .rename_i k n;cases h;obtain⟨w,rfl,hw⟩:=hx _ rfl;exact .inr ⟨n,k,rfl,by rw[hw.jy]⟩
 .cases h
theorem vQ {k:IntKind}{n:Int}{m:Nat}(h:jl n m=true):bnd (.int k n) m=some n.toNat:=by unfold jl at h;have:=of_decide_eq_true h;simp[bnd,pU,this]
theorem aiV {U:Type}(l:List U){lo hi:Option Int}{vl vh:Option V}(hl:(lo=none/\vl=none)\/∃n k,lo=some n/\vl=some (.int k n))(hh:(hi=none/\vh=none)\/∃n k,hi=some n/\vh=some (.int k n))(hb:Xz l.length lo hi=true):
 ∃a c,jE l.length l.length vl vh none=some (a,c,l.length)/\(l.take c).drop a=uE l lo hi:=by
 rcases hl with ⟨rfl,rfl⟩| ⟨n,k,rfl,rfl⟩<;>rcases hh with ⟨rfl,rfl⟩| ⟨m,k',rfl,rfl⟩
 .exact⟨0,l.length,rfl,by simp[uE]⟩
 .have h1:jl m l.length=true:=hb;exact⟨0,m.toNat,by simp[jE,vQ h1],by simp[uE]⟩
 .have h1:jl n l.length=true:=hb;exact⟨n.toNat,l.length,by simp[jE,vQ h1],by simp[uE]⟩
 .have h1:(jl m l.length&& jl n m.toNat)=true:=hb;rw[aZ] at h1;exact⟨n.toNat,m.toNat,by simp[jE,vQ h1.1,vQ h1.2],by simp[uE]⟩
theorem Yh {U:Type}(f:U->V)(l:List U)(a c:Nat):((l.map f).take c).drop a=((l.take c).drop a).map f:=aD
variable (hR:rX R)
include hR
theorem I4 (t:Ty)(x:Den R.T t):(aU R t x).cells.length=dL R t/\dx (aU R t x).cells=true/\er (aU R t x)=aU R t x/\(jJ t=true->∃l,aU R t x= .agg l)/\(jJ t=false->(aU R t x).cells=[aU R t x]):=by
 cases t with
 |int k=>exact⟨rfl,rfl,rfl,by simp[jJ],fun _=>rfl⟩
 |bool=>exact⟨rfl,rfl,rfl,by simp[jJ],fun _=>rfl⟩
 |str=>exact⟨rfl,rfl,rfl,by simp[jJ],fun _=>rfl⟩
 |slice t=>exact⟨rfl,rfl,rfl,by simp[jJ],fun _=>rfl⟩
 |st n=>
  have he:aU R (.st n) x= .agg (encs R (R.lf n) (R.of n x)):=hR.enc n x;rw[he];have hl:=hR.leaf n;have key:∀(l:List Ty)(p:qB R.T l),l.all pX=true->dx (encs R l p)=true/\(encs R l p).map gH=encs R l p:=by
   intro l;induction l with
   |nil=>intro p _;exact⟨rfl,rfl⟩|cons t l ih=>
    intro p h;rw[List.all_cons,aZ] at h;have h1:∀y:Den R.T t,oneCell (aU R t y)=true/\gH (aU R t y)=aU R t y:=(by intro y;cases t<;>first|exact⟨rfl,rfl⟩| (have:=h.1;simp[pX] at this));cases l with
    |nil=>exact⟨by simp[encs,dx,(h1 p).1],by simp[encs,(h1 p).2]⟩|cons u l=>have:=ih p.2 h.2;exact⟨by show (oneCell _&& dx (encs R (u::l) p.2))=true;rw[(h1 p.1).1,this.1];rfl,by show gH _::List.map gH (encs R (u::l) p.2)=_;rw[(h1 p.1).2,this.2];rfl⟩
  have:=key (R.lf n) (R.of n x) hl;exact⟨XV _ _,this.1,by show V.agg (List.map gH _)=_;rw[this.2],fun _=>⟨_,rfl⟩,by simp[jJ]⟩
theorem M0 {t:Ty}(l:List (Den R.T t)):oK (dL R t) (l.map (aU R t))=true:=by
 cases l with
 |nil=>rfl|cons x l=>show ((aU R t x).cells.length==dL R t)=true;rw[(I4 hR t x).1];simp
theorem aud {t:TypeId}{x:aA R.T}{lo hi:Option (aA R.T)}{v:V}{vl vh:Option V}{Y:ah}{r:fC R}(h:R7 E R t x lo hi=some r)(hx:aC R Z top x v)(hl:∀y,lo=some y->∃w,vl=some w/\aC R Z top y w)(hln:lo=none->vl=none)(hh:∀y,hi=some y->∃w,vh=some w/\aC R Z top y w)(hhn:hi=none->vh=none):ru Z top (lF E.P Y t v vl vh none) r:=by
 unfold R7 at h;split at h
 .rename_i lo' hi' e1 e2;have b1:=CZ e1 hl hln;have b2:=CZ e2 hh hhn;split at h
  .rename_i s hu;cases h;rw[hx.q8];intro hc;obtain⟨a,c,h1,h2⟩:=aiV s b1 b2 hc;refine⟨.str (uE s lo' hi'),?_,gY⟩;unfold lF;rw[hu];dsimp only;rw[h1];simp[h2]
  .rename_i e c u l hu;split at h
   .rename_i sz hs;cases hb:Nat.beq sz (dL R u)
    .rw[hb] at h;cases h
    .rw[hb,cond_true] at h;cases h;have:=fT hb;subst this;obtain⟨c',rfl,_⟩:=hx.mZ;intro hc;obtain⟨a,m,h1,h2⟩:=aiV l b1 b2 hc;unfold lF;rw[hu];dsimp only;rw[hs];simp only[Option.bind_some,fH,h1,M0 hR,if_true];by_cases hcs:a=0/\m=l.length/\(none:Option V).isNone=true
     .refine⟨_,by rw[if_pos hcs],?_⟩;unfold aC;refine⟨c',?_,trivial⟩;rw[<-h2,hcs.1,hcs.2.1];simp
     .refine⟨_,by rw[if_neg hcs],?_⟩;unfold aC;exact⟨_,by rw[<-h2,Yh],trivial⟩
   .cases h
  .cases h
 .cases h
omit hR in
end
section
variable {R:jV}{E:Env}
variable {Z:bC}{top:Nat->Nat}{b:Nat}{st:aO R.T}{fr:Fr}{Y:ah}
theorem gG.{u} {U:Type u}{c:Bool}{o:Option U}{y:U}(h:(bif c then o else none)=some y):c=true/\o=some y:=by
 cases c
 .cases h
 .exact⟨rfl,h⟩
theorem SF {t e:TypeId}{u:Ty}{sz gI:Nat}(h:Iw E R t=some (e,u,sz,gI)):∃z,lT E.P t=some e/\dM E.P e=some sz/\u7 E.P e=some gI/\jU E.P e=some (jJ u)/\jc E.P e=some z/\
 sz=dL R u/\0<sz/\(jJ u||sz==1)=true/\z.cells.length=sz:=by
 unfold Iw at h;split at h
 .rename_i e' he;split at h
  .rename_i u' sz' by' ag z h1 h2 h3 h4 h5;obtain⟨hc,h⟩:=gG h;cases h;simp only[aZ] at hc;obtain⟨⟨⟨⟨c1,c2⟩,c3⟩,c4⟩,c5⟩:=hc;have:ag=jJ u:=by simpa using c5
   subst this;refine⟨z,he,h2,h3,h4,h5,fT c1,oJ c2,?_,fT c4⟩;rw[wI] at c3⊢;rcases c3 with c3|c3
   .exact .inl c3
   .exact .inr (by rw[fT c3];rfl)
  .cases h
 .cases h
theorem Yi (ag:Bool)(sz:Nat):∀vs:List V,(∀v∈vs,v.cells.length=sz)->chunks ag sz vs.length (vs.flatMap V.cells)=vs.map fun v=>if ag then .agg v.cells else v.cells.headD aP
 | [],_=>rfl|v::vs,h=>by
  have h1:=h v aD;have h2:=Yi ag sz vs (fun w hw=>h w (by simp[hw]));show _::chunks ag sz vs.length ((v.cells++vs.flatMap V.cells).drop sz)=_;rw[List.drop_left' h1,h2,iH];congr 1;cases ag
  .simp only[dG,if_false];show (v.cells++vs.flatMap V.cells).headD aP=_;cases hv:v.cells with
   |nil=>
    have h0:sz=0:=(by rw[<-h1,hv];rfl);cases vs with
    |nil=>rfl|cons w vs=>have:w.cells=[]:=qo (by rw[h w aD,h0]);simp only[kT,this,List.nil_append];have:∀vs:List V,(∀v∈vs,v.cells.length=sz)->vs.flatMap V.cells=[]:=(by intro vs hvs;rw[List.flatMap_eq_nil_iff];intro x hx;exact qo (by rw[hvs x hx,h0]));rw[this vs (fun x hx=>h x (by simp[hx]))]
   |cons a l=>rfl
  .simp only[if_true];show V.agg ((v.cells++vs.flatMap V.cells).take sz)=_;rw[List.take_left' h1]
variable (hR:rX R)
include hR
theorem aue {t:Ty}{x:Den R.T t}{v:V}(h:er v=aU R t x):fE v=true:=by
 cases v<;>try rfl
 have h1:=q9 hR t x;rw[<-h] at h1;simp[er,aR] at h1
theorem Yj {u:Ty}{sz len:Nat}(hsz:sz=dL R u):∀(ps:List (Nat×aA R.T))(qs:List (Nat×V))(xs:List (Den R.T u))(n:Nat)(done rest:List V),AP R u n ps=some xs->ps.map (·.1)=qs.map (·.1)->
 aJ R Z top (ps.map (·.2)) (qs.map (·.2))->done.length=n*sz->rest.length=xs.length*sz->n+xs.length<=len->
 ∃vs:List V,sM (fun i=>if i<len then some (i*sz,sz) else none) (done++rest) qs=some (done++vs.flatMap V.cells)/\vs.length=xs.length/\vs.map er=xs.map (aU R u)/\(∀v∈vs,v.cells.length=sz/\dx v.cells=true)/\aJ R Z top (xs.flatMap fun x=>(je R .any u x).cells) (vs.flatMap V.cells)
 | [],[],xs,n,done,rest,h,_,_,h1,h2,_=>by
   cases h;have:rest=[]:=qo uV;subst this;exact⟨[],by simp[sM],rfl,rfl,aD,bD⟩
 | [],_::_,_,_,_,_,_,h,_,_,_,_=>wH|_::_,[],_,_,_,_,_,h,_,_,_,_=>wH| (i,v)::ps,(j,w)::qs,xs,n,done,rest,h,hi,hr,h1,h2,h3=>by
   simp only[iH,sJ] at hi;obtain⟨rfl,hi⟩:=hi;obtain⟨y,ys,e,g1,g2⟩:=hr.fZ;simp only[iH,sJ] at e;obtain⟨rfl,rfl⟩:=e;unfold AP at h;cases hb:Nat.beq i n
   .rw[hb] at h;cases h
   .rw[hb,cond_true] at h;have:=fT hb;subst this;cases hu:AO R u v with
    |none=>simp only[hu] at h;cases h|some x=>
     cases hs:AP R u (i+1) ps with
     |none=>simp only[hu,hs] at h;cases h|some xs'=>
      simp only[hu,hs] at h;obtain rfl:=kS h;obtain⟨a1,a2,a3,a4,a5⟩:=ail hR hu g1;rw[<-hsz] at a4;have hlen:rest.length=sz+xs'.length*sz:=(by rw[h2,List.length_cons,sI];omega);have q1:(done++w.cells).length=(i+1)*sz:=(by rw[fG,h1,a4,sI]);have q2:(rest.drop sz).length=xs'.length*sz:=(by rw[qj,hlen,Aq]);have q3:i+1+xs'.length<=len:=(by rw[List.length_cons] at h3;omega);obtain⟨vs,k1,k2,k3,k4,k5⟩:=Yj hsz ps qs xs' (i+1) (done++w.cells) (rest.drop sz) hs hi g2 q1 q2 q3;refine⟨w::vs,?_,by simp[k2],by simp[a1,k3],?_,?_⟩
      .simp only[List.length_cons] at h3;unfold sM;simp only[if_pos (show i<len by omega)];rw[if_pos ⟨a4,by rw[fG,h1,hlen];exact Nat.add_le_add_left (mg _ _) _,aue hR a1⟩];have:gM (done++rest) (i*sz) w.cells=done++w.cells++rest.drop sz:=(by unfold gM;rw[List.take_left' h1,a4,Es,h1,Aq,nG RS];rfl);rw[this,k1];simp
      .intro z hz;rcases jr.1 hz with rfl|hz
       .exact⟨a4,a5⟩
       .exact k4 z hz
      .rw[kT,kT];refine aJ.append ?_ k5;have h1:=SA hR hu g1;refine(yK ?_ h1).1;cases u<;>rfl
theorem auf {u:Ty}{sz:Nat}(hsz:sz=dL R u)(h1:(jJ u||sz==1)=true){v:V}{x:Den R.T u}(he:er v=aU R u x)(hl:v.cells.length=sz):er (if jJ u then .agg v.cells else v.cells.headD aP)=aU R u x:=by
 cases hs:jJ u
 .simp only[dG,if_false];have hne:∀cs,v≠ .agg cs:=by rintro cs rfl;cases u<;>first| (simp[jJ] at hs;done)| (simp[er,aU] at he;done)
  have:v.cells=[v]:=by cases v<;>first|rfl|exact absurd rfl (hne _)
  rw[this];exact he
 .simp only[if_true];obtain⟨l,hl'⟩:=(I4 hR u x).2.2.2.1 hs;cases v<;>first|exact he| (rw[hl'] at he;simp[er] at he)
omit hR in
theorem aiW {u:Ty}:∀(ps:List (Nat×aA R.T))(n:Nat)(xs:List (Den R.T u)),AP R u n ps=some xs->xs.length=ps.length:=by
 intro ps;induction ps with
 |nil=>intro n xs h;cases h;rfl|cons p ps ih=>
  intro n xs h;obtain⟨i,v⟩:=p;unfold AP at h;obtain⟨_,h⟩:=gG h;cases hu:AO R u v with
  |none=>simp only[hu] at h;cases h|some x=>
   cases hs:AP R u (n+1) ps with
   |none=>simp only[hu,hs] at h;cases h|some xs'=>simp only[hu,hs] at h;cases h;simp[ih _ _ hs]
theorem aug {t:TypeId}{len:Nat}{ps:List (Nat×aA R.T)}{qs:List (Nat×V)}{r:fC R}(h:XA E R t len ps=some r)(hi:ps.map (·.1)=qs.map (·.1))(hr:aJ R Z top (ps.map (·.2)) (qs.map (·.2))):ru Z top (Cb E t len qs) r:=by
 unfold XA at h;split at h
 .rename_i e u sz gI he;obtain⟨z,e1,e2,e3,e4,e5,e6,e7,e8,e9⟩:=SF he
  .obtain⟨hc,h⟩:=gG h;rw[aZ] at hc;split at h
   .rename_i xs hx;cases h;have hlen:xs.length=len:=(by rw[aiW ps 0 xs hx];exact fT hc.2);obtain⟨vs,k1,k2,k3,k4,_⟩:=Yj hR (len:=len) e6 ps qs xs 0 [] ((List.replicate len z.cells).flatten) hx hi hr aD (by simp[e9,hlen]) RS;refine⟨.ak .full (xs.map (aU R u)),?_,by unfold aC;exact⟨.full,rfl,rfl⟩⟩;unfold Cb;rw[e1];simp only[Option.bind_some,e2,e4,e5];rw[if_pos ⟨oJ hc.1,e9,e7,e8⟩];rw[List.nil_append,List.nil_append] at k1;rw[k1];simp only[Option.bind_some];have hone:dx (vs.flatMap V.cells)=true:=(by unfold dx;rw[List.all_flatMap,lK];intro v hv;exact(k4 v hv).2);rw[hone,if_pos rfl,<-hlen,<-k2,Yi _ _ _ (fun v hv=>(k4 v hv).1),Ap];congr 2;have:∀(vs:List V)(xs:List (Den R.T u)),vs.map er=xs.map (aU R u)->(∀v∈vs,v.cells.length=sz/\dx v.cells=true)->vs.map (er∘fun v=>if jJ u then .agg v.cells else v.cells.headD aP)=xs.map (aU R u):=by
     intro vs;induction vs with
     |nil=>intro xs h _;exact h|cons v vs ih=>
      intro xs h hk;cases xs with
      |nil=>simp at h|cons x xs=>simp only[iH,sJ] at h;rw[iH,iH,ih xs h.2 (fun w hw=>hk w (by simp[hw]))];congr 1;exact auf hR e6 e8 h.1 (hk v aD).1
    rw[this vs xs k3 k4]
   .cases h
 .cases h
theorem Yk {u:Ty}(l:List (Den R.T u)):(l.map (aU R u)).all (fun v=>dx v.cells)=true:=by simp[List.all_map,(I4 hR u _).2.1]
theorem Yl {u:Ty}{ag:Bool}{y:aA R.T}{v z:V}{l:List (Den R.T u)}(h:MJ R u y=some l)(hy:aC R Z top y v):nQ Y ag (dL R u) z v=some (l.map (aU R u))/\zk v=false:=by
 unfold MJ at h;split at h
 .obtain⟨e,e2⟩:=vP h;subst e;cases e2;obtain⟨c',rfl,_⟩:=hy.mZ;exact⟨by show (if oK _ _=true then _ else _)=_;rw[if_pos (M0 hR _)],rfl⟩
 .cases h;rw[hy.uI];exact⟨rfl,rfl⟩
 .rename_i s;obtain⟨e,e2⟩:=vP h;subst e;cases e2;rw[hy.q8];exact⟨by show (if 1=1 then some (s.map wJ) else none)=_;rw[if_pos rfl];exact congrArg some (aub (R:=R) s),rfl⟩
 .cases h
theorem auh {t e:TypeId}{sz gI:Nat}{ag:Bool}{z:V}{c:Cap}{l ys:List V}{y:V}{loc:Option Loc}{aN:Nat}{P:Program}(h1:lT P t=some e)(h2:dM P e=some sz)(h3:u7 P e=some gI)(h4:jU P e=some ag)(h5:jc P e=some z)(h6:z.cells.length=sz)(h7:0<sz)(h8:(ag||sz==1)=true)(hy:nQ Y ag sz z y=some ys)(hi:zk y=false)(ho:ys.all (fun v=>dx v.cells)=true)(hr:bZ (l.length+ys.length) gI=true)(hh:oK sz l=true):
 kI P false false Y aN loc t (.ak c l) y=match c with
  |.own n s=>if n=sz/\Y.top s=l.length then some (.ak (.own n s) (l++ys),Y.eB s (l.length+ys.length)) else none|.nil|.full=>some (.ak (.own sz aN) (l++ys),Y.eB aN (l.length+ys.length))|_=>none:=by
 unfold kI;simp only[h1,h2,h3,h4,h5,Option.bind_some,hi,hy,ho,if_true];rw[if_pos ⟨trivial,h6,h7,h8⟩];simp only[hr,hh,and_self,if_true];cases c<;>rfl
theorem aui {d:Option Nat}{t u:TypeId}{x y:aA R.T}{v w:V}{r:fC R}{aN:Nat}{loc:Option Loc}{o:Oper}(h:MK E R d t u x y st=some r)(hx:aC R Z Y.top x v)(hy:aC R Z Y.top y w)(hi:aT Z aN st fr Y)(ho:∀y Y',kI E.P false false Y aN loc t v w=some (y,Y')->oC E fr Y aN o y Y'):tF E st Z aN fr Y o r:=by
 unfold MK at h;split at h
 .rename_i d;split at h
  .rename_i e τ sz gI he;obtain⟨z,e1,e2,e3,e4,e5,e6,e7,e8,e9⟩:=SF he
   .obtain⟨hss,h⟩:=gG h;split at h
    .rename_i tk l l' hd hs;cases h;intro hroom;subst e6;obtain⟨g1,g2⟩:=Yl hR (ag:=jJ τ) (z:=z) (Y:=Y) hs hy;have hlen:bZ ((l.map (aU R τ)).length+(l'.map (aU R τ)).length) gI=true:=(by rw[fH,fH];exact hroom);have hap:∀c,kI E.P false false Y aN loc t (.ak c (l.map (aU R τ))) w=_:=fun c=>auh hR (Y:=Y) (c:=c) (loc:=loc) (aN:=aN) e1 e2 e3 e4 e5 e9 e7 e8 g1 g2 (Yk hR l') hlen (M0 hR l);have fresh:∀(c:Cap),(c= .nil\/c= .full)->v= .ak c (l.map (aU R τ))->∃x Y' Z',oC E fr Y aN o x Y'/\aT Z' (aN+1) (st.wk tk) fr Y'/\Y'.next=Y.next/\aC R Z' Y'.top (.ak (.own tk) τ (l++l')) x/\∀p,qF E o p->bT true p st Z Y (st.wk tk) Z' Y':=by
      intro c hc hv;subst hv;have:=hap c;refine⟨.ak (.own (dL R τ) aN) (l.map (aU R τ)++l'.map (aU R τ)),Y.eB aN ((l.map (aU R τ)).length+(l'.map (aU R τ)).length),Z.jN tk aN,ho _ _ (by rw[this];rcases hc with rfl|rfl<;>rfl),?_,rfl,?_,?_⟩
      .exact hi.wk tk aN _ (kU _) (Er _) hi.nx (fun u _ hu=>Lf)
      .unfold aC;exact⟨_,by rw[qM],.inr (.inr ⟨aN,rfl,by simp[bC.jN,upd],by rw[Mt];simp⟩)⟩
      .exact fun p _=>bT.wk hi.nx
     unfold ahV at hd;split at hd
     .rename_i l0;split at hd
      .rename_i l1 hl1;cases hd;obtain⟨e,e2⟩:=vP hl1;subst e;cases e2;obtain⟨c',rfl,hc'⟩:=hx.mZ;exact fresh c' (.inl hc') rfl
      .cases hd
     .rename_i l0;split at hd
      .rename_i l1 hl1;cases hd;obtain⟨e,e2⟩:=vP hl1;subst e;cases e2;obtain⟨c',rfl,hc'⟩:=hx.mZ;exact fresh c' (.inr hc') rfl
      .cases hd
     .rename_i tk' gW l0;split at hd
      .rename_i l1 hl1;cases hd;obtain⟨e,e2⟩:=vP hl1;subst e;cases e2;obtain⟨c',rfl,hc'⟩:=hx.mZ;rcases hc' with hc'|hc'| ⟨s,hc',ht,hl⟩
       .exact fresh c' (.inl hc') rfl
       .exact fresh c' (.inr hc') rfl
       .subst hc';have:=hap (.own (dL R gW) s);dsimp only at this;rw[if_pos ⟨rfl,by rw[fH];exact hl⟩] at this;refine⟨_,_,Z.jN tk s,ho _ _ this,?_,rfl,?_,?_⟩
        .exact hi.wk tk s _ (kU _) (by have:=hi.lt tk s ht;omega) (hi.ge tk s ht) (fun u hu h'=>hu (hi.inj u tk s h' ht))
        .unfold aC;exact⟨_,by rw[qM],.inr (.inr ⟨s,rfl,by simp[bC.jN,upd],by rw[Mt];simp⟩)⟩
        .exact fun p _=>bT.wk (hi.ge tk s ht)
      .cases hd
     .cases hd;rw[hx.uI] at fresh;have hx':=hx.uI;subst hx';exact fresh .nil (.inl rfl) rfl
     .cases hd
    .cases h
  .cases h
 .cases h
omit hR in
theorem auj {t:TypeId}{x:aA R.T}{v:V}{n:Nat}(h:XD E t x st=some n)(hx:aC R Z Y.top x v)(hi:aT Z b st fr Y):vo E Y t v=some n:=by
 unfold XD at h;unfold vo;split at h
 .rename_i hu;cases h;obtain⟨c',rfl,_⟩:=hx.mZ;rw[hu];simp
 .rename_i hu;cases h;rw[hx.uI,hu];rfl
 .rename_i o t hu;split at h
  .rename_i t' l hl;cases h;have h1:=(hi.rd hl).1;rcases hx.AY with ⟨s,_,rfl⟩| ⟨h0,rfl|rfl⟩
   .rw[hu];dsimp only;rw[h1]
   .rw[hu];dsimp only;rw[h1,h0];rfl
   .rw[hu];dsimp only;rw[h1,h0];rfl
  .cases h
 .rename_i o' t' a' b' hu;cases h;rcases hx.Fv with ⟨_,_,_,⟨s,cp,_,_,rfl⟩| ⟨e,c,rfl⟩⟩
  .rw[hu]
  .rw[hu];dsimp only;rw[e,Int.sub_self];rfl
 .rename_i hu;cases h;rw[hx.q8,hu]
 .rename_i o hu;split at h
  .rename_i k e m hl;cases h;obtain⟨s,h1,rfl⟩:=hx.MU;obtain⟨s',h2,h3⟩:=hi.rd hl;rw[h1] at h2;cases h2;rw[hu];dsimp only;rw[h3];simp
  .cases h
 .rename_i hu;cases h;rw[hx.Fu,hu];simp
 .rename_i hu;cases h;unfold aC at hx;subst hx;rw[hu]
 .rename_i hu;cases h;rw[hu]
 .cases h
omit hR in
theorem Ym (mx:Bool):∀{l:List (aA R.T)}{x y:aA R.T}{v:V}{k:List V},Iz mx x l=some y->aC R Z top x v->aJ R Z top l k->∃w,yc mx v k=some w/\aC R Z top y w
 | [],x,y,v,k,h,hx,hl=>by rw[hl.jq];unfold Iz at h;cases h;exact⟨v,by cases v<;>rfl,hx⟩|z::l,x,y,v,k,h,hx,hl=>by
  obtain⟨w,ws,rfl,h1,h2⟩:=hl.fZ;unfold Iz at h;split at h
  .rename_i hz;cases hz
  .rename_i k a k' b l' hz;simp only[sJ] at hz;obtain⟨rfl,rfl⟩:=hz;split at h
   .rename_i e;subst e;rw[hx.jy,h1.jy];unfold yc;rw[if_pos rfl];refine Ym mx h ?_ h2;unfold aC;cases mx<;>rfl
   .cases h
  .cases h
omit hR in
theorem aiX (c:Cp):∀(l:List Ty)(p:qB R.T l),(mW R c l p).length=l.length
 | [],_=>rfl| [_],_=>rfl|_::u::l,p=>by show (mW R c (u::l) p.2).length+1=_;rw[aiX c (u::l)];rfl
omit hR in
theorem I5 (c:Cp)(t:Ty)(x:Den R.T t):(je R c t x).cells.length=dL R t:=by
 cases t with
 |st n=>exact aiX c _ _|_=>rfl
omit hR in
theorem aiY {U β:Type}{f:U->List β}{sz:Nat}(hf:∀x,(f x).length=sz):∀(n:Nat)(l:List U),(l.flatMap f).drop (n*sz)=(l.drop n).flatMap f
 |0,l=>aD|n+1,[]=>aD|n+1,x::l=>by rw[kT,List.drop_succ_cons,<-aiY hf n l,sI,Nat.add_comm,<-List.drop_drop,<-hf x,List.drop_left]
omit hR in
theorem aiZ {U β:Type}{f:U->List β}{sz:Nat}(hf:∀x,(f x).length=sz):∀(n:Nat)(l:List U),(l.flatMap f).take (n*sz)=(l.take n).flatMap f
 |0,l=>aD|n+1,[]=>aD|n+1,x::l=>by rw[kT,List.take_succ_cons,kT,<-aiZ hf n l,sI,Nat.add_comm,<-hf x,List.take_length_add_append]
omit hR in
theorem ai0 {U:Type}{l:List U}{a b:Int}(h0:0<=a)(h1:a<=b):E8 l a b=(l.drop a.toNat).take (b-a).toNat:=by unfold E8;rw[List.take_drop];congr 2;omega
omit hR in
theorem auk {t:Ty}{l:List (Den R.T t)}{cs:List V}{Z:bC}{top:Nat->Nat}{a b:Int}(h0:0<=a)(h1:a<=b)(h:aJ R Z top (l.flatMap fun x=>(je R .any t x).cells) cs):aJ R Z top ((E8 l a b).flatMap fun x=>(je R .any t x).cells) ((cs.drop (a.toNat*dL R t)).take ((b-a).toNat*dL R t)):=by rw[ai0 h0 h1,<-aiZ (fun x=>I5 .any t x),<-aiY (fun x=>I5 .any t x)];exact(h.drop _).take _
omit hR in
theorem Fz (t:Ty):∀l:List (Den R.T t),(l.flatMap fun x=>(je R .any t x).cells).length=l.length*dL R t
 | []=>aD|x::l=>by rw[kT,fG,I5,Fz t l,List.length_cons,sI];omega
omit hR in
theorem ai1 {U:Type}:∀{l:List U}{i:Nat}{x:U},l[i]? =some x->∃a b,l=a++x::b/\a.length=i
 | [],_,_,h=>wH|y::l,0,x,h=>by simp at h;subst h;exact⟨[],l,rfl,rfl⟩|y::l,i+1,x,h=>by obtain⟨a,b,rfl,hl⟩:=ai1 (l:=l) (i:=i) ze;exact⟨y::a,b,rfl,by simp[hl]⟩
omit hR in
theorem aul {U:Type}{l:List U}{i:Int}{x:U}(h:aG l i=some x):∃a b,l=a++x::b/\a.length=i.toNat/\0<=i:=by
 unfold aG at h;split at h
 .rename_i hi;obtain⟨a,b,h1,h2⟩:=ai1 h;exact⟨a,b,h1,h2,hi.1⟩
 .cases h
omit hR in
theorem aum {ag:Bool}{n off:Nat}{pre el post:List (aA R.T)}{v:aA R.T}(h:RY ag n el off=some v):RY ag n (pre++el++post) (pre.length+off)=some v:=by
 cases ag with
 |true=>
  have h':(bif Nat.ble (off+n) el.length then some (aA.agg ((el.drop off).take n)) else none)=some v:=h;obtain⟨hb,h'⟩:=gG h';have hle:=oJ hb;show (bif Nat.ble (pre.length+off+n) (pre++el++post).length then some (aA.agg (((pre++el++post).drop (pre.length+off)).take n)) else none)=some v;have hb':Nat.ble (pre.length+off+n) (pre++el++post).length=true:=Nat.ble_eq_true_of_le dw;rw[hb',cond_true,<-h'];congr 2;have e1:(pre++el++post).drop (pre.length+off)=(el++post).drop off:=by rw[fP,Es,nG RS];simp
  rw[e1,Es,List.take_append];have e2:n-(el.drop off).length=0:=dw
  rw[e2];simp
 |false=>
  have h':el[off]? =some v:=h;show (pre++el++post)[pre.length+off]? =some v;have hlt:off<el.length:=by rw[uX] at h';exact h'.1
  rw[fP,List.getElem?_append_right RS,Aq,VI hlt];exact h'
omit hR in
theorem aun {t:TypeId}{off:Nat}{pre el post:List (aA R.T)}{v:aA R.T}(h:ow E t el off=some v):ow E t (pre++el++post) (pre.length+off)=some v:=by
 unfold ow at h⊢;cases h1:jU E.P t with
 |none=>simp only[h1] at h;cases h|some a=>
  cases h2:dM E.P t with
  |none=>simp only[h1,h2] at h;cases h|some n=>simp only[h1,h2] at h⊢;exact aum h
omit hR in
theorem auo {t:TypeId}{off:Nat}{cs cs':List (aA R.T)}(hl:cs.length=cs'.length)(h:(ow E t cs off).isSome=true):∃v,ow E t cs' off=some v:=by
 unfold ow at h⊢;cases h1:jU E.P t with
 |none=>simp only[h1] at h;cases h|some a=>
  cases h2:dM E.P t with
  |none=>simp only[h1,h2] at h;cases h|some n=>
   simp only[h1,h2] at h⊢;cases a with
   |true=>
    have h':(bif Nat.ble (off+n) cs.length then some (aA.agg ((cs.drop off).take n)) else none).isSome=true:=h;cases hb:Nat.ble (off+n) cs.length
    .rw[hb] at h';cases h'
    .exact⟨.agg ((cs'.drop off).take n),by show (bif Nat.ble (off+n) cs'.length then _ else _)=_;rw[<-hl,hb];rfl⟩
   |false=>have h':cs[off]?.isSome=true:=h;have hlt:off<cs'.length:=(by rw[<-hl];simpa using h');exact⟨cs'[off],fI hlt⟩
omit hR in
theorem ai2 {o s:Nat}{τ:Ty}{l:List (Den R.T τ)}{i:Int}{y:Den R.T τ}(hO:gK Z Y o (.arr τ l))(hs:Z.ob o=some s)(hy:aG l i=some y):
 ∃a b cs,l=a++y::b/\a.length=i.toNat/\Y.dQ (Z.aj.lc o) s=some cs/\aJ R Z Y.top ((a.flatMap fun x=>(je R .any τ x).cells)++(je R .any τ y).cells++b.flatMap fun x=>(je R .any τ x).cells) cs/\(a.flatMap fun x=>(je R .any τ x).cells).length=i.toNat*dL R τ:=by
 obtain⟨a,b,rfl,h1,h2⟩:=aul hy;rcases hO.2 with h| ⟨s',cs,h3,h4,h5⟩
 .exact absurd h.1 aD
 .rw[hs] at h3;cases h3;refine⟨a,b,cs,rfl,h1,h4,?_,by rw[Fz,h1]⟩;rw[List.flatMap_append,kT] at h5;rw[fP];exact h5
omit hR in
theorem aup {t:TypeId}{o s off:Nat}{τ:Ty}{i:Int}{ob:bL R.T}{r:fC R}(h:XI E R t τ i off ob=some r)(hO:gK Z Y o ob)(hs:Z.ob o=some s):∃(l:List (Den R.T τ)) (f:Den R.T τ->aA R.T),r= .p (Den R.T τ) (H9 R τ) (aG l i) f/\
 ∀y,aG l i=some y->∃cs w,Y.dQ (Z.aj.lc o) s=some cs/\gT E.P t cs (i.toNat*dL R τ+off)=some w/\aC R Z Y.top (f y) w:=by
 unfold XI at h;split at h
 .rename_i gW l0;split at h
  .rename_i l1 hl;obtain⟨e,e2⟩:=vP hl;subst e;cases e2;obtain⟨hb,h⟩:=gG h;cases h;refine⟨l0,_,rfl,fun y hy=>?_⟩;obtain⟨a,b,cs,h1,h2,h3,h4,h5⟩:=ai2 hO hs hy;obtain⟨v,hv⟩:=auo (cs':=(je R .any gW y).cells) (by rw[I5,I5]) hb;have:=aun (pre:=a.flatMap fun x=>(je R .any gW x).cells) (post:=b.flatMap fun x=>(je R .any gW x).cells) hv;rw[h5] at this;obtain⟨w,hw,hr⟩:=A8 h4 this;exact⟨cs,w,h3,hw,by rw[hv];exact hr⟩
  .cases h
 .cases h
theorem auq {τ:Ty}{cs:List (aA R.T)}{x:Den R.T τ}{vs:List V}(h:XJ R τ cs=some x)(hr:aJ R Z top cs vs):aJ R Z top (je R .any τ x).cells vs:=by
 have one:∀(t:Ty)(x:Den R.T t),pX t=true->uz R t (hd1 R cs)=some x->aJ R Z top [AL R .any t x] vs:=by
  intro t x ht h;cases cs with
  |nil=>cases t<;>cases h|cons c cs=>
   cases cs with
   |nil=>obtain⟨v,l,rfl,h1,h2⟩:=hr.fZ;rw[h2.jq];exact .cons' (Fy hR h h1) rfl
   |cons c' cs=>cases t<;>cases h
 cases τ with
 |st n=>have:=SA hR (t:=.st n) (show AO R (.st n) (.agg cs)=some x from h) (v:=.agg vs) (by unfold aC;exact⟨vs,rfl,hr⟩);obtain⟨l,e,hl⟩:=aC.mY this;cases e;exact hl
 |int k=>exact one (.int k) x rfl h|bool=>exact one .bool x rfl h|str=>exact one .str x rfl h|slice t=>exact one (.slice t) x rfl h
omit hR in
theorem aur {U:Type}(pre el post vs:List U)(off:Nat)(h:off+vs.length<=el.length):(pre++el++post).take (pre.length+off)++vs++(pre++el++post).drop (pre.length+off+vs.length)=pre++(el.take off++vs++el.drop (off+vs.length))++post:=by
 have e1:(pre++el++post).take (pre.length+off)=pre++el.take off:=by rw[fP,List.take_append,rJ RS,Aq,List.take_append,Nat.sub_eq_zero_of_le RS];simp
 have e2:(pre++el++post).drop (pre.length+off+vs.length)=el.drop (off+vs.length)++post:=by rw[fP,Es,nG RS,show pre.length+off+vs.length-pre.length=off+vs.length by omega,Es,Nat.sub_eq_zero_of_le RS];simp
 rw[e1,e2];simp
theorem aus {o s off:Nat}{τ:Ty}{i:Int}{l:List (Den R.T τ)}{y y':Den R.T τ}{vc:List (aA R.T)}{vl:List V}(hO:gK Z Y o (.arr τ l))(hs:Z.ob o=some s)(hy:aG l i=some y)(hv:aJ R Z Y.top vc vl)(hle:off+vc.length<=dL R τ)(hu:XJ R τ (Il (je R .any τ y).cells off vc)=some y'):∃cs,Y.dQ (Z.aj.lc o) s=some cs/\i.toNat*dL R τ+off+vl.length<=cs.length/\aJ R Z Y.top ((bf l i y').flatMap fun x=>(je R .any τ x).cells) (gM cs (i.toNat*dL R τ+off) vl)/\(bf l i y').length=l.length:=by
 obtain⟨a,b,cs,rfl,h2,h3,h4,h5⟩:=ai2 hO hs hy;obtain⟨p1,post,rfl,g1,g2⟩:=h4.split;obtain⟨pre,el,rfl,g3,g4⟩:=g1.split;have l1:pre.length=i.toNat*dL R τ:=by rw[g3.length,h5]
 have l2:el.length=dL R τ:=by rw[g4.length,I5]
 have l3:=hv.length;refine⟨_,h3,?_,?_,?_⟩
 .rw[fG,fG];omega
 .have e:bf (a++y::b) i y'=a++y'::b:=by unfold bf;rw[<-h2,List.set_append_right _ _ (iR _),Nat.sub_self];rfl
  rw[e,List.flatMap_append,kT,<-fP];have e2:gM (pre++el++post) (i.toNat*dL R τ+off) vl=pre++gM el off vl++post:=by unfold gM;rw[<-l1];exact aur pre el post vl off RS
  rw[e2];exact(g3.append (auq hR hu (Yd off g4 hv))).append g2
 .unfold bf;rw[List.length_set]
theorem aut (τ:Ty)(x:Den R.T τ):aJ R Z top (je R .any τ x).cells (aU R τ x).cells:=by refine(yK ?_ (aib hR .any (.inl rfl) τ x)).1;cases τ<;>rfl
theorem I6 (τ:Ty):∀l:List (Den R.T τ),aJ R Z top (l.flatMap fun x=>(je R .any τ x).cells) ((l.map (aU R τ)).flatMap V.cells)
 | []=>rfl|x::l=>by rw[iH,kT,kT];exact(aut hR τ x).append (I6 τ l)
theorem auu {t e:TypeId}{sz gI:Nat}{ag:Bool}{z:V}{ys:List V}{x y:V}{loc:Option Loc}{aN:Nat}{P:Program}(h1:lT P t=some e)(h2:dM P e=some sz)(h3:u7 P e=some gI)(h4:jU P e=some ag)(h5:jc P e=some z)(h6:z.cells.length=sz)(h7:0<sz)(h8:(ag||sz==1)=true)(hy:nQ Y ag sz z y=some ys)(hi:zk y=false)(ho:ys.all (fun v=>dx v.cells)=true):
 kI P true false Y aN loc t x y=match x with
  |.ak c l=>if bZ (l.length+ys.length) gI=true/\oK sz l=true then match c with
     |.nil=>loc.map fun loc=>(.aS loc aN 0 (l.length+ys.length) (l.length+ys.length) sz ag,Y.setObj loc aN (.cells ((l++ys).flatMap V.cells)))
     |.full=>if ys.isEmpty then some (.ak .full l,Y) else loc.map fun loc=>(.aS loc aN 0 (l.length+ys.length) (l.length+ys.length) sz ag,Y.setObj loc aN (.cells ((l++ys).flatMap V.cells)))
     |_=>none else none
  |.aS kJ s off len cap bF _=>
   if bZ (len+ys.length) gI=true/\off=0/\bF=sz then loc.bind fun loc=>(Y.dQ kJ s).bind fun cs=>
     if len+ys.length<=cap then if (len+ys.length)*sz<=cs.length then some (.aS kJ s 0 (len+ys.length) cap sz ag,Y.setObj kJ s (.cells (gM cs (len*sz) (ys.flatMap V.cells))))else none else if len*sz<=cs.length then some (.aS loc aN 0 (len+ys.length) (len+ys.length) sz ag,(Y.ko kJ).setObj loc aN (.cells (cs.take (len*sz)++ys.flatMap V.cells)))else none else none
  |_=>none:=by
 unfold kI;simp only[h1,h2,h3,h4,h5,Option.bind_some,hi,hy,ho,if_true];rw[if_pos ⟨trivial,h6,h7,h8⟩];cases x<;>try rfl
 .rename_i c l;cases c<;>rfl
 .simp only[true_and]
omit hR in
theorem bT.MW {o q s n:Nat}{x:bL R.T}{a:kH}(hne:q≠o):bT true q st Z Y (st.new o x) (Z.AZ o s n) (Y.setObj (Z.aj.lc o) s a):=⟨(X0 q hne).1,(X0 q hne).2,rfl,iR _,⟨fun _ _=>rfl,fun _ _=>rfl⟩,fun _ _ hL=>X8 hL,(bT.new (nr:=true) (Z:=Z) (s:=s) (a:=a) hne).ro⟩
omit hR in
theorem bT.del {o q:Nat}{y:bL R.T}(hl:look st.ob o=some y)(hy:vI y=false):bT true q st Z Y (st.del o) Z (Y.ko (Z.aj.lc o)):=⟨rfl,rfl,rfl,iR _,⟨fun _ _=>rfl,fun _ _=>rfl⟩,fun _ _ hL=>atQ hL,fun hr=>by
 have hne:q≠o:=by rintro rfl;rw[hr y hl] at hy;cases hy
 refine⟨fun z hz=>?_,fun s'=>?_⟩
 .have hz':look (ku o st.ob) q=some z:=hz;rw[uK hne] at hz';exact hr z hz'
 .unfold ah.dQ ah.lD;rw[aiu Y hne];exact⟨rfl,rfl⟩⟩
omit hR in
theorem bT.del' {o q:Nat}{y:bL R.T}(hl:look st.ob o=some y)(hy:vI y=false):bT true q st Z Y (st.del o) Z Y:=⟨rfl,rfl,rfl,iR _,⟨fun _ _=>rfl,fun _ _=>rfl⟩,fun _ _ _=>rfl,fun hr=>by
 have hne:q≠o:=by rintro rfl;rw[hr y hl] at hy;cases hy
 refine⟨fun z hz=>?_,fun s'=>⟨rfl,rfl⟩⟩;have hz':look (ku o st.ob) q=some z:=hz;rw[uK hne] at hz';exact hr z hz'⟩
omit hR in
theorem Yn {U:Type}{p:Nat}:∀l:List (Nat×U),look (ku p l) p=none
 | []=>rfl| (j,x)::l=>by
   unfold ku;cases hj:Nat.beq j p
   .show (bif Nat.beq j p then some x else look (ku p l) p)=none;rw[hj];exact Yn l
   .exact Yn l
omit hR in
theorem aT.del' (h:aT Z b st fr Y)(o:Nat):aT Z b (st.del o) fr Y:={h with
 ob:=fun p y hy=>by
  by_cases e:p=o
  .subst e;have:look (ku p st.ob) p=some y:=hy;rw[Yn] at this;cases this
  .have hy':look (ku o st.ob) p=some y:=hy;rw[uK e] at hy';exact h.ob p y hy'
 fr:=h.fr}
omit hR in
theorem FB {d0 d aN:Nat}{τ:Ty}{l:List (Den R.T τ)}{L:List V}{st0:aO R.T}{r9:ah}{o:Oper}{v:V}{aB:ah}(hd:o.dst=some d0)(hcd:d=d0\/d=E.cn d0)(hi:aT Z (aN+1) st0 fr r9)(hk:∀p,bT true p st Z Y st0 Z r9)(hn:r9.next=Y.next)(hL:aJ R Z r9.top (l.flatMap fun x=>(je R .any τ x).cells) L)(hs:oC E fr Y aN o v aB)(hv:v= .aS (Z.aj.lc d) aN 0 l.length l.length (dL R τ) (jJ τ))(h1:aB=r9.setObj (Z.aj.lc d) aN (.cells L)):∃x Y' Z',oC E fr Y aN o x Y'/\aT Z' (aN+1) (st0.new d (.arr τ l)) fr Y'/\Y'.next=Y.next/\aC R Z' Y'.top (.aS d τ) x/\∀p,qF E o p->bT true p st Z Y (st0.new d (.arr τ l)) Z' Y':=by
 subst hv;subst h1;refine⟨_,_,Z.AZ d aN l.length,hs,hi.MW d aN l.length ⟨(CU (Z:=Z.oz d aN)).symm,.inr ⟨aN,L,Ak (Z:=Z),sP _ _ _ _,zH l L hL⟩⟩,hn,?_,fun p hp=>?_⟩
 .unfold aC;exact .inl ⟨aN,Ak (Z:=Z),by rw[show (Z.AZ d aN l.length).ln d=l.length from CU (Z:=Z.oz d aN)];rfl⟩
 .have hne:p≠d:=by
   rcases hcd with e|e
   .exact fun e2=>hp.1 (by rw[hd,e2,e])
   .exact fun e2=>hp.2 _ hd (by rw[e2,e])
  exact(hk p).trans (bT.MW hne)
theorem auv {d:Option Nat}{t:TypeId}{len:Nat}{ps:List (Nat×aA R.T)}{qs:List (Nat×V)}{r:fC R}{aN:Nat}{o:Oper}(h:XB E R d t len ps st=some r)(hi:ps.map (·.1)=qs.map (·.1))(hr:aJ R Z Y.top (ps.map (·.2)) (qs.map (·.2)))(him:aT Z aN st fr Y)(hd:o.dst=d)(ho:∀y Y',Cc E Y aN (d.map fun t=>(fr.d,E.cn t)) t len qs=some (y,Y')->oC E fr Y aN o y Y'):tF E st Z aN fr Y o r:=by
 unfold XB at h;split at h
 .rename_i d e u sz gI he;obtain⟨z,e1,e2,e3,e4,e5,e6,e7,e8,e9⟩:=SF he;obtain⟨hc,h⟩:=gG h;rw[aZ] at hc;split at h
  .rename_i xs hx;cases hbl:Nat.ble F0 (E.cn d);case true=>rw[hbl] at h;cases h
   rw[hbl,cond_false] at h;cases h;have hcn:E.cn d<F0:=by have:=mt Nat.ble_eq_true_of_le (by rw[hbl];simp);omega
   rw[Option.map_some,show (fr.d,E.cn d)=Z.aj.lc (E.cn d) by rw[him.d,eP.XT _ hcn]] at ho;have hlen:xs.length=len:=by rw[aiW ps 0 xs hx];exact fT hc.2
   obtain⟨vs,k1,k2,k3,k4,k5⟩:=Yj hR (len:=len) e6 ps qs xs 0 [] ((List.replicate len z.cells).flatten) hx hi hr aD (by simp[e9,hlen]) RS;rw[List.nil_append,List.nil_append] at k1;have key:Cc E Y aN (some (Z.aj.lc (E.cn d))) t len qs=some (.aS (Z.aj.lc (E.cn d)) aN 0 len len sz (jJ u),Y.setObj (Z.aj.lc (E.cn d)) aN (.cells (vs.flatMap V.cells))):=by unfold Cc;rw[e1];simp only[Option.bind_some,e2,e4,e5];rw[if_pos ⟨oJ hc.1,e9,e7⟩,k1];rfl
   exact FB (r9:=Y) hd (.inr rfl) (him.le (kU aN)) (fun q=>.refl) rfl k5 (ho _ _ key) (by rw[hlen,e6]) rfl
  .cases h
 .cases h
theorem auw {d:Option Nat}{t u:TypeId}{x y:aA R.T}{v w:V}{r:fC R}{aN:Nat}{o:Oper}(h:ML E R d t u x y st=some r)(hx:aC R Z Y.top x v)(hy:aC R Z Y.top y w)(hi:aT Z aN st fr Y)(hd:o.dst=d)(ho:∀y Y',kI E.P true false Y aN (d.map fun t=>(fr.d,E.cn t)) t v w=some (y,Y')->oC E fr Y aN o y Y'):tF E st Z aN fr Y o r:=by
 have hi1:=hi.le (kU aN);unfold ML at h;split at h
 .rename_i d;cases hbl:Nat.ble F0 (E.cn d);case true=>rw[hbl] at h;cases h
  rw[hbl,cond_false] at h;have hcn:E.cn d<F0:=by have:=mt Nat.ble_eq_true_of_le (by rw[hbl];simp);omega
  rw[Option.map_some,show (fr.d,E.cn d)=Z.aj.lc (E.cn d) by rw[hi.d,eP.XT _ hcn]] at ho;split at h
  .rename_i e τ sz gI he;obtain⟨z,e1,e2,e3,e4,e5,e6,e7,e8,e9⟩:=SF he;obtain⟨hss,h⟩:=gG h;split at h
   .rename_i l' hs;subst e6;obtain⟨g1,g2⟩:=Yl hR (ag:=jJ τ) (z:=z) (Y:=Y) hs hy;have hap:=fun x=>auu hR (Y:=Y) (x:=x) (loc:=some (Z.aj.lc (E.cn d))) (aN:=aN) e1 e2 e3 e4 e5 e9 e7 e8 g1 g2 (Yk hR l');split at h
    .rename_i p ahW _;split at h
     .rename_i e0;subst e0;split at h
      .rename_i gW l0 hl;split at h
       .rename_i l2 hl2;obtain⟨e,e2'⟩:=vP hl2;subst e;cases e2';have ne:∀(a:Den R.T gW)(l1:List (Den R.T gW)),l'=a::l1->tF E st Z aN fr Y o (.wc (bZ (l0.length+(a::l1).length) gI) (.aS (E.cn d) gW) ((st.del p).new (E.cn d) (.arr gW (l0++a::l1)))):=by
         intro a l1 el;subst el;intro hroom;have hO:=hi.ob _ _ hl;have hlen:l0.length=Z.ln p:=hO.1;have hnr:vI (bL.arr gW l0)=false:=rfl;have hne:¬((a::l1).map (aU R gW)).isEmpty=true:=aD;rcases hx.AY with ⟨s,k1,rfl⟩| ⟨k1,k2⟩
         .rcases hO.2 with hO2| ⟨s',cs,k3,k4,k5⟩
          .rw[k1] at hO2;exact absurd hO2.2 aD
          .rw[k1] at k3;cases k3;have:=hap (.aS (Z.aj.lc p) s 0 (Z.ln p) (Z.ln p) (dL R gW) (jJ gW));dsimp only at this;have hlc:cs.length=l0.length*dL R gW:=(by rw[k5.length,Fz]);rw[if_pos ⟨by rw[fH,<-hlen];exact hroom,rfl,rfl⟩] at this;simp only[Option.bind_some,k4] at this;rw[if_neg (by rw[fH,List.length_cons];omega),if_pos Gv] at this;refine FB (r9:=Y.ko (Z.aj.lc p)) (L:=cs.take (Z.ln p*dL R gW)++((a::l1).map (aU R gW)).flatMap V.cells) hd (.inr rfl) (hi1.del p) (fun q=>bT.del hl hnr) rfl ?_ (ho _ _ this) ?_ rfl
           .rw[List.flatMap_append,rJ Gv];exact aJ.append k5 (I6 hR _ _)
           .rw[fH,fG,hlen]
         .have hl0:l0=[]:=qo RS;subst hl0;have hroom':bZ (([]:List V).length+((a::l1).map (aU R gW)).length) gI=true/\oK (dL R gW) ([]:List V)=true:=⟨by rw[fH];exact hroom,rfl⟩;rcases k2 with rfl|rfl
          .have:=hap (.ak .nil []);dsimp only at this;rw[if_pos hroom'] at this;refine FB (r9:=Y) hd (.inr rfl) (hi1.del' p) (fun q=>bT.del' hl hnr) rfl (I6 hR _ _) (ho _ _ this) ?_ rfl;simp
          .have:=hap (.ak .full []);dsimp only at this;rw[if_pos hroom',if_neg hne] at this;refine FB (r9:=Y) hd (.inr rfl) (hi1.del' p) (fun q=>bT.del' hl hnr) rfl (I6 hR _ _) (ho _ _ this) ?_ rfl;simp
        cases hpc:Nat.beq p (E.cn d) with
        |true=>
         rw[hpc,cond_true] at h;cases h;cases l' with
         |cons a l1=>exact ne a l1 rfl|nil=>
          have hp:=fT hpc;intro hroom;have hO:=hi.ob _ _ hl;have hlen:l0.length=Z.ln p:=hO.1;have hnr:vI (bL.arr gW l0)=false:=rfl;have hroom':∀(k:Nat),k=l0.length->bZ (k+(([]:List (Den R.T gW)).map (aU R gW)).length) gI=true:=fun k hk=>by rw[hk];exact hroom
          rcases hx.AY with ⟨s,k1,rfl⟩| ⟨k1,k2⟩
          .rcases hO.2 with hO2| ⟨s',cs,k3,k4,k5⟩
           .rw[k1] at hO2;exact absurd hO2.2 aD
           .rw[k1] at k3;cases k3;have:=hap (.aS (Z.aj.lc p) s 0 (Z.ln p) (Z.ln p) (dL R gW) (jJ gW));dsimp only at this;have hlc:cs.length=l0.length*dL R gW:=(by rw[k5.length,Fz]);rw[if_pos ⟨hroom' _ hlen.symm,rfl,rfl⟩] at this;simp only[Option.bind_some,k4,List.map_nil,List.length_nil,Nat.add_zero] at this;rw[if_pos (iR _),if_pos Gv] at this;have hsp:gM cs (Z.ln p*dL R gW) (([]:List V).flatMap V.cells)=cs:=(by unfold gM;simp);rw[hsp] at this;rw[jD,<-hp];refine⟨_,_,Z.AZ p s l0.length,ho _ _ this,(hi1.del' p).MW p s l0.length (x:=.arr gW l0) (a:=.cells cs) ⟨(CU (Z:=Z.oz p s)).symm,.inr ⟨s,cs,Ak (Z:=Z),sP _ _ _ _,zH l0 cs k5⟩⟩,rfl,?_,fun q hq=>?_⟩
            .unfold aC;exact .inl ⟨s,Ak (Z:=Z),by rw[show (Z.AZ p s l0.length).ln p=l0.length from CU (Z:=Z.oz p s),hlen];rfl⟩
            .have hne:q≠p:=fun e=>hq.2 _ hd (by rw[e,hp]);exact(bT.del' hl hnr).trans (bT.MW hne)
          .have hl0:l0=[]:=qo RS;subst hl0;rcases k2 with rfl|rfl
           .have:=hap (.ak .nil []);dsimp only at this;rw[if_pos ⟨hroom' 0 rfl,rfl⟩] at this;exact FB (r9:=Y) hd (.inr rfl) (hi1.del' p) (fun q=>bT.del' hl hnr) rfl rfl (ho _ _ this) rfl rfl
           .have:=hap (.ak .full []);dsimp only at this;rw[if_pos ⟨hroom' 0 rfl,rfl⟩,if_pos bD] at this;refine⟨_,_,Z.gh (E.cn d),ho _ _ this,(hi1.del' p).ghost (E.cn d) gW,rfl,by unfold aC;exact .inr ⟨CU (Z:=Z) (n:=0),.inr rfl⟩,fun q hq=>?_⟩;have FC:q≠E.cn d:=fun e=>hq.2 _ hd e.symm;refine(bT.del' hl hnr).trans ?_;exact⟨(zI q FC).1,(zI q FC).2,rfl,iR _,⟨fun _ _=>rfl,fun _ _=>rfl⟩,fun _ _ _=>rfl,fun hr=>⟨((bT.new (nr:=true) (Z:=Z) (Y:=Y) (s:=0) (a:=.cells []) FC).ro hr).1,fun _=>⟨rfl,rfl⟩⟩⟩
        |false=>
         rw[hpc,cond_false] at h;split at h
         .rename_i a l1;cases h;exact ne _ _ rfl
         .cases h
       .cases h
      .cases h
     .cases h
    .obtain⟨hE,h⟩:=gG h;cases h;intro hroom;have hroom':bZ (([]:List V).length+(l'.map (aU R τ)).length) gI=true/\oK (dL R τ) ([]:List V)=true:=⟨by rw[fH,List.length_nil,o7];exact hroom,rfl⟩;rcases aiK (fr:=fr) hE (.of hx) with rfl|rfl
     .have:=hap (.ak .nil []);dsimp only at this;rw[if_pos hroom'] at this;refine FB (r9:=Y) hd (.inr rfl) hi1 (fun q=>.refl) rfl (I6 hR _ _) (ho _ _ this) ?_ rfl;simp
     .have:=hap (.ak .full []);dsimp only at this;rw[if_pos hroom'] at this;by_cases hne:((l'.map (aU R τ)).isEmpty)=true
      .rw[if_pos hne] at this;have hl':l'=[]:=(by simpa using hne);subst hl';refine⟨_,_,Z.gh (E.cn d),ho _ _ this,hi1.ghost (E.cn d) τ,rfl,by unfold aC;exact .inr ⟨CU (Z:=Z) (n:=0),.inr rfl⟩,fun p hp=>?_⟩;have FC:p≠E.cn d:=fun e=>hp.2 _ hd e.symm;exact⟨(zI p FC).1,(zI p FC).2,rfl,iR _,⟨fun _ _=>rfl,fun _ _=>rfl⟩,fun _ _ _=>rfl,fun hr=>⟨((bT.new (nr:=true) (Z:=Z) (Y:=Y) (s:=0) (a:=.cells []) FC).ro hr).1,fun _=>⟨rfl,rfl⟩⟩⟩
      .rw[if_neg hne] at this;refine FB (r9:=Y) hd (.inr rfl) hi1 (fun q=>.refl) rfl (I6 hR _ _) (ho _ _ this) ?_ rfl;simp
   .cases h
  .cases h
 .cases h
theorem auy {aj:Bool}{d:Option Nat}{t:TypeId}{x y:aA R.T}{v w:V}{r:fC R}{aN:Nat}{o:Oper}(h:XC E R aj d t x y st=some r)(hx:aC R Z Y.top x v)(hy:aC R Z Y.top y w)(hi:aT Z aN st fr Y)(hd:o.dst=d)(ho:∀y Y',Av E.P aj Y aN (d.map fun t=>(Z.aj.lc t)) t v w=some (y,Y')->oC E fr Y aN o y Y'):tF E st Z aN fr Y o r:=by
 unfold XC at h;cases h
theorem ai3 {x:aA R.T}{v:V}{o:Nat}{τ:Ty}{a c:Int}(h:Ir st x=some (o,τ,a,c))(hx:aC R Z Y.top x v)(hi:aT Z b st fr Y):aC R Z Y.top (.sub o τ a c) v:=by
 unfold Ir at h;split at h
 .split at h
  .rename_i l hl;cases h;have h1:=(hi.rd hl).1;unfold aC;refine⟨RS,RS,RS,?_⟩;rcases hx.AY with ⟨s,k1,rfl⟩| ⟨h0,h2⟩
   .refine .inl ⟨s,Z.ln o,k1,RS,?_⟩
    .rw[show ((l.length:Int)-0).toNat=Z.ln o by omega];simp
   .refine .inr ⟨RS,?_⟩;rcases h2 with rfl|rfl<;>exact⟨_,rfl⟩
  .cases h
 .cases h;exact hx
 .cases h
omit hR in
theorem ai4 {n:Int}{cp:Nat}{lo hi':Option Int}{vl vh:Option V}(hl:(lo=none/\vl=none)\/∃n k,lo=some n/\vl=some (.int k n))(hh:(hi'=none/\vh=none)\/∃n k,hi'=some n/\vh=some (.int k n))(hc:n.toNat<=cp)(h0:0<=n)(hb:ahT (pW lo) (sZ n hi') n=true):
 jE n.toNat cp vl vh none=some ((pW lo).toNat,(sZ n hi').toNat,cp):=by
 have hb':0<=pW lo/\pW lo<=sZ n hi'/\sZ n hi'<=n:=of_decide_eq_true hb;rcases hl with ⟨rfl,rfl⟩| ⟨i,k,rfl,rfl⟩<;>rcases hh with ⟨rfl,rfl⟩| ⟨m,k',rfl,rfl⟩<;>simp only[pW,sZ] at hb'⊢
 .rfl
 .simp only[jE,bnd,pU,Option.bind_some];rw[if_pos ⟨RS,RS⟩];rfl
 .simp only[jE,bnd,pU,Option.bind_some];rw[if_pos ⟨RS,RS⟩];rfl
 .simp only[jE,bnd,pU,Option.bind_some];rw[if_pos ⟨RS,RS⟩];simp only[Option.bind_some];rw[if_pos ⟨RS,RS⟩];rfl
theorem auz {t:TypeId}{x:aA R.T}{lo hi':Option (aA R.T)}{v:V}{vl vh:Option V}{r:fC R}(h:R8 E R t x lo hi' st=some r)(hx:aC R Z Y.top x v)(hi:aT Z b st fr Y)(hl:∀y,lo=some y->∃w,vl=some w/\aC R Z Y.top y w)(hln:lo=none->vl=none)(hh:∀y,hi'=some y->∃w,vh=some w/\aC R Z Y.top y w)(hhn:hi'=none->vh=none):ru Z Y.top (lF E.P Y t v vl vh none) r:=by
 unfold R8 at h;split at h
 .rename_i o τ a c lo' hi2 e hw e1 e2 hu;have b1:=CZ e1 hl hln;have b2:=CZ e2 hh hhn;have hxs:=ai3 hR hw hx hi;split at h
  .rename_i sz hs;obtain⟨hb,h⟩:=gG h;cases h;have:=fT hb;subst this;intro hc;have hc':0<=pW lo'/\pW lo'<=sZ (c-a) hi2/\sZ (c-a) hi2<=c-a:=of_decide_eq_true hc;obtain⟨g0,g1,g2,h⟩:=hxs.Fv;rcases h with ⟨s,cp,h1,h2,rfl⟩| ⟨e,q,rfl⟩
   .have hsb:=ai4 b1 b2 h2 RS hc;unfold lF;rw[hu];dsimp only;simp only[hs,Option.bind_some,hsb];rw[if_true];by_cases hz:(pW lo').toNat=(sZ (c-a) hi2).toNat/\0< (pW lo').toNat
    .rw[if_pos hz];exact⟨_,rfl,by unfold aC;exact⟨RS,RS,RS,.inr ⟨RS,_,rfl⟩⟩⟩
    .rw[if_neg hz];refine⟨_,rfl,?_⟩;unfold aC;refine⟨RS,RS,RS,.inl ⟨s,cp-(pW lo').toNat,h1,RS,?_⟩⟩;rw[<-qK,show a.toNat+(pW lo').toNat=(a+pW lo').toNat by omega,show (sZ (c-a) hi2).toNat-(pW lo').toNat=(a+sZ (c-a) hi2-(a+pW lo')).toNat by omega]
   .have e0:c-a=0:=RS;have hsb:=ai4 (n:=0) (cp:=0) b1 b2 aD RS (by rw[<-e0];exact hc);unfold lF;rw[hu];dsimp only;rw[e0] at hc';have auA:jE ([]:List V).length ([]:List V).length vl vh none=some (0,0,0):=(by have e3:jE ([]:List V).length ([]:List V).length vl vh none=some ((pW lo').toNat,(sZ 0 hi2).toNat,0):=hsb;rw[e3,show (pW lo').toNat=0 by omega,show (sZ 0 hi2).toNat=0 by omega]);simp only[hs,Option.bind_some,auA,oK];rw[if_true,e0];refine⟨_,rfl,?_⟩;have hl0:pW lo'=0:=RS;have hh0:sZ 0 hi2=0:=RS;rw[hl0,hh0];have:∀(k:Cap),aC R Z Y.top (.sub o τ (a+0) (a+0)) (.ak k []):=fun k=>by unfold aC;exact⟨RS,RS,RS,.inr ⟨rfl,_,rfl⟩⟩
    exact this _
  .cases h
 .cases h
theorem SG {t:TypeId}{x:aA R.T}{lo hi':Option (aA R.T)}{v:V}{vl vh:Option V}{r:fC R}(h:CG E R t x lo hi' st=some r)(hx:aC R Z Y.top x v)(hi:aT Z b st fr Y)(hl:∀y,lo=some y->∃w,vl=some w/\aC R Z Y.top y w)(hln:lo=none->vl=none)(hh:∀y,hi'=some y->∃w,vh=some w/\aC R Z Y.top y w)(hhn:hi'=none->vh=none):ru Z Y.top (lF E.P Y t v vl vh none) r:=by
 unfold CG at h;split at h
 .rename_i r' hr;cases h;exact auz hR hr hx hi hl hln hh hhn
 .exact aud hR (Y:=Y) h hx hl hln hh hhn
theorem auB {t:TypeId}{p:Nat}{τ:Ty}{a c:Int}{y:aA R.T}{v w:V}{r:fC R}(h:XH E R t p τ a c y=some r)(hx:aC R Z Y.top (.sub p τ a c) v)(hy:aC R Z Y.top y w)(hi:aT Z b st fr Y):ru Z Y.top (qp E.P t v w) r:=by
 unfold XH at h;split at h
 .rename_i e k n hu;split at h
  .rename_i sz hs;obtain⟨hb,h⟩:=gG h;cases h;have:=fT hb;subst this;rw[hy.jy];intro hc;have hc':0<=n/\n<c-a:=of_decide_eq_true hc;obtain⟨g0,g1,g2,h⟩:=hx.Fv;rcases h with ⟨s,cp,h1,h2,rfl⟩| ⟨e,_,rfl⟩
   .refine⟨.ref (Z.aj.lc p) s (a.toNat*dL R τ+n.toNat*dL R τ),?_,by unfold aC;exact⟨s,h1,RS,by rw[<-qK,Nat.add_zero];congr 2;omega⟩⟩;unfold qp;rw[hu];simp only[hs,Option.bind_some,idx,pU];rw[if_pos ⟨hc'.1,RS⟩];simp
   .omega
  .cases h
 .cases h
theorem auC {aj:Bool}{t:TypeId}{p:Nat}{τ:Ty}{y:aA R.T}{v w:V}{r:fC R}(h:XG E R t p τ y st=some r)(hx:aC R Z Y.top (.aS p τ) v)(hy:aC R Z Y.top y w)(hi:aT Z b st fr Y):ru Z Y.top (qp E.P t v w) r:=by
 unfold XG at h;split at h
 .rename_i e k n hu;split at h
  .rename_i sz hs;obtain⟨hb,h⟩:=gG h;split at h
   .rename_i gW l hl;cases h;have:=fT hb;subst this;rw[hy.jy];intro hc;have hc':=of_decide_eq_true hc;have hlen:=(hi.rd hl).1;rcases hx.AY with ⟨s,k1,rfl⟩| ⟨h0,_⟩
    .refine⟨.ref (Z.aj.lc p) s (n.toNat*dL R τ),?_,by unfold aC;exact⟨s,k1,hc'.1,rfl⟩⟩;unfold qp;rw[hu];simp only[hs,Option.bind_some,idx,pU];rw[if_pos ⟨hc'.1,by rw[<-hlen];exact hc'.2⟩];simp
    .rw[hlen,h0] at hc';omega
   .cases h
  .cases h
 .cases h
end
end aQ
end
