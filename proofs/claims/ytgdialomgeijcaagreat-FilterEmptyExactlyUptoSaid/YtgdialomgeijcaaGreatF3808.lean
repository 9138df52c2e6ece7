import Derived.Test.YtgdialomgeijcaaGreatF3807
set_option linter.all false
section
namespace Aq
open Go
section
variable {R:Tq}{E:Env}
variable {Z:ak}{top:Nat->Nat}
def dX (Z:ak)(top:Nat->Nat)(v:Option V):R3 R->Prop
 |.t x=>∃y,v=some y/\Rl R Z top x y|.c c x=>c=true->∃y,v=some y/\Rl R Z top x y|.p _ _ o f=>∀a,o=some a->∃y,v=some y/\Rl R Z top (f a) y|_=>False
theorem Co {op:BinOp}{k:IntKind}{x y:Int}{r:R3 R}(h:aeM R op k x y=some r):dX Z top (TP op k x y) r:=by
 unfold aeM at h;cases op<;>cases h<;>first
  |exact⟨_,rfl,by unfold Rl;rfl⟩
  | (intro hc
     have hy:¬y=0:=(by simpa using hc);exact⟨_,if_neg hy,by unfold Rl;rfl⟩)
theorem LA {op:BinOp}{k:IntKind}{x y:Int}{r:R3 R}(h:af6 R op k x y=some r):dX Z top (nW op k x y) r:=by
 unfold af6 at h;cases op<;>cases h<;>
  (intro hc
   have hy:¬y<0:=by have:=of_decide_eq_true hc;omega
   exact⟨_,if_neg hy,by unfold Rl;rfl⟩)
theorem LB {op:BinOp}{x y:List UInt8}{r:R3 R}(h:af7 R op x y=some r):dX Z top (jQ op x y) r:=by
 unfold af7 at h;cases op<;>cases h<;>first
  |exact⟨_,rfl,by unfold Rl;rfl⟩
  | (intro hc
     have hy:¬((x.length+y.length:Nat):Int)>IntKind.i64.max:=(by have:=of_decide_eq_true hc;omega);exact⟨_,if_neg hy,by unfold Rl;rfl⟩)
theorem LC {P:Program}{op:BinOp}{t:TypeId}{k:IntKind}{a b:Int}(h:ab7 op=false):VX P op t (.int k a) (.int k b)=TP op k a b:=by
 cases op<;>first| (simp[ab7] at h;done)|simp[VX]
theorem LD {P:Program}{op:BinOp}{t:TypeId}{k k':IntKind}{a b:Int}(h:ab7 op=true):VX P op t (.int k a) (.int k' b)=nW op k a b:=by
 cases op<;>first| (simp[ab7] at h;done)|rfl
theorem LG {P:Program}{op:BinOp}{t:TypeId}{a b:List UInt8}:VX P op t (.str a) (.str b)=jQ op a b:=by
 cases op<;>rfl
theorem LH {P:Program}{t:TypeId}{x y:V}{b:Bool}(h:gL P t x y=some b):(∀k n k' m,x= .int k n->y= .int k' m->False)/\∀s s',x= .str s->y= .str s'->False:=by
 unfold gL at h;constructor
 .intro k n k' m hx hy;subst hx;subst hy;split at h<;>simp_all
 .intro s s' hx hy;subst hx;subst hy;split at h<;>simp_all
theorem Cq {P:Program}{t:TypeId}{x y:V}{b:Bool}(h:gL P t x y=some b):VX P .eql t x y=some (.bool b)/\VX P .neq t x y=some (.bool !b):=by
 obtain⟨h1,h2⟩:=LH h;constructor;all_goals
  unfold VX;split
  .rename_i he;cases he
  .rename_i he;cases he
  .exact(h1 _ _ _ _ rfl rfl).elim
  .exact(h2 _ _ rfl rfl).elim
  all_goals first| (rw[h];rfl)| (rename_i he;cases he)|simp_all
theorem LJ {op:BinOp}{t:TypeId}{x y:TV R.T}{v w:V}{r:R3 R}(h:af8 E R op t x y=some r)(hx:Rl R Z top x v)(hy:Rl R Z top y w):dX Z top (VX E.P op t v w) r:=by
 unfold af8 at h;split at h
 .rename_i k a k' b;rw[hx.bW,hy.bW];cases hs:ab7 op
  .rw[hs,cond_false] at h;split at h
   .rename_i e;subst e;rw[LC hs];exact Co h
   .cases h
  .rw[hs,cond_true] at h;rw[LD hs];exact LA h
 .rw[hx.dL,hy.dL,LG];exact LB h
 .split at h
  .split at h
   .rename_i b hb;cases h;exact⟨_,(Cq (Cn hb hx hy)).1,by unfold Rl;rfl⟩
   .cases h
  .split at h
   .rename_i b hb;cases h;exact⟨_,(Cq (Cn hb hx hy)).2,by unfold Rl;rfl⟩
   .cases h
  .cases h
theorem LK {op:UnOp}{x:TV R.T}{v:V}{r:R3 R}(h:unM R op x=some r)(hx:Rl R Z top x v):dX Z top (kS op v) r:=by
 unfold unM at h;split at h
 .cases h;rw[hx.bW];exact⟨_,rfl,by unfold Rl;rfl⟩
 .rw[hx.bW];exact Co h
 .cases h;rw[hx.eO];exact⟨_,rfl,by unfold Rl;rfl⟩
 .cases h;rw[hx.gB];exact⟨_,rfl,by unfold Rl;rfl⟩
 .cases h
theorem LM (s:List UInt8):s.map iT=List.map (Q8 R (.int .u8)) (s.map fun b=>(b.toNat:Int)):=by show s.map iT=List.map (fun n:Int=>V.int .u8 n) (List.map (fun b:UInt8=>(b.toNat:Int)) s);rw[QN];rfl
theorem LP {a b:TypeId}{x:TV R.T}{v:V}{Y:qd}{r:R3 R}(h:aeN E R a b x=some r)(hx:Rl R Z top x v):dX Z top (jR E.P Y a b v) r:=by
 unfold aeN at h;unfold jR;split at h
 .rename_i hu hv;cases h;rw[hx.bW,hu,hv];exact⟨_,rfl,by unfold Rl;rfl⟩
 .rename_i hu hv;cases h;rw[hx.dL,hu,hv];exact⟨_,rfl,by unfold Rl;rfl⟩
 .cases h
theorem rW {x:Option (TV R.T)}{v:Option V}{i:Option Int}(h:ab8 R x=some i)(hx:∀y,x=some y->∃w,v=some w/\Rl R Z top y w)(hn:x=none->v=none):(i=none/\v=none)\/∃n k,i=some n/\v=some (.int k n):=by
 unfold ab8 at h;split at h
 .cases h;exact .inl ⟨rfl,hn rfl⟩
 .rename_i k n;cases h;obtain⟨w,rfl,hw⟩:=hx _ rfl;exact .inr ⟨n,k,rfl,by rw[hw.bW]⟩
 .cases h
theorem rX {k:IntKind}{n:Int}{m:Nat}(h:WH n m=true):bnd (.int k n) m=some n.toNat:=by unfold WH at h;have:=of_decide_eq_true h;simp[bnd,fu,this]
theorem LQ {U:Type}(l:List U){lo hi:Option Int}{vl vh:Option V}(hl:(lo=none/\vl=none)\/∃n k,lo=some n/\vl=some (.int k n))(hh:(hi=none/\vh=none)\/∃n k,hi=some n/\vh=some (.int k n))(hb:ak5 l.length lo hi=true):
 ∃a c,fD l.length l.length vl vh none=some (a,c,l.length)/\(l.take c).drop a=ab9 l lo hi:=by
 rcases hl with ⟨rfl,rfl⟩| ⟨n,k,rfl,rfl⟩<;>rcases hh with ⟨rfl,rfl⟩| ⟨m,k',rfl,rfl⟩
 .exact⟨0,l.length,rfl,by simp[ab9]⟩
 .have h1:WH m l.length=true:=hb;exact⟨0,m.toNat,by simp[fD,rX h1],by simp[ab9]⟩
 .have h1:WH n l.length=true:=hb;exact⟨n.toNat,l.length,by simp[fD,rX h1],by simp[ab9]⟩
 .have h1:(WH m l.length&& WH n m.toNat)=true:=hb;rw[Pz] at h1;exact⟨n.toNat,m.toNat,by simp[fD,rX h1.1,rX h1.2],by simp[ab9]⟩
theorem LU {U:Type}(f:U->V)(l:List U)(a c:Nat):((l.map f).take c).drop a=((l.take c).drop a).map f:=by simp
variable (hR:VH R)
include hR
theorem nJ (t:Ty)(x:Den R.T t):(Q8 R t x).cells.length=RD R t/\RN (Q8 R t x).cells=true/\er (Q8 R t x)=Q8 R t x/\(Tk t=true->∃l,Q8 R t x= .agg l)/\(Tk t=false->(Q8 R t x).cells=[Q8 R t x]):=by
 cases t with
 |int k=>exact⟨rfl,rfl,rfl,by simp[Tk],fun _=>rfl⟩
 |bool=>exact⟨rfl,rfl,rfl,by simp[Tk],fun _=>rfl⟩
 |str=>exact⟨rfl,rfl,rfl,by simp[Tk],fun _=>rfl⟩
 |slice t=>exact⟨rfl,rfl,rfl,by simp[Tk],fun _=>rfl⟩
 |st n=>
  have he:Q8 R (.st n) x= .agg (encs R (R.lf n) (R.of n x)):=hR.enc n x;rw[he];have hl:=hR.leaf n;have key:∀(l:List Ty)(p:Vm R.T l),l.all dK=true->RN (encs R l p)=true/\(encs R l p).map aN=encs R l p:=by
   intro l;induction l with
   |nil=>intro p _;exact⟨rfl,rfl⟩|cons t l ih=>
    intro p h;rw[List.all_cons,Pz] at h;have h1:∀y:Den R.T t,oneCell (Q8 R t y)=true/\aN (Q8 R t y)=Q8 R t y:=(by intro y;cases t<;>first|exact⟨rfl,rfl⟩| (have:=h.1;simp[dK] at this));cases l with
    |nil=>exact⟨by simp[encs,RN,(h1 p).1],by simp[encs,(h1 p).2]⟩|cons u l=>have:=ih p.2 h.2;exact⟨by show (oneCell _&& RN (encs R (u::l) p.2))=true;rw[(h1 p.1).1,this.1];rfl,by show aN _::List.map aN (encs R (u::l) p.2)=_;rw[(h1 p.1).2,this.2];rfl⟩
  have:=key (R.lf n) (R.of n x) hl;exact⟨wJ _ _,this.1,by show V.agg (List.map aN _)=_;rw[this.2],fun _=>⟨_,rfl⟩,by simp[Tk]⟩
theorem wY {t:Ty}(l:List (Den R.T t)):dH (RD R t) (l.map (Q8 R t))=true:=by
 cases l with
 |nil=>rfl|cons x l=>show ((Q8 R t x).cells.length==RD R t)=true;rw[(nJ hR t x).1];simp
theorem LV {t:TypeId}{x:TV R.T}{lo hi:Option (TV R.T)}{v:V}{vl vh:Option V}{Y:qd}{r:R3 R}(h:aeO E R t x lo hi=some r)(hx:Rl R Z top x v)(hl:∀y,lo=some y->∃w,vl=some w/\Rl R Z top y w)(hln:lo=none->vl=none)(hh:∀y,hi=some y->∃w,vh=some w/\Rl R Z top y w)(hhn:hi=none->vh=none):dX Z top (gM E.P Y t v vl vh none) r:=by
 unfold aeO at h;split at h
 .rename_i lo' hi' e1 e2;have b1:=rW e1 hl hln;have b2:=rW e2 hh hhn;split at h
  .rename_i e c u l hu;split at h
   .rename_i sz hs;cases hb:Nat.beq sz (RD R u)
    .rw[hb] at h;cases h
    .rw[hb,cond_true] at h;cases h;have:=bn hb;subst this;obtain⟨c',rfl,_⟩:=hx.dz;intro hc;obtain⟨a,m,h1,h2⟩:=LQ l b1 b2 hc;unfold gM;rw[hu];dsimp only;rw[hs];simp only[Option.bind_some,PY,h1,wY hR,if_true];by_cases hcs:a=0/\m=l.length/\(none:Option V).isNone=true
     .refine⟨_,by rw[if_pos hcs],?_⟩;unfold Rl;refine⟨c',?_,trivial⟩;rw[<-h2,hcs.1,hcs.2.1];simp
     .refine⟨_,by rw[if_neg hcs],?_⟩;unfold Rl;exact⟨_,by rw[<-h2,LU],trivial⟩
   .cases h
  .cases h
 .cases h
theorem rY {t:TypeId}{k:Ty}(hk:aah E t k=true)(x y:Den R.T k):dP (Q8 R k x) (Q8 R k y)=some (SB R k x y)/\dw E.P t (Q8 R k x)=true:=by
 unfold aah at hk;split at hk
 .rename_i hu;exact⟨by simp[dP,Q8,SB],by unfold dw;rw[hu];rfl⟩
 .rename_i hu;exact⟨rfl,by unfold dw;rw[hu];rfl⟩
 .rename_i hu;exact⟨rfl,by unfold dw;rw[hu];rfl⟩
 .cases hk
theorem Cr {t:TypeId}{k e:Ty}(hk:aah E t k=true)(x:Den R.T k):∀m:List (Den R.T k×Den R.T e),eU (Q8 R k x) (m.map fun p=>Q8 R k p.1) (m.map fun p=>Q8 R e p.2)=some ((UJ (SB R k) x m).map (Q8 R e))
 | []=>rfl| (a,v)::m=>by
   show (dP (Q8 R k x) (Q8 R k a)).bind _=some ((bif SB R k x a then some v else UJ (SB R k) x m).map (Q8 R e));rw[(rY hR hk x a).1,Option.bind_some];cases SB R k x a
   .exact Cr hk x m
   .rfl
theorem Ct {t:TypeId}{k e:Ty}(hk:aah E t k=true)(x:Den R.T k)(v:Den R.T e):∀m:List (Den R.T k×Den R.T e),iU (Q8 R k x) (Q8 R e v) (m.map fun p=>Q8 R k p.1) (m.map fun p=>Q8 R e p.2)=some ((V9 (SB R k) x v m).map (fun p=>Q8 R k p.1),(V9 (SB R k) x v m).map fun p=>Q8 R e p.2)
 | []=>rfl| (a,w)::m=>by
   show (dP (Q8 R k x) (Q8 R k a)).bind _=_;rw[(rY hR hk x a).1,Option.bind_some];show _=some (List.map _ (bif SB R k x a then (x,v)::m else (a,w)::V9 (SB R k) x v m),List.map _ (bif SB R k x a then (x,v)::m else (a,w)::V9 (SB R k) x v m));cases SB R k x a
   .simp only[PE,if_false,cond_false];rw[Ct hk x v m];rfl
   .rfl
theorem Cu {t:TypeId}{k:Ty}(hk:aah E t k=true){x:Den R.T k}{y:TV R.T}{v:V}(h:V5 R k y=some x)(hr:Rl R Z top y v):v=Q8 R k x:=by
 unfold aah at hk;split at hk
 .exact wG h hr
 .exact wI h hr
 .exact wH h hr
 .cases hk
omit hR in
def mapOf (Y:qd):V->Option (List V×List V)
 |.SF=>some ([],[])|.RA loc s=>Y.aW loc s|.RX ks vs=>some (ks,vs)|_=>none
omit hR in
theorem Cv {P:Program}{Y:qd}{t:TypeId}{m k:V}{ok:Bool}:iV P Y t m k ok=(W9 P t).bind fun p=>if dw P p.1 k then (mapOf Y m).bind fun q=>(eU k q.1 q.2).bind fun r=>(match r with|some v=>some (v,true)|none=>(T9 P p.2).map fun z=>(z,false)).map fun (x:V×Bool)=>if ok then .Rm [x.1,.bool x.2] else x.1 else none:=by
 cases m<;>rfl
theorem wZ {t:TypeId}{k e:Ty}{m:List (Den R.T k×Den R.T e)}{y:TV R.T}{w mv:V}{ok:Bool}{Y:qd}{r:R3 R}(h:ac7 E R t k e m y ok=some r)(hy:Rl R Z top y w)(hm:mapOf Y mv=some (m.map (fun p=>Q8 R k p.1),m.map fun p=>Q8 R e p.2)):dX Z top (iV E.P Y t mv w ok) r:=by
 unfold ac7 at h;split at h
 .rename_i kt et ht;cases hk:aah E kt k
  .rw[hk] at h;cases h
  .rw[hk,cond_true] at h;split at h
   .rename_i z hz;split at h
    .rename_i z' x hz' hx;cases h;have hw:=Cu hR hk hx hy;subst hw;obtain⟨zv,hzv,w9⟩:=pV (Z:=Z) (top:=top) hz;have LW:=nE hR hz' w9;rw[Cv,ht];simp only[Option.bind_some];rw[if_pos (rY hR hk x x).2,hm];simp only[Option.bind_some];rw[Cr hR hk x m];simp only[Option.bind_some];cases hg:UJ (SB R k) x m with
     |some v=>
      simp only[Option.map_some];cases ok
      .exact⟨_,rfl,rM hR .any (.inl rfl) e v⟩
      .refine⟨_,rfl,?_⟩;rw[cond_true];unfold Rl;exact⟨_,rfl,.cons' (rM hR .any (.inl rfl) e v) (.cons' (by unfold Rl;rfl) rfl)⟩
     |none=>
      simp only[Option.map_none,hzv,Option.map_some];have hz3:Rl R Z top (SV R .any e z') zv:=LW;cases ok
      .exact⟨_,rfl,hz3⟩
      .refine⟨_,rfl,?_⟩;rw[cond_true];unfold Rl;exact⟨_,rfl,.cons' hz3 (.cons' (by unfold Rl;rfl) rfl)⟩
    .cases h
   .cases h
 .cases h
end
section
variable {R:Tq}{E:Env}
variable {Z:ak}{top:Nat->Nat}{b:Nat}{st:MS R.T}{fr:Fr}{Y:qd}
theorem aZ.{u} {U:Type u}{c:Bool}{o:Option U}{y:U}(h:(bif c then o else none)=some y):c=true/\o=some y:=by
 cases c
 .cases h
 .exact⟨rfl,h⟩
theorem pW {t e:TypeId}{u:Ty}{sz Sz:Nat}(h:elM E R t=some (e,u,sz,Sz)):∃z,UD E.P t=some e/\RI E.P e=some sz/\Yn E.P e=some Sz/\U8 E.P e=some (Tk u)/\T9 E.P e=some z/\
 sz=RD R u/\0<sz/\(Tk u||sz==1)=true/\z.cells.length=sz:=by
 unfold elM at h;split at h
 .rename_i e' he;split at h
  .rename_i u' sz' by' ag z h1 h2 h3 h4 h5;obtain⟨hc,h⟩:=aZ h;cases h;simp only[Pz] at hc;obtain⟨⟨⟨⟨c1,c2⟩,c3⟩,c4⟩,c5⟩:=hc;have:ag=Tk u:=by simpa using c5
   subst this;refine⟨z,he,h2,h3,h4,h5,bn c1,Qp c2,?_,bn c4⟩;rw[QE] at c3⊢;rcases c3 with c3|c3
   .exact .inl c3
   .exact .inr (by rw[bn c3];rfl)
  .cases h
 .cases h
theorem xg (ag:Bool)(sz:Nat):∀vs:List V,(∀v∈vs,v.cells.length=sz)->chunks ag sz vs.length (vs.flatMap V.cells)=vs.map fun v=>if ag then .agg v.cells else v.cells.headD FN
 | [],_=>rfl|v::vs,h=>by
  have h1:=h v (by simp);have h2:=xg ag sz vs (fun w hw=>h w (by simp[hw]));show _::chunks ag sz vs.length ((v.cells++vs.flatMap V.cells).drop sz)=_;rw[List.drop_left' h1,h2,PO];congr 1;cases ag
  .simp only[PE,if_false];show (v.cells++vs.flatMap V.cells).headD FN=_;cases hv:v.cells with
   |nil=>
    have h0:sz=0:=(by rw[<-h1,hv];rfl);cases vs with
    |nil=>rfl|cons w vs=>have:w.cells=[]:=Qm (by rw[h w (by simp),h0]);simp only[P6,this,List.nil_append];have:∀vs:List V,(∀v∈vs,v.cells.length=sz)->vs.flatMap V.cells=[]:=(by intro vs hvs;rw[List.flatMap_eq_nil_iff];intro x hx;exact Qm (by rw[hvs x hx,h0]));rw[this vs (fun x hx=>h x (by simp[hx]))]
   |cons a l=>rfl
  .simp only[if_true];show V.agg ((v.cells++vs.flatMap V.cells).take sz)=_;rw[List.take_left' h1]
variable (hR:VH R)
include hR
theorem LX {t:Ty}{x:Den R.T t}{v:V}(h:er v=Q8 R t x):SI v=true:=by
 cases v<;>try rfl
 have h1:=Vd hR t x;rw[<-h] at h1;simp[er,Q9] at h1
theorem xk {u:Ty}{sz len:Nat}(hsz:sz=RD R u):∀(ps:List (Nat×TV R.T))(qs:List (Nat×V))(xs:List (Den R.T u))(n:Nat)(done rest:List V),aai R u n ps=some xs->ps.map (·.1)=qs.map (·.1)->
 ah R Z top (ps.map (·.2)) (qs.map (·.2))->done.length=n*sz->rest.length=xs.length*sz->n+xs.length<=len->
 ∃vs:List V,fM (fun i=>if i<len then some (i*sz,sz) else none) (done++rest) qs=some (done++vs.flatMap V.cells)/\vs.length=xs.length/\vs.map er=xs.map (Q8 R u)/\(∀v∈vs,v.cells.length=sz/\RN v.cells=true)/\ah R Z top (xs.flatMap fun x=>(SV R .any u x).cells) (vs.flatMap V.cells)
 | [],[],xs,n,done,rest,h,_,_,h1,h2,_=>by
   cases h;have:rest=[]:=Qm (by simpa using h2);subst this;exact⟨[],by simp[fM],rfl,rfl,by simp,by rfl⟩
 | [],_::_,_,_,_,_,_,h,_,_,_,_=>by simp at h|_::_,[],_,_,_,_,_,h,_,_,_,_=>by simp at h| (i,v)::ps,(j,w)::qs,xs,n,done,rest,h,hi,hr,h1,h2,h3=>by
   simp only[PO,Qa] at hi;obtain⟨rfl,hi⟩:=hi;obtain⟨y,ys,e,g1,g2⟩:=hr.aP;simp only[PO,Qa] at e;obtain⟨rfl,rfl⟩:=e;unfold aai at h;cases hb:Nat.beq i n
   .rw[hb] at h;cases h
   .rw[hb,cond_true] at h;have:=bn hb;subst this;cases hu:V5 R u v with
    |none=>simp only[hu] at h;cases h|some x=>
     cases hs:aai R u (i+1) ps with
     |none=>simp only[hu,hs] at h;cases h|some xs'=>
      simp only[hu,hs] at h;obtain rfl:=P9 h;obtain⟨a1,a2,a3,a4,a5⟩:=wL hR hu g1;rw[<-hsz] at a4;have hlen:rest.length=sz+xs'.length*sz:=(by rw[h2,List.length_cons,Qr];omega);have q1:(done++w.cells).length=(i+1)*sz:=(by rw[PU,h1,a4,Qr]);have q2:(rest.drop sz).length=xs'.length*sz:=(by rw[QK,hlen,QU]);have q3:i+1+xs'.length<=len:=(by rw[List.length_cons] at h3;omega);obtain⟨vs,k1,k2,k3,k4,k5⟩:=xk hsz ps qs xs' (i+1) (done++w.cells) (rest.drop sz) hs hi g2 q1 q2 q3;refine⟨w::vs,?_,by simp[k2],by simp[a1,k3],?_,?_⟩
      .simp only[List.length_cons] at h3;unfold fM;simp only[if_pos (show i<len by omega)];rw[if_pos ⟨a4,by rw[PU,h1,hlen];exact Nat.add_le_add_left (PN _ _) _,LX hR a1⟩];have:Tf (done++rest) (i*sz) w.cells=done++w.cells++rest.drop sz:=(by unfold Tf;rw[List.take_left' h1,a4,QV,h1,QU,QW (by omega)];rfl);rw[this,k1];simp
      .intro z hz;rcases PG.1 hz with rfl|hz
       .exact⟨a4,a5⟩
       .exact k4 z hz
      .rw[P6,P6];refine ah.append ?_ k5;have h1:=nE hR hu g1;refine(gG ?_ h1).1;cases u<;>rfl
theorem LY {u:Ty}{sz:Nat}(hsz:sz=RD R u)(h1:(Tk u||sz==1)=true){v:V}{x:Den R.T u}(he:er v=Q8 R u x)(hl:v.cells.length=sz):er (if Tk u then .agg v.cells else v.cells.headD FN)=Q8 R u x:=by
 cases hs:Tk u
 .simp only[PE,if_false];have hne:∀cs,v≠ .agg cs:=by rintro cs rfl;cases u<;>first| (simp[Tk] at hs;done)| (simp[er,Q8] at he;done)
  have:v.cells=[v]:=by cases v<;>first|rfl|exact absurd rfl (hne _)
  rw[this];exact he
 .simp only[if_true];obtain⟨l,hl'⟩:=(nJ hR u x).2.2.2.1 hs;cases v<;>first|exact he| (rw[hl'] at he;simp[er] at he)
omit hR in
theorem Cw {u:Ty}:∀(ps:List (Nat×TV R.T))(n:Nat)(xs:List (Den R.T u)),aai R u n ps=some xs->xs.length=ps.length:=by
 intro ps;induction ps with
 |nil=>intro n xs h;cases h;rfl|cons p ps ih=>
  intro n xs h;obtain⟨i,v⟩:=p;unfold aai at h;obtain⟨_,h⟩:=aZ h;cases hu:V5 R u v with
  |none=>simp only[hu] at h;cases h|some x=>
   cases hs:aai R u (n+1) ps with
   |none=>simp only[hu,hs] at h;cases h|some xs'=>simp only[hu,hs] at h;cases h;simp[ih _ _ hs]
theorem LZ {t:TypeId}{len:Nat}{ps:List (Nat×TV R.T)}{qs:List (Nat×V)}{r:R3 R}(h:aga E R t len ps=some r)(hi:ps.map (·.1)=qs.map (·.1))(hr:ah R Z top (ps.map (·.2)) (qs.map (·.2))):dX Z top (aaD E t len qs) r:=by
 unfold aga at h;split at h
 .rename_i e u sz Sz he;obtain⟨z,e1,e2,e3,e4,e5,e6,e7,e8,e9⟩:=pW he
  .obtain⟨hc,h⟩:=aZ h;rw[Pz] at hc;split at h
   .rename_i xs hx;cases h;have hlen:xs.length=len:=(by rw[Cw ps 0 xs hx];exact bn hc.2);obtain⟨vs,k1,k2,k3,k4,_⟩:=xk hR (len:=len) e6 ps qs xs 0 [] ((List.replicate len z.cells).flatten) hx hi hr (by simp) (by simp[e9,hlen]) (by omega);refine⟨.tX .full (xs.map (Q8 R u)),?_,by unfold Rl;exact⟨.full,rfl,rfl⟩⟩;unfold aaD;rw[e1];simp only[Option.bind_some,e2,e4,e5];rw[if_pos ⟨Qp hc.1,e9,e7,e8⟩];rw[List.nil_append,List.nil_append] at k1;rw[k1];simp only[Option.bind_some];have hone:RN (vs.flatMap V.cells)=true:=(by unfold RN;rw[List.all_flatMap,P7];intro v hv;exact(k4 v hv).2);rw[hone,if_pos rfl,<-hlen,<-k2,xg _ _ _ (fun v hv=>(k4 v hv).1),QN];congr 2;have:∀(vs:List V)(xs:List (Den R.T u)),vs.map er=xs.map (Q8 R u)->(∀v∈vs,v.cells.length=sz/\RN v.cells=true)->vs.map (er∘fun v=>if Tk u then .agg v.cells else v.cells.headD FN)=xs.map (Q8 R u):=by
     intro vs;induction vs with
     |nil=>intro xs h _;exact h|cons v vs ih=>
      intro xs h hk;cases xs with
      |nil=>simp at h|cons x xs=>simp only[PO,Qa] at h;rw[PO,PO,ih xs h.2 (fun w hw=>hk w (by simp[hw]))];congr 1;exact LY hR e6 e8 h.1 (hk v (by simp)).1
    rw[this vs xs k3 k4]
   .cases h
 .cases h
theorem xq {u:Ty}(l:List (Den R.T u)):(l.map (Q8 R u)).all (fun v=>RN v.cells)=true:=by simp[List.all_map,(nJ hR u _).2.1]
theorem Cy {u:Ty}{ag:Bool}{y:TV R.T}{v z:V}{l:List (Den R.T u)}(h:aeU R u y=some l)(hy:Rl R Z top y v):fE Y ag (RD R u) z v=some (l.map (Q8 R u))/\mh v=false:=by
 unfold aeU at h;split at h
 .obtain⟨e,e2⟩:=gF h;subst e;cases e2;obtain⟨c',rfl,_⟩:=hy.dz;exact⟨by show (if dH _ _=true then _ else _)=_;rw[if_pos (wY hR _)],rfl⟩
 .cases h;rw[hy.je];exact⟨rfl,rfl⟩
 .rename_i s;obtain⟨e,e2⟩:=gF h;subst e;cases e2;rw[hy.dL];exact⟨by show (if 1=1 then some (s.map iT) else none)=_;rw[if_pos rfl];exact congrArg some (LM (R:=R) s),rfl⟩
 .cases h
theorem L8 {t e:TypeId}{sz Sz:Nat}{ag:Bool}{z:V}{c:Cap}{l ys:List V}{y:V}{loc:Option Loc}{L6:Nat}{P:Program}(h1:UD P t=some e)(h2:RI P e=some sz)(h3:Yn P e=some Sz)(h4:U8 P e=some ag)(h5:T9 P e=some z)(h6:z.cells.length=sz)(h7:0<sz)(h8:(ag||sz==1)=true)(hy:fE Y ag sz z y=some ys)(hi:mh y=false)(ho:ys.all (fun v=>RN v.cells)=true)(hr:Si (l.length+ys.length) Sz=true)(hh:dH sz l=true):
 bT P false false Y L6 loc t (.tX c l) y=match c with
  |.own n s=>if n=sz/\Y.top s=l.length then some (.tX (.own n s) (l++ys),Y.R9 s (l.length+ys.length)) else none|.nil|.full=>some (.tX (.own sz L6) (l++ys),Y.R9 L6 (l.length+ys.length))|_=>none:=by
 unfold bT;simp only[h1,h2,h3,h4,h5,Option.bind_some,hi,hy,ho,if_true];rw[if_pos ⟨trivial,h6,h7,h8⟩];simp only[hr,hh,and_self,if_true];cases c<;>rfl
theorem L9 {d:Option Nat}{t u:TypeId}{x y:TV R.T}{v w:V}{r:R3 R}{L6:Nat}{loc:Option Loc}{o:Oper}(h:ac8 E R d t u x y st=some r)(hx:Rl R Z Y.top x v)(hy:Rl R Z Y.top y w)(hi:aj Z L6 st fr Y)(ho:∀y Y',bT E.P false false Y L6 loc t v w=some (y,Y')->dB E fr Y L6 o y Y'):eT E st Z L6 fr Y o r:=by
 unfold ac8 at h;split at h
 .rename_i d;split at h
  .rename_i e τ sz Sz he;obtain⟨z,e1,e2,e3,e4,e5,e6,e7,e8,e9⟩:=pW he
   .obtain⟨hss,h⟩:=aZ h;split at h
    .rename_i tk l l' hd hs;cases h;intro hroom;subst e6;obtain⟨g1,g2⟩:=Cy hR (ag:=Tk τ) (z:=z) (Y:=Y) hs hy;have hlen:Si ((l.map (Q8 R τ)).length+(l'.map (Q8 R τ)).length) Sz=true:=(by rw[PY,PY];exact hroom);have hap:∀c,bT E.P false false Y L6 loc t (.tX c (l.map (Q8 R τ))) w=_:=fun c=>L8 hR (Y:=Y) (c:=c) (loc:=loc) (L6:=L6) e1 e2 e3 e4 e5 e9 e7 e8 g1 g2 (xq hR l') hlen (wY hR l);have fresh:∀(c:Cap),(c= .nil\/c= .full)->v= .tX c (l.map (Q8 R τ))->∃x Y' Z',dB E fr Y L6 o x Y'/\aj Z' (L6+1) (st.wk tk) fr Y'/\Y'.next=Y.next/\Rl R Z' Y'.top (.tX (.own tk) τ (l++l')) x/\∀p,ND E o p->aA true p st Z Y (st.wk tk) Z' Y':=by
      intro c hc hv;subst hv;have:=hap c;refine⟨.tX (.own (RD R τ) L6) (l.map (Q8 R τ)++l'.map (Q8 R τ)),Y.R9 L6 ((l.map (Q8 R τ)).length+(l'.map (Q8 R τ)).length),Z.bR tk L6,ho _ _ (by rw[this];rcases hc with rfl|rfl<;>rfl),?_,rfl,?_,?_⟩
      .exact hi.wk tk L6 _ (P8 _) (Nat.lt_succ_self _) hi.nx (fun u _ hu=>by have:=hi.lt u _ hu;omega)
      .unfold Rl;exact⟨_,by rw[QD],.inr (.inr ⟨L6,rfl,by simp[ak.bR,upd],by rw[aes];simp⟩)⟩
      .exact fun p _=>aA.wk hi.nx
     unfold ak8 at hd;split at hd
     .rename_i l0;split at hd
      .rename_i l1 hl1;cases hd;obtain⟨e,e2⟩:=gF hl1;subst e;cases e2;obtain⟨c',rfl,hc'⟩:=hx.dz;exact fresh c' (.inl hc') rfl
      .cases hd
     .rename_i l0;split at hd
      .rename_i l1 hl1;cases hd;obtain⟨e,e2⟩:=gF hl1;subst e;cases e2;obtain⟨c',rfl,hc'⟩:=hx.dz;exact fresh c' (.inr hc') rfl
      .cases hd
     .rename_i tk' τ' l0;split at hd
      .rename_i l1 hl1;cases hd;obtain⟨e,e2⟩:=gF hl1;subst e;cases e2;obtain⟨c',rfl,hc'⟩:=hx.dz;rcases hc' with hc'|hc'| ⟨s,hc',ht,hl⟩
       .exact fresh c' (.inl hc') rfl
       .exact fresh c' (.inr hc') rfl
       .subst hc';have:=hap (.own (RD R τ') s);dsimp only at this;rw[if_pos ⟨rfl,by rw[PY];exact hl⟩] at this;refine⟨_,_,Z.bR tk s,ho _ _ this,?_,rfl,?_,?_⟩
        .exact hi.wk tk s _ (P8 _) (by have:=hi.lt tk s ht;omega) (hi.ge tk s ht) (fun u hu h'=>hu (hi.inj u tk s h' ht))
        .unfold Rl;exact⟨_,by rw[QD],.inr (.inr ⟨s,rfl,by simp[ak.bR,upd],by rw[aes];simp⟩)⟩
        .exact fun p _=>aA.wk (hi.ge tk s ht)
      .cases hd
     .cases hd;rw[hx.je] at fresh;have hx':=hx.je;subst hx';exact fresh .nil (.inl rfl) rfl
     .cases hd
    .cases h
  .cases h
 .cases h
omit hR in
theorem Ma {t:TypeId}{x:TV R.T}{v:V}{n:Nat}(h:agd E t x st=some n)(hx:Rl R Z Y.top x v)(hi:aj Z b st fr Y):fP E Y t v=some n:=by
 unfold agd at h;unfold fP;split at h
 .rename_i hu;cases h;obtain⟨c',rfl,_⟩:=hx.dz;rw[hu];simp
 .rename_i hu;cases h;rw[hx.je,hu];rfl
 .rename_i o t hu;split at h
  .rename_i t' l hl;cases h;have h1:=(hi.rd hl).1;rcases hx.jH with ⟨s,_,rfl⟩| ⟨h0,rfl|rfl⟩
   .rw[hu];dsimp only;rw[h1]
   .rw[hu];dsimp only;rw[h1,h0];rfl
   .rw[hu];dsimp only;rw[h1,h0];rfl
  .cases h
 .rename_i o' t' a' b' hu;cases h;rcases hx.kC with ⟨_,_,_,⟨s,cp,_,_,rfl⟩| ⟨e,c,rfl⟩⟩
  .rw[hu]
  .rw[hu];dsimp only;rw[e,Int.sub_self];rfl
 .rename_i hu;cases h;rw[hx.dL,hu]
 .rename_i o hu;split at h
  .rename_i k e m hl;cases h;obtain⟨s,h1,rfl⟩:=hx.jG;obtain⟨s',h2,h3⟩:=hi.rd hl;rw[h1] at h2;cases h2;rw[hu];dsimp only;rw[h3];simp
  .cases h
 .rename_i hu;cases h;rw[hx.ku,hu];simp
 .rename_i hu;cases h;unfold Rl at hx;subst hx;rw[hu]
 .rename_i hu;cases h;rw[hu]
 .cases h
omit hR in
theorem Cz (mx:Bool):∀{l:List (TV R.T)}{x y:TV R.T}{v:V}{k:List V},mmM mx x l=some y->Rl R Z top x v->ah R Z top l k->∃w,kT mx v k=some w/\Rl R Z top y w:=by intro l x y v k h;unfold mmM at h;cases h
omit hR in
theorem CB (c:Cp):∀(l:List Ty)(p:Vm R.T l),(TR R c l p).length=l.length
 | [],_=>rfl| [_],_=>rfl|_::u::l,p=>by show (TR R c (u::l) p.2).length+1=_;rw[CB c (u::l)];rfl
omit hR in
theorem kH (c:Cp)(t:Ty)(x:Den R.T t):(SV R c t x).cells.length=RD R t:=by
 cases t with
 |st n=>exact CB c _ _|_=>rfl
omit hR in
theorem xu {U β:Type}{f:U->List β}{sz:Nat}(hf:∀x,(f x).length=sz):∀(n:Nat)(l:List U),(l.flatMap f).drop (n*sz)=(l.drop n).flatMap f
 |0,l=>by simp|n+1,[]=>by simp|n+1,x::l=>by rw[P6,List.drop_succ_cons,<-xu hf n l,Qr,Nat.add_comm,<-List.drop_drop,<-hf x,List.drop_left]
omit hR in
theorem xw {U β:Type}{f:U->List β}{sz:Nat}(hf:∀x,(f x).length=sz):∀(n:Nat)(l:List U),(l.flatMap f).take (n*sz)=(l.take n).flatMap f
 |0,l=>by simp|n+1,[]=>by simp|n+1,x::l=>by rw[P6,List.take_succ_cons,P6,<-xw hf n l,Qr,Nat.add_comm,<-hf x,List.take_length_add_append]
omit hR in
theorem CF {U:Type}{l:List U}{a b:Int}(h0:0<=a)(h1:a<=b):Yu l a b=(l.drop a.toNat).take (b-a).toNat:=by unfold Yu;rw[List.take_drop];congr 2;omega
omit hR in
theorem Mc {t:Ty}{l:List (Den R.T t)}{cs:List V}{Z:ak}{top:Nat->Nat}{a b:Int}(h0:0<=a)(h1:a<=b)(h:ah R Z top (l.flatMap fun x=>(SV R .any t x).cells) cs):ah R Z top ((Yu l a b).flatMap fun x=>(SV R .any t x).cells) ((cs.drop (a.toNat*RD R t)).take ((b-a).toNat*RD R t)):=by rw[CF h0 h1,<-xw (fun x=>kH .any t x),<-xu (fun x=>kH .any t x)];exact(h.drop _).take _
omit hR in
theorem kI (t:Ty):∀l:List (Den R.T t),(l.flatMap fun x=>(SV R .any t x).cells).length=l.length*RD R t
 | []=>by simp|x::l=>by rw[P6,PU,kH,kI t l,List.length_cons,Qr];omega
omit hR in
theorem CG {U:Type}:∀{l:List U}{i:Nat}{x:U},l[i]? =some x->∃a b,l=a++x::b/\a.length=i
 | [],_,_,h=>by simp at h|y::l,0,x,h=>by simp at h;subst h;exact⟨[],l,rfl,rfl⟩|y::l,i+1,x,h=>by obtain⟨a,b,rfl,hl⟩:=CG (l:=l) (i:=i) (by simpa using h);exact⟨y::a,b,rfl,by simp[hl]⟩
omit hR in
theorem Md {U:Type}{l:List U}{i:Int}{x:U}(h:Fb l i=some x):∃a b,l=a++x::b/\a.length=i.toNat/\0<=i:=by
 unfold Fb at h;split at h
 .rename_i hi;obtain⟨a,b,h1,h2⟩:=CG h;exact⟨a,b,h1,h2,hi.1⟩
 .cases h
omit hR in
theorem Me {ag:Bool}{n off:Nat}{pre el post:List (TV R.T)}{v:TV R.T}(h:aeI ag n el off=some v):aeI ag n (pre++el++post) (pre.length+off)=some v:=by
 cases ag with
 |true=>
  have h':(bif Nat.ble (off+n) el.length then some (TV.agg ((el.drop off).take n)) else none)=some v:=h;obtain⟨hb,h'⟩:=aZ h';have hle:=Qp hb;show (bif Nat.ble (pre.length+off+n) (pre++el++post).length then some (TV.agg (((pre++el++post).drop (pre.length+off)).take n)) else none)=some v;have hb':Nat.ble (pre.length+off+n) (pre++el++post).length=true:=Nat.ble_eq_true_of_le (by simp;omega);rw[hb',cond_true,<-h'];congr 2;have e1:(pre++el++post).drop (pre.length+off)=(el++post).drop off:=by rw[Qe,QV,QW (by omega)];simp
  rw[e1,QV,List.take_append];have e2:n-(el.drop off).length=0:=by simp;omega
  rw[e2];simp
 |false=>
  have h':el[off]? =some v:=h;show (pre++el++post)[pre.length+off]? =some v;have hlt:off<el.length:=by rw[Qq] at h';exact h'.1
  rw[Qe,List.getElem?_append_right (by omega),QU,List.getElem?_append_left hlt];exact h'
omit hR in
theorem Mf {t:TypeId}{off:Nat}{pre el post:List (TV R.T)}{v:TV R.T}(h:UG E t el off=some v):UG E t (pre++el++post) (pre.length+off)=some v:=by
 unfold UG at h⊢;cases h1:U8 E.P t with
 |none=>simp only[h1] at h;cases h|some a=>
  cases h2:RI E.P t with
  |none=>simp only[h1,h2] at h;cases h|some n=>simp only[h1,h2] at h⊢;exact Me h
omit hR in
theorem Mg {t:TypeId}{off:Nat}{cs cs':List (TV R.T)}(hl:cs.length=cs'.length)(h:(UG E t cs off).isSome=true):∃v,UG E t cs' off=some v:=by
 unfold UG at h⊢;cases h1:U8 E.P t with
 |none=>simp only[h1] at h;cases h|some a=>
  cases h2:RI E.P t with
  |none=>simp only[h1,h2] at h;cases h|some n=>
   simp only[h1,h2] at h⊢;cases a with
   |true=>
    have h':(bif Nat.ble (off+n) cs.length then some (TV.agg ((cs.drop off).take n)) else none).isSome=true:=h;cases hb:Nat.ble (off+n) cs.length
    .rw[hb] at h';cases h'
    .exact⟨.agg ((cs'.drop off).take n),by show (bif Nat.ble (off+n) cs'.length then _ else _)=_;rw[<-hl,hb];rfl⟩
   |false=>have h':cs[off]?.isSome=true:=h;have hlt:off<cs'.length:=(by rw[<-hl];simpa using h');exact⟨cs'[off],PX hlt⟩
omit hR in
theorem CJ {o s:Nat}{τ:Ty}{l:List (Den R.T τ)}{i:Int}{y:Den R.T τ}(hO:aM Z Y o (.arr τ l))(hs:Z.ob o=some s)(hy:Fb l i=some y):
 ∃a b cs,l=a++y::b/\a.length=i.toNat/\Y.Rq (Z.om.lc o) s=some cs/\ah R Z Y.top ((a.flatMap fun x=>(SV R .any τ x).cells)++(SV R .any τ y).cells++b.flatMap fun x=>(SV R .any τ x).cells) cs/\(a.flatMap fun x=>(SV R .any τ x).cells).length=i.toNat*RD R τ:=by
 obtain⟨a,b,rfl,h1,h2⟩:=Md hy;rcases hO.2 with h| ⟨s',cs,h3,h4,h5⟩
 .exact absurd h.1 (by simp)
 .rw[hs] at h3;cases h3;refine⟨a,b,cs,rfl,h1,h4,?_,by rw[kI,h1]⟩;rw[List.flatMap_append,P6] at h5;rw[Qe];exact h5
omit hR in
theorem Mh {t:TypeId}{o s off:Nat}{τ:Ty}{i:Int}{ob:Ob R.T}{r:R3 R}(h:agk E R t τ i off ob=some r)(hO:aM Z Y o ob)(hs:Z.ob o=some s):∃(l:List (Den R.T τ)) (f:Den R.T τ->TV R.T),r= .p (Den R.T τ) (dfl R τ) (Fb l i) f/\
 ∀y,Fb l i=some y->∃cs w,Y.Rq (Z.om.lc o) s=some cs/\TB E.P t cs (i.toNat*RD R τ+off)=some w/\Rl R Z Y.top (f y) w:=by
 unfold agk at h;split at h
 .rename_i τ' l0;split at h
  .rename_i l1 hl;obtain⟨e,e2⟩:=gF hl;subst e;cases e2;obtain⟨hb,h⟩:=aZ h;cases h;refine⟨l0,_,rfl,fun y hy=>?_⟩;obtain⟨a,b,cs,h1,h2,h3,h4,h5⟩:=CJ hO hs hy;obtain⟨v,hv⟩:=Mg (cs':=(SV R .any τ' y).cells) (by rw[kH,kH]) hb;have:=Mf (pre:=a.flatMap fun x=>(SV R .any τ' x).cells) (post:=b.flatMap fun x=>(SV R .any τ' x).cells) hv;rw[h5] at this;obtain⟨w,hw,hr⟩:=jM h4 this;exact⟨cs,w,h3,hw,by rw[hv];exact hr⟩
  .cases h
 .cases h
theorem Mi {τ:Ty}{cs:List (TV R.T)}{x:Den R.T τ}{vs:List V}(h:unC R τ cs=some x)(hr:ah R Z top cs vs):ah R Z top (SV R .any τ x).cells vs:=by
 have one:∀(t:Ty)(x:Den R.T t),dK t=true->Wo R t (hd1 R cs)=some x->ah R Z top [tv1 R .any t x] vs:=by
  intro t x ht h;cases cs with
  |nil=>cases t<;>cases h|cons c cs=>
   cases cs with
   |nil=>obtain⟨v,l,rfl,h1,h2⟩:=hr.aP;rw[h2.bg];exact .cons' (lU hR h h1) rfl
   |cons c' cs=>cases t<;>cases h
 cases τ with
 |st n=>have:=nE hR (t:=.st n) (show V5 R (.st n) (.agg cs)=some x from h) (v:=.agg vs) (by unfold Rl;exact⟨vs,rfl,hr⟩);obtain⟨l,e,hl⟩:=Rl.cO this;cases e;exact hl
 |int k=>exact one (.int k) x rfl h|bool=>exact one .bool x rfl h|str=>exact one .str x rfl h|slice t=>exact one (.slice t) x rfl h
omit hR in
theorem Mj {U:Type}(pre el post vs:List U)(off:Nat)(h:off+vs.length<=el.length):(pre++el++post).take (pre.length+off)++vs++(pre++el++post).drop (pre.length+off+vs.length)=pre++(el.take off++vs++el.drop (off+vs.length))++post:=by
 have e1:(pre++el++post).take (pre.length+off)=pre++el.take off:=by rw[Qe,List.take_append,Qu (by omega),QU,List.take_append,Nat.sub_eq_zero_of_le (by omega)];simp
 have e2:(pre++el++post).drop (pre.length+off+vs.length)=el.drop (off+vs.length)++post:=by rw[Qe,QV,QW (by omega),show pre.length+off+vs.length-pre.length=off+vs.length by omega,QV,Nat.sub_eq_zero_of_le (by omega)];simp
 rw[e1,e2];simp
theorem Mk {o s off:Nat}{τ:Ty}{i:Int}{l:List (Den R.T τ)}{y y':Den R.T τ}{vc:List (TV R.T)}{vl:List V}(hO:aM Z Y o (.arr τ l))(hs:Z.ob o=some s)(hy:Fb l i=some y)(hv:ah R Z Y.top vc vl)(hle:off+vc.length<=RD R τ)(hu:unC R τ (ab4 (SV R .any τ y).cells off vc)=some y'):∃cs,Y.Rq (Z.om.lc o) s=some cs/\i.toNat*RD R τ+off+vl.length<=cs.length/\ah R Z Y.top ((Rc l i y').flatMap fun x=>(SV R .any τ x).cells) (Tf cs (i.toNat*RD R τ+off) vl)/\(Rc l i y').length=l.length:=by
 obtain⟨a,b,cs,rfl,h2,h3,h4,h5⟩:=CJ hO hs hy;obtain⟨p1,post,rfl,g1,g2⟩:=h4.split;obtain⟨pre,el,rfl,g3,g4⟩:=g1.split;have l1:pre.length=i.toNat*RD R τ:=by rw[g3.length,h5]
 have l2:el.length=RD R τ:=by rw[g4.length,kH]
 have l3:=hv.length;refine⟨_,h3,?_,?_,?_⟩
 .rw[PU,PU];omega
 .have e:Rc (a++y::b) i y'=a++y'::b:=by unfold Rc;rw[<-h2,List.set_append_right _ _ (mF _),Nat.sub_self];rfl
  rw[e,List.flatMap_append,P6,<-Qe];have e2:Tf (pre++el++post) (i.toNat*RD R τ+off) vl=pre++Tf el off vl++post:=by unfold Tf;rw[<-l1];exact Mj pre el post vl off (by omega)
  rw[e2];exact(g3.append (Mi hR hu (wW off g4 hv))).append g2
 .unfold Rc;rw[List.length_set]
theorem Ml (τ:Ty)(x:Den R.T τ):ah R Z top (SV R .any τ x).cells (Q8 R τ x).cells:=by refine(gG ?_ (rM hR .any (.inl rfl) τ x)).1;cases τ<;>rfl
theorem nK (τ:Ty):∀l:List (Den R.T τ),ah R Z top (l.flatMap fun x=>(SV R .any τ x).cells) ((l.map (Q8 R τ)).flatMap V.cells)
 | []=>rfl|x::l=>by rw[PO,P6,P6];exact(Ml hR τ x).append (nK τ l)
theorem Mq {t e:TypeId}{sz Sz:Nat}{ag:Bool}{z:V}{ys:List V}{x y:V}{loc:Option Loc}{L6:Nat}{P:Program}(h1:UD P t=some e)(h2:RI P e=some sz)(h3:Yn P e=some Sz)(h4:U8 P e=some ag)(h5:T9 P e=some z)(h6:z.cells.length=sz)(h7:0<sz)(h8:(ag||sz==1)=true)(hy:fE Y ag sz z y=some ys)(hi:mh y=false)(ho:ys.all (fun v=>RN v.cells)=true):
 bT P true false Y L6 loc t x y=match x with
  |.tX c l=>if Si (l.length+ys.length) Sz=true/\dH sz l=true then match c with
     |.nil=>loc.map fun loc=>(.vw loc L6 0 (l.length+ys.length) (l.length+ys.length) sz ag,Y.setObj loc L6 (.cells ((l++ys).flatMap V.cells)))
     |.full=>if ys.isEmpty then some (.tX .full l,Y) else loc.map fun loc=>(.vw loc L6 0 (l.length+ys.length) (l.length+ys.length) sz ag,Y.setObj loc L6 (.cells ((l++ys).flatMap V.cells)))
     |_=>none else none
  |.vw bJ s off len cap aD _=>
   if Si (len+ys.length) Sz=true/\off=0/\aD=sz then loc.bind fun loc=>(Y.Rq bJ s).bind fun cs=>
     if len+ys.length<=cap then if (len+ys.length)*sz<=cs.length then some (.vw bJ s 0 (len+ys.length) cap sz ag,Y.setObj bJ s (.cells (Tf cs (len*sz) (ys.flatMap V.cells))))else none else if len*sz<=cs.length then some (.vw loc L6 0 (len+ys.length) (len+ys.length) sz ag,(Y.bF bJ).setObj loc L6 (.cells (cs.take (len*sz)++ys.flatMap V.cells)))else none else none
  |_=>none:=by
 unfold bT;simp only[h1,h2,h3,h4,h5,Option.bind_some,hi,hy,ho,if_true];rw[if_pos ⟨trivial,h6,h7,h8⟩];cases x<;>try rfl
 .rename_i c l;cases c<;>rfl
 .simp only[true_and]
omit hR in
theorem aA.pQ {o q s n:Nat}{x:Ob R.T}{a:Te}(hne:q≠o):aA true q st Z Y (st.new o x) (Z.jJ o s n) (Y.setObj (Z.om.lc o) s a):=⟨(wN q hne).1,(wN q hne).2,rfl,mF _,⟨fun _ _=>rfl,fun _ _=>rfl⟩,fun _ _ hL=>wT hL,(aA.new (nr:=true) (Z:=Z) (s:=s) (a:=a) hne).ro⟩
omit hR in
theorem aA.del {o q:Nat}{y:Ob R.T}(hl:look st.ob o=some y)(hy:Vo y=false):aA true q st Z Y (st.del o) Z (Y.bF (Z.om.lc o)):=⟨rfl,rfl,rfl,mF _,⟨fun _ _=>rfl,fun _ _=>rfl⟩,fun _ _ hL=>Lm hL,fun hr=>by
 have hne:q≠o:=by rintro rfl;rw[hr y hl] at hy;cases hy
 refine⟨fun z hz=>?_,fun s'=>?_⟩
 .have hz':look (Tx o st.ob) q=some z:=hz;rw[eP hne] at hz';exact hr z hz'
 .unfold qd.Rq qd.aW;rw[BH Y hne];exact⟨rfl,rfl⟩⟩
omit hR in
theorem aA.del' {o q:Nat}{y:Ob R.T}(hl:look st.ob o=some y)(hy:Vo y=false):aA true q st Z Y (st.del o) Z Y:=⟨rfl,rfl,rfl,mF _,⟨fun _ _=>rfl,fun _ _=>rfl⟩,fun _ _ _=>rfl,fun hr=>by
 have hne:q≠o:=by rintro rfl;rw[hr y hl] at hy;cases hy
 refine⟨fun z hz=>?_,fun s'=>⟨rfl,rfl⟩⟩;have hz':look (Tx o st.ob) q=some z:=hz;rw[eP hne] at hz';exact hr z hz'⟩
omit hR in
theorem xA {U:Type}{p:Nat}:∀l:List (Nat×U),look (Tx p l) p=none
 | []=>rfl| (j,x)::l=>by
   unfold Tx;cases hj:Nat.beq j p
   .show (bif Nat.beq j p then some x else look (Tx p l) p)=none;rw[hj];exact xA l
   .exact xA l
omit hR in
theorem aj.del' (h:aj Z b st fr Y)(o:Nat):aj Z b (st.del o) fr Y:={h with
 ob:=fun p y hy=>by
  by_cases e:p=o
  .subst e;have:look (Tx p st.ob) p=some y:=hy;rw[xA] at this;cases this
  .have hy':look (Tx o st.ob) p=some y:=hy;rw[eP e] at hy';exact h.ob p y hy'
 fr:=h.fr}
omit hR in
theorem lW {d0 d L6:Nat}{τ:Ty}{l:List (Den R.T τ)}{L:List V}{st0:MS R.T}{Y0:qd}{o:Oper}{v:V}{Y1:qd}(hd:o.dst=some d0)(hcd:d=d0\/d=E.cn d0)(hi:aj Z (L6+1) st0 fr Y0)(hk:∀p,aA true p st Z Y st0 Z Y0)(hn:Y0.next=Y.next)(hL:ah R Z Y0.top (l.flatMap fun x=>(SV R .any τ x).cells) L)(hs:dB E fr Y L6 o v Y1)(hv:v= .vw (Z.om.lc d) L6 0 l.length l.length (RD R τ) (Tk τ))(h1:Y1=Y0.setObj (Z.om.lc d) L6 (.cells L)):∃x Y' Z',dB E fr Y L6 o x Y'/\aj Z' (L6+1) (st0.new d (.arr τ l)) fr Y'/\Y'.next=Y.next/\Rl R Z' Y'.top (.vw d τ) x/\∀p,ND E o p->aA true p st Z Y (st0.new d (.arr τ l)) Z' Y':=by
 subst hv;subst h1;refine⟨_,_,Z.jJ d L6 l.length,hs,hi.pQ d L6 l.length ⟨(kE (Z:=Z.dM d L6)).symm,.inr ⟨L6,L,iO (Z:=Z),Z7 _ _ _ _,iN l L hL⟩⟩,hn,?_,fun p hp=>?_⟩
 .unfold Rl;exact .inl ⟨L6,iO (Z:=Z),by rw[show (Z.jJ d L6 l.length).ln d=l.length from kE (Z:=Z.dM d L6)];rfl⟩
 .have hne:p≠d:=by
   rcases hcd with e|e
   .exact fun e2=>hp.1 (by rw[hd,e2,e])
   .exact fun e2=>hp.2 _ hd (by rw[e2,e])
  exact(hk p).trans (aA.pQ hne)
theorem Mr {d:Option Nat}{t:TypeId}{len:Nat}{ps:List (Nat×TV R.T)}{qs:List (Nat×V)}{r:R3 R}{L6:Nat}{o:Oper}(h:agb E R d t len ps st=some r)(hi:ps.map (·.1)=qs.map (·.1))(hr:ah R Z Y.top (ps.map (·.2)) (qs.map (·.2)))(him:aj Z L6 st fr Y)(hd:o.dst=d)(ho:∀y Y',jS E Y L6 (d.map fun t=>(fr.d,E.cn t)) t len qs=some (y,Y')->dB E fr Y L6 o y Y'):eT E st Z L6 fr Y o r:=by
 unfold agb at h;split at h
 .rename_i d e u sz Sz he;obtain⟨z,e1,e2,e3,e4,e5,e6,e7,e8,e9⟩:=pW he;obtain⟨hc,h⟩:=aZ h;rw[Pz] at hc;split at h
  .rename_i xs hx;cases hbl:Nat.ble F0 (E.cn d);case true=>rw[hbl] at h;cases h
   rw[hbl,cond_false] at h;cases h;have hcn:E.cn d<F0:=by have:=mt Nat.ble_eq_true_of_le (by rw[hbl];simp);omega
   rw[Option.map_some,show (fr.d,E.cn d)=Z.om.lc (E.cn d) by rw[him.d,Cx.wC _ hcn]] at ho;have hlen:xs.length=len:=by rw[Cw ps 0 xs hx];exact bn hc.2
   obtain⟨vs,k1,k2,k3,k4,k5⟩:=xk hR (len:=len) e6 ps qs xs 0 [] ((List.replicate len z.cells).flatten) hx hi hr (by simp) (by simp[e9,hlen]) (by omega);rw[List.nil_append,List.nil_append] at k1;have key:jS E Y L6 (some (Z.om.lc (E.cn d))) t len qs=some (.vw (Z.om.lc (E.cn d)) L6 0 len len sz (Tk u),Y.setObj (Z.om.lc (E.cn d)) L6 (.cells (vs.flatMap V.cells))):=by unfold jS;rw[e1];simp only[Option.bind_some,e2,e4,e5];rw[if_pos ⟨Qp hc.1,e9,e7⟩,k1];rfl
   exact lW (Y0:=Y) hd (.inr rfl) (him.le (P8 L6)) (fun q=>.refl) rfl k5 (ho _ _ key) (by rw[hlen,e6]) rfl
  .cases h
 .cases h
theorem Ms {d:Option Nat}{t u:TypeId}{x y:TV R.T}{v w:V}{r:R3 R}{L6:Nat}{o:Oper}(h:ac9 E R d t u x y st=some r)(hx:Rl R Z Y.top x v)(hy:Rl R Z Y.top y w)(hi:aj Z L6 st fr Y)(hd:o.dst=d)(ho:∀y Y',bT E.P true false Y L6 (d.map fun t=>(fr.d,E.cn t)) t v w=some (y,Y')->dB E fr Y L6 o y Y'):eT E st Z L6 fr Y o r:=by
 have hi1:=hi.le (P8 L6);unfold ac9 at h;split at h
 .rename_i d;cases hbl:Nat.ble F0 (E.cn d);case true=>rw[hbl] at h;cases h
  rw[hbl,cond_false] at h;have hcn:E.cn d<F0:=by have:=mt Nat.ble_eq_true_of_le (by rw[hbl];simp);omega
  rw[Option.map_some,show (fr.d,E.cn d)=Z.om.lc (E.cn d) by rw[hi.d,Cx.wC _ hcn]] at ho;split at h
  .rename_i e τ sz Sz he;obtain⟨z,e1,e2,e3,e4,e5,e6,e7,e8,e9⟩:=pW he;obtain⟨hss,h⟩:=aZ h;split at h
   .rename_i l' hs;subst e6;obtain⟨g1,g2⟩:=Cy hR (ag:=Tk τ) (z:=z) (Y:=Y) hs hy;have hap:=fun x=>Mq hR (Y:=Y) (x:=x) (loc:=some (Z.om.lc (E.cn d))) (L6:=L6) e1 e2 e3 e4 e5 e9 e7 e8 g1 g2 (xq hR l');split at h
    .rename_i p τ0 _;split at h
     .rename_i e0;subst e0;split at h
      .rename_i τ' l0 hl;split at h
       .rename_i l2 hl2;obtain⟨e,e2'⟩:=gF hl2;subst e;cases e2';have ne:∀(a:Den R.T τ')(l1:List (Den R.T τ')),l'=a::l1->eT E st Z L6 fr Y o (.wc (Si (l0.length+(a::l1).length) Sz) (.vw (E.cn d) τ') ((st.del p).new (E.cn d) (.arr τ' (l0++a::l1)))):=by
         intro a l1 el;subst el;intro hroom;have hO:=hi.ob _ _ hl;have hlen:l0.length=Z.ln p:=hO.1;have hnr:Vo (Ob.arr τ' l0)=false:=rfl;have hne:¬((a::l1).map (Q8 R τ')).isEmpty=true:=(by simp);rcases hx.jH with ⟨s,k1,rfl⟩| ⟨k1,k2⟩
         .rcases hO.2 with hO2| ⟨s',cs,k3,k4,k5⟩
          .rw[k1] at hO2;exact absurd hO2.2 (by simp)
          .rw[k1] at k3;cases k3;have:=hap (.vw (Z.om.lc p) s 0 (Z.ln p) (Z.ln p) (RD R τ') (Tk τ'));dsimp only at this;have hlc:cs.length=l0.length*RD R τ':=(by rw[k5.length,kI]);rw[if_pos ⟨by rw[PY,<-hlen];exact hroom,rfl,rfl⟩] at this;simp only[Option.bind_some,k4] at this;rw[if_neg (by rw[PY,List.length_cons];omega),if_pos (by rw[hlc,hlen];exact mF _)] at this;refine lW (Y0:=Y.bF (Z.om.lc p)) (L:=cs.take (Z.ln p*RD R τ')++((a::l1).map (Q8 R τ')).flatMap V.cells) hd (.inr rfl) (hi1.del p) (fun q=>aA.del hl hnr) rfl ?_ (ho _ _ this) ?_ rfl
           .rw[List.flatMap_append,Qu (by rw[hlc,hlen];exact mF _)];exact ah.append k5 (nK hR _ _)
           .rw[PY,PU,hlen]
         .have hl0:l0=[]:=Qm (by omega);subst hl0;have hroom':Si (([]:List V).length+((a::l1).map (Q8 R τ')).length) Sz=true/\dH (RD R τ') ([]:List V)=true:=⟨by rw[PY];exact hroom,rfl⟩;rcases k2 with rfl|rfl
          .have:=hap (.tX .nil []);dsimp only at this;rw[if_pos hroom'] at this;refine lW (Y0:=Y) hd (.inr rfl) (hi1.del' p) (fun q=>aA.del' hl hnr) rfl (nK hR _ _) (ho _ _ this) ?_ rfl;simp
          .have:=hap (.tX .full []);dsimp only at this;rw[if_pos hroom',if_neg hne] at this;refine lW (Y0:=Y) hd (.inr rfl) (hi1.del' p) (fun q=>aA.del' hl hnr) rfl (nK hR _ _) (ho _ _ this) ?_ rfl;simp
        cases hpc:Nat.beq p (E.cn d) with
        |true=>
         rw[hpc,cond_true] at h;cases h;cases l' with
         |cons a l1=>exact ne a l1 rfl|nil=>
          have hp:=bn hpc;intro hroom;have hO:=hi.ob _ _ hl;have hlen:l0.length=Z.ln p:=hO.1;have hnr:Vo (Ob.arr τ' l0)=false:=rfl;have hroom':∀(k:Nat),k=l0.length->Si (k+(([]:List (Den R.T τ')).map (Q8 R τ')).length) Sz=true:=fun k hk=>by rw[hk];exact hroom
          rcases hx.jH with ⟨s,k1,rfl⟩| ⟨k1,k2⟩
          .rcases hO.2 with hO2| ⟨s',cs,k3,k4,k5⟩
           .rw[k1] at hO2;exact absurd hO2.2 (by simp)
           .rw[k1] at k3;cases k3;have:=hap (.vw (Z.om.lc p) s 0 (Z.ln p) (Z.ln p) (RD R τ') (Tk τ'));dsimp only at this;have hlc:cs.length=l0.length*RD R τ':=(by rw[k5.length,kI]);rw[if_pos ⟨hroom' _ hlen.symm,rfl,rfl⟩] at this;simp only[Option.bind_some,k4,List.map_nil,List.length_nil,Nat.add_zero] at this;rw[if_pos (mF _),if_pos (by rw[hlc,hlen];exact mF _)] at this;have hsp:Tf cs (Z.ln p*RD R τ') (([]:List V).flatMap V.cells)=cs:=(by unfold Tf;simp);rw[hsp] at this;rw[Qx,<-hp];refine⟨_,_,Z.jJ p s l0.length,ho _ _ this,(hi1.del' p).pQ p s l0.length (x:=.arr τ' l0) (a:=.cells cs) ⟨(kE (Z:=Z.dM p s)).symm,.inr ⟨s,cs,iO (Z:=Z),Z7 _ _ _ _,iN l0 cs k5⟩⟩,rfl,?_,fun q hq=>?_⟩
            .unfold Rl;exact .inl ⟨s,iO (Z:=Z),by rw[show (Z.jJ p s l0.length).ln p=l0.length from kE (Z:=Z.dM p s),hlen];rfl⟩
            .have hne:q≠p:=fun e=>hq.2 _ hd (by rw[e,hp]);exact(aA.del' hl hnr).trans (aA.pQ hne)
          .have hl0:l0=[]:=Qm (by omega);subst hl0;rcases k2 with rfl|rfl
           .have:=hap (.tX .nil []);dsimp only at this;rw[if_pos ⟨hroom' 0 rfl,rfl⟩] at this;exact lW (Y0:=Y) hd (.inr rfl) (hi1.del' p) (fun q=>aA.del' hl hnr) rfl rfl (ho _ _ this) rfl rfl
           .have:=hap (.tX .full []);dsimp only at this;rw[if_pos ⟨hroom' 0 rfl,rfl⟩,if_pos (by rfl)] at this;refine⟨_,_,Z.gh (E.cn d),ho _ _ this,(hi1.del' p).ghost (E.cn d) τ',rfl,by unfold Rl;exact .inr ⟨kE (Z:=Z) (n:=0),.inr rfl⟩,fun q hq=>?_⟩;have lX:q≠E.cn d:=fun e=>hq.2 _ hd e.symm;refine(aA.del' hl hnr).trans ?_;exact⟨(jf q lX).1,(jf q lX).2,rfl,mF _,⟨fun _ _=>rfl,fun _ _=>rfl⟩,fun _ _ _=>rfl,fun hr=>⟨((aA.new (nr:=true) (Z:=Z) (Y:=Y) (s:=0) (a:=.cells []) lX).ro hr).1,fun _=>⟨rfl,rfl⟩⟩⟩
        |false=>
         rw[hpc,cond_false] at h;split at h
         .rename_i a l1;cases h;exact ne _ _ rfl
         .cases h
       .cases h
      .cases h
     .cases h
    .obtain⟨hE,h⟩:=aZ h;cases h;intro hroom;have hroom':Si (([]:List V).length+(l'.map (Q8 R τ)).length) Sz=true/\dH (RD R τ) ([]:List V)=true:=⟨by rw[PY,List.length_nil,Qi];exact hroom,rfl⟩;rcases Cc (fr:=fr) hE (.of hx) with rfl|rfl
     .have:=hap (.tX .nil []);dsimp only at this;rw[if_pos hroom'] at this;refine lW (Y0:=Y) hd (.inr rfl) hi1 (fun q=>.refl) rfl (nK hR _ _) (ho _ _ this) ?_ rfl;simp
     .have:=hap (.tX .full []);dsimp only at this;rw[if_pos hroom'] at this;by_cases hne:((l'.map (Q8 R τ)).isEmpty)=true
      .rw[if_pos hne] at this;have hl':l'=[]:=(by simpa using hne);subst hl';refine⟨_,_,Z.gh (E.cn d),ho _ _ this,hi1.ghost (E.cn d) τ,rfl,by unfold Rl;exact .inr ⟨kE (Z:=Z) (n:=0),.inr rfl⟩,fun p hp=>?_⟩;have lX:p≠E.cn d:=fun e=>hp.2 _ hd e.symm;exact⟨(jf p lX).1,(jf p lX).2,rfl,mF _,⟨fun _ _=>rfl,fun _ _=>rfl⟩,fun _ _ _=>rfl,fun hr=>⟨((aA.new (nr:=true) (Z:=Z) (Y:=Y) (s:=0) (a:=.cells []) lX).ro hr).1,fun _=>⟨rfl,rfl⟩⟩⟩
      .rw[if_neg hne] at this;refine lW (Y0:=Y) hd (.inr rfl) hi1 (fun q=>.refl) rfl (nK hR _ _) (ho _ _ this) ?_ rfl;simp
   .cases h
  .cases h
 .cases h
omit hR in
theorem rZ {U β:Type}(f:U->List β)(x:U):∀n,(List.replicate n x).flatMap f=(List.replicate n (f x)).flatten
 |0=>rfl|n+1=>by rw[List.replicate_succ,List.replicate_succ,P6,List.flatten_cons,rZ f x n]
omit hR in
theorem CK {ts:List (TV R.T)}{vs:List V}(h:ah R Z top ts vs):∀n,ah R Z top (List.replicate n ts).flatten (List.replicate n vs).flatten
 |0=>rfl|n+1=>by rw[List.replicate_succ,List.replicate_succ,List.flatten_cons,List.flatten_cons];exact h.append (CK h n)
theorem Mt {om:Bool}{d:Option Nat}{t:TypeId}{x y:TV R.T}{v w:V}{r:R3 R}{L6:Nat}{o:Oper}(h:agc E R om d t x y st=some r)(hx:Rl R Z Y.top x v)(hy:Rl R Z Y.top y w)(hi:aj Z L6 st fr Y)(hd:o.dst=d)(ho:∀y Y',jo E.P om Y L6 (d.map fun t=>(Z.om.lc t)) t v w=some (y,Y')->dB E fr Y L6 o y Y'):eT E st Z L6 fr Y o r:=by
 unfold agc at h;cases h
theorem xB {x:TV R.T}{v:V}{o:Nat}{τ:Ty}{a c:Int}(h:asW st x=some (o,τ,a,c))(hx:Rl R Z Y.top x v)(hi:aj Z b st fr Y):Rl R Z Y.top (.sub o τ a c) v:=by
 unfold asW at h;split at h
 .split at h
  .rename_i l hl;cases h;have h1:=(hi.rd hl).1;unfold Rl;refine⟨by omega,by omega,by omega,?_⟩;rcases hx.jH with ⟨s,k1,rfl⟩| ⟨h0,h2⟩
   .refine .inl ⟨s,Z.ln o,k1,by omega,?_⟩
    .rw[show ((l.length:Int)-0).toNat=Z.ln o by omega];simp
   .refine .inr ⟨by omega,?_⟩;rcases h2 with rfl|rfl<;>exact⟨_,rfl⟩
  .cases h
 .cases h;exact hx
 .cases h
omit hR in
theorem CO {n:Int}{cp:Nat}{lo hi':Option Int}{vl vh:Option V}(hl:(lo=none/\vl=none)\/∃n k,lo=some n/\vl=some (.int k n))(hh:(hi'=none/\vh=none)\/∃n k,hi'=some n/\vh=some (.int k n))(hc:n.toNat<=cp)(h0:0<=n)(hb:VG (Vb lo) (V8 n hi') n=true):
 fD n.toNat cp vl vh none=some ((Vb lo).toNat,(V8 n hi').toNat,cp):=by
 have hb':0<=Vb lo/\Vb lo<=V8 n hi'/\V8 n hi'<=n:=of_decide_eq_true hb;rcases hl with ⟨rfl,rfl⟩| ⟨i,k,rfl,rfl⟩<;>rcases hh with ⟨rfl,rfl⟩| ⟨m,k',rfl,rfl⟩<;>simp only[Vb,V8] at hb'⊢
 .rfl
 .simp only[fD,bnd,fu,Option.bind_some];rw[if_pos ⟨by omega,by omega⟩];rfl
 .simp only[fD,bnd,fu,Option.bind_some];rw[if_pos ⟨by omega,by omega⟩];rfl
 .simp only[fD,bnd,fu,Option.bind_some];rw[if_pos ⟨by omega,by omega⟩];simp only[Option.bind_some];rw[if_pos ⟨by omega,by omega⟩];rfl
theorem Mv {t:TypeId}{x:TV R.T}{lo hi':Option (TV R.T)}{v:V}{vl vh:Option V}{r:R3 R}(h:aeP E R t x lo hi' st=some r)(hx:Rl R Z Y.top x v)(hi:aj Z b st fr Y)(hl:∀y,lo=some y->∃w,vl=some w/\Rl R Z Y.top y w)(hln:lo=none->vl=none)(hh:∀y,hi'=some y->∃w,vh=some w/\Rl R Z Y.top y w)(hhn:hi'=none->vh=none):dX Z Y.top (gM E.P Y t v vl vh none) r:=by
 unfold aeP at h;split at h
 .rename_i o τ a c lo' hi2 e hw e1 e2 hu;have b1:=rW e1 hl hln;have b2:=rW e2 hh hhn;have hxs:=xB hR hw hx hi;split at h
  .rename_i sz hs;obtain⟨hb,h⟩:=aZ h;cases h;have:=bn hb;subst this;intro hc;have hc':0<=Vb lo'/\Vb lo'<=V8 (c-a) hi2/\V8 (c-a) hi2<=c-a:=of_decide_eq_true hc;obtain⟨g0,g1,g2,h⟩:=hxs.kC;rcases h with ⟨s,cp,h1,h2,rfl⟩| ⟨e,q,rfl⟩
   .have hsb:=CO b1 b2 h2 (by omega) hc;unfold gM;rw[hu];dsimp only;simp only[hs,Option.bind_some,hsb];rw[if_true];by_cases hz:(Vb lo').toNat=(V8 (c-a) hi2).toNat/\0< (Vb lo').toNat
    .rw[if_pos hz];exact⟨_,rfl,by unfold Rl;exact⟨by omega,by omega,by omega,.inr ⟨by omega,_,rfl⟩⟩⟩
    .rw[if_neg hz];refine⟨_,rfl,?_⟩;unfold Rl;refine⟨by omega,by omega,by omega,.inl ⟨s,cp-(Vb lo').toNat,h1,by omega,?_⟩⟩;rw[<-Qj,show a.toNat+(Vb lo').toNat=(a+Vb lo').toNat by omega,show (V8 (c-a) hi2).toNat-(Vb lo').toNat=(a+V8 (c-a) hi2-(a+Vb lo')).toNat by omega]
   .have e0:c-a=0:=(by omega);have hsb:=CO (n:=0) (cp:=0) b1 b2 (by simp) (by omega) (by rw[<-e0];exact hc);unfold gM;rw[hu];dsimp only;rw[e0] at hc';have Mw:fD ([]:List V).length ([]:List V).length vl vh none=some (0,0,0):=(by have e3:fD ([]:List V).length ([]:List V).length vl vh none=some ((Vb lo').toNat,(V8 0 hi2).toNat,0):=hsb;rw[e3,show (Vb lo').toNat=0 by omega,show (V8 0 hi2).toNat=0 by omega]);simp only[hs,Option.bind_some,Mw,dH];rw[if_true,e0];refine⟨_,rfl,?_⟩;have hl0:Vb lo'=0:=(by omega);have hh0:V8 0 hi2=0:=(by omega);rw[hl0,hh0];have:∀(k:Cap),Rl R Z Y.top (.sub o τ (a+0) (a+0)) (.tX k []):=fun k=>by unfold Rl;exact⟨by omega,by omega,by omega,.inr ⟨rfl,_,rfl⟩⟩
    exact this _
  .cases h
 .cases h
theorem sj {t:TypeId}{x:TV R.T}{lo hi':Option (TV R.T)}{v:V}{vl vh:Option V}{r:R3 R}(h:aaP E R t x lo hi' st=some r)(hx:Rl R Z Y.top x v)(hi:aj Z b st fr Y)(hl:∀y,lo=some y->∃w,vl=some w/\Rl R Z Y.top y w)(hln:lo=none->vl=none)(hh:∀y,hi'=some y->∃w,vh=some w/\Rl R Z Y.top y w)(hhn:hi'=none->vh=none):dX Z Y.top (gM E.P Y t v vl vh none) r:=by
 unfold aaP at h;split at h
 .rename_i r' hr;cases h;exact Mv hR hr hx hi hl hln hh hhn
 .exact LV hR (Y:=Y) h hx hl hln hh hhn
theorem Mx {t:TypeId}{p:Nat}{τ:Ty}{a c:Int}{y:TV R.T}{v w:V}{r:R3 R}(h:isM E R t p τ a c y=some r)(hx:Rl R Z Y.top (.sub p τ a c) v)(hy:Rl R Z Y.top y w)(hi:aj Z b st fr Y):dX Z Y.top (Vj E.P t v w) r:=by
 unfold isM at h;split at h
 .rename_i e k n hu;split at h
  .rename_i sz hs;obtain⟨hb,h⟩:=aZ h;cases h;have:=bn hb;subst this;rw[hy.bW];intro hc;have hc':0<=n/\n<c-a:=of_decide_eq_true hc;obtain⟨g0,g1,g2,h⟩:=hx.kC;rcases h with ⟨s,cp,h1,h2,rfl⟩| ⟨e,_,rfl⟩
   .refine⟨.ref (Z.om.lc p) s (a.toNat*RD R τ+n.toNat*RD R τ),?_,by unfold Rl;exact⟨s,h1,by omega,by rw[<-Qj,Nat.add_zero];congr 2;omega⟩⟩;unfold Vj;rw[hu];simp only[hs,Option.bind_some,idx,fu];rw[if_pos ⟨hc'.1,by omega⟩];simp
   .omega
  .cases h
 .cases h
theorem MB {om:Bool}{t:TypeId}{p:Nat}{τ:Ty}{y:TV R.T}{v w:V}{r:R3 R}(h:ivM E R t p τ y st=some r)(hx:Rl R Z Y.top (.vw p τ) v)(hy:Rl R Z Y.top y w)(hi:aj Z b st fr Y):dX Z Y.top (Vj E.P t v w) r:=by
 unfold ivM at h;split at h
 .rename_i e k n hu;split at h
  .rename_i sz hs;obtain⟨hb,h⟩:=aZ h;split at h
   .rename_i τ' l hl;cases h;have:=bn hb;subst this;rw[hy.bW];intro hc;have hc':=of_decide_eq_true hc;have hlen:=(hi.rd hl).1;rcases hx.jH with ⟨s,k1,rfl⟩| ⟨h0,_⟩
    .refine⟨.ref (Z.om.lc p) s (n.toNat*RD R τ),?_,by unfold Rl;exact⟨s,k1,hc'.1,rfl⟩⟩;unfold Vj;rw[hu];simp only[hs,Option.bind_some,idx,fu];rw[if_pos ⟨hc'.1,by rw[<-hlen];exact hc'.2⟩];simp
    .rw[hlen,h0] at hc';omega
   .cases h
  .cases h
 .cases h
end
end Aq
end
