import Derived.Test.YthadiihdjhakdaaGreatF2204
set_option linter.all false
section
namespace aR
open Go
section
variable {E:Env}{S:kH}{fr fr':Fr}{σ σ':ak}
theorem Key.eq_iff {a b:Key}:a.eq b=true↔a=b:=by
 cases a<;>cases b<;>simp[Key.eq,uQ];rename_i x y;obtain⟨x1,x2⟩:=x;obtain⟨y1,y2⟩:=y;simp;exact⟨fun h=>⟨h.2,h.1⟩,fun h=>⟨h.2,h.1⟩⟩
theorem afu {f g:dO}(h:clash f g=false)(k:Key):¬(f.W k/\g.T k):=by
 rintro⟨hw,ht⟩;simp only[clash,rR,List.any_eq_false] at h;obtain⟨h1,h2⟩:=h;have aq3:k∈f.w:=by
  rcases hw with h| ⟨h,hs⟩
  ·exact h
  ·rw[h,Bool.true_and] at h1
   simp only[rR,List.any_eq_false] at h1;obtain⟨⟨⟨a1,a2⟩,a3⟩,a4⟩:=h1;rcases ht with e|e|e| ⟨e,_⟩
   ·subst e;cases hs
   ·exact absurd hs (a3 k e)
   ·exact absurd hs (a4 k e)
   ·rcases e with e|e
    ·rw[a1] at e;cases e
    ·rw[a2] at e;cases e
 have h3:=h2 k aq3;simp only[oF,List.any_eq_true,aT,not_or,not_exists,not_and] at h3;obtain⟨⟨⟨h4,h5⟩,h6⟩,h7⟩:=h3;rcases ht with h|h|h| ⟨h,hs⟩
 ·exact h4 (Key.eq_iff.2 h)
 ·exact h5 k h (Key.eq_iff.2 rfl)
 ·exact h6 k h (Key.eq_iff.2 rfl)
 ·rcases h with h|h
  ·exact h7 (.inl h) hs
  ·exact h7 (.inr h) hs
theorem aq4 {st:Nat}{o:Oper}{v:V}(hop:opC E S fr σ st o=some (v,fr',σ')):fr'=fr:=by
 unfold opC at hop;split at hop
 ·split at hop
  ·simp only[bf,mF] at hop
   obtain⟨_,_,_,rfl,_⟩:=hop;rfl
  ·split at hop
   ·simp only[bf,mF] at hop
    obtain⟨_,_,_,rfl,_⟩:=hop;rfl
   ·simp only[bf,mF] at hop
    obtain⟨_,_,_,rfl,_⟩:=hop;rfl
  ·simp at hop
 ·simp at hop
 ·simp only[bf,mF] at hop
  obtain⟨_,_,_,rfl,_⟩:=hop;rfl
def drop2 (r:Option (V×Fr×ak)):Option (V×ak):=r.map fun (v,_,σ)=>(v,σ)
theorem aq5 {r:Option (V×Fr×ak)}{v:V}(h:drop2 r=some (v,σ)):∃fr,r=some (v,fr,σ):=by simp only[drop2,bf,mF] at h;obtain⟨⟨v',fr',σ'⟩,h1,rfl,rfl⟩:=h;exact⟨fr',h1⟩
theorem U5 (r:Option (V×ak))(fr:Fr):drop2 (r.map fun (v,σ)=>(v,fr,σ))=r:=by
 cases r<;>rfl
theorem aq6 (ht:σ'.top=σ.top){st:Nat}{σ1:ak}{v:V}:Local (fun k=>k∈[Key.top]) σ σ' (rW σ st σ1 v) (rW σ' st σ1 v):=by
 have hs:∀v:V,Local (fun k=>k∈[Key.top]) σ σ' (some (v,σ)) (some (v,σ')):=fun v=>(oM (σ:=σ) (σ':=σ')).local.mono (fun k hk=>Es) (fun k hk=>by rw[jk.1 hk];exact ht)
 unfold rW;cases v with
 |ay c l=>
  dsimp only;refine l5 ?_ dM;cases c with
  |nil=>exact hs _|full=>exact hs _|own n s=>exact l5 (Hz ht) dM|sh=>exact dM
 |aM loc s off len cap bZ ag=>dsimp only;exact l5 (jL fun _=>Hz ht) dM
 |_=>exact dM
theorem aq7 {b:Bool}{l:List V}(hp:l.all (fun a=>aW (er a))=true):rX b σ' l=rX b σ l:=by
 have hm:∀l:List V,l.all (fun a=>aW (er a))=true->l.mapM (bG 20 σ')=l.mapM (bG 20 σ):=fun l hp=>NU fun x hx=>afp (kG.1 hp x hx);unfold rX;cases b with
 |false=>simp only[dL,if_false];exact hm l hp|true=>
  simp only[if_true]
  match l,hp with
  | [],_=>rfl|.ay .nil []::l,hp=>rw[List.all_cons,aT] at hp;dsimp only;rw[hm l hp.2]|.ay .nil (_::_)::_,_=>rfl|.ay .sh _::_,_=>rfl|.ay .full _::_,_=>rfl|.ay (.own _ _) _::_,_=>rfl|.int _ _::_,_=>rfl|.bool _::_,_=>rfl|.str _::_,_=>rfl|.iC::_,_=>rfl|.gQ::_,_=>rfl|.gD::_,_=>rfl|.iH::_,_=>rfl|.agg _::_,_=>rfl|.bB _::_,_=>rfl|.aM _ _ _ _ _ _ _::_,_=>rfl|.aY _ _::_,_=>rfl|.ref _ _ _::_,_=>rfl|.fn _ _ _::_,_=>rfl
  |.cu _ _::_,_=>rfl|.dV _ _::_,_=>rfl|.iface _ _::_,_=>rfl|.raw _::_,_=>rfl
theorem aq8 {W:List Key}{loc:Option Loc}(hl:∀l,loc=some l->Key.obj l∈W)(hW:∀q∈W,iQ σ σ' q){st:Nat}{σ1:ak}{v:V}:Local (fun k=>k∈W) σ σ' (zH σ st loc σ1 v) (zH σ' st loc σ1 v):=by
 have hs:∀v:V,Local (fun k=>k∈W) σ σ' (some (v,σ)) (some (v,σ')):=fun v=>(oM (σ:=σ) (σ':=σ')).local.mono (fun k hk=>Es) hW
 unfold zH;cases v with
 |ay c l=>
  dsimp only;refine l5 ?_ dM;cases c with
  |nil=>exact hs _|full=>exact hs _|own n s=>exact dM|sh=>exact dM
 |aM L s off len cap bZ ag=>
  dsimp only;cases loc with
  |none=>exact dM|some loc=>simp only[Option.bind_some];refine jL fun cs=>l5 ?_ dM;exact zM.mono (fun k hk=>by rw[jk.1 hk];exact hl _ rfl) hW
 |_=>exact dM
theorem aq9 {W:List Key}{loc:Option Loc}(hl:∀l,loc=some l->Key.obj l∈W)(hW:∀q∈W,iQ σ σ' q)(htop:Key.top∈W){st:Nat}{fv:V}{args:List V}:Local (fun k=>k∈W) σ σ' (qo E S σ st loc fv args) (qo E S σ' st loc fv args):=by
 have ht:σ'.top=σ.top:=hW _ htop;unfold qo;cases fv with
 |fn f a b=>
  cases f with
  |func f=>
   dsimp only;by_cases hp:(a++args++b).all (fun a=>aW (er a))=true
   ·rw[if_pos hp,if_pos hp,aq7 hp]
    refine jL fun dz=>jL fun r=>l5 (aq8 hl hW) ?_;exact(aq6 ht).mono (fun k hk=>by rw[jk.1 hk];exact htop) hW
   ·rw[if_neg hp];exact dM
  |_=>exact dM
 |_=>exact dM
theorem afv {o:Oper}:∀l,(o.dst.map fun t=>(fr.d,E.cn t))=some l->Key.obj l∈xW E fr o:=by
 intro l h;unfold xW;cases hd:o.dst with
 |none=>rw[hd] at h;cases h|some t=>rw[hd] at h;cases h;simp
theorem ara {st:Nat}{o:Oper}(hw:(jw E fr o).oH=false)(wM:(jw E fr o).rY=true->σ'=σ)(h:∀k,k∈(jw E fr o).t\/k∈(jw E fr o).w->iQ σ σ' k):
 Local (fun k=>k∈(jw E fr o).w) σ σ' (drop2 (opC E S fr σ st o)) (drop2 (opC E S fr σ' st o)):=by
 by_cases hc:∃c,o.op= .call c
 ·obtain⟨c,ho⟩:=hc
  unfold opC;simp only[ho];cases fE:c.callee with
  |builtin b=>
   simp only[U5];simp only[jw,ho,fE] at h hw wM;simp only[jw,ho,fE];have hargs:∀(t:List Key),(∀k,k∈(c.args.toList.flatMap fun x=>ji (fr.ev E x))\/k∈t->iQ σ σ' k)->∀x∈c.args.toList.map (fr.ev E),∀q∈ji x,iQ σ σ' q:=by intro t ht x hx q hq;obtain⟨y,hy,rfl⟩:=xL.1 hx;exact ht q (.inl (List.mem_flatMap.2 ⟨y,hy,hq⟩))
   cases b<;>simp only[gT,reduceCtorEq,Bool.true_eq_false] at hw;case len=>exact(U3 (.inl rfl) (hargs [] h)).local
   case cap=>exact(U3 (.inr (.inl rfl)) (hargs [] h)).local
   case min=>exact(U3 (.inr (.inr (.inl rfl))) (hargs [] h)).local
   case max=>exact(U3 (.inr (.inr (.inr rfl))) (hargs [] h)).local
   case append=>
    cases bO:fr.aj with
    |true=>
     rw[bO] at h;simp only[if_true] at h⊢;refine aqT (fun x hx q hq=>?_) (fun l hl=>?_) (fun q hq=>h q (.inr hq))
     ·obtain⟨y,hy,rfl⟩:=xL.1 hx
      exact iZ _ (wm _ (List.mem_flatMap.2 ⟨y,hy,hq⟩))
     ·exact iZ _ (uL _ (afv l hl))
    |false=>rw[bO] at h;simp only[dL,if_false] at h⊢;exact aqS (hargs _ h) (h .top (.inr aD))
  |value f=>
   simp only[jw,ho,fE] at h hw wM;simp only[jw,ho,fE];cases fT:lq E fr o f with
   |true=>rw[fT] at h;simp only[if_true] at h⊢;simp only[U5];exact aq9 (W:=.top::xW E fr o) (fun l hl=>iZ _ (afv l hl)) (fun q hq=>h q (.inr hq)) (iw ..)
   |false=>
   rw[fT] at h hw wM;simp only[dL,if_false] at h hw wM⊢;simp only[U5];generalize NW:fr.ev E f=fv at h hw wM⊢;cases fv with
   |fn g a b=>
    cases g with
    |func g=>
     simp only at h hw wM⊢;cases hi:E.imp g with
     |true=>rw[hi] at hw;simp[gT] at hw|false=>
      rw[hi] at h wM;simp only[dL,if_false] at h wM⊢;split
      ·rename_i hp
       exact(aqY hi hp).local
      ·rename_i hp
       rw[if_neg hp] at wM;have:=wM rfl;subst this;intro v σ1 hr;have:=aqZ hi hr;subst this;exact⟨σ1,hr,.refl _,.refl _,fun k hk=>.refl _ _,fun k hk=>.refl _ _,fun k hk=>.refl _ _⟩
    |_=>simp[gT] at hw
   |_=>simp[gT] at hw
  |invoke r m=>exact dM
 ·have hc':∀c,o.op≠ .call c:=fun c h=>hc ⟨c,h⟩
  have hd:∀(σ:ak),(∀d,o.op≠ .defer d)->drop2 (opC E S fr σ st o)=d9 E fr σ st o:=by
   intro σ hd;unfold opC;split
   ·rename_i c hh;exact absurd hh (hc' c)
   ·rename_i c hh;exact absurd hh (hd c)
   ·exact U5 _ _
  by_cases hdf:∃d,o.op= .defer d
  ·obtain⟨d,ho⟩:=hdf
   simp only[jw,ho,gT,Bool.true_eq_false] at hw
  ·have afw:∀d,o.op≠ .defer d:=fun d h=>hdf ⟨d,h⟩
   rw[hd σ afw,hd σ' afw];exact aqW hc' hw h
theorem Zc {x:V}:Key.nx∉ji x:=by cases x<;>simp[ji]
theorem arb {o:Oper}:Key.nx∉(jw E fr o).w:=by
 have hd:Key.nx∉uR fr o:=by unfold uR;cases o.dst<;>simp
 have hd2:Key.nx∉xW E fr o:=by unfold xW;cases o.dst<;>simp
 unfold jw;split<;>try simp[nX,mq,gT,hd,Zc,hd2]
 split<;>try simp[nX,mq,gT,Zc,hd2]
 all_goals (repeat' split)<;>simp[nX,mq,gT,Zc,hd2]
theorem ard {ops:List Oper}{o:Oper}{t:Nat}(h:Operand.tmp t∈o.op.operands.toList):Key.slot t∈wF ops o:=by refine uL _ (List.mem_filterMap.2 ⟨_,h,rfl⟩)
theorem arf {ops:List Oper}{o:Oper}(h:∀t,Key.slot t∈wF ops o->fr'.tm t=fr.tm t):∀x∈o.op.operands.toList,fr'.ev E x=fr.ev E x:=by
 intro x hx;cases x with
 |tmp t=>exact h t (ard hx)|_=>rfl
theorem arh {ops:List Oper}{o:Oper}(h:∀t,Key.slot t∈wF ops o->fr'.tm t=fr.tm t):iU ops fr' o=iU ops fr o:=by
 unfold iU;cases hg:o.guard with
 |none=>rfl|some g=>
  obtain⟨j,want⟩:=g;simp only;cases hd:(ops[j]?).bind (·.dst) with
  |none=>rfl|some t=>have:fr'.tm t=fr.tm t:=h t (wm _ (by simp[hg,hd]));simp only[this]
theorem EJ (fr:Fr)(d:Option Nat)(v:V)(t:Nat):(fr.put d v).tm t=if d=some t then v else fr.tm t:=by
 cases d with
 |none=>simp[Fr.put]|some i=>
  show upd fr.tm i v t=_;by_cases h:t=i
  ·subst h;simp[upd]
  ·have:¬(some i=some t):=fun e=>h (by cases e;rfl)
   simp[upd,h,this]
theorem NY (fr:Fr)(d:Option Nat)(v:V):(fr.put d v).d=fr.d:=GH
theorem NZ (fr:Fr)(d:Option Nat)(v:V):(fr.put d v).aj=fr.aj:=GH
theorem N7 {o:Oper}{t:Nat}:Key.slot t∈nY o↔o.dst=some t:=by
 unfold nY;cases o.dst with
 |none=>simp|some d=>simp only[jk,Key.slot.injEq,iE];exact⟨fun h=>h.symm,fun h=>h.symm⟩
theorem afx {ops:List Oper}{base i:Nat}{o:Oper}(ho:ops[i]? =some o){wt:Bool}(hwt:iU ops fr o=some wt){bM:Fr}{σ1:ak}(hs:lQ E S ops base i fr σ=some (bM,σ1))(x:Fr×ak)(hx:∀k,(iD E ops fr o wt).T k->fu k (fr,σ) x):
 ∃y:Fr×ak,lQ E S ops base i x.1 x.2=some y/\(∀k,(iD E ops fr o wt).W k->fu k (bM,σ1) y)/\(∀k,¬(iD E ops fr o wt).W k->fu k x y)/\
  ∀k,¬(iD E ops fr o wt).W k->fu k (fr,σ) (bM,σ1):=by
 obtain⟨fr',σ'⟩:=x;obtain⟨r1,r2⟩:fr.d=fr'.d/\fr.aj=fr'.aj:=hx .rest (.inl rfl);have hsl:∀t,Key.slot t∈wF ops o->fr'.tm t=fr.tm t:=by
  intro t ht;refine Eq.symm (hx (.slot t) (.inr (.inl ?_)));cases wt
  ·exact ht
  ·exact uL _ ht
 have ari:iU ops fr' o=some wt:=(arh hsl).trans hwt;simp only[lQ,ho,hwt,Option.bind_some] at hs;simp only[lQ,ho,ari,Option.bind_some];cases wt with
 |false=>
  simp only[dL,if_false,iE,mF] at hs⊢;obtain⟨rfl,rfl⟩:=hs;have hW:∀k,(iD E ops fr o false).W k↔k∈nY o:=fun k=>by
   refine⟨fun h=>?_,fun h=>.inl h⟩;rcases h with h| ⟨h,_⟩
   ·exact h
   ·cases h
  have afy:∀(f:Fr)(s:ak) k,¬(iD E ops fr o false).W k->fu k (f,s) (f.put o.dst aL,s):=by
   intro f s k hk;rw[hW] at hk;cases k with
   |slot t=>show f.tm t=(f.put o.dst aL).tm t;rw[EJ,if_neg (fun e=>hk (N7.2 e))]
   |obj l=>rfl|top=>rfl|rest=>exact⟨(NY _ _ _).symm,(NZ _ _ _).symm⟩|nx=>exact⟨rfl,rfl⟩
  refine⟨_,rfl,fun k hk=>?_,afy fr' σ',afy fr σ⟩;rw[hW] at hk;cases k with
  |slot t=>show (fr.put o.dst aL).tm t=(fr'.put o.dst aL).tm t;rw[EJ,EJ,if_pos (N7.1 hk),if_pos (N7.1 hk)]|obj l=>exfalso;unfold nY at hk;cases hd:o.dst<;>simp[hd] at hk|top=>exfalso;unfold nY at hk;cases hd:o.dst<;>simp[hd] at hk|rest=>exfalso;unfold nY at hk;cases hd:o.dst<;>simp[hd] at hk|nx=>exfalso;unfold nY at hk;cases hd:o.dst<;>simp[hd] at hk
 |true=>
  simp only[if_true,bf,mF] at hs⊢;obtain⟨⟨v,fI,σ2⟩,hop,rfl,rfl⟩:=hs;obtain rfl:=aq4 hop;have key:∃EK,opC E S fr' σ' (base+i) o=some (v,fr',EK)/\(∀k,(iD E ops fI o true).W k->fu k (fI,σ2) (fI,EK))/\
   (∀k,¬(iD E ops fI o true).W k->fu k (fI,σ) (fI,σ2)/\fu k (fI,σ') (fI,EK)):=by
   rw[aqL (arf hsl) r1.symm r2.symm];have Zd:∀k,(iD E ops fI o true).T k->iQ σ σ' k:=by
    intro k hk;have:=hx k hk;cases k with
    |obj l=>exact Eq.symm this|top=>exact Eq.symm this|slot t=>trivial|rest=>trivial|nx=>trivial
   cases EL:(jw E fI o).oH with
   |true=>
    have hst:∀k:Key,k.state=true->iQ σ σ' k:=fun k hk=>Zd k (.inr (.inr (.inr ⟨.inr EL,hk⟩)));have hσ:σ'=σ:=(by obtain⟨r3,r4⟩:σ.next=σ'.next/\σ.loops=σ'.loops:=hx .nx (.inr (.inr (.inr ⟨.inr EL,rfl⟩)));obtain⟨nx,top,obj,lp⟩:=σ;obtain⟨nx',top',NV,afq⟩:=σ';have h1:top'=top:=hst .top rfl;have h2:NV=obj:=funext fun l=>hst (.obj l) rfl;simp only at r3 r4;subst h1 h2 r3 r4;rfl);subst hσ;refine⟨σ2,by rw[hop];rfl,fun k _=>.refl _ _,fun k hk=>?_⟩;cases k with
    |slot t=>exact⟨rfl,rfl⟩|obj l=>exact absurd (.inr ⟨EL,rfl⟩) hk|top=>exact absurd (.inr ⟨EL,rfl⟩) hk|rest=>exact⟨⟨rfl,rfl⟩,⟨rfl,rfl⟩⟩|nx=>exact absurd (.inr ⟨EL,rfl⟩) hk
   |false=>
    have wM:(jw E fI o).rY=true->σ'=σ:=(by intro ht;have hst:∀k:Key,k.state=true->iQ σ σ' k:=fun k hk=>Zd k (.inr (.inr (.inr ⟨.inl ht,hk⟩)));obtain⟨r3,r4⟩:σ.next=σ'.next/\σ.loops=σ'.loops:=hx .nx (.inr (.inr (.inr ⟨.inl ht,rfl⟩)));obtain⟨nx,top,obj,lp⟩:=σ;obtain⟨nx',top',NV,afq⟩:=σ';have h1:top'=top:=hst .top rfl;have h2:NV=obj:=funext fun l=>hst (.obj l) rfl;simp only at r3 r4;subst h1 h2 r3 r4;rfl);have hl:=ara (S:=S) (st:=base+i) EL wM (fun k hk=>Zd k (by
     rcases hk with hk|hk
     ·exact .inr (.inl (wm _ hk))
     ·exact .inr (.inr (.inl (wm _ hk)))))
    obtain⟨EK,h1,h2,h3,h4,h5,h6⟩:=hl v σ2 (by rw[hop];rfl);obtain⟨qX,h1'⟩:=aq5 h1;have hWw:∀k,(iD E ops fI o true).W k->k∈nY o\/k∈(jw E fI o).w:=fun k hk=>by
     rcases hk with h| ⟨h,_⟩
     ·exact nG.1 h
     ·have:(jw E fI o).oH=true:=h
      rw[EL] at this;cases this
    have hto:∀{tQ lD:ak}{k:Key},iQ tQ lD k->tL tQ lD\/k≠ .nx->fu k (fI,tQ) (fI,lD):=by
     intro tQ lD k ha hn;cases k with
     |slot t=>rfl|obj l=>exact Eq.symm ha|top=>exact Eq.symm ha|rest=>exact⟨rfl,rfl⟩|nx=>
      rcases hn with hn|hn
      ·exact⟨hn.1.symm,hn.2.symm⟩
      ·exact absurd rfl hn
    have arj:Key.nx∉(jw E fI o).w:=arb;refine⟨EK,by rw[h1'];rfl,fun k hk=>?_,fun k hk=>?_⟩
    ·rcases hWw k hk with h|h
     ·cases k with
      |slot t=>rfl|obj l=>exfalso;unfold nY at h;cases hd:o.dst<;>simp[hd] at h|top=>exfalso;unfold nY at h;cases hd:o.dst<;>simp[hd] at h|rest=>exfalso;unfold nY at h;cases hd:o.dst<;>simp[hd] at h|nx=>exfalso;unfold nY at h;cases hd:o.dst<;>simp[hd] at h
     ·exact hto (h4 k h) (.inr (fun e=>arj (e▸h)))
    ·have hk':k∉(jw E fI o).w:=fun h=>hk (.inl (wm _ h))
     exact⟨hto (h5 k hk') (.inl h2),hto (h6 k hk') (.inl h3)⟩
  obtain⟨EK,h1,h2,h3⟩:=key;refine⟨(fr'.put o.dst v,EK),⟨_,h1,rfl⟩,fun k hk=>?_,fun k hk=>?_,fun k hk=>?_⟩
  ·have hk0:=h2 k hk
   cases k with
   |slot t=>
    show (fI.put o.dst v).tm t=(fr'.put o.dst v).tm t;rw[EJ,EJ];split
    ·rfl
    ·exact hx (.slot t) (dO.afr hk)
   |obj l=>exact hk0|top=>exact hk0|rest=>
    refine⟨?_,?_⟩
    ·show (fI.put o.dst v).d=(fr'.put o.dst v).d;rw[NY,NY];exact r1
    ·show (fI.put o.dst v).aj=(fr'.put o.dst v).aj;rw[NZ,NZ];exact r2
   |nx=>exact hk0
  ·have hk0:=(h3 k hk).2
   cases k with
   |slot t=>show fr'.tm t=(fr'.put o.dst v).tm t;rw[EJ,if_neg (fun e=>hk (.inl (uL _ (N7.2 e))))]
   |obj l=>exact hk0|top=>exact hk0|rest=>exact⟨(NY _ _ _).symm,(NZ _ _ _).symm⟩|nx=>exact hk0
  ·have hk0:=(h3 k hk).1
   cases k with
   |slot t=>show fI.tm t=(fI.put o.dst v).tm t;rw[EJ,if_neg (fun e=>hk (.inl (uL _ (N7.2 e))))]
   |obj l=>exact hk0|top=>exact hk0|rest=>exact⟨(NY _ _ _).symm,(NZ _ _ _).symm⟩|nx=>exact hk0
end
end aR
end
section
namespace aR
open Go Go.RowKit
section
variable {E:Env}{S:kH}
theorem ark (all:List Oper)(base:Nat):∀(os:List Oper)(k:Nat)(fr:Fr)(σ:ak)(fs:List dO)(yj:Fr)(yt:ak),(∀j,os[j]? =all[k+j]?)->
 oI E S all (base+k) os fr σ=some (fs,yj,yt)->fs.length=os.length/\∃s:Nat->Fr×ak,s k=(fr,σ)/\s (k+os.length)=(yj,yt)/\
  ∀i,k<=i->i<k+os.length->lQ E S all base i (s i).1 (s i).2=some (s (i+1))/\∃o wt,all[i]? =some o/\iU all (s i).1 o=some wt/\fs[i-k]? =some (iD E all (s i).1 o wt):=by
 intro os;induction os with
 |nil=>intro k fr σ fs yj yt _ h;simp only[oI,iE,mF] at h;obtain⟨rfl,rfl,rfl⟩:=h;exact⟨rfl,fun _=>(fr,σ),rfl,rfl,fun i h1 h2=>Uo⟩
 |cons o os ih=>
  intro k fr σ fs yj yt hall h;have h0:all[k]? =some o:=by simpa using (hall 0).symm
  have arl:∀j,os[j]? =all[k+1+j]? :=fun j=>by have:=hall (j+1);simpa [sZ,Nat.add_comm 1 j] using this
  simp only[oI,iR] at h;obtain⟨wt,hwt,h⟩:=h;have main:∀(bM:Fr)(σ1:ak)(fs':List dO),lQ E S all base k fr σ=some (bM,σ1)->oI E S all (base+(k+1)) os bM σ1=some (fs',yj,yt)->fs=iD E all fr o wt::fs'->
   fs.length=(o::os).length/\∃s:Nat->Fr×ak,s k=(fr,σ)/\s (k+(o::os).length)=(yj,yt)/\
   ∀i,k<=i->i<k+(o::os).length->lQ E S all base i (s i).1 (s i).2=some (s (i+1))/\∃o wt,all[i]? =some o/\iU all (s i).1 o=some wt/\fs[i-k]? =some (iD E all (s i).1 o wt):=by
   intro bM σ1 fs' hstep hrec hfs;obtain⟨hlen,s,hs1,hs2,hs3⟩:=ih (k+1) bM σ1 fs' yj yt arl hrec;refine⟨by rw[hfs];simp[hlen],fun i=>if i=k then (fr,σ) else s i,aD,?_,fun i h1 h2=>?_⟩
   ·have:¬(k+(o::os).length=k):=aD
    simp only[this,if_false];rw[show k+(o::os).length=k+1+os.length by simp;omega];exact hs2
   ·by_cases hik:i=k
    ·subst hik
     have:¬(i+1=i):=ah;simp only[if_true,this,if_false];rw[hs1];exact⟨hstep,o,wt,h0,hwt,by rw[hfs];simp⟩
    ·have:¬(i+1=k):=ah
     simp only[hik,this,if_false];obtain⟨g1,o',arn,g2,g3,g4⟩:=hs3 i ah Uo;refine⟨g1,o',arn,g2,g3,?_⟩;rw[hfs,show i-k=(i-(k+1))+1 by omega];simpa using g4
  cases wt with
  |true=>simp only[if_true,iR,bf,mF] at h;obtain⟨⟨v,fI,σ2⟩,hop,⟨fs',r⟩,hrec,hfs,hr⟩:=h;refine main _ _ fs' ?_ (by rw[<-hr];exact hrec) hfs.symm;simp only[lQ,h0,hwt,Option.bind_some,if_true,hop,Option.map_some]
  |false=>simp only[dL,if_false,bf,mF] at h;obtain⟨⟨fs',r⟩,hrec,hfs,hr⟩:=h;refine main _ _ fs' ?_ (by rw[<-hr];exact hrec) hfs.symm;simp only[lQ,h0,hwt,Option.bind_some,dL,if_false]
theorem Ze (ops:List Oper)(base:Nat):∀(l:List Nat)(x:Fr×ak),NR (fun i x=>lQ E S ops base i x.1 x.2) l x=opsL E S ops base l x.1 x.2
 | [],x=>rfl|i::l,x=>by
  simp only[NR,opsL];cases lQ E S ops base i x.1 x.2 with
  |none=>rfl|some y=>exact Ze ops base l y
def wN (acc:List Nat)(o:Oper):Nat:=o.after.toList.foldl (fun s e=>if Region.binds .any e then s|||2^e.on|||acc.getD e.on 0 else s) 0
theorem aro:∀(ops:List Oper)(acc:List Nat),ops.foldl (fun acc o=>acc++[wN acc o]) acc=acc++(ops.foldl (fun acc o=>acc++[wN acc o]) acc).drop acc.length/\ (ops.foldl (fun acc o=>acc++[wN acc o]) acc).length=acc.length+ops.length/\
 ∀i o,ops[i]? =some o->(ops.foldl (fun acc o=>acc++[wN acc o]) acc).getD (acc.length+i) 0=wN ((ops.foldl (fun acc o=>acc++[wN acc o]) acc).take (acc.length+i)) o:=by
 intro ops;induction ops with
 |nil=>intro acc;simp|cons a ops ih=>
  intro acc;obtain⟨h1,h2,h3⟩:=ih (acc++[wN acc a]);simp only[List.foldl_cons];generalize hR:ops.foldl (fun acc o=>acc++[wN acc o]) (acc++[wN acc a])=R at h1 h2 h3⊢;have hpre:R.take acc.length=acc:=by rw[h1];simp
  refine⟨?_,by rw[h2];simp;omega,fun i o ho=>?_⟩
  ·conv=>lhs;rw[<-tq acc.length R,hpre]
  ·cases i with
   |zero=>simp at ho;subst ho;rw[Nat.add_zero,hpre,h1];simp|succ i=>have:=h3 i o (by simpa using ho);simpa [sZ,Nat.add_comm 1 i] using this
theorem arp {acc:List Nat}{o:Oper}{j:Nat}(h:(wN acc o).testBit j=true):∃e∈o.after.toList,Region.binds .any e=true/\(j=e.on\/(acc.getD e.on 0).testBit j=true):=by
 unfold wN at h;generalize hl:o.after.toList=l at h;clear hl;have gen:∀(l:List Edge)(s:Nat),(l.foldl (fun s e=>if Region.binds .any e then s|||2^e.on|||acc.getD e.on 0 else s) s).testBit j=true->
  s.testBit j=true\/∃e∈l,Region.binds .any e=true/\(j=e.on\/(acc.getD e.on 0).testBit j=true):=by
  intro l;induction l with
  |nil=>intro s h;exact .inl h|cons e l ih=>
   intro s h;simp only[List.foldl_cons] at h;rcases ih _ h with h1| ⟨e',he',hb,hj⟩
   ·split at h1
    ·rename_i hb
     simp only[Nat.testBit_or,oF] at h1;rcases h1 with (h1|h1)|h1
     ·exact .inl h1
     ·exact .inr ⟨e,aD,hb,.inl (by rw[Nat.testBit_two_pow] at h1;have:e.on=j:=Cr;exact this.symm)⟩
     ·exact .inr ⟨e,aD,hb,.inr h1⟩
    ·exact .inl h1
   ·exact .inr ⟨e',by simp[he'],hb,hj⟩
 rcases gen l 0 h with h1|h1
 ·simp at h1
 ·exact h1
theorem arq {ops:List Oper}(su:rZ ops=true){i j:Nat}{o:Oper}(ho:ops[i]? =some o)(h:((tH ops).getD i 0).testBit j=true):
 ∃e∈o.after.toList,Region.binds .any e=true/\e.on<i/\(j=e.on\/((tH ops).getD e.on 0).testBit j=true):=by
 have hp:tH ops=ops.foldl (fun acc o=>acc++[wN acc o]) []:=rfl;obtain⟨_,_,h3⟩:=aro ops [];have:=h3 i o ho;simp only[List.length_nil,nH] at this;rw[hp,this] at h;obtain⟨e,he,hb,hj⟩:=arp h;have hlt:e.on<i:=by
  have hi:i<ops.length:=by
   rcases Nat.lt_or_ge i ops.length with h|h
   ·exact h
   ·rw[List.getElem?_eq_none h] at ho;cases ho
  simp only[rZ,kG] at su;have h1:=su i jm;rw[ho] at h1;simp only[kG] at h1;simpa [hb] using h1 e he
 refine⟨e,he,hb,hlt,hj.imp id (fun hj=>?_)⟩;rw[hp];have e1:∀(l:List Nat)(a b:Nat),a<b->(l.take b).getD a 0=l.getD a 0:=fun l a b hab=>by simp[List.getD,List.getElem?_take,hab]
 rw[e1 _ _ _ hlt] at hj;exact hj
theorem afz {ops:Array Oper}(su:rZ ops.toList=true){md:Region.Mode}{l:List Nat}(hl:Dh md ops [] l):
 ∀(i:Nat)(l1 l2:List Nat),l=l1++i::l2->∀j,((tH ops.toList).getD i 0).testBit j=true->j∈l1:=by
 intro i;induction i using Nat.strongRecOn with
 |_ i ih=>
  intro l1 l2 Zf j hj;have hi:i<ops.size:=(hl.mem i (by rw[Zf];simp)).1;have hoi:ops[i]? =some ops[i]:=by simp[hi]
  obtain⟨e,he,hb,hlt,Zg⟩:=arq su (o:=ops[i]) (by simpa using hoi) hj;have hon:e.on∈l1:=by
   rcases hl.ord l1 i l2 Zf ops[i] hoi e he (aq2 md hb) with h|h
   ·cases h
   ·exact h
  rcases Zg with rfl|Zg
  ·exact hon
  ·obtain⟨a,b,rfl⟩:=List.append_of_mem hon
   have:=ih e.on hlt a (b++i::l2) (by rw[Zf];simp) j Zg;exact uL _ this
theorem ars {ops:Array Oper}{base:Nat}{fr yj:Fr}{σ yt:ak}{fs:List dO}(hF:oI E S ops.toList base ops.toList fr σ=some (fs,yj,yt))(su:rZ ops.toList=true)(hP:wG (tH ops.toList) fs=true){md:Region.Mode}{l:List Nat}(hl:Dh md ops [] l):opsL E S ops.toList base l fr σ=some (yj,yt):=by
 obtain⟨hlen,s,hs0,hsn,hs⟩:=ark ops.toList base ops.toList 0 fr σ fs yj yt (fun j=>aD) (by simpa using hF);have hn:ops.toList.length=ops.size:=aD
 rw[nH,hn] at hsn;have hfs:∀i,i<ops.size->∃o wt,ops.toList[i]? =some o/\iU ops.toList (s i).1 o=some wt/\fs.getD i gT=iD E ops.toList (s i).1 o wt/\lQ E S ops.toList base i (s i).1 (s i).2=some (s (i+1)):=by intro i hi;obtain⟨g1,o,wt,g2,g3,g4⟩:=hs i (nI _) ah;exact⟨o,wt,g2,g3,by simp only[Nat.sub_zero] at g4;simp[List.getD,g4],g1⟩
 have hself:∀i,i<ops.size->∀k,¬(fs.getD i gT).W k->fu k (s i) (s (i+1)):=by intro i hi k hk;obtain⟨o,wt,g1,g2,g3,g4⟩:=hfs i hi;rw[g3] at hk;obtain⟨_,_,_,_,h4⟩:=afx g1 g2 g4 (s i) (fun k _=>.refl k _);exact h4 k hk
 have hap:∀i j,i<ops.size->j<i->((tH ops.toList).getD i 0).testBit j=true\/((∀k,¬((fs.getD i gT).W k/\(fs.getD j gT).T k))/\∀k,¬((fs.getD j gT).W k/\(fs.getD i gT).T k)):=by intro i j hi hj;simp only[wG,kG] at hP;have:=hP i eY j ql;simp only[oF] at this;refine this.imp id (fun h=>?_);simp only[Uw,aT,pE] at h;exact⟨afu h.1,afu h.2⟩
 have key:=afg (X:=Fr×ak) (Key:=Key) ops.size (fun i x=>lQ E S ops.toList base i x.1 x.2) fu fu.refl (fun k x y z=>fu.trans) s
  (fun i=>(fs.getD i gT).T) (fun i=>(fs.getD i gT).W) (fun i k=>dO.afr)
  (fun i hi x hx=>by obtain⟨o,wt,g1,g2,g3,g4⟩:=hfs i hi;obtain⟨y,h1,h2,h3,_⟩:=afx g1 g2 g4 x (fun k hk=>hx k (by rw[g3];exact hk));exact⟨y,h1,fun k hk=>h2 k (by rw[<-g3];exact hk),fun k hk=>h3 k (by rw[<-g3];exact hk)⟩)
  hself (fun j i=>((tH ops.toList).getD i 0).testBit j=true) hap (fun k x y=>fu.symm)
  l [] (fr,σ) hl.nodup hl.mem hl.all (fun l1 i l2 h j hj=>.inr (afz su hl i l1 l2 h j hj)) (fun i hi=>by cases hi)
  (by
    intro k m;induction m with
    |zero=>intro _ _;rw[hs0];exact .refl _ _|succ m ih=>intro hm hj;refine fu.trans (fu.symm (hself m ah k (fun hw=>?_))) (ih ah (fun j hjn hw=>⟨(fun h=>bL),(fun h=>by have:=(hj j hjn hw).2 ah;cases this)⟩));have:=(hj m ah hw).2 ah;cases this)
 obtain⟨y,h1,h2⟩:=key;rw[Ze] at h1;have:=fu.all h2;rw[hsn] at this;rw[h1,<-this]
theorem aru {ops:Array Oper}{base:Nat}{x y:Fr×ak}(hF:Free E S (tH ops.toList) ops.toList base x y)(su:rZ ops.toList=true){md:Region.Mode}{l:List Nat}(hl:Dh md ops [] l):
 opsL E S ops.toList base l x.1 x.2=some y:=by
 obtain⟨s,T,W,h0,hn,NS,hloc,hself,hap⟩:=hF;have hsz:ops.toList.length=ops.size:=aD
 rw[hsz] at hn hloc hself hap;obtain⟨z,h1,h2⟩:=afg (X:=Fr×ak) (Key:=Key) ops.size (fun i x=>lQ E S ops.toList base i x.1 x.2) fu fu.refl (fun k x y z=>fu.trans) s T W NS
  hloc hself (fun j i=>((tH ops.toList).getD i 0).testBit j=true) hap (fun k x y=>fu.symm)
  l [] x hl.nodup hl.mem hl.all (fun l1 i l2 h j hj=>.inr (afz su hl i l1 l2 h j hj)) (fun i hi=>by cases hi)
  (by
    intro k m;induction m with
    |zero=>intro _ _;rw[h0];exact .refl _ _|succ m ih=>intro hm hj;refine fu.trans (fu.symm (hself m ah k (fun hw=>?_))) (ih ah (fun j hjn hw=>⟨(fun h=>bL),(fun h=>by have:=(hj j hjn hw).2 ah;cases this)⟩));have:=(hj m ah hw).2 ah;cases this)
 rw[Ze] at h1;have:=fu.all h2;rw[hn] at this;rw[h1,<-this]
end
section
variable {E:Env}{S:kH}{B0:Nat}{σ σ':ak}{K K':aU}{w w':World}{fr fr':Fr}{a:Act}{n:Nat}
theorem arv (hE:kQ E)(hS:Sound E S){id:Nat}{ops:Array Oper}{dr:Bool}{e:Ex}(h:fH E S (.region id ops dr) fr σ=some (e,fr',σ')):oJ E (.region id ops dr) fr σ e fr' σ':=by
 have fin:∀(l:List Nat),opsL E S ops.toList σ.next l fr {σ with next:=σ.next+ops.toList.length}=some (fr',σ')->l.Nodup->(∀i∈l,i<ops.size)->∀ro B0 K w a n ds Q,St E B0 σ K w fr a n ds->jy n (.region id ops dr)=true->
  (∀x a' w',Bd E B0 n ds σ K w .normal fr' σ' x a' w'->Q x a' w')->wpOpsIn (kE ro) 0 E.P ops Q l a w:=by
  intro l hl hnd hlt ro B0 K w a n ds Q hs hok hq;have hnx:=Bg hS _ _ _ _ _ hl;simp only at hnx;have hs':St E B0 {σ with next:=σ.next+ops.toList.length} K w fr a n ds:=⟨NP hs.ok _,hs.hB,hs.fr,hs.sz,hs.df,fun s h=>gM (hs.st s h) (gF _ _),hs.hD⟩;refine U0 hE hS ops σ.next hok ro _ l fr _ K w a hl hnd hlt hs' aD (fun i _ hA=>by have:=hs.st _ hA;omega) (fun a' K' w' hs2 st=>hq _ _ _ ?_);refine⟨trivial,K',hs2,?_⟩;have st':Step E B0 (newer σ σ') {σ with next:=σ.next+ops.toList.length} K w σ' K' w':=st.mono (fun s hs=>by
   rcases hs with h|h
   ·exact⟨h.1,by simp at hnx;omega⟩
   ·refine⟨dJ (gF _ _) h.1,h.2⟩)
  exact⟨st'.ok,st'.ext,st'.below,st'.D,st'.A,st'.qp,st'.qw⟩
 simp only[fH] at h;split at h
 ·rename_i hdr
  simp only[iR] at h;obtain⟨⟨fs,bM,σ1⟩,hF,h⟩:=h;have hall:bM=fr'/\σ1=σ'/\e= .normal/\rZ ops.toList=true/\∀md l,Dh md ops [] l->opsL E S ops.toList σ.next l fr {σ with next:=σ.next+ops.toList.length}=some (fr',σ'):=by
   split at h
   ·rename_i HV
    simp only[iE,mF] at h;obtain⟨rfl,rfl,rfl⟩:=h;simp only[aT] at HV;exact⟨rfl,rfl,rfl,HV.1,fun md l hl=>ars hF HV.1 HV.2 hl⟩
   ·unfold Yn at h
    split at h
    ·rename_i hfree
     simp only[iE,mF] at h;obtain⟨rfl,rfl,rfl⟩:=h;exact⟨rfl,rfl,rfl,hfree.1,fun md l hl=>aru hfree.2 hfree.1 hl⟩
    ·cases h
  obtain⟨rfl,rfl,rfl,HV,U1⟩:=hall;have hany:∀t,∃md,Dh md ops [] (Region.schedule (E.P.follows .mixedOrders) ops t):=fun t=>aq1 hE.mixed _ HV t;have hdo:∀t,opsL E S ops.toList σ.next (Region.schedule (E.P.follows .mixedOrders) ops t) fr {σ with next:=σ.next+ops.toList.length}=some (bM,σ1):=fun t=>by obtain⟨md,hl⟩:=hany t;exact U1 md _ hl
  have hnx:=Bg hS _ _ _ _ _ (hdo 0);simp only at hnx;refine⟨dJ (gF _ _) hnx,fun ro B0 K w a n ds hs hok _=>?_⟩;rw[hdr];refine wpIn_region_draw (fun t=>?_);obtain⟨md,hl⟩:=hany t;have hst:=Step.same (new:=newer σ σ) hs.ok (w':={w with drawn:=w.drawn+1}) rfl rfl rfl rfl;have hs1:St E B0 σ K {w with drawn:=w.drawn+1} fr a n ds:=⟨hst.ok,hs.hB,hs.fr.ext hst.ext,hs.sz,hs.df,hs.st,hs.hD⟩;refine fin _ (hdo t) hl.nodup (fun i hi=>(hl.mem i hi).1) ro B0 K _ a n ds _ hs1 (by rw[hdr];exact hok) ?_;rintro x a' w' ⟨h1,K',h2,h3⟩;exact⟨h1,K',h2,hst.widen h3 (iP _) (dJ (gF _ _) hnx)⟩
 ·rename_i hdr
  have hdr':dr=false:=by simpa using hdr
  simp only[bf,mF] at h;obtain⟨⟨bM,σ1⟩,hF,rfl,rfl,rfl⟩:=h;rw[aqA] at hF;have hnx:=Bg hS _ _ _ _ _ hF;simp only at hnx;refine⟨dJ (gF _ _) hnx,fun ro B0 K w a n ds hs hok _=>?_⟩;rw[hdr'];exact wpIn_region (fin _ hF List.nodup_range (fun i hi=>jm) ro B0 K w a n ds _ hs (by rw[hdr'];exact hok) (fun _ _ _ h=>h))
end
section
variable {E:Env}{S:kH}{K K':aU}{w w':World}{σ σ':ak}{B0:Nat}
theorem HY (K:aU)(T:Nat->Nat)(w:World)(D':Nat->Prop):Ext K T w {K with D:=D'} T w:=
 ⟨fun _ h=>⟨h,rfl,rfl,rfl⟩,fun _ _=>.inl ⟨rfl,rfl,rfl,rfl⟩,fun _ _ h=>⟨h,rfl⟩,fun _ h=>⟨h,rfl⟩⟩
theorem bE.U6 (h:bE E B0 σ K w)(D':Nat->Prop)(hD:∀b,D' b->w.heap[b]? =some (.deferred (some []))):bE E B0 σ {K with D:=D'} w:=by
 have e:=HY K σ.top w D';refine⟨fun loc s ob hs=>?_,h.own,h.I,h.IM,fun l r hl=>?_,fun g cs hg=>(h.glob g cs hg).ext e,h.rb,hD⟩
 ·obtain⟨a1,a2,a3⟩:=h.obj loc s ob hs
  exact⟨a1,a2.ext e a1 (fun _=>rfl),a3⟩
 ·obtain⟨a1,a2⟩:=h.loop l r hl
  exact⟨a1,a2.ext e a1 rfl rfl⟩
theorem bE.U7 (h:bE E B0 σ K w)(hB:B0<=w.heap.size){new:Nat->Prop}{b:Nat}{o o':Obj}(hb0:B0<=b)(hb:w.heap[b]? =some o)(hc:∀vals t f,o≠ .cells vals t f)(hm:¬Nh o)(arw:∀l r,σ'.loops l=some r->σ.loops l=some r/\K.lp l≠b)(h1:σ'.obj=σ.obj)(h2:σ'.top=σ.top)(D':Nat->Prop)(hD:∀x,D' x->K.D x/\x≠b)(arx:∀x,K.D x->D' x):
 Step E B0 new σ K w σ' {K with D:=D'} (w.putObj b o')/\bE E B0 σ' {K with D:=D'} (w.putObj b o'):=by
 have hlt:=lt_of_heap hb;have ho:=Y0 w b o';have hcell:∀b' i v,w.cell? (at_ b' i)=some v->b'≠b:=fun b' i v hv e=>by
  subst e;have:∃vals t f,o= .cells vals t f:=by simp only[World.cell?,hb] at hv;cases o<;>simp at hv;exact⟨_,_,_,rfl⟩
  obtain⟨vals,t,f,rfl⟩:=this;exact hc _ _ _ rfl
 have e:Ext K σ.top w {K with D:=D'} σ'.top (w.putObj b o'):=by
  rw[h2];refine⟨fun _ h=>⟨h,rfl,rfl,rfl⟩,fun _ _=>.inl ⟨rfl,rfl,rfl,rfl⟩,fun b' i hi=>⟨hi,?_⟩,fun b' hi=>⟨hi,?_⟩⟩
  ·obtain⟨⟨v,hv⟩,_⟩:=h.I b' i hi
   exact cell_of_heap (ho.block b' (hcell b' i v hv) (lt_of_cell hv))
  ·obtain⟨⟨_,hv,hml⟩,_⟩:=h.IM b' hi
   exact ho.block b' (Ux hv hml hb hm) (lt_of_heap hv)
 have ok:bE E B0 σ' {K with D:=D'} (w.putObj b o'):=by
  refine h.upd (σ':=σ') ho e (fun _ _=>rfl) (fun r hr'=>⟨by simpa using hlt,hb0⟩) ?_ ?_ ?_ ?_ ?_ ?_
  ·intro loc s ob hs
   rw[h1] at hs;refine .inl ⟨hs,fun lS e'=>?_⟩;obtain⟨_,a2,_⟩:=h.obj loc s ob hs;cases ob with
   |cells cs=>obtain⟨_,vals,t,g1,_⟩:=a2.2 (by cases cs with|nil=>exact lS.elim|cons _ _=>simp);rw[e',hb] at g1;exact hc _ _ _ (jP g1)
   |map ks vs=>obtain⟨_,es,bX,g1,_⟩:=a2;rw[e',hb] at g1;cases g1;exact hm trivial
  ·intro s hs hlt'
   refine .inl ⟨hs,rfl,rfl,rfl,fun e'=>?_⟩;obtain⟨_,⟨v,hv⟩,_⟩:=(h.own s hs hlt').2.2 (K.lo s) (iP _) hlt';exact hcell _ _ _ hv e'
  ·intro b' i hi
   obtain⟨⟨v,hv⟩,_⟩:=h.I b' i hi;exact .inl ⟨hi,hcell b' i v hv⟩
  ·intro b' hi
   obtain⟨⟨_,hv,hml⟩,_⟩:=h.IM b' hi;exact .inl ⟨hi,Ux hv hml hb hm⟩
  ·intro l r hl
   exact .inl (arw l r hl)
  ·intro b' hd
   exact .inl (hD b' hd)
 exact⟨⟨ok,e,ho.below hb0 hB,arx,fun _ h=>.inl h,fun _ _ h=>.inl h,fun _ h=>.inl h⟩,ok⟩
theorem Step.arz (h:bE E B0 σ K w)(hB:B0<=w.heap.size){new:Nat->Prop}:
 Step E B0 new σ K w σ {K with D:=fun b=>K.D b\/b=w.heap.size} (w.alloc (.deferred (some []))):=by
 have ho:=CX w (.deferred (some []));have e:Ext K σ.top w {K with D:=fun b=>K.D b\/b=w.heap.size} σ.top (w.alloc (.deferred (some []))):=by
  refine⟨fun _ h=>⟨h,rfl,rfl,rfl⟩,fun _ _=>.inl ⟨rfl,rfl,rfl,rfl⟩,fun b' i hi=>⟨hi,?_⟩,fun b' hi=>⟨hi,?_⟩⟩
  ·obtain⟨⟨v,hv⟩,_⟩:=h.I b' i hi
   rw[hv];exact Nl hv
  ·obtain⟨⟨_,hv,hml⟩,_⟩:=h.IM b' hi
   exact heap_alloc_old (lt_of_heap hv)
 refine⟨?_,e,ho.below hB hB,fun _ h=>.inl h,fun _ h=>.inl h,fun _ _ h=>.inl h,fun _ h=>.inl h⟩;refine h.upd (σ':=σ) ho e (fun _ _=>rfl) (fun r hr'=>⟨aD,hB⟩) ?_ ?_ ?_ ?_ ?_ ?_
 ·intro loc s ob hs
  refine .inl ⟨hs,fun hr=>?_⟩;have:=(h.rb _ _ ((h.obj _ _ _ hs).2.2 hr)).1;omega
 ·intro s hs hlt'
  have:=(h.rb _ _ (h.own s hs hlt').2.1).1;exact .inl ⟨hs,rfl,rfl,rfl,ah⟩
 ·intro b' i hi
  obtain⟨⟨v,hv⟩,_⟩:=h.I b' i hi;exact .inl ⟨hi,kF (lt_of_cell hv)⟩
 ·intro b' hi
  obtain⟨⟨_,hv,hml⟩,_⟩:=h.IM b' hi;exact .inl ⟨hi,kF (lt_of_heap hv)⟩
 ·intro l r hl
  have:=(h.rb _ _ (h.loop l r hl).2.2.1).1;exact .inl ⟨hl,ah⟩
 ·intro b' hd
  rcases hd with hd|rfl
  ·exact .inl ⟨hd,kF (lt_of_heap (h.D b' hd))⟩
  ·exact .inr ⟨rfl,heap_alloc_new _ _⟩
def aU.HZ (K:aU)(st b:Nat):aU:=
 {K with A:=fun s=>K.A s\/s=st,lo:=upd K.lo st 0,hi:=upd K.hi st 0,lp:=upd K.lp st b,ρ:=upd K.ρ b (some (.loop st))}
theorem Step.arA (h:bE E B0 σ K w)(hB:B0<=w.heap.size)(hst:¬K.A σ.next){fr:Fr}{tmps:Array Value}{ps:List Nat}{fO body:Code}{fn:FuncId}{D:Nat}(hf:kD K σ.top w fr tmps)(hok1:jy tmps.size fO=true)(hok2:jy tmps.size body=true)(hps:∀p∈ps,p<tmps.size)(hn1:lX fO=true)(hn2:lX body=true):
 Step E B0 (· =σ.next) σ K w ({σ with next:=σ.next+1}.jd σ.next {st:=0,pend:=none,fr:=fr,ps:=ps,fO:=fO,body:=body}) (K.HZ σ.next w.heap.size)
  (w.alloc (.loop {state:=.ready,pending:=none,fn:=fn,tmps:=tmps,params:=ps.toArray,assign:=fO,body:=body,defers:=D})):=by
 generalize hrec:({state:=.ready,pending:=none,fn:=fn,tmps:=tmps,params:=ps.toArray,assign:=fO,body:=body,defers:=D}:Go.Loop)=rec;have ho:=CX w (.loop rec);have hne:∀s,K.A s->s≠σ.next:=fun s hs e=>hst (e▸hs);have e:Ext K σ.top w (K.HZ σ.next w.heap.size) σ.top (w.alloc (.loop rec)):=by
  refine⟨fun s hs=>⟨.inl hs,rfl,upd_ne _ _ (hne s hs),rfl⟩,fun s hs=>.inl ⟨rfl,rfl,upd_ne _ _ (hne s hs),upd_ne _ _ (hne s hs)⟩,fun b' i hi=>⟨hi,?_⟩,fun b' hi=>⟨hi,?_⟩⟩
  ·obtain⟨⟨v,hv⟩,_⟩:=h.I b' i hi
   rw[hv];exact Nl hv
  ·obtain⟨⟨_,hv,hml⟩,_⟩:=h.IM b' hi
   exact heap_alloc_old (lt_of_heap hv)
 refine⟨?_,e,ho.below hB hB,fun _ h=>h,fun _ h=>h,fun _ _ h=>.inl h,fun _ h=>.inl h⟩;refine h.upd (σ':=({σ with next:=σ.next+1}.jd σ.next {st:=0,pend:=none,fr:=fr,ps:=ps,fO:=fO,body:=body})) ho e (fun k hk=>upd_ne _ _ hk) (fun r hr'=>⟨aD,hB⟩) ?_ ?_ ?_ ?_ ?_ ?_
 ·intro loc s ob hs
  have hs':σ.obj loc=some (s,ob):=hs;refine .inl ⟨hs',fun hr=>?_⟩;have:=(h.rb _ _ ((h.obj _ _ _ hs').2.2 hr)).1;omega
 ·intro s hs hlt'
  have hs':s≠σ.next:=by rintro rfl;simp only[aU.HZ,upd_same] at hlt';omega
  have hA:K.A s:=hs.resolve_right hs';simp only[aU.HZ,upd_ne _ _ hs'] at hlt';have:=(h.rb _ _ (h.own s hA hlt').2.1).1;exact .inl ⟨hA,upd_ne _ _ hs',upd_ne _ _ hs',rfl,ah⟩
 ·intro b' i hi
  obtain⟨⟨v,hv⟩,_⟩:=h.I b' i hi;exact .inl ⟨hi,kF (lt_of_cell hv)⟩
 ·intro b' hi
  obtain⟨⟨_,hv,hml⟩,_⟩:=h.IM b' hi;exact .inl ⟨hi,kF (lt_of_heap hv)⟩
 ·intro l r hl
  by_cases hll:l=σ.next
  ·subst hll
   right;have hr:r={st:=0,pend:=none,fr:=fr,ps:=ps,fO:=fO,body:=body}:=by simpa [ak.jd,upd] using hl.symm
   subst hr;have hlp:(K.HZ σ.next w.heap.size).lp σ.next=w.heap.size:=upd_same _ _ _;refine⟨.inr rfl,by rw[hlp];exact hB,by rw[hlp];exact upd_same _ _ _,fn,tmps,D,?_,hf.ext e,hok1,hok2,hps,hn1,hn2⟩;rw[hlp,heap_alloc_new,<-hrec];rfl
  ·left
   have hl1:σ.loops l=some r:=by simpa [ak.jd,upd,hll] using hl
   have:=(h.rb _ _ (h.loop l r hl1).2.2.1).1;exact⟨hl1,ah⟩
 ·intro b' hd
  exact .inl ⟨hd,kF (lt_of_heap (h.D b' hd))⟩
theorem arB (hE:kQ E)(hS:Sound E S){f:Operand}{ps:Array Tmp}{fO body:Code}{fr fr':Fr}{e:Ex}(h:fH E S (.rangeFunc f ps fO body) fr σ=some (e,fr',σ')):oJ E (.rangeFunc f ps fO body) fr σ e fr' σ':=by
 simp only[fH] at h;split at h
 ·rename_i hfun
  simp only[iR] at h;obtain⟨⟨v,σ3⟩,happ,r,hr,h⟩:=h;split at h
  ·simp at h
  ·rename_i hst
   simp only[iE,mF] at h;obtain⟨he,rfl,rfl⟩:=h;have hfn:∃g a b,fr.ev E f= .fn (.func g) a b:=by
    generalize fr.ev E f=x at hfun;unfold Yo at hfun;split at hfun
    ·exact⟨_,_,_,rfl⟩
    ·simp at hfun
   have hnext:σ.next+1<=σ3.next:=by
    obtain⟨g,a,b,hg⟩:=hfn;rw[hg] at happ;unfold lg at happ;dsimp only at happ;split at happ
    ·obtain⟨⟨v0,arC⟩,happ,zL⟩:=bf.1 happ
     have:=(hS.call _ _ _ _ _ _ happ).1;have e3:(jD (Option.map (fun t=>(fr.d,t)) none) arC v0).2=σ3:=congrArg Prod.snd zL;rw[<-e3,EH];exact this
    ·simp only[iR] at happ
     obtain⟨_,_,_,_,happ⟩:=happ;split at happ
     ·simp only[iE,mF] at happ
      rw[<-happ.2];exact iP _
     ·simp at happ
   refine⟨dJ (j4 _) hnext,fun ro B0 K w a n ds hs hok hnr=>?_⟩;have hro:ro=none/\ds.nm=false:=by
    rcases hnr with h|h
    ·exact h
    ·simp[lX] at h
   obtain⟨hro,hnm⟩:=hro;subst hro;simp only[jy,aT,kG,decide_eq_true_eq] at hok;obtain⟨⟨⟨⟨hps,hok1⟩,hok2⟩,hn1⟩,hn2⟩:=hok;refine wpIn_rangeFunc (fun fn _=>?_);have st1:=Step.arz (new:=newer σ (σ3.pG σ.next)) hs.ok hs.hB;have hB1:=dJ hs.hB st1.below.size;have hst:¬K.A σ.next:=fun hA=>Nat.lt_irrefl _ (hs.st _ hA);have hf1:kD {K with D:=fun b=>K.D b\/b=w.heap.size} σ.top (w.alloc (.deferred (some []))) fr a.tmps:=hs.fr.ext st1.ext;have st2:=Step.arA (fn:=fn) (D:=w.heap.size) (ps:=ps.toList) (fO:=fO) (body:=body) st1.ok hB1 hst hf1 (by rw[hs.sz];exact hok1) (by rw[hs.sz];exact hok2) (fun p hp=>by rw[hs.sz];exact hps p hp) hn1 hn2;have hsz1:(w.alloc (.deferred (some []))).heap.size=w.heap.size+1:=aD
   generalize hK2:aU.HZ {K with D:=fun b=>K.D b\/b=w.heap.size} σ.next (w.alloc (.deferred (some []))).heap.size=K2 at st2;generalize hw2:(w.alloc (.deferred (some []))).alloc (.loop {state:=.ready,pending:=none,fn:=fn,tmps:=a.tmps,params:=ps.toList.toArray,assign:=fO,body:=body,defers:=w.heap.size})=w2 at st2;have afA:K2.lp σ.next=w.heap.size+1:=by rw[<-hK2,<-hsz1];exact upd_same _ _ _
   have hA2:K2.A σ.next:=by rw[<-hK2];exact .inr rfl
   have hf2:kD K2 σ.top w2 fr a.tmps:=hf1.ext st2.ext;have arD:∀s,K2.A s->s<σ.next+1:=fun s hsA=>by
    rcases st2.A s hsA with h1|h1
    ·exact Nat.lt_succ_of_lt (hs.st s h1)
    ·omega
   have hB2:=dJ hB1 st2.below.size;have hra:RelA K2 σ.top w2 [.fn (.yield σ.next) [] []] #[.func (.yield (w.heap.size+1)) #[] #[]]:=by refine⟨rfl,fun i hi=>?_⟩;have hi0:i=0:=jm;subst hi0;have:=Rel.yield (K:=K2) (T:=σ.top) (w:=w2) σ.next hA2;rw[afA] at this;exact this
   obtain⟨_,g,first,cap,hcf,hbody,hcall⟩:=afc hE hS.call st2.ok hB2 arD hfn happ (xZ st2.ok hf2 f) hra;have henter:=run_enterLoop_outer (P:=E.P) (w:=w) fn a.tmps ps fO body;have arE:(w.alloc (.deferred (some []))).alloc (.loop {state:=.ready,pending:=none,fn:=fn,tmps:=a.tmps,params:=ps,assign:=fO,body:=body,defers:=w.heap.size})=w2:=by rw[<-hw2]
   rw[arE] at henter;refine⟨w.heap.size+1,[mark w.heap.size],w2,{target:=.fn (.func g) cap,args:=first++ #[.func (.yield (w.heap.size+1)) #[] #[]]},w2,g,first++ #[.func (.yield (w.heap.size+1)) #[] #[]]++cap,w2,henter,?_,fun _ _=>trivial,?_,
    fun hd=>MU,?_⟩
   ·unfold resolve
    have hargs:(rangeCall f (w.heap.size+1)).args.map a.eval= #[.func (.yield (w.heap.size+1)) #[] #[]]:=(by simp[rangeCall,Act.eval]);rw[hargs];simp only[rangeCall,hcf,Deferred.ofValue,Sem.run_pure]
   ·simp only[invoke]
    exact UZ hE hbody _ _
   ·have arF:CallsIn (kE none) (0-1) E.P g (first++ #[.func (.yield (w.heap.size+1)) #[] #[]]++cap) w2 _:=hcall
    refine arF.mono ?_;intro en w3 hp;cases en with
    |panicked ch=>exact hp.elim|outgrown=>exact hp.elim|returned cv=>
     obtain⟨qy,r3,U8,hA3,mV⟩:=hp;obtain⟨aEA,hb3,arG,arH,arI,D3,hh3,hf3,_⟩:=U8.loop σ.next r hr;have Hw:qy.lp σ.next=w.heap.size+1:=((mV.ext.A σ.next hA2).2.2.1).trans afA;have hend:=run_endLoop (P:=E.P) hh3 (by
      show tJ r.st≠ .busy;unfold tJ;split
      ·simp
      ·simp[hst])
     rw[Hw] at hend;have hB3:=dJ hB2 mV.below.size;have hput:=bE.U7 (σ':=σ3.pG σ.next) (new:=newer σ (σ3.pG σ.next)) (o':=.loop {state:=.exhausted,pending:=r.pend.bind uT,fn:=arH,tmps:=arI,params:=r.ps.toArray,assign:=r.fO,body:=r.body,defers:=D3}) U8 hB3 hb3 hh3 (fun _ _ _=>aD) (fun e=>e)
      (fun l r1 hl=>by have hll:l≠σ.next:=(by rintro rfl;simp[ak.pG,upd] at hl);have hl1:σ3.loops l=some r1:=(by simpa [ak.pG,upd,hll] using hl);refine⟨hl1,fun e'=>?_⟩;have:=(U8.loop l r1 hl1).2.2.1;rw[e',arG] at this;cases this;exact hll rfl) rfl rfl qy.D (fun x hx=>⟨hx,wI (U8.D x hx) hh3 aD⟩) (fun _ h=>h)
     have Zh:({qy with D:=qy.D}:aU)=qy:=rfl;rw[Zh] at hput;obtain⟨pQ,U9⟩:=hput;rw[Hw] at pQ U9;have arJ:(σ3.pG σ.next).next=σ3.next:=rfl;have tO:=Step.trans (new:=newer σ (σ3.pG σ.next)) st1 ((st2.mono (fun s hs'=>by subst hs';exact⟨iP _,by rw[arJ];omega⟩)).trans ((mV.mono (fun s hs'=>by have h1:σ.next+1<=s:=hs'.1;exact⟨ah,hs'.2⟩)).trans pQ));have mk:∀w4,bE E B0 (σ3.pG σ.next) qy w4->Step E B0 (newer σ (σ3.pG σ.next)) σ K w (σ3.pG σ.next) qy w4->St E B0 (σ3.pG σ.next) qy w4 fr {a with defers:=[mark w.heap.size]++a.defers} n ds:=by
      intro w4 U9 tO;refine⟨U9,dJ hs.hB tO.below.size,hs.fr.ext tO.ext,hs.sz,?_,hA3,dJ hs.hD tO.below.size⟩;obtain⟨bs,d1,d2,d3,_⟩:=hs.df;refine⟨w.heap.size::bs,by simp[d1],?_,fun b hb=>?_,fun e=>by rw[hnm] at e;cases e⟩
      ·refine uK.2 ⟨fun hm=>?_,d2⟩
       exact Nat.lt_irrefl _ (lt_of_heap (hs.ok.D _ (d3 _ hm).1))
      ·rcases fV.1 hb with rfl|hb
       ·exact⟨mV.D _ (st2.D _ (.inr rfl)),hs.hD⟩
       ·exact⟨tO.D b (d3 b hb).1,(d3 b hb).2⟩
     have hSt:=mk _ U9 tO;refine⟨_,_,hend,?_⟩;cases hp:r.pend with
     |none=>rw[hp] at he hSt tO;simp only[Option.bind_none];subst he;exact⟨trivial,qy,hSt,tO⟩|some e1=>
      rw[hp] at he hSt tO;simp only at he;subst he;cases e1 with
      |normal=>exact⟨trivial,qy,hSt,tO⟩|exit i=>exact wpIn_exit ⟨rfl,qy,hSt,tO⟩|ret=>exact wpIn_ret ⟨trivial,qy,hSt,tO⟩
 ·simp at h
end
theorem exists_least {p:Nat->Prop}(h:∃n,p n):∃n,p n/\∀m,p m->n<=m:=by
 obtain⟨n,hn⟩:=h;induction n using Nat.strongRecOn with
 |_ n ih=>
  by_cases hm:∃m,m<n/\p m
  ·obtain⟨m,hm1,hm2⟩:=hm
   exact ih m hm1 hm2
  ·exact⟨n,hn,fun m hm'=>Classical.byContradiction fun hlt=>hm ⟨m,ah,hm'⟩⟩
open Classical in
noncomputable def least (p:Nat->Prop):Nat:=if h:∃n,p n then (exists_least h).choose else 0
theorem afB {p:Nat->Prop}(h:∃n,p n):p (least p)/\∀m,p m->least p<=m:=by unfold least;rw[dif_pos h];exact(exists_least h).choose_spec
theorem afC {F:Fence}{rm:Nat}{P:Program}{Q:Exit->Act->World->Prop}{a:Act}{w:World}{c:Code}(I:Nat->Act->World->Prop)(n₀:Nat)(h₀:I n₀ a w)(round:∀n a w,I n a w->c.wpIn F rm P (Exit.then (fun a' w'=>∃n',n'<n/\I n' a' w') Q) a w):(Code.loop c).wpIn F rm P Q a w:=by
 refine wpIn_loop (fun a w=>∃n,I n a w) (fun a w=>least (fun n=>I n a w)) ⟨n₀,h₀⟩ ?_;intro a w hI;refine wpIn_mono (round _ a w (afB hI).1) ?_;intro e a' w' hq;cases e with
 |normal=>obtain⟨n',hlt,hI'⟩:=hq;exact show (∃n,I n a' w')/\least (fun n=>I n a' w')<least (fun n=>I n a w) from ⟨⟨n',hI'⟩,Nat.lt_of_le_of_lt ((afB ⟨n',hI'⟩).2 n' hI') hlt⟩
 |exit id=>exact hq|goto l=>exact hq|ret=>exact hq|panic ch=>exact hq|outgrown=>exact hq
section
variable {E:Env}
def afD (E:Env)(code:Code->Fr->ak->Option (Ex×Fr×ak))(c:Code):Prop:=∀fr σ e fr' σ',code c fr σ=some (e,fr',σ')->oJ E c fr σ e fr' σ'
theorem afE (hE:kQ E)(n:Nat)(hS:∀m,m<=n->Sound E (dX E m)):∀c,afD E (fH E (dX E n)) c:=by
 intro c;induction c with
 |skip=>intro fr σ e fr' σ' h;simp only[fH,iE,mF] at h;obtain⟨rfl,rfl,rfl⟩:=h;exact apR
 |region id ops dr=>intro fr σ e fr' σ' h;exact arv hE (hS n (iP _)) h|seq x y N8 ihy=>
  intro fr σ e fr' σ' h;simp only[fH,iR] at h;obtain⟨⟨e1,bM,σ1⟩,h1,h⟩:=h;cases e1 with
  |normal=>exact apW (N8 _ _ _ _ _ h1) (ihy _ _ _ _ _ h)|exit i=>simp only[iE,mF] at h;obtain⟨rfl,rfl,rfl⟩:=h;exact aeX aD (N8 _ _ _ _ _ h1)
  |ret=>simp only[iE,mF] at h;obtain⟨rfl,rfl,rfl⟩:=h;exact aeX aD (N8 _ _ _ _ _ h1)
 |cond c x y N8 ihy=>
  intro fr σ e fr' σ' h;simp only[fH,iR] at h;obtain⟨t,ht,h⟩:=h;refine apX ht ?_;cases t
  ·exact ihy _ _ _ _ _ xJ
  ·exact N8 _ _ _ _ _ xJ
 |block id c ih=>
  intro fr σ e fr' σ' h;simp only[fH,bf] at h;obtain⟨⟨e1,bM,σ1⟩,h1,h⟩:=h;have:=apY (id:=id) (ih _ _ _ _ _ h1);cases e1 with
  |normal=>simp only[mF] at h;obtain⟨rfl,rfl,rfl⟩:=h;exact this
  |ret=>simp only[mF] at h;obtain⟨rfl,rfl,rfl⟩:=h;exact this
  |exit i=>
   simp only[NG] at this;simp only at h;split at h
   ·rename_i hi
    simp only[mF] at h;obtain⟨rfl,rfl,rfl⟩:=h
    rwa[if_pos hi] at this
   ·rename_i hi
    simp only[mF] at h;obtain⟨rfl,rfl,rfl⟩:=h
    rwa[if_neg hi] at this
 |loop c ih=>
  intro fr σ e fr' σ' h;have hm:(dX E (n+1)).code (.loop c) fr σ=some (e,fr',σ'):=h;have hbody:∀k,k<=n->afD E (fH E (dX E k)) c:=by
   intro k hk;by_cases hkn:k=n
   ·subst hkn;exact ih
   ·intro fr σ e fr' σ' hc
    exact(hS (k+1) ah).code c fr σ e fr' σ' hc
  have hnext:∀(k:Nat)(fr:Fr)(σ:ak),k<=n+1->(dX E k).code (.loop c) fr σ=some (e,fr',σ')->σ.next<=σ'.next:=by
   intro k;induction k with
   |zero=>intro fr σ _ hh;cases hh|succ k ihk=>
    intro fr σ hk hh;have hh':fH E (dX E k) (.loop c) fr σ=some (e,fr',σ'):=hh;simp only[fH,iR] at hh';obtain⟨⟨e1,bM,σ1⟩,h1,h2⟩:=hh';have hb:=(hbody k ah _ _ _ _ _ h1).1;cases e1 with
    |normal=>exact dJ hb (ihk bM σ1 ah h2)|exit i=>simp only[iE,mF] at h2;obtain⟨_,_,rfl⟩:=h2;exact hb
    |ret=>simp only[iE,mF] at h2;obtain⟨_,_,rfl⟩:=h2;exact hb
  refine⟨hnext (n+1) fr σ (iP _) hm,fun ro B0 K w a sz ds hs hok hnr=>?_⟩;refine afC (fun m a1 w1=>m<=n+1/\∃bM σ1 K1,(dX E m).code (.loop c) bM σ1=some (e,fr',σ')/\St E B0 σ1 K1 w1 bM a1 sz ds/\Step E B0 (newer σ σ1) σ K w σ1 K1 w1/\σ.next<=σ1.next) (n+1)
   ⟨iP _,fr,σ,K,hm,hs,.refl hs.ok,iP _⟩ ?_
  rintro m a1 w1 ⟨hmn,bM,σ1,K1,hcode,hs1,st1,hle1⟩;cases m with
  |zero=>cases hcode|succ k=>
   have hh':fH E (dX E k) (.loop c) bM σ1=some (e,fr',σ'):=hcode;simp only[fH,iR] at hh';obtain⟨⟨e2,fI,σ2⟩,h1,h2⟩:=hh';obtain⟨hle2,hwp⟩:=hbody k ah _ _ _ _ _ h1;refine wpIn_mono (hwp ro B0 K1 w1 a1 sz ds hs1 hok hnr) ?_;rintro x a2 w2 ⟨hx,K2,hs2,st2⟩;cases e2 with
   |normal=>
    cases x<;>simp only[lZ] at hx;exact⟨k,Cz k,ah,fI,σ2,K2,h2,hs2,st1.widen st2 hle1 hle2,dJ hle1 hle2⟩
   |exit i=>simp only[iE,mF] at h2;obtain⟨rfl,rfl,rfl⟩:=h2;cases x<;>simp only[lZ] at hx;exact⟨hx,K2,hs2,st1.widen st2 hle1 hle2⟩
   |ret=>simp only[iE,mF] at h2;obtain⟨rfl,rfl,rfl⟩:=h2;cases x<;>simp only[lZ] at hx;exact⟨trivial,K2,hs2,st1.widen st2 hle1 hle2⟩
 |rangeFunc f ps x y=>intro fr σ e fr' σ' h;exact arB hE (hS n (iP _)) h|exit id=>intro fr σ e fr' σ' h;simp only[fH,iE,mF] at h;obtain⟨rfl,rfl,rfl⟩:=h;exact apS id
 |scope c ih=>intro fr σ e fr' σ' h;simp only[fH] at h;exact apV (ih _ _ _ _ _ h)|label l=>intro fr σ e fr' σ' h;simp only[fH,iE,mF] at h;obtain⟨rfl,rfl,rfl⟩:=h;exact apU l
 |goto l=>intro fr σ e fr' σ' h;simp[fH] at h|ret=>intro fr σ e fr' σ' h;simp only[fH,iE,mF] at h;obtain⟨rfl,rfl,rfl⟩:=h;exact apT
 |refuse why=>intro fr σ e fr' σ' h;simp[fH] at h
variable {B0:Nat}{σ:ak}{K:aU}{w:World}{fr:Fr}
def N9 (tmps:Array Value):ResultVar->Sem Value
 |.tmp t=>pure (tmps.getD t undef)|.cell a t=>do loadVar t (<-asAddr (tmps.getD a undef))
theorem arK (h:bE E B0 σ K w){tmps:Array Value}(hf:kD K σ.top w fr tmps){r:ResultVar}{v:V}(hv:lu E fr σ r=some v):
 ∃c,(N9 tmps r).run E.P w= .ok c w/\Rel K σ.top w v c:=by
 cases r with
 |tmp t=>simp only[lu,iE] at hv;subst hv;exact⟨_,rfl,hf t⟩|cell a t=>
  simp only[lu] at hv;have ha:=hf a;cases hx:fr.tm a with
  |ref loc s off=>
   rw[hx] at hv ha;simp only at hv;obtain⟨c,h1,h2⟩:=YG h (t:=t) ha (v:=v) hv;simp only[N9];generalize tmps.getD a undef=ca at h1 ha;cases ha with
   |ref _ _ _ hA=>refine⟨c,?_,h2⟩;simpa [Instr.loadAt,Instr.sureAddr,asAddr] using h1
  |_=>rw[hx] at hv;simp at hv
theorem afF (h:bE E B0 σ K w){tmps:Array Value}(hf:kD K σ.top w fr tmps):∀(rs:List ResultVar)(vs:List V),rs.mapM (lu E fr σ)=some vs->
 ∃cs:List Value,(rs.mapM (N9 tmps)).run E.P w= .ok cs w/\vs.length=cs.length/\
  ∀i,i<vs.length->Rel K σ.top w (vs.getD i aL) (cs.getD i undef):=by
 intro rs;induction rs with
 |nil=>intro vs hv;simp at hv;subst hv;exact⟨[],aD,rfl,fun i hi=>absurd hi (gL i)⟩
 |cons r rs ih=>
  intro vs hv;simp only[j5,Option.pure_def,Option.bind_eq_bind,iR,iE] at hv;obtain⟨v,h1,vs',h2,rfl⟩:=hv;obtain⟨c,g1,g2⟩:=arK h hf h1;obtain⟨cs,k1,k2,k3⟩:=ih vs' h2;refine⟨c::cs,?_,by simp[k2],fun i hi=>?_⟩
  ·simp only[j5,Sem.run_bind,g1,Result.andThen_ok,k1,Sem.run_pure]
  ·cases i with
   |zero=>exact g2|succ i=>exact k3 i jm
theorem Zi {fn:Func}{tmps:Array Value}{R:Ending->World->Prop}{B1:Nat}(hB1:B0<=B1)(Di:Nat->Prop):∀(bs:List Nat)(K:aU)(w:World),bE E B0 σ K w->B0<=w.heap.size->bs.Nodup->(∀b∈bs,K.D b/\B1<=b)->(∀b,Di b->K.D b)->(∀b,Di b->b<B1)->(∀w1,Step E B0 (fun _=>False) σ {K with D:=Di} w σ {K with D:=Di} w1->LeavesIn Fence.wide 0 E.P fn tmps R [] .returning w1)->LeavesInM Fence.wide 0 E.P fn tmps R (bs.map mark) .returning w:=by
 intro bs;induction bs with
 |nil=>intro K w h _ _ _ hk _ hl;refine hl w (.refl (h.U6 Di (fun b hb=>h.D b (hk b hb))))
 |cons b bs ih=>
  intro K w h hB hnd hbs hk hlt hl;obtain⟨hb,Zj⟩:=hbs b aD;have hheap:=h.D b hb;have hput:=bE.U7 (σ':=σ) (new:=fun _=>False) (o':=.deferred none) h hB (dJ hB1 Zj) hheap (fun _ _ _=>aD) (fun e=>e)
   (fun l r hl=>by obtain⟨_,_,_,_,_,_,hh,_⟩:=h.loop l r hl;exact⟨hl,wI hh hheap aD⟩) rfl rfl
  have ok1:bE E B0 σ {K with D:=fun x=>K.D x/\x≠b} (w.putObj b (.deferred none)):=by
   have ho:=Y0 w b (.deferred none);have h0:bE E B0 σ {K with D:=fun _=>False} w:=h.U6 _ (fun b hb=>hb.elim);have hp:=(bE.U7 (σ':=σ) (new:=fun _=>False) (o':=.deferred none) h0 hB (dJ hB1 Zj) hheap (fun _ _ _=>aD) (fun e=>e)
    (fun l r hl=>by obtain⟨_,_,_,_,_,_,hh,_⟩:=h.loop l r hl;exact⟨hl,wI hh hheap aD⟩) rfl rfl (fun _=>False) (fun x hx=>hx.elim) (fun _ h=>h)).2
   exact hp.U6 (fun x=>K.D x/\x≠b) (fun x hx=>by rw[World.putObj_heap_other hx.2];exact h.D x hx.1)
  refine⟨aD,.inl ⟨b,w.putObj b (.deferred none),rfl,run_takeDeferred hheap,?_⟩⟩;refine ih {K with D:=fun x=>K.D x/\x≠b} (w.putObj b (.deferred none)) ok1 (by simpa using hB) (uK.1 hnd).2
   (fun x hx=>⟨⟨(hbs x zm).1,fun e=>(uK.1 hnd).1 (e▸hx)⟩,(hbs x zm).2⟩) (fun x hx=>⟨hk x hx,fun e=>by have:=hlt x hx;omega⟩) hlt (fun w1 st=>hl w1 ?_)
  have Zh:bE E B0 σ {K with D:=Di} w:=h.U6 Di (fun b hb=>h.D b (hk b hb));have st0:=(bE.U7 (σ':=σ) (new:=fun _=>False) (o':=.deferred none) Zh hB (dJ hB1 Zj) hheap (fun _ _ _=>aD) (fun e=>e)
   (fun l r hl=>by obtain⟨_,_,_,_,_,_,hh,_⟩:=h.loop l r hl;exact⟨hl,wI hh hheap aD⟩) rfl rfl Di (fun x hx=>⟨hx,fun e=>by have h1:x<B1:=hlt x hx;omega⟩) (fun _ h=>h)).1
  exact st0.trans st
theorem arL (n:Nat)(hS:ND E (dX E n).code):Hq E (CU E (dX E n)):=by
 intro f args d σ v σ' h;simp only[CU,iR] at h;obtain⟨fn,hfn,c,hc,h⟩:=h;split at h
 ·rename_i hok
  simp only[iR] at h;obtain⟨⟨e,bM,σ1⟩,hcode,h⟩:=h;have hne:e= .normal\/e= .ret:=by
   cases e with
   |normal=>exact .inl rfl|ret=>exact .inr rfl|exit i=>simp at h
  have h':(fn.results.toList.mapM (lu E bM σ1)).map (fun vs=>(match vs with| [v]=>v|vs=>.bB vs,σ1))=some (v,σ'):=by rcases hne with rfl|rfl<;>exact h
  simp only[bf,mF] at h';obtain⟨vs,hvs,hv,rfl⟩:=h';obtain⟨hle,hwp⟩:=hS _ _ _ _ _ _ hcode;refine⟨hle,⟨fn,c,hfn,hc⟩,fun ro B0 K w cO hs hB hA hr=>?_⟩;have hsz:cO.size=args.length:=hr.1.symm;have hst:St E B0 σ K w {d:=d,aj:=E.aj f,tm:=fun i=>args.getD i aL} {tmps:=cO++Array.replicate (fn.ntmps-cO.size) undef,defers:=[]} fn.ntmps ⟨[],w.heap.size,false⟩:=by
   refine⟨hs,hB,fun t=>?_,eY,⟨[],rfl,List.nodup_nil,(fun b hb=>by cases hb),fun _=>rfl⟩,hA,iP _⟩;show Rel K σ.top w (args.getD t aL) _;by_cases ht:t<args.length
   ·have e1:(cO++Array.replicate (fn.ntmps-cO.size) undef).getD t undef=cO.getD t undef:=by simp only[zu];rw[Array.getElem?_append_left ah]
    rw[e1];exact hr.2 t ht
   ·have e1:(cO++Array.replicate (fn.ntmps-cO.size) undef).getD t undef=undef:=by simp only[zu];rw[Array.getElem?_append_right ah,Array.getElem?_replicate];split<;>rfl
    have e2:args.getD t aL=aL:=(by simp[List.getD,List.getElem?_eq_none (Nat.le_of_not_lt ht)]);rw[e1,e2];exact .undef _ _ _
  have hwp':=hwp none B0 K w _ fn.ntmps ⟨[],w.heap.size,false⟩ hst hok.2 (.inl ⟨rfl,rfl⟩);have arM:CallsIn Fence.wide 0 E.P f cO w (zJ E B0 σ K w v σ1):=by
   refine callsIn_of_wp_marks hfn hc trivial (wpIn_mono hwp' ?_);rintro x a' w' ⟨hx,K',hs',st'⟩;have hleave:LeavesInM Fence.wide 0 E.P fn a'.tmps (zJ E B0 σ K w v σ1) a'.defers .returning w':=by
    obtain⟨bs,d1,d2,d3,_⟩:=hs'.df;rw[d1,nV];refine Zi (B1:=w.heap.size) hB K.D bs K' w' hs'.ok hs'.hB d2 d3 st'.D (fun b hb=>lt_of_heap (hs.D b hb)) (fun w1 uX=>?_);have yu:=uX.ok;have hf2:kD {K' with D:=K.D} σ1.top w1 bM a'.tmps:=(by have e1:Ext K' σ1.top w' {K' with D:=K.D} σ1.top w1:=(HY K' σ1.top w' K.D).trans uX.ext;exact hs'.fr.ext e1);obtain⟨cs,k1,k2,k3⟩:=afF yu hf2 fn.results.toList vs hvs;have hrun:(results fn a'.tmps).run E.P w1= .ok (if h:cs.toArray.size=1 then cs.toArray[0] else .tuple cs.toArray) w1:=(by have hres:results fn a'.tmps=(do let vs<-fn.results.mapM (N9 a'.tmps);pure (if h:vs.size=1 then vs[0] else .tuple vs)):=rfl;rw[hres,Array.mapM_eq_mapM_toList];simp only[Sem.run_bind,Sem.run_map,k1,Result.andThen_ok,Sem.run_pure]);have Dc:Step E B0 (newer σ σ1) σ K w σ1 {K' with D:=K.D} w1:=
     ⟨yu,st'.ext.trans ((HY K' σ1.top w' K.D).trans uX.ext),st'.below.trans uX.below,fun _ h=>h,st'.A,st'.qp,st'.qw⟩
    refine⟨_,hrun,{K' with D:=K.D},?_,yu,hs'.st,Dc⟩;rw[<-hv];cases vs with
    |nil=>have:cs=[]:=Um;subst this;exact .bB [] #[] rfl (fun i hi=>absurd hi (gL i))
    |cons v1 vs=>
     cases cs with
     |nil=>simp at k2|cons c1 cs=>
      cases vs with
      |nil=>have:cs=[]:=Um;subst this;have:=k3 0 aD;simpa using this|cons v2 vs=>have hsz2:¬((c1::cs).toArray.size=1):=(by simp only[List.length_cons,Nat.add_right_cancel_iff] at k2;rw[List.size_toArray,List.length_cons];omega);rw[dif_neg hsz2];refine .bB _ _ (by simpa using k2) (fun i hi=>?_);have:=k3 i hi;simpa [zu,List.getD] using this
   rcases hne with rfl|rfl<;>cases x<;>simp only[lZ] at hx<;>exact hleave
  exact arM
 ·simp at h
theorem arN (hE:kQ E)(n:Nat)(hS:ND E (dX E n).code):Hq E (CW E (dX E n)):=by
 intro f args d σ v σ' h;unfold CW at h;split at h
 ·rename_i v' hv
  cases h;obtain⟨g,h1,h2⟩:=iR.1 hv;obtain⟨h3,h4⟩:=hE.cl f g h1 args _ h2;exact⟨iP _,h3,fun ro B0=>h4 ro B0 _⟩
 ·exact arL n hS f args d σ v σ' h
theorem H6 (hE:kQ E):∀n,Sound E (dX E n):=by
 have all:∀n m,m<=n->Sound E (dX E m):=by
  intro n;induction n with
  |zero=>
   intro m hm;obtain rfl:m=0:=ah
   exact⟨(fun _ _ _ _ _ _ h=>bL),(fun _ _ _ _ _ _ h=>bL)⟩
  |succ n ih=>
   intro m hm;by_cases hmn:m<=n
   ·exact ih m hmn
   ·obtain rfl:m=n+1:=ah
    exact⟨fun c fr σ e fr' σ' h=>afE hE n ih c fr σ e fr' σ' h,arN hE n (ih n (iP _)).code⟩
 exact fun n=>all n n (iP _)
theorem arO (hE:kQ E){n:Nat}{f:FuncId}{args:List V}{v:V}(h:wD E (dX E n) f args=some v):oK E f args v:=YZ hE (H6 hE n).call h
end
end aR
end
