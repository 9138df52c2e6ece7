import Derived.Test.YthadiihdjhakdaaGreatF2904
set_option linter.all false
section
namespace aY
open Go
section
variable {E:Env}{S:l5}{fr fr':Fr}{σ σ':au}
theorem Key.eq_iff {a b:Key}:a.eq b=true↔a=b:=by
 cases a<;>cases b<;>simp[Key.eq,vX];rename_i x y;obtain⟨x1,x2⟩:=x;obtain⟨y1,y2⟩:=y;simp;exact⟨fun h=>⟨h.2,h.1⟩,fun h=>⟨h.2,h.1⟩⟩
theorem ae5 {f g:dS}(h:clash f g=false)(k:Key):¬(f.W k/\g.T k):=by
 rintro⟨hw,ht⟩;simp only[clash,kP,List.any_eq_false] at h;obtain⟨h1,h2⟩:=h;have aob:k∈f.w:=by
  rcases hw with h| ⟨h,hs⟩
  ·exact h
  ·rw[h,Bool.true_and] at h1
   simp only[kP,List.any_eq_false] at h1;obtain⟨⟨⟨a1,a2⟩,a3⟩,a4⟩:=h1;rcases ht with e|e|e| ⟨e,_⟩
   ·subst e;cases hs
   ·exact absurd hs (a3 k e)
   ·exact absurd hs (a4 k e)
   ·rcases e with e|e
    ·rw[a1] at e;cases e
    ·rw[a2] at e;cases e
 have h3:=h2 k aob;simp only[qP,List.any_eq_true,iP,not_or,not_exists,not_and] at h3;obtain⟨⟨⟨h4,h5⟩,h6⟩,h7⟩:=h3;rcases ht with h|h|h| ⟨h,hs⟩
 ·exact h4 (Key.eq_iff.2 h)
 ·exact h5 k h (Key.eq_iff.2 rfl)
 ·exact h6 k h (Key.eq_iff.2 rfl)
 ·rcases h with h|h
  ·exact h7 (.inl h) hs
  ·exact h7 (.inr h) hs
theorem aoc {st:Nat}{o:Oper}{v:V}(hop:opC E S fr σ st o=some (v,fr',σ')):fr'=fr:=by
 unfold opC at hop;split at hop
 ·split at hop
  ·simp only[aZ,aP] at hop
   obtain⟨_,_,_,rfl,_⟩:=hop;rfl
  ·split at hop
   ·simp only[aZ,aP] at hop
    obtain⟨_,_,_,rfl,_⟩:=hop;rfl
   ·simp only[aZ,aP] at hop
    obtain⟨_,_,_,rfl,_⟩:=hop;rfl
  ·simp at hop
 ·simp at hop
 ·simp only[aZ,aP] at hop
  obtain⟨_,_,_,rfl,_⟩:=hop;rfl
def drop2 (r:Option (V×Fr×au)):Option (V×au):=r.map fun (v,_,σ)=>(v,σ)
theorem aod {r:Option (V×Fr×au)}{v:V}(h:drop2 r=some (v,σ)):∃fr,r=some (v,fr,σ):=by simp only[drop2,aZ,aP] at h;obtain⟨⟨v',fr',σ'⟩,h1,rfl,rfl⟩:=h;exact⟨fr',h1⟩
theorem Sm (r:Option (V×au))(fr:Fr):drop2 (r.map fun (v,σ)=>(v,fr,σ))=r:=by
 cases r<;>rfl
theorem aoe (ht:σ'.top=σ.top){st:Nat}{σ1:au}{v:V}:Local (fun k=>k∈[Key.top]) σ σ' (tQ σ st σ1 v) (tQ σ' st σ1 v):=by
 have hs:∀v:V,Local (fun k=>k∈[Key.top]) σ σ' (some (v,σ)) (some (v,σ')):=fun v=>(pq (σ:=σ) (σ':=σ')).local.mono (fun k hk=>EB) (fun k hk=>by rw[iX.1 hk];exact ht)
 unfold tQ;cases v with
 |ay c l=>
  dsimp only;refine mJ ?_ dQ;cases c with
  |nil=>exact hs _|full=>exact hs _|own n s=>exact mJ (Ie ht) dQ|sh=>exact dQ
 |aJ loc s off len cap bS ag=>dsimp only;exact mJ (jT fun _=>Ie ht) dQ
 |_=>exact dQ
theorem aof {b:Bool}{l:List V}(hp:l.all (fun a=>aU (er a))=true):qW b σ' l=qW b σ l:=by
 have hm:∀l:List V,l.all (fun a=>aU (er a))=true->l.mapM (bn 20 σ')=l.mapM (bn 20 σ):=fun l hp=>Mr fun x hx=>ae0 (kM.1 hp x hx);unfold qW;cases b with
 |false=>simp only[dO,if_false];exact hm l hp|true=>
  simp only[if_true]
  match l,hp with
  | [],_=>rfl|.ay .nil []::l,hp=>rw[List.all_cons,iP] at hp;dsimp only;rw[hm l hp.2]|.ay .nil (_::_)::_,_=>rfl|.ay .sh _::_,_=>rfl|.ay .full _::_,_=>rfl|.ay (.own _ _) _::_,_=>rfl|.int _ _::_,_=>rfl|.bool _::_,_=>rfl|.str _::_,_=>rfl|.cB::_,_=>rfl|.dF::_,_=>rfl|.gL::_,_=>rfl|.iD::_,_=>rfl|.agg _::_,_=>rfl|.bq _::_,_=>rfl|.aJ _ _ _ _ _ _ _::_,_=>rfl|.aI _ _::_,_=>rfl|.ref _ _ _::_,_=>rfl|.fn _ _ _::_,_=>rfl
  |.dJ _ _::_,_=>rfl|.eU _ _::_,_=>rfl|.iface _ _::_,_=>rfl|.raw _::_,_=>rfl
theorem aog {W:List Key}{loc:Option Loc}(hl:∀l,loc=some l->Key.obj l∈W)(hW:∀q∈W,iL σ σ' q){st:Nat}{σ1:au}{v:V}:Local (fun k=>k∈W) σ σ' (vW σ st loc σ1 v) (vW σ' st loc σ1 v):=by
 have hs:∀v:V,Local (fun k=>k∈W) σ σ' (some (v,σ)) (some (v,σ')):=fun v=>(pq (σ:=σ) (σ':=σ')).local.mono (fun k hk=>EB) hW
 unfold vW;cases v with
 |ay c l=>
  dsimp only;refine mJ ?_ dQ;cases c with
  |nil=>exact hs _|full=>exact hs _|own n s=>exact dQ|sh=>exact dQ
 |aJ L s off len cap bS ag=>
  dsimp only;cases loc with
  |none=>exact dQ|some loc=>simp only[Option.bind_some];refine jT fun cs=>mJ ?_ dQ;exact Ar.mono (fun k hk=>by rw[iX.1 hk];exact hl _ rfl) hW
 |_=>exact dQ
theorem aoh {W:List Key}{loc:Option Loc}(hl:∀l,loc=some l->Key.obj l∈W)(hW:∀q∈W,iL σ σ' q)(htop:Key.top∈W){st:Nat}{fv:V}{args:List V}:Local (fun k=>k∈W) σ σ' (qX E S σ st loc fv args) (qX E S σ' st loc fv args):=by
 have ht:σ'.top=σ.top:=hW _ htop;unfold qX;cases fv with
 |fn f a b=>
  cases f with
  |func f=>
   dsimp only;by_cases hp:(a++args++b).all (fun a=>aU (er a))=true
   ·rw[if_pos hp,if_pos hp,aof hp]
    refine jT fun bQ=>jT fun r=>mJ (aog hl hW) ?_;exact(aoe ht).mono (fun k hk=>by rw[iX.1 hk];exact htop) hW
   ·rw[if_neg hp];exact dQ
  |_=>exact dQ
 |_=>exact dQ
theorem ae6 {o:Oper}:∀l,(o.dst.map fun t=>(fr.d,E.cn t))=some l->Key.obj l∈yU E fr o:=by
 intro l h;unfold yU;cases hd:o.dst with
 |none=>rw[hd] at h;cases h|some t=>rw[hd] at h;cases h;simp
theorem aoi {st:Nat}{o:Oper}(hw:(jq E fr o).oZ=false)(xW:(jq E fr o).tT=true->σ'=σ)(h:∀k,k∈(jq E fr o).t\/k∈(jq E fr o).w->iL σ σ' k):
 Local (fun k=>k∈(jq E fr o).w) σ σ' (drop2 (opC E S fr σ st o)) (drop2 (opC E S fr σ' st o)):=by
 by_cases hc:∃c,o.op= .call c
 ·obtain⟨c,ho⟩:=hc
  unfold opC;simp only[ho];cases fC:c.callee with
  |builtin b=>
   simp only[Sm];simp only[jq,ho,fC] at h hw xW;simp only[jq,ho,fC];have hargs:∀(t:List Key),(∀k,k∈(c.args.toList.flatMap fun x=>jf (fr.ev E x))\/k∈t->iL σ σ' k)->∀x∈c.args.toList.map (fr.ev E),∀q∈jf x,iL σ σ' q:=by intro t ht x hx q hq;obtain⟨y,hy,rfl⟩:=EF.1 hx;exact ht q (.inl (List.mem_flatMap.2 ⟨y,hy,hq⟩))
   cases b<;>simp only[gP,reduceCtorEq,Bool.true_eq_false] at hw;case len=>exact(Sk (.inl rfl) (hargs [] h)).local
   case cap=>exact(Sk (.inr (.inl rfl)) (hargs [] h)).local
   case min=>exact(Sk (.inr (.inr (.inl rfl))) (hargs [] h)).local
   case max=>exact(Sk (.inr (.inr (.inr rfl))) (hargs [] h)).local
   case append=>
    cases bK:fr.aj with
    |true=>
     rw[bK] at h;simp only[if_true] at h⊢;refine an1 (fun x hx q hq=>?_) (fun l hl=>?_) (fun q hq=>h q (.inr hq))
     ·obtain⟨y,hy,rfl⟩:=EF.1 hx
      exact iK _ (qQ _ (List.mem_flatMap.2 ⟨y,hy,hq⟩))
     ·exact iK _ (uR _ (ae6 l hl))
    |false=>rw[bK] at h;simp only[dO,if_false] at h⊢;exact an0 (hargs _ h) (h .top (.inr aC))
  |value f=>
   simp only[jq,ho,fC] at h hw xW;simp only[jq,ho,fC];cases fZ:lI E fr o f with
   |true=>rw[fZ] at h;simp only[if_true] at h⊢;simp only[Sm];exact aoh (W:=.top::yU E fr o) (fun l hl=>iK _ (ae6 l hl)) (fun q hq=>h q (.inr hq)) (fE ..)
   |false=>
   rw[fZ] at h hw xW;simp only[dO,if_false] at h hw xW⊢;simp only[Sm];generalize Dl:fr.ev E f=fv at h hw xW⊢;cases fv with
   |fn g a b=>
    cases g with
    |func g=>
     simp only at h hw xW⊢;cases hi:E.imp g with
     |true=>rw[hi] at hw;simp[gP] at hw|false=>
      rw[hi] at h xW;simp only[dO,if_false] at h xW⊢;split
      ·rename_i hp
       exact(an6 hi hp).local
      ·rename_i hp
       rw[if_neg hp] at xW;have:=xW rfl;subst this;intro v σ1 hr;have:=an7 hi hr;subst this;exact⟨σ1,hr,.refl _,.refl _,fun k hk=>.refl _ _,fun k hk=>.refl _ _,fun k hk=>.refl _ _⟩
    |_=>simp[gP] at hw
   |_=>simp[gP] at hw
  |invoke r m=>exact dQ
 ·have hc':∀c,o.op≠ .call c:=fun c h=>hc ⟨c,h⟩
  have hd:∀(σ:au),(∀d,o.op≠ .defer d)->drop2 (opC E S fr σ st o)=eP E fr σ st o:=by
   intro σ hd;unfold opC;split
   ·rename_i c hh;exact absurd hh (hc' c)
   ·rename_i c hh;exact absurd hh (hd c)
   ·exact Sm _ _
  by_cases hdf:∃d,o.op= .defer d
  ·obtain⟨d,ho⟩:=hdf
   simp only[jq,ho,gP,Bool.true_eq_false] at hw
  ·have ae7:∀d,o.op≠ .defer d:=fun d h=>hdf ⟨d,h⟩
   rw[hd σ ae7,hd σ' ae7];exact an4 hc' hw h
theorem YE {x:V}:Key.nx∉jf x:=by cases x<;>simp[jf]
theorem aoj {o:Oper}:Key.nx∉(jq E fr o).w:=by
 have hd:Key.nx∉vY fr o:=by unfold vY;cases o.dst<;>simp
 have hd2:Key.nx∉yU E fr o:=by unfold yU;cases o.dst<;>simp
 unfold jq;split<;>try simp[nV,mX,gP,hd,YE,hd2]
 split<;>try simp[nV,mX,gP,YE,hd2]
 all_goals (repeat' split)<;>simp[nV,mX,gP,YE,hd2]
theorem aok {ops:List Oper}{o:Oper}{t:Nat}(h:Operand.tmp t∈o.op.operands.toList):Key.slot t∈xM ops o:=by refine uR _ (List.mem_filterMap.2 ⟨_,h,rfl⟩)
theorem aol {ops:List Oper}{o:Oper}(h:∀t,Key.slot t∈xM ops o->fr'.tm t=fr.tm t):∀x∈o.op.operands.toList,fr'.ev E x=fr.ev E x:=by
 intro x hx;cases x with
 |tmp t=>exact h t (aok hx)|_=>rfl
theorem aom {ops:List Oper}{o:Oper}(h:∀t,Key.slot t∈xM ops o->fr'.tm t=fr.tm t):iw ops fr' o=iw ops fr o:=by
 unfold iw;cases hg:o.guard with
 |none=>rfl|some g=>
  obtain⟨j,want⟩:=g;simp only;cases hd:(ops[j]?).bind (·.dst) with
  |none=>rfl|some t=>have:fr'.tm t=fr.tm t:=h t (qQ _ (by simp[hg,hd]));simp only[this]
theorem EW (fr:Fr)(d:Option Nat)(v:V)(t:Nat):(fr.put d v).tm t=if d=some t then v else fr.tm t:=by
 cases d with
 |none=>simp[Fr.put]|some i=>
  show upd fr.tm i v t=_;by_cases h:t=i
  ·subst h;simp[upd]
  ·have:¬(some i=some t):=fun e=>h (by cases e;rfl)
   simp[upd,h,this]
theorem Mt (fr:Fr)(d:Option Nat)(v:V):(fr.put d v).d=fr.d:=GX
theorem Mv (fr:Fr)(d:Option Nat)(v:V):(fr.put d v).aj=fr.aj:=GX
theorem Mw {o:Oper}{t:Nat}:Key.slot t∈oG o↔o.dst=some t:=by
 unfold oG;cases o.dst with
 |none=>simp|some d=>simp only[iX,Key.slot.injEq,iE];exact⟨fun h=>h.symm,fun h=>h.symm⟩
theorem ae8 {ops:List Oper}{base i:Nat}{o:Oper}(ho:ops[i]? =some o){wt:Bool}(hwt:iw ops fr o=some wt){bT:Fr}{σ1:au}(hs:nA E S ops base i fr σ=some (bT,σ1))(x:Fr×au)(hx:∀k,(iy E ops fr o wt).T k->fF k (fr,σ) x):
 ∃y:Fr×au,nA E S ops base i x.1 x.2=some y/\(∀k,(iy E ops fr o wt).W k->fF k (bT,σ1) y)/\(∀k,¬(iy E ops fr o wt).W k->fF k x y)/\
  ∀k,¬(iy E ops fr o wt).W k->fF k (fr,σ) (bT,σ1):=by
 obtain⟨fr',σ'⟩:=x;obtain⟨r1,r2⟩:fr.d=fr'.d/\fr.aj=fr'.aj:=hx .rest (.inl rfl);have hsl:∀t,Key.slot t∈xM ops o->fr'.tm t=fr.tm t:=by
  intro t ht;refine Eq.symm (hx (.slot t) (.inr (.inl ?_)));cases wt
  ·exact ht
  ·exact uR _ ht
 have aon:iw ops fr' o=some wt:=(aom hsl).trans hwt;simp only[nA,ho,hwt,Option.bind_some] at hs;simp only[nA,ho,aon,Option.bind_some];cases wt with
 |false=>
  simp only[dO,if_false,iE,aP] at hs⊢;obtain⟨rfl,rfl⟩:=hs;have hW:∀k,(iy E ops fr o false).W k↔k∈oG o:=fun k=>by
   refine⟨fun h=>?_,fun h=>.inl h⟩;rcases h with h| ⟨h,_⟩
   ·exact h
   ·cases h
  have ae9:∀(f:Fr)(s:au) k,¬(iy E ops fr o false).W k->fF k (f,s) (f.put o.dst aK,s):=by
   intro f s k hk;rw[hW] at hk;cases k with
   |slot t=>show f.tm t=(f.put o.dst aK).tm t;rw[EW,if_neg (fun e=>hk (Mw.2 e))]
   |obj l=>rfl|top=>rfl|rest=>exact⟨(Mt _ _ _).symm,(Mv _ _ _).symm⟩|nx=>exact⟨rfl,rfl⟩
  refine⟨_,rfl,fun k hk=>?_,ae9 fr' σ',ae9 fr σ⟩;rw[hW] at hk;cases k with
  |slot t=>show (fr.put o.dst aK).tm t=(fr'.put o.dst aK).tm t;rw[EW,EW,if_pos (Mw.1 hk),if_pos (Mw.1 hk)]|obj l=>exfalso;unfold oG at hk;cases hd:o.dst<;>simp[hd] at hk|top=>exfalso;unfold oG at hk;cases hd:o.dst<;>simp[hd] at hk|rest=>exfalso;unfold oG at hk;cases hd:o.dst<;>simp[hd] at hk|nx=>exfalso;unfold oG at hk;cases hd:o.dst<;>simp[hd] at hk
 |true=>
  simp only[if_true,aZ,aP] at hs⊢;obtain⟨⟨v,fT,σ2⟩,hop,rfl,rfl⟩:=hs;obtain rfl:=aoc hop;have key:∃EX,opC E S fr' σ' (base+i) o=some (v,fr',EX)/\(∀k,(iy E ops fT o true).W k->fF k (fT,σ2) (fT,EX))/\
   (∀k,¬(iy E ops fT o true).W k->fF k (fT,σ) (fT,σ2)/\fF k (fT,σ') (fT,EX)):=by
   rw[anT (aol hsl) r1.symm r2.symm];have YF:∀k,(iy E ops fT o true).T k->iL σ σ' k:=by
    intro k hk;have:=hx k hk;cases k with
    |obj l=>exact Eq.symm this|top=>exact Eq.symm this|slot t=>trivial|rest=>trivial|nx=>trivial
   cases EY:(jq E fT o).oZ with
   |true=>
    have hst:∀k:Key,k.state=true->iL σ σ' k:=fun k hk=>YF k (.inr (.inr (.inr ⟨.inr EY,hk⟩)));have hσ:σ'=σ:=(by obtain⟨r3,r4⟩:σ.next=σ'.next/\σ.loops=σ'.loops:=hx .nx (.inr (.inr (.inr ⟨.inr EY,rfl⟩)));obtain⟨nx,top,obj,lp⟩:=σ;obtain⟨nx',top',Ms,ae1⟩:=σ';have h1:top'=top:=hst .top rfl;have h2:Ms=obj:=funext fun l=>hst (.obj l) rfl;simp only at r3 r4;subst h1 h2 r3 r4;rfl);subst hσ;refine⟨σ2,by rw[hop];rfl,fun k _=>.refl _ _,fun k hk=>?_⟩;cases k with
    |slot t=>exact⟨rfl,rfl⟩|obj l=>exact absurd (.inr ⟨EY,rfl⟩) hk|top=>exact absurd (.inr ⟨EY,rfl⟩) hk|rest=>exact⟨⟨rfl,rfl⟩,⟨rfl,rfl⟩⟩|nx=>exact absurd (.inr ⟨EY,rfl⟩) hk
   |false=>
    have xW:(jq E fT o).tT=true->σ'=σ:=(by intro ht;have hst:∀k:Key,k.state=true->iL σ σ' k:=fun k hk=>YF k (.inr (.inr (.inr ⟨.inl ht,hk⟩)));obtain⟨r3,r4⟩:σ.next=σ'.next/\σ.loops=σ'.loops:=hx .nx (.inr (.inr (.inr ⟨.inl ht,rfl⟩)));obtain⟨nx,top,obj,lp⟩:=σ;obtain⟨nx',top',Ms,ae1⟩:=σ';have h1:top'=top:=hst .top rfl;have h2:Ms=obj:=funext fun l=>hst (.obj l) rfl;simp only at r3 r4;subst h1 h2 r3 r4;rfl);have hl:=aoi (S:=S) (st:=base+i) EY xW (fun k hk=>YF k (by
     rcases hk with hk|hk
     ·exact .inr (.inl (qQ _ hk))
     ·exact .inr (.inr (.inl (qQ _ hk)))))
    obtain⟨EX,h1,h2,h3,h4,h5,h6⟩:=hl v σ2 (by rw[hop];rfl);obtain⟨qo,h1'⟩:=aod h1;have hWw:∀k,(iy E ops fT o true).W k->k∈oG o\/k∈(jq E fT o).w:=fun k hk=>by
     rcases hk with h| ⟨h,_⟩
     ·exact oW.1 h
     ·have:(jq E fT o).oZ=true:=h
      rw[EY] at this;cases this
    have hto:∀{Sn Sq:au}{k:Key},iL Sn Sq k->uX Sn Sq\/k≠ .nx->fF k (fT,Sn) (fT,Sq):=by
     intro Sn Sq k ha hn;cases k with
     |slot t=>rfl|obj l=>exact Eq.symm ha|top=>exact Eq.symm ha|rest=>exact⟨rfl,rfl⟩|nx=>
      rcases hn with hn|hn
      ·exact⟨hn.1.symm,hn.2.symm⟩
      ·exact absurd rfl hn
    have aoo:Key.nx∉(jq E fT o).w:=aoj;refine⟨EX,by rw[h1'];rfl,fun k hk=>?_,fun k hk=>?_⟩
    ·rcases hWw k hk with h|h
     ·cases k with
      |slot t=>rfl|obj l=>exfalso;unfold oG at h;cases hd:o.dst<;>simp[hd] at h|top=>exfalso;unfold oG at h;cases hd:o.dst<;>simp[hd] at h|rest=>exfalso;unfold oG at h;cases hd:o.dst<;>simp[hd] at h|nx=>exfalso;unfold oG at h;cases hd:o.dst<;>simp[hd] at h
     ·exact hto (h4 k h) (.inr (fun e=>aoo (e▸h)))
    ·have hk':k∉(jq E fT o).w:=fun h=>hk (.inl (qQ _ h))
     exact⟨hto (h5 k hk') (.inl h2),hto (h6 k hk') (.inl h3)⟩
  obtain⟨EX,h1,h2,h3⟩:=key;refine⟨(fr'.put o.dst v,EX),⟨_,h1,rfl⟩,fun k hk=>?_,fun k hk=>?_,fun k hk=>?_⟩
  ·have hk0:=h2 k hk
   cases k with
   |slot t=>
    show (fT.put o.dst v).tm t=(fr'.put o.dst v).tm t;rw[EW,EW];split
    ·rfl
    ·exact hx (.slot t) (dS.ae2 hk)
   |obj l=>exact hk0|top=>exact hk0|rest=>
    refine⟨?_,?_⟩
    ·show (fT.put o.dst v).d=(fr'.put o.dst v).d;rw[Mt,Mt];exact r1
    ·show (fT.put o.dst v).aj=(fr'.put o.dst v).aj;rw[Mv,Mv];exact r2
   |nx=>exact hk0
  ·have hk0:=(h3 k hk).2
   cases k with
   |slot t=>show fr'.tm t=(fr'.put o.dst v).tm t;rw[EW,if_neg (fun e=>hk (.inl (uR _ (Mw.2 e))))]
   |obj l=>exact hk0|top=>exact hk0|rest=>exact⟨(Mt _ _ _).symm,(Mv _ _ _).symm⟩|nx=>exact hk0
  ·have hk0:=(h3 k hk).1
   cases k with
   |slot t=>show fT.tm t=(fT.put o.dst v).tm t;rw[EW,if_neg (fun e=>hk (.inl (uR _ (Mw.2 e))))]
   |obj l=>exact hk0|top=>exact hk0|rest=>exact⟨(Mt _ _ _).symm,(Mv _ _ _).symm⟩|nx=>exact hk0
end
end aY
end
section
namespace aY
open Go Go.RowKit
section
variable {E:Env}{S:l5}
theorem aop (all:List Oper)(base:Nat):∀(os:List Oper)(k:Nat)(fr:Fr)(σ:au)(fs:List dS)(y9:Fr)(za:au),(∀j,os[j]? =all[k+j]?)->
 o7 E S all (base+k) os fr σ=some (fs,y9,za)->fs.length=os.length/\∃s:Nat->Fr×au,s k=(fr,σ)/\s (k+os.length)=(y9,za)/\
  ∀i,k<=i->i<k+os.length->nA E S all base i (s i).1 (s i).2=some (s (i+1))/\∃o wt,all[i]? =some o/\iw all (s i).1 o=some wt/\fs[i-k]? =some (iy E all (s i).1 o wt):=by
 intro os;induction os with
 |nil=>intro k fr σ fs y9 za _ h;simp only[o7,iE,aP] at h;obtain⟨rfl,rfl,rfl⟩:=h;exact⟨rfl,fun _=>(fr,σ),rfl,rfl,fun i h1 h2=>Ry⟩
 |cons o os ih=>
  intro k fr σ fs y9 za hall h;have h0:all[k]? =some o:=by simpa using (hall 0).symm
  have aoq:∀j,os[j]? =all[k+1+j]? :=fun j=>by have:=hall (j+1);simpa [uP,Nat.add_comm 1 j] using this
  simp only[o7,iR] at h;obtain⟨wt,hwt,h⟩:=h;have main:∀(bT:Fr)(σ1:au)(fs':List dS),nA E S all base k fr σ=some (bT,σ1)->o7 E S all (base+(k+1)) os bT σ1=some (fs',y9,za)->fs=iy E all fr o wt::fs'->
   fs.length=(o::os).length/\∃s:Nat->Fr×au,s k=(fr,σ)/\s (k+(o::os).length)=(y9,za)/\
   ∀i,k<=i->i<k+(o::os).length->nA E S all base i (s i).1 (s i).2=some (s (i+1))/\∃o wt,all[i]? =some o/\iw all (s i).1 o=some wt/\fs[i-k]? =some (iy E all (s i).1 o wt):=by
   intro bT σ1 fs' hstep hrec hfs;obtain⟨hlen,s,hs1,hs2,hs3⟩:=ih (k+1) bT σ1 fs' y9 za aoq hrec;refine⟨by rw[hfs];simp[hlen],fun i=>if i=k then (fr,σ) else s i,aC,?_,fun i h1 h2=>?_⟩
   ·have:¬(k+(o::os).length=k):=aC
    simp only[this,if_false];rw[show k+(o::os).length=k+1+os.length by simp;omega];exact hs2
   ·by_cases hik:i=k
    ·subst hik
     have:¬(i+1=i):=ah;simp only[if_true,this,if_false];rw[hs1];exact⟨hstep,o,wt,h0,hwt,by rw[hfs];simp⟩
    ·have:¬(i+1=k):=ah
     simp only[hik,this,if_false];obtain⟨g1,o',aor,g2,g3,g4⟩:=hs3 i ah Ry;refine⟨g1,o',aor,g2,g3,?_⟩;rw[hfs,show i-k=(i-(k+1))+1 by omega];simpa using g4
  cases wt with
  |true=>simp only[if_true,iR,aZ,aP] at h;obtain⟨⟨v,fT,σ2⟩,hop,⟨fs',r⟩,hrec,hfs,hr⟩:=h;refine main _ _ fs' ?_ (by rw[<-hr];exact hrec) hfs.symm;simp only[nA,h0,hwt,Option.bind_some,if_true,hop,Option.map_some]
  |false=>simp only[dO,if_false,aZ,aP] at h;obtain⟨⟨fs',r⟩,hrec,hfs,hr⟩:=h;refine main _ _ fs' ?_ (by rw[<-hr];exact hrec) hfs.symm;simp only[nA,h0,hwt,Option.bind_some,dO,if_false]
theorem YG (ops:List Oper)(base:Nat):∀(l:List Nat)(x:Fr×au),Mk (fun i x=>nA E S ops base i x.1 x.2) l x=opsL E S ops base l x.1 x.2
 | [],x=>rfl|i::l,x=>by
  simp only[Mk,opsL];cases nA E S ops base i x.1 x.2 with
  |none=>rfl|some y=>exact YG ops base l y
def xX (acc:List Nat)(o:Oper):Nat:=o.after.toList.foldl (fun s e=>if Region.binds .any e then s|||2^e.on|||acc.getD e.on 0 else s) 0
theorem aos:∀(ops:List Oper)(acc:List Nat),ops.foldl (fun acc o=>acc++[xX acc o]) acc=acc++(ops.foldl (fun acc o=>acc++[xX acc o]) acc).drop acc.length/\ (ops.foldl (fun acc o=>acc++[xX acc o]) acc).length=acc.length+ops.length/\
 ∀i o,ops[i]? =some o->(ops.foldl (fun acc o=>acc++[xX acc o]) acc).getD (acc.length+i) 0=xX ((ops.foldl (fun acc o=>acc++[xX acc o]) acc).take (acc.length+i)) o:=by
 intro ops;induction ops with
 |nil=>intro acc;simp|cons a ops ih=>
  intro acc;obtain⟨h1,h2,h3⟩:=ih (acc++[xX acc a]);simp only[List.foldl_cons];generalize hR:ops.foldl (fun acc o=>acc++[xX acc o]) (acc++[xX acc a])=R at h1 h2 h3⊢;have hpre:R.take acc.length=acc:=by rw[h1];simp
  refine⟨?_,by rw[h2];simp;omega,fun i o ho=>?_⟩
  ·conv=>lhs;rw[<-tL acc.length R,hpre]
  ·cases i with
   |zero=>simp at ho;subst ho;rw[Nat.add_zero,hpre,h1];simp|succ i=>have:=h3 i o (by simpa using ho);simpa [uP,Nat.add_comm 1 i] using this
theorem aot {acc:List Nat}{o:Oper}{j:Nat}(h:(xX acc o).testBit j=true):∃e∈o.after.toList,Region.binds .any e=true/\(j=e.on\/(acc.getD e.on 0).testBit j=true):=by
 unfold xX at h;generalize hl:o.after.toList=l at h;clear hl;have gen:∀(l:List Edge)(s:Nat),(l.foldl (fun s e=>if Region.binds .any e then s|||2^e.on|||acc.getD e.on 0 else s) s).testBit j=true->
  s.testBit j=true\/∃e∈l,Region.binds .any e=true/\(j=e.on\/(acc.getD e.on 0).testBit j=true):=by
  intro l;induction l with
  |nil=>intro s h;exact .inl h|cons e l ih=>
   intro s h;simp only[List.foldl_cons] at h;rcases ih _ h with h1| ⟨e',he',hb,hj⟩
   ·split at h1
    ·rename_i hb
     simp only[Nat.testBit_or,qP] at h1;rcases h1 with (h1|h1)|h1
     ·exact .inl h1
     ·exact .inr ⟨e,aC,hb,.inl (by rw[Nat.testBit_two_pow] at h1;have:e.on=j:=Br;exact this.symm)⟩
     ·exact .inr ⟨e,aC,hb,.inr h1⟩
    ·exact .inl h1
   ·exact .inr ⟨e',by simp[he'],hb,hj⟩
 rcases gen l 0 h with h1|h1
 ·simp at h1
 ·exact h1
theorem aou {ops:List Oper}(tZ:tV ops=true){i j:Nat}{o:Oper}(ho:ops[i]? =some o)(h:((uU ops).getD i 0).testBit j=true):
 ∃e∈o.after.toList,Region.binds .any e=true/\e.on<i/\(j=e.on\/((uU ops).getD e.on 0).testBit j=true):=by
 have hp:uU ops=ops.foldl (fun acc o=>acc++[xX acc o]) []:=rfl;obtain⟨_,_,h3⟩:=aos ops [];have:=h3 i o ho;simp only[List.length_nil,nS] at this;rw[hp,this] at h;obtain⟨e,he,hb,hj⟩:=aot h;have hlt:e.on<i:=by
  have hi:i<ops.length:=by
   rcases Nat.lt_or_ge i ops.length with h|h
   ·exact h
   ·rw[List.getElem?_eq_none h] at ho;cases ho
  simp only[tV,kM] at tZ;have h1:=tZ i jI;rw[ho] at h1;simp only[kM] at h1;simpa [hb] using h1 e he
 refine⟨e,he,hb,hlt,hj.imp id (fun hj=>?_)⟩;rw[hp];have e1:∀(l:List Nat)(a b:Nat),a<b->(l.take b).getD a 0=l.getD a 0:=fun l a b hab=>by simp[List.getD,List.getElem?_take,hab]
 rw[e1 _ _ _ hlt] at hj;exact hj
theorem afa {ops:Array Oper}(tZ:tV ops.toList=true){md:Region.Mode}{l:List Nat}(hl:Dk md ops [] l):
 ∀(i:Nat)(l1 l2:List Nat),l=l1++i::l2->∀j,((uU ops.toList).getD i 0).testBit j=true->j∈l1:=by
 intro i;induction i using Nat.strongRecOn with
 |_ i ih=>
  intro l1 l2 YH j hj;have hi:i<ops.size:=(hl.mem i (by rw[YH];simp)).1;have hoi:ops[i]? =some ops[i]:=by simp[hi]
  obtain⟨e,he,hb,hlt,YI⟩:=aou tZ (o:=ops[i]) (by simpa using hoi) hj;have hon:e.on∈l1:=by
   rcases hl.ord l1 i l2 YH ops[i] hoi e he (aoa md hb) with h|h
   ·cases h
   ·exact h
  rcases YI with rfl|YI
  ·exact hon
  ·obtain⟨a,b,rfl⟩:=List.append_of_mem hon
   have:=ih e.on hlt a (b++i::l2) (by rw[YH];simp) j YI;exact uR _ this
theorem aov {ops:Array Oper}{base:Nat}{fr y9:Fr}{σ za:au}{fs:List dS}(hF:o7 E S ops.toList base ops.toList fr σ=some (fs,y9,za))(tZ:tV ops.toList=true)(hP:xO (uU ops.toList) fs=true){md:Region.Mode}{l:List Nat}(hl:Dk md ops [] l):opsL E S ops.toList base l fr σ=some (y9,za):=by
 obtain⟨hlen,s,hs0,hsn,hs⟩:=aop ops.toList base ops.toList 0 fr σ fs y9 za (fun j=>aC) (by simpa using hF);have hn:ops.toList.length=ops.size:=aC
 rw[nS,hn] at hsn;have hfs:∀i,i<ops.size->∃o wt,ops.toList[i]? =some o/\iw ops.toList (s i).1 o=some wt/\fs.getD i gP=iy E ops.toList (s i).1 o wt/\nA E S ops.toList base i (s i).1 (s i).2=some (s (i+1)):=by intro i hi;obtain⟨g1,o,wt,g2,g3,g4⟩:=hs i (kN _) ah;exact⟨o,wt,g2,g3,by simp only[Nat.sub_zero] at g4;simp[List.getD,g4],g1⟩
 have hself:∀i,i<ops.size->∀k,¬(fs.getD i gP).W k->fF k (s i) (s (i+1)):=by intro i hi k hk;obtain⟨o,wt,g1,g2,g3,g4⟩:=hfs i hi;rw[g3] at hk;obtain⟨_,_,_,_,h4⟩:=ae8 g1 g2 g4 (s i) (fun k _=>.refl k _);exact h4 k hk
 have hap:∀i j,i<ops.size->j<i->((uU ops.toList).getD i 0).testBit j=true\/((∀k,¬((fs.getD i gP).W k/\(fs.getD j gP).T k))/\∀k,¬((fs.getD j gP).W k/\(fs.getD i gP).T k)):=by intro i j hi hj;simp only[xO,kM] at hP;have:=hP i jR j vO;simp only[qP] at this;refine this.imp id (fun h=>?_);simp only[RJ,iP,rU] at h;exact⟨ae5 h.1,ae5 h.2⟩
 have key:=aeR (X:=Fr×au) (Key:=Key) ops.size (fun i x=>nA E S ops.toList base i x.1 x.2) fF fF.refl (fun k x y z=>fF.trans) s
  (fun i=>(fs.getD i gP).T) (fun i=>(fs.getD i gP).W) (fun i k=>dS.ae2)
  (fun i hi x hx=>by obtain⟨o,wt,g1,g2,g3,g4⟩:=hfs i hi;obtain⟨y,h1,h2,h3,_⟩:=ae8 g1 g2 g4 x (fun k hk=>hx k (by rw[g3];exact hk));exact⟨y,h1,fun k hk=>h2 k (by rw[<-g3];exact hk),fun k hk=>h3 k (by rw[<-g3];exact hk)⟩)
  hself (fun j i=>((uU ops.toList).getD i 0).testBit j=true) hap (fun k x y=>fF.symm)
  l [] (fr,σ) hl.nodup hl.mem hl.all (fun l1 i l2 h j hj=>.inr (afa tZ hl i l1 l2 h j hj)) (fun i hi=>by cases hi)
  (by
    intro k m;induction m with
    |zero=>intro _ _;rw[hs0];exact .refl _ _|succ m ih=>intro hm hj;refine fF.trans (fF.symm (hself m ah k (fun hw=>?_))) (ih ah (fun j hjn hw=>⟨(fun h=>bC),(fun h=>by have:=(hj j hjn hw).2 ah;cases this)⟩));have:=(hj m ah hw).2 ah;cases this)
 obtain⟨y,h1,h2⟩:=key;rw[YG] at h1;have:=fF.all h2;rw[hsn] at this;rw[h1,<-this]
theorem aow {ops:Array Oper}{base:Nat}{x y:Fr×au}(hF:Free E S (uU ops.toList) ops.toList base x y)(tZ:tV ops.toList=true){md:Region.Mode}{l:List Nat}(hl:Dk md ops [] l):
 opsL E S ops.toList base l x.1 x.2=some y:=by
 obtain⟨s,T,W,h0,hn,Ml,hloc,hself,hap⟩:=hF;have hsz:ops.toList.length=ops.size:=aC
 rw[hsz] at hn hloc hself hap;obtain⟨z,h1,h2⟩:=aeR (X:=Fr×au) (Key:=Key) ops.size (fun i x=>nA E S ops.toList base i x.1 x.2) fF fF.refl (fun k x y z=>fF.trans) s T W Ml
  hloc hself (fun j i=>((uU ops.toList).getD i 0).testBit j=true) hap (fun k x y=>fF.symm)
  l [] x hl.nodup hl.mem hl.all (fun l1 i l2 h j hj=>.inr (afa tZ hl i l1 l2 h j hj)) (fun i hi=>by cases hi)
  (by
    intro k m;induction m with
    |zero=>intro _ _;rw[h0];exact .refl _ _|succ m ih=>intro hm hj;refine fF.trans (fF.symm (hself m ah k (fun hw=>?_))) (ih ah (fun j hjn hw=>⟨(fun h=>bC),(fun h=>by have:=(hj j hjn hw).2 ah;cases this)⟩));have:=(hj m ah hw).2 ah;cases this)
 rw[YG] at h1;have:=fF.all h2;rw[hn] at this;rw[h1,<-this]
end
section
variable {E:Env}{S:l5}{B0:Nat}{σ σ':au}{K K':aV}{w w':World}{fr fr':Fr}{a:Act}{n:Nat}
theorem aox (hE:kX E)(hS:Sound E S){id:Nat}{ops:Array Oper}{dr:Bool}{e:Ex}(h:fB E S (.region id ops dr) fr σ=some (e,fr',σ')):o8 E (.region id ops dr) fr σ e fr' σ':=by
 have fin:∀(l:List Nat),opsL E S ops.toList σ.next l fr {σ with next:=σ.next+ops.toList.length}=some (fr',σ')->l.Nodup->(∀i∈l,i<ops.size)->∀ro B0 K w a n ds Q,St E B0 σ K w fr a n ds->jg n (.region id ops dr)=true->
  (∀x a' w',BI E B0 n ds σ K w .normal fr' σ' x a' w'->Q x a' w')->wpOpsIn (lW ro) 0 E.P ops Q l a w:=by
  intro l hl hnd hlt ro B0 K w a n ds Q hs hok hq;have hnx:=BJ hS _ _ _ _ _ hl;simp only at hnx;have hs':St E B0 {σ with next:=σ.next+ops.toList.length} K w fr a n ds:=⟨Mj hs.ok _,hs.hB,hs.fr,hs.sz,hs.df,fun s h=>iq (hs.st s h) (gD _ _),hs.hD⟩;refine Yu hE hS ops σ.next hok ro _ l fr _ K w a hl hnd hlt hs' aC (fun i _ hA=>by have:=hs.st _ hA;omega) (fun a' K' w' hs2 st=>hq _ _ _ ?_);refine⟨trivial,K',hs2,?_⟩;have st':Step E B0 (newer σ σ') {σ with next:=σ.next+ops.toList.length} K w σ' K' w':=st.mono (fun s hs=>by
   rcases hs with h|h
   ·exact⟨h.1,by simp at hnx;omega⟩
   ·refine⟨bZ (gD _ _) h.1,h.2⟩)
  exact⟨st'.ok,st'.ext,st'.below,st'.D,st'.A,st'.qh,st'.qj⟩
 simp only[fB] at h;split at h
 ·rename_i hdr
  simp only[iR] at h;obtain⟨⟨fs,bT,σ1⟩,hF,h⟩:=h;have hall:bT=fr'/\σ1=σ'/\e= .normal/\tV ops.toList=true/\∀md l,Dk md ops [] l->opsL E S ops.toList σ.next l fr {σ with next:=σ.next+ops.toList.length}=some (fr',σ'):=by
   split at h
   ·rename_i Ig
    simp only[iE,aP] at h;obtain⟨rfl,rfl,rfl⟩:=h;simp only[iP] at Ig;exact⟨rfl,rfl,rfl,Ig.1,fun md l hl=>aov hF Ig.1 Ig.2 hl⟩
   ·unfold XG at h
    split at h
    ·rename_i hfree
     simp only[iE,aP] at h;obtain⟨rfl,rfl,rfl⟩:=h;exact⟨rfl,rfl,rfl,hfree.1,fun md l hl=>aow hfree.2 hfree.1 hl⟩
    ·cases h
  obtain⟨rfl,rfl,rfl,Ig,Si⟩:=hall;have hany:∀t,∃md,Dk md ops [] (Region.schedule (E.P.follows .mixedOrders) ops t):=fun t=>an9 hE.mixed _ Ig t;have hdo:∀t,opsL E S ops.toList σ.next (Region.schedule (E.P.follows .mixedOrders) ops t) fr {σ with next:=σ.next+ops.toList.length}=some (bT,σ1):=fun t=>by obtain⟨md,hl⟩:=hany t;exact Si md _ hl
  have hnx:=BJ hS _ _ _ _ _ (hdo 0);simp only at hnx;refine⟨bZ (gD _ _) hnx,fun ro B0 K w a n ds hs hok _=>?_⟩;rw[hdr];refine wpIn_region_draw (fun t=>?_);obtain⟨md,hl⟩:=hany t;have hst:=Step.same (new:=newer σ σ) hs.ok (w':={w with drawn:=w.drawn+1}) rfl rfl rfl rfl;have hs1:St E B0 σ K {w with drawn:=w.drawn+1} fr a n ds:=⟨hst.ok,hs.hB,hs.fr.ext hst.ext,hs.sz,hs.df,hs.st,hs.hD⟩;refine fin _ (hdo t) hl.nodup (fun i hi=>(hl.mem i hi).1) ro B0 K _ a n ds _ hs1 (by rw[hdr];exact hok) ?_;rintro x a' w' ⟨h1,K',h2,h3⟩;exact⟨h1,K',h2,hst.widen h3 (RS _) (bZ (gD _ _) hnx)⟩
 ·rename_i hdr
  have hdr':dr=false:=by simpa using hdr
  simp only[aZ,aP] at h;obtain⟨⟨bT,σ1⟩,hF,rfl,rfl,rfl⟩:=h;rw[anI] at hF;have hnx:=BJ hS _ _ _ _ _ hF;simp only at hnx;refine⟨bZ (gD _ _) hnx,fun ro B0 K w a n ds hs hok _=>?_⟩;rw[hdr'];exact wpIn_region (fin _ hF List.nodup_range (fun i hi=>jI) ro B0 K w a n ds _ hs (by rw[hdr'];exact hok) (fun _ _ _ h=>h))
end
section
variable {E:Env}{S:l5}{K K':aV}{w w':World}{σ σ':au}{B0:Nat}
theorem Ih (K:aV)(T:Nat->Nat)(w:World)(D':Nat->Prop):Ext K T w {K with D:=D'} T w:=
 ⟨fun _ h=>⟨h,rfl,rfl,rfl⟩,fun _ _=>.inl ⟨rfl,rfl,rfl,rfl⟩,fun _ _ h=>⟨h,rfl⟩,fun _ h=>⟨h,rfl⟩⟩
theorem bA.Sr (h:bA E B0 σ K w)(D':Nat->Prop)(hD:∀b,D' b->w.heap[b]? =some (.deferred (some []))):bA E B0 σ {K with D:=D'} w:=by
 have e:=Ih K σ.top w D';refine⟨fun loc s ob hs=>?_,h.own,h.I,h.IM,fun l r hl=>?_,fun g cs hg=>(h.glob g cs hg).ext e,h.rb,hD⟩
 ·obtain⟨a1,a2,a3⟩:=h.obj loc s ob hs
  exact⟨a1,a2.ext e a1 (fun _=>rfl),a3⟩
 ·obtain⟨a1,a2⟩:=h.loop l r hl
  exact⟨a1,a2.ext e a1 rfl rfl⟩
theorem bA.Sv (h:bA E B0 σ K w)(hB:B0<=w.heap.size){new:Nat->Prop}{b:Nat}{o o':Obj}(hb0:B0<=b)(hb:w.heap[b]? =some o)(hc:∀vals t f,o≠ .cells vals t f)(hm:¬Hl o)(aoy:∀l r,σ'.loops l=some r->σ.loops l=some r/\K.lp l≠b)(h1:σ'.obj=σ.obj)(h2:σ'.top=σ.top)(D':Nat->Prop)(hD:∀x,D' x->K.D x/\x≠b)(aoz:∀x,K.D x->D' x):
 Step E B0 new σ K w σ' {K with D:=D'} (w.putObj b o')/\bA E B0 σ' {K with D:=D'} (w.putObj b o'):=by
 have hlt:=lt_of_heap hb;have ho:=Ym w b o';have hcell:∀b' i v,w.cell? (at_ b' i)=some v->b'≠b:=fun b' i v hv e=>by
  subst e;have:∃vals t f,o= .cells vals t f:=by simp only[World.cell?,hb] at hv;cases o<;>simp at hv;exact⟨_,_,_,rfl⟩
  obtain⟨vals,t,f,rfl⟩:=this;exact hc _ _ _ rfl
 have e:Ext K σ.top w {K with D:=D'} σ'.top (w.putObj b o'):=by
  rw[h2];refine⟨fun _ h=>⟨h,rfl,rfl,rfl⟩,fun _ _=>.inl ⟨rfl,rfl,rfl,rfl⟩,fun b' i hi=>⟨hi,?_⟩,fun b' hi=>⟨hi,?_⟩⟩
  ·obtain⟨⟨v,hv⟩,_⟩:=h.I b' i hi
   exact cell_of_heap (ho.block b' (hcell b' i v hv) (lt_of_cell hv))
  ·obtain⟨⟨_,hv,hml⟩,_⟩:=h.IM b' hi
   exact ho.block b' (RL hv hml hb hm) (lt_of_heap hv)
 have ok:bA E B0 σ' {K with D:=D'} (w.putObj b o'):=by
  refine h.upd (σ':=σ') ho e (fun _ _=>rfl) (fun r hr'=>⟨by simpa using hlt,hb0⟩) ?_ ?_ ?_ ?_ ?_ ?_
  ·intro loc s ob hs
   rw[h1] at hs;refine .inl ⟨hs,fun l7 e'=>?_⟩;obtain⟨_,a2,_⟩:=h.obj loc s ob hs;cases ob with
   |cells cs=>obtain⟨_,vals,t,g1,_⟩:=a2.2 (by cases cs with|nil=>exact l7.elim|cons _ _=>simp);rw[e',hb] at g1;exact hc _ _ _ (lX g1)
   |map ks vs=>obtain⟨_,es,bR,g1,_⟩:=a2;rw[e',hb] at g1;cases g1;exact hm trivial
  ·intro s hs hlt'
   refine .inl ⟨hs,rfl,rfl,rfl,fun e'=>?_⟩;obtain⟨_,⟨v,hv⟩,_⟩:=(h.own s hs hlt').2.2 (K.lo s) (RS _) hlt';exact hcell _ _ _ hv e'
  ·intro b' i hi
   obtain⟨⟨v,hv⟩,_⟩:=h.I b' i hi;exact .inl ⟨hi,hcell b' i v hv⟩
  ·intro b' hi
   obtain⟨⟨_,hv,hml⟩,_⟩:=h.IM b' hi;exact .inl ⟨hi,RL hv hml hb hm⟩
  ·intro l r hl
   exact .inl (aoy l r hl)
  ·intro b' hd
   exact .inl (hD b' hd)
 exact⟨⟨ok,e,ho.below hb0 hB,aoz,fun _ h=>.inl h,fun _ _ h=>.inl h,fun _ h=>.inl h⟩,ok⟩
theorem Step.aoA (h:bA E B0 σ K w)(hB:B0<=w.heap.size){new:Nat->Prop}:
 Step E B0 new σ K w σ {K with D:=fun b=>K.D b\/b=w.heap.size} (w.alloc (.deferred (some []))):=by
 have ho:=BD w (.deferred (some []));have e:Ext K σ.top w {K with D:=fun b=>K.D b\/b=w.heap.size} σ.top (w.alloc (.deferred (some []))):=by
  refine⟨fun _ h=>⟨h,rfl,rfl,rfl⟩,fun _ _=>.inl ⟨rfl,rfl,rfl,rfl⟩,fun b' i hi=>⟨hi,?_⟩,fun b' hi=>⟨hi,?_⟩⟩
  ·obtain⟨⟨v,hv⟩,_⟩:=h.I b' i hi
   rw[hv];exact Ho hv
  ·obtain⟨⟨_,hv,hml⟩,_⟩:=h.IM b' hi
   exact heap_alloc_old (lt_of_heap hv)
 refine⟨?_,e,ho.below hB hB,fun _ h=>.inl h,fun _ h=>.inl h,fun _ _ h=>.inl h,fun _ h=>.inl h⟩;refine h.upd (σ':=σ) ho e (fun _ _=>rfl) (fun r hr'=>⟨aC,hB⟩) ?_ ?_ ?_ ?_ ?_ ?_
 ·intro loc s ob hs
  refine .inl ⟨hs,fun hr=>?_⟩;have:=(h.rb _ _ ((h.obj _ _ _ hs).2.2 hr)).1;omega
 ·intro s hs hlt'
  have:=(h.rb _ _ (h.own s hs hlt').2.1).1;exact .inl ⟨hs,rfl,rfl,rfl,ah⟩
 ·intro b' i hi
  obtain⟨⟨v,hv⟩,_⟩:=h.I b' i hi;exact .inl ⟨hi,jK (lt_of_cell hv)⟩
 ·intro b' hi
  obtain⟨⟨_,hv,hml⟩,_⟩:=h.IM b' hi;exact .inl ⟨hi,jK (lt_of_heap hv)⟩
 ·intro l r hl
  have:=(h.rb _ _ (h.loop l r hl).2.2.1).1;exact .inl ⟨hl,ah⟩
 ·intro b' hd
  rcases hd with hd|rfl
  ·exact .inl ⟨hd,jK (lt_of_heap (h.D b' hd))⟩
  ·exact .inr ⟨rfl,heap_alloc_new _ _⟩
def aV.Ii (K:aV)(st b:Nat):aV:=
 {K with A:=fun s=>K.A s\/s=st,lo:=upd K.lo st 0,hi:=upd K.hi st 0,lp:=upd K.lp st b,ρ:=upd K.ρ b (some (.loop st))}
theorem Step.aoB (h:bA E B0 σ K w)(hB:B0<=w.heap.size)(hst:¬K.A σ.next){fr:Fr}{tmps:Array Value}{ps:List Nat}{fQ body:Code}{fn:FuncId}{D:Nat}(hf:kF K σ.top w fr tmps)(hok1:jg tmps.size fQ=true)(hok2:jg tmps.size body=true)(hps:∀p∈ps,p<tmps.size)(hn1:lG fQ=true)(hn2:lG body=true):
 Step E B0 (· =σ.next) σ K w ({σ with next:=σ.next+1}.iY σ.next {st:=0,pend:=none,fr:=fr,ps:=ps,fQ:=fQ,body:=body}) (K.Ii σ.next w.heap.size)
  (w.alloc (.loop {state:=.ready,pending:=none,fn:=fn,tmps:=tmps,params:=ps.toArray,assign:=fQ,body:=body,defers:=D})):=by
 generalize hrec:({state:=.ready,pending:=none,fn:=fn,tmps:=tmps,params:=ps.toArray,assign:=fQ,body:=body,defers:=D}:Go.Loop)=rec;have ho:=BD w (.loop rec);have hne:∀s,K.A s->s≠σ.next:=fun s hs e=>hst (e▸hs);have e:Ext K σ.top w (K.Ii σ.next w.heap.size) σ.top (w.alloc (.loop rec)):=by
  refine⟨fun s hs=>⟨.inl hs,rfl,upd_ne _ _ (hne s hs),rfl⟩,fun s hs=>.inl ⟨rfl,rfl,upd_ne _ _ (hne s hs),upd_ne _ _ (hne s hs)⟩,fun b' i hi=>⟨hi,?_⟩,fun b' hi=>⟨hi,?_⟩⟩
  ·obtain⟨⟨v,hv⟩,_⟩:=h.I b' i hi
   rw[hv];exact Ho hv
  ·obtain⟨⟨_,hv,hml⟩,_⟩:=h.IM b' hi
   exact heap_alloc_old (lt_of_heap hv)
 refine⟨?_,e,ho.below hB hB,fun _ h=>h,fun _ h=>h,fun _ _ h=>.inl h,fun _ h=>.inl h⟩;refine h.upd (σ':=({σ with next:=σ.next+1}.iY σ.next {st:=0,pend:=none,fr:=fr,ps:=ps,fQ:=fQ,body:=body})) ho e (fun k hk=>upd_ne _ _ hk) (fun r hr'=>⟨aC,hB⟩) ?_ ?_ ?_ ?_ ?_ ?_
 ·intro loc s ob hs
  have hs':σ.obj loc=some (s,ob):=hs;refine .inl ⟨hs',fun hr=>?_⟩;have:=(h.rb _ _ ((h.obj _ _ _ hs').2.2 hr)).1;omega
 ·intro s hs hlt'
  have hs':s≠σ.next:=by rintro rfl;simp only[aV.Ii,upd_same] at hlt';omega
  have hA:K.A s:=hs.resolve_right hs';simp only[aV.Ii,upd_ne _ _ hs'] at hlt';have:=(h.rb _ _ (h.own s hA hlt').2.1).1;exact .inl ⟨hA,upd_ne _ _ hs',upd_ne _ _ hs',rfl,ah⟩
 ·intro b' i hi
  obtain⟨⟨v,hv⟩,_⟩:=h.I b' i hi;exact .inl ⟨hi,jK (lt_of_cell hv)⟩
 ·intro b' hi
  obtain⟨⟨_,hv,hml⟩,_⟩:=h.IM b' hi;exact .inl ⟨hi,jK (lt_of_heap hv)⟩
 ·intro l r hl
  by_cases hll:l=σ.next
  ·subst hll
   right;have hr:r={st:=0,pend:=none,fr:=fr,ps:=ps,fQ:=fQ,body:=body}:=by simpa [au.iY,upd] using hl.symm
   subst hr;have hlp:(K.Ii σ.next w.heap.size).lp σ.next=w.heap.size:=upd_same _ _ _;refine⟨.inr rfl,by rw[hlp];exact hB,by rw[hlp];exact upd_same _ _ _,fn,tmps,D,?_,hf.ext e,hok1,hok2,hps,hn1,hn2⟩;rw[hlp,heap_alloc_new,<-hrec];rfl
  ·left
   have hl1:σ.loops l=some r:=by simpa [au.iY,upd,hll] using hl
   have:=(h.rb _ _ (h.loop l r hl1).2.2.1).1;exact⟨hl1,ah⟩
 ·intro b' hd
  exact .inl ⟨hd,jK (lt_of_heap (h.D b' hd))⟩
theorem aoC (hE:kX E)(hS:Sound E S){f:Operand}{ps:Array Tmp}{fQ body:Code}{fr fr':Fr}{e:Ex}(h:fB E S (.rangeFunc f ps fQ body) fr σ=some (e,fr',σ')):o8 E (.rangeFunc f ps fQ body) fr σ e fr' σ':=by
 simp only[fB] at h;split at h
 ·rename_i hfun
  simp only[iR] at h;obtain⟨⟨v,σ3⟩,happ,r,hr,h⟩:=h;split at h
  ·simp at h
  ·rename_i hst
   simp only[iE,aP] at h;obtain⟨he,rfl,rfl⟩:=h;have hfn:∃g a b,fr.ev E f= .fn (.func g) a b:=by
    generalize fr.ev E f=x at hfun;unfold XH at hfun;split at hfun
    ·exact⟨_,_,_,rfl⟩
    ·simp at hfun
   have hnext:σ.next+1<=σ3.next:=by
    obtain⟨g,a,b,hg⟩:=hfn;rw[hg] at happ;unfold lH at happ;dsimp only at happ;split at happ
    ·obtain⟨⟨v0,aoD⟩,happ,Aq⟩:=aZ.1 happ
     have:=(hS.call _ _ _ _ _ _ happ).1;have e3:(jP (Option.map (fun t=>(fr.d,t)) none) aoD v0).2=σ3:=congrArg Prod.snd Aq;rw[<-e3,ET];exact this
    ·simp only[iR] at happ
     obtain⟨_,_,_,_,happ⟩:=happ;split at happ
     ·simp only[iE,aP] at happ
      rw[<-happ.2];exact RS _
     ·simp at happ
   refine⟨bZ (kD _) hnext,fun ro B0 K w a n ds hs hok hnr=>?_⟩;have hro:ro=none/\ds.nm=false:=by
    rcases hnr with h|h
    ·exact h
    ·simp[lG] at h
   obtain⟨hro,hnm⟩:=hro;subst hro;simp only[jg,iP,kM,decide_eq_true_eq] at hok;obtain⟨⟨⟨⟨hps,hok1⟩,hok2⟩,hn1⟩,hn2⟩:=hok;refine wpIn_rangeFunc (fun fn _=>?_);have st1:=Step.aoA (new:=newer σ (σ3.qd σ.next)) hs.ok hs.hB;have hB1:=bZ hs.hB st1.below.size;have hst:¬K.A σ.next:=fun hA=>Nat.lt_irrefl _ (hs.st _ hA);have hf1:kF {K with D:=fun b=>K.D b\/b=w.heap.size} σ.top (w.alloc (.deferred (some []))) fr a.tmps:=hs.fr.ext st1.ext;have st2:=Step.aoB (fn:=fn) (D:=w.heap.size) (ps:=ps.toList) (fQ:=fQ) (body:=body) st1.ok hB1 hst hf1 (by rw[hs.sz];exact hok1) (by rw[hs.sz];exact hok2) (fun p hp=>by rw[hs.sz];exact hps p hp) hn1 hn2;have hsz1:(w.alloc (.deferred (some []))).heap.size=w.heap.size+1:=aC
   generalize hK2:aV.Ii {K with D:=fun b=>K.D b\/b=w.heap.size} σ.next (w.alloc (.deferred (some []))).heap.size=K2 at st2;generalize hw2:(w.alloc (.deferred (some []))).alloc (.loop {state:=.ready,pending:=none,fn:=fn,tmps:=a.tmps,params:=ps.toList.toArray,assign:=fQ,body:=body,defers:=w.heap.size})=w2 at st2;have afb:K2.lp σ.next=w.heap.size+1:=by rw[<-hK2,<-hsz1];exact upd_same _ _ _
   have hA2:K2.A σ.next:=by rw[<-hK2];exact .inr rfl
   have hf2:kF K2 σ.top w2 fr a.tmps:=hf1.ext st2.ext;have aoE:∀s,K2.A s->s<σ.next+1:=fun s hsA=>by
    rcases st2.A s hsA with h1|h1
    ·exact Nat.lt_succ_of_lt (hs.st s h1)
    ·omega
   have hB2:=bZ hB1 st2.below.size;have hra:RelA K2 σ.top w2 [.fn (.yield σ.next) [] []] #[.func (.yield (w.heap.size+1)) #[] #[]]:=by refine⟨rfl,fun i hi=>?_⟩;have hi0:i=0:=jI;subst hi0;have:=Rel.yield (K:=K2) (T:=σ.top) (w:=w2) σ.next hA2;rw[afb] at this;exact this
   obtain⟨_,g,first,cap,hcf,hbody,hcall⟩:=aeO hE hS.call st2.ok hB2 aoE hfn happ (xR st2.ok hf2 f) hra;have henter:=run_enterLoop_outer (P:=E.P) (w:=w) fn a.tmps ps fQ body;have aoF:(w.alloc (.deferred (some []))).alloc (.loop {state:=.ready,pending:=none,fn:=fn,tmps:=a.tmps,params:=ps,assign:=fQ,body:=body,defers:=w.heap.size})=w2:=by rw[<-hw2]
   rw[aoF] at henter;refine⟨w.heap.size+1,[mark w.heap.size],w2,{target:=.fn (.func g) cap,args:=first++ #[.func (.yield (w.heap.size+1)) #[] #[]]},w2,g,first++ #[.func (.yield (w.heap.size+1)) #[] #[]]++cap,w2,henter,?_,fun _ _=>trivial,?_,
    fun hd=>Rt,?_⟩
   ·unfold resolve
    have hargs:(rangeCall f (w.heap.size+1)).args.map a.eval= #[.func (.yield (w.heap.size+1)) #[] #[]]:=(by simp[rangeCall,Act.eval]);rw[hargs];simp only[rangeCall,hcf,Deferred.ofValue,Sem.run_pure]
   ·simp only[invoke]
    exact Yt hE hbody _ _
   ·have aoG:CallsIn (lW none) (0-1) E.P g (first++ #[.func (.yield (w.heap.size+1)) #[] #[]]++cap) w2 _:=hcall
    refine aoG.mono ?_;intro en w3 hp;cases en with
    |panicked ch=>exact hp.elim|outgrown=>exact hp.elim|returned cv=>
     obtain⟨q8,r3,Sw,hA3,pz⟩:=hp;obtain⟨aBp,hb3,aoH,aoI,aoJ,D3,hh3,hf3,_⟩:=Sw.loop σ.next r hr;have Ib:q8.lp σ.next=w.heap.size+1:=((pz.ext.A σ.next hA2).2.2.1).trans afb;have hend:=run_endLoop (P:=E.P) hh3 (by
      show uV r.st≠ .busy;unfold uV;split
      ·simp
      ·simp[hst])
     rw[Ib] at hend;have hB3:=bZ hB2 pz.below.size;have hput:=bA.Sv (σ':=σ3.qd σ.next) (new:=newer σ (σ3.qd σ.next)) (o':=.loop {state:=.exhausted,pending:=r.pend.bind wh,fn:=aoI,tmps:=aoJ,params:=r.ps.toArray,assign:=r.fQ,body:=r.body,defers:=D3}) Sw hB3 hb3 hh3 (fun _ _ _=>aC) (fun e=>e)
      (fun l r1 hl=>by have hll:l≠σ.next:=(by rintro rfl;simp[au.qd,upd] at hl);have hl1:σ3.loops l=some r1:=(by simpa [au.qd,upd,hll] using hl);refine⟨hl1,fun e'=>?_⟩;have:=(Sw.loop l r1 hl1).2.2.1;rw[e',aoH] at this;cases this;exact hll rfl) rfl rfl q8.D (fun x hx=>⟨hx,xQ (Sw.D x hx) hh3 aC⟩) (fun _ h=>h)
     have YJ:({q8 with D:=q8.D}:aV)=q8:=rfl;rw[YJ] at hput;obtain⟨nW,Sy⟩:=hput;rw[Ib] at nW Sy;have aoK:(σ3.qd σ.next).next=σ3.next:=rfl;have uZ:=Step.trans (new:=newer σ (σ3.qd σ.next)) st1 ((st2.mono (fun s hs'=>by subst hs';exact⟨RS _,by rw[aoK];omega⟩)).trans ((pz.mono (fun s hs'=>by have h1:σ.next+1<=s:=hs'.1;exact⟨ah,hs'.2⟩)).trans nW));have mk:∀w4,bA E B0 (σ3.qd σ.next) q8 w4->Step E B0 (newer σ (σ3.qd σ.next)) σ K w (σ3.qd σ.next) q8 w4->St E B0 (σ3.qd σ.next) q8 w4 fr {a with defers:=[mark w.heap.size]++a.defers} n ds:=by
      intro w4 Sy uZ;refine⟨Sy,bZ hs.hB uZ.below.size,hs.fr.ext uZ.ext,hs.sz,?_,hA3,bZ hs.hD uZ.below.size⟩;obtain⟨bs,d1,d2,d3,_⟩:=hs.df;refine⟨w.heap.size::bs,by simp[d1],?_,fun b hb=>?_,fun e=>by rw[hnm] at e;cases e⟩
      ·refine Ad.2 ⟨fun hm=>?_,d2⟩
       exact Nat.lt_irrefl _ (lt_of_heap (hs.ok.D _ (d3 _ hm).1))
      ·rcases iC.1 hb with rfl|hb
       ·exact⟨pz.D _ (st2.D _ (.inr rfl)),hs.hD⟩
       ·exact⟨uZ.D b (d3 b hb).1,(d3 b hb).2⟩
     have hSt:=mk _ Sy uZ;refine⟨_,_,hend,?_⟩;cases hp:r.pend with
     |none=>rw[hp] at he hSt uZ;simp only[Option.bind_none];subst he;exact⟨trivial,q8,hSt,uZ⟩|some e1=>
      rw[hp] at he hSt uZ;simp only at he;subst he;cases e1 with
      |normal=>exact⟨trivial,q8,hSt,uZ⟩|exit i=>exact wpIn_exit ⟨rfl,q8,hSt,uZ⟩|ret=>exact wpIn_ret ⟨trivial,q8,hSt,uZ⟩
 ·simp at h
end
theorem exists_least {p:Nat->Prop}(h:∃n,p n):∃n,p n/\∀m,p m->n<=m:=by
 obtain⟨n,hn⟩:=h;induction n using Nat.strongRecOn with
 |_ n ih=>
  by_cases hm:∃m,m<n/\p m
  ·obtain⟨m,hm1,hm2⟩:=hm
   exact ih m hm1 hm2
  ·exact⟨n,hn,fun m hm'=>Classical.byContradiction fun hlt=>hm ⟨m,ah,hm'⟩⟩
open Classical in
noncomputable def least (p:Nat->Prop):Nat:=if h:∃n,p n then (exists_least h).choose else 0
theorem afc {p:Nat->Prop}(h:∃n,p n):p (least p)/\∀m,p m->least p<=m:=by unfold least;rw[dif_pos h];exact(exists_least h).choose_spec
theorem YK {F:Fence}{rm:Nat}{P:Program}{Q:Exit->Act->World->Prop}{a:Act}{w:World}{c:Code}(I:Nat->Act->World->Prop)(n₀:Nat)(h₀:I n₀ a w)(round:∀n a w,I n a w->c.wpIn F rm P (Exit.then (fun a' w'=>∃n',n'<n/\I n' a' w') Q) a w):(Code.loop c).wpIn F rm P Q a w:=by
 refine wpIn_loop (fun a w=>∃n,I n a w) (fun a w=>least (fun n=>I n a w)) ⟨n₀,h₀⟩ ?_;intro a w hI;refine wpIn_mono (round _ a w (afc hI).1) ?_;intro e a' w' hq;cases e with
 |normal=>obtain⟨n',hlt,hI'⟩:=hq;exact show (∃n,I n a' w')/\least (fun n=>I n a' w')<least (fun n=>I n a w) from ⟨⟨n',hI'⟩,Nat.lt_of_le_of_lt ((afc ⟨n',hI'⟩).2 n' hI') hlt⟩
 |exit id=>exact hq|goto l=>exact hq|ret=>exact hq|panic ch=>exact hq|outgrown=>exact hq
section
variable {E:Env}
def afd (E:Env)(code:Code->Fr->au->Option (Ex×Fr×au))(c:Code):Prop:=∀fr σ e fr' σ',code c fr σ=some (e,fr',σ')->o8 E c fr σ e fr' σ'
theorem afe (hE:kX E)(n:Nat)(hS:∀m,m<=n->Sound E (dX E m)):∀c,afd E (fB E (dX E n)) c:=by
 intro c;induction c with
 |skip=>intro fr σ e fr' σ' h;simp only[fB,iE,aP] at h;obtain⟨rfl,rfl,rfl⟩:=h;exact amV
 |region id ops dr=>intro fr σ e fr' σ' h;exact aox hE (hS n (RS _)) h|seq x y Mx ihy=>
  intro fr σ e fr' σ' h;simp only[fB,iR] at h;obtain⟨⟨e1,bT,σ1⟩,h1,h⟩:=h;cases e1 with
  |normal=>exact am0 (Mx _ _ _ _ _ h1) (ihy _ _ _ _ _ h)|exit i=>simp only[iE,aP] at h;obtain⟨rfl,rfl,rfl⟩:=h;exact aez aC (Mx _ _ _ _ _ h1)
  |ret=>simp only[iE,aP] at h;obtain⟨rfl,rfl,rfl⟩:=h;exact aez aC (Mx _ _ _ _ _ h1)
 |cond c x y Mx ihy=>
  intro fr σ e fr' σ' h;simp only[fB,iR] at h;obtain⟨t,ht,h⟩:=h;refine am1 ht ?_;cases t
  ·exact ihy _ _ _ _ _ Bt
  ·exact Mx _ _ _ _ _ Bt
 |block id c ih=>
  intro fr σ e fr' σ' h;simp only[fB,aZ] at h;obtain⟨⟨e1,bT,σ1⟩,h1,h⟩:=h;have:=am2 (id:=id) (ih _ _ _ _ _ h1);cases e1 with
  |normal=>simp only[aP] at h;obtain⟨rfl,rfl,rfl⟩:=h;exact this
  |ret=>simp only[aP] at h;obtain⟨rfl,rfl,rfl⟩:=h;exact this
  |exit i=>
   simp only[Mc] at this;simp only at h;split at h
   ·rename_i hi
    simp only[aP] at h;obtain⟨rfl,rfl,rfl⟩:=h
    rwa[if_pos hi] at this
   ·rename_i hi
    simp only[aP] at h;obtain⟨rfl,rfl,rfl⟩:=h
    rwa[if_neg hi] at this
 |loop c ih=>
  intro fr σ e fr' σ' h;have hm:(dX E (n+1)).code (.loop c) fr σ=some (e,fr',σ'):=h;have hbody:∀k,k<=n->afd E (fB E (dX E k)) c:=by
   intro k hk;by_cases hkn:k=n
   ·subst hkn;exact ih
   ·intro fr σ e fr' σ' hc
    exact(hS (k+1) ah).code c fr σ e fr' σ' hc
  have hnext:∀(k:Nat)(fr:Fr)(σ:au),k<=n+1->(dX E k).code (.loop c) fr σ=some (e,fr',σ')->σ.next<=σ'.next:=by
   intro k;induction k with
   |zero=>intro fr σ _ hh;cases hh|succ k ihk=>
    intro fr σ hk hh;have hh':fB E (dX E k) (.loop c) fr σ=some (e,fr',σ'):=hh;simp only[fB,iR] at hh';obtain⟨⟨e1,bT,σ1⟩,h1,h2⟩:=hh';have hb:=(hbody k ah _ _ _ _ _ h1).1;cases e1 with
    |normal=>exact bZ hb (ihk bT σ1 ah h2)|exit i=>simp only[iE,aP] at h2;obtain⟨_,_,rfl⟩:=h2;exact hb
    |ret=>simp only[iE,aP] at h2;obtain⟨_,_,rfl⟩:=h2;exact hb
  refine⟨hnext (n+1) fr σ (RS _) hm,fun ro B0 K w a sz ds hs hok hnr=>?_⟩;refine YK (fun m a1 w1=>m<=n+1/\∃bT σ1 K1,(dX E m).code (.loop c) bT σ1=some (e,fr',σ')/\St E B0 σ1 K1 w1 bT a1 sz ds/\Step E B0 (newer σ σ1) σ K w σ1 K1 w1/\σ.next<=σ1.next) (n+1)
   ⟨RS _,fr,σ,K,hm,hs,.refl hs.ok,RS _⟩ ?_
  rintro m a1 w1 ⟨hmn,bT,σ1,K1,hcode,hs1,st1,hle1⟩;cases m with
  |zero=>cases hcode|succ k=>
   have hh':fB E (dX E k) (.loop c) bT σ1=some (e,fr',σ'):=hcode;simp only[fB,iR] at hh';obtain⟨⟨e2,fT,σ2⟩,h1,h2⟩:=hh';obtain⟨hle2,hwp⟩:=hbody k ah _ _ _ _ _ h1;refine wpIn_mono (hwp ro B0 K1 w1 a1 sz ds hs1 hok hnr) ?_;rintro x a2 w2 ⟨hx,K2,hs2,st2⟩;cases e2 with
   |normal=>
    cases x<;>simp only[lM] at hx;exact⟨k,CO k,ah,fT,σ2,K2,h2,hs2,st1.widen st2 hle1 hle2,bZ hle1 hle2⟩
   |exit i=>simp only[iE,aP] at h2;obtain⟨rfl,rfl,rfl⟩:=h2;cases x<;>simp only[lM] at hx;exact⟨hx,K2,hs2,st1.widen st2 hle1 hle2⟩
   |ret=>simp only[iE,aP] at h2;obtain⟨rfl,rfl,rfl⟩:=h2;cases x<;>simp only[lM] at hx;exact⟨trivial,K2,hs2,st1.widen st2 hle1 hle2⟩
 |rangeFunc f ps x y=>intro fr σ e fr' σ' h;exact aoC hE (hS n (RS _)) h|exit id=>intro fr σ e fr' σ' h;simp only[fB,iE,aP] at h;obtain⟨rfl,rfl,rfl⟩:=h;exact amW id
 |scope c ih=>intro fr σ e fr' σ' h;simp only[fB] at h;exact amZ (ih _ _ _ _ _ h)|label l=>intro fr σ e fr' σ' h;simp only[fB,iE,aP] at h;obtain⟨rfl,rfl,rfl⟩:=h;exact amY l
 |goto l=>intro fr σ e fr' σ' h;simp[fB] at h|ret=>intro fr σ e fr' σ' h;simp only[fB,iE,aP] at h;obtain⟨rfl,rfl,rfl⟩:=h;exact amX
 |refuse why=>intro fr σ e fr' σ' h;simp[fB] at h
variable {B0:Nat}{σ:au}{K:aV}{w:World}{fr:Fr}
def MB (tmps:Array Value):ResultVar->Sem Value
 |.tmp t=>pure (tmps.getD t undef)|.cell a t=>do loadVar t (<-asAddr (tmps.getD a undef))
theorem aoL (h:bA E B0 σ K w){tmps:Array Value}(hf:kF K σ.top w fr tmps){r:ResultVar}{v:V}(hv:lJ E fr σ r=some v):
 ∃c,(MB tmps r).run E.P w= .ok c w/\Rel K σ.top w v c:=by
 cases r with
 |tmp t=>simp only[lJ,iE] at hv;subst hv;exact⟨_,rfl,hf t⟩|cell a t=>
  simp only[lJ] at hv;have ha:=hf a;cases hx:fr.tm a with
  |ref loc s off=>
   rw[hx] at hv ha;simp only at hv;obtain⟨c,h1,h2⟩:=X3 h (t:=t) ha (v:=v) hv;simp only[MB];generalize tmps.getD a undef=ca at h1 ha;cases ha with
   |ref _ _ _ hA=>refine⟨c,?_,h2⟩;simpa [Instr.loadAt,Instr.sureAddr,asAddr] using h1
  |_=>rw[hx] at hv;simp at hv
theorem aff (h:bA E B0 σ K w){tmps:Array Value}(hf:kF K σ.top w fr tmps):∀(rs:List ResultVar)(vs:List V),rs.mapM (lJ E fr σ)=some vs->
 ∃cs:List Value,(rs.mapM (MB tmps)).run E.P w= .ok cs w/\vs.length=cs.length/\
  ∀i,i<vs.length->Rel K σ.top w (vs.getD i aK) (cs.getD i undef):=by
 intro rs;induction rs with
 |nil=>intro vs hv;simp at hv;subst hv;exact⟨[],aC,rfl,fun i hi=>absurd hi (gK i)⟩
 |cons r rs ih=>
  intro vs hv;simp only[jL,Option.pure_def,Option.bind_eq_bind,iR,iE] at hv;obtain⟨v,h1,vs',h2,rfl⟩:=hv;obtain⟨c,g1,g2⟩:=aoL h hf h1;obtain⟨cs,k1,k2,k3⟩:=ih vs' h2;refine⟨c::cs,?_,by simp[k2],fun i hi=>?_⟩
  ·simp only[jL,Sem.run_bind,g1,Result.andThen_ok,k1,Sem.run_pure]
  ·cases i with
   |zero=>exact g2|succ i=>exact k3 i jI
theorem YL {fn:Func}{tmps:Array Value}{R:Ending->World->Prop}{B1:Nat}(hB1:B0<=B1)(Dm:Nat->Prop):∀(bs:List Nat)(K:aV)(w:World),bA E B0 σ K w->B0<=w.heap.size->bs.Nodup->(∀b∈bs,K.D b/\B1<=b)->(∀b,Dm b->K.D b)->(∀b,Dm b->b<B1)->(∀w1,Step E B0 (fun _=>False) σ {K with D:=Dm} w σ {K with D:=Dm} w1->LeavesIn Fence.wide 0 E.P fn tmps R [] .returning w1)->LeavesInM Fence.wide 0 E.P fn tmps R (bs.map mark) .returning w:=by
 intro bs;induction bs with
 |nil=>intro K w h _ _ _ hk _ hl;refine hl w (.refl (h.Sr Dm (fun b hb=>h.D b (hk b hb))))
 |cons b bs ih=>
  intro K w h hB hnd hbs hk hlt hl;obtain⟨hb,YM⟩:=hbs b aC;have hheap:=h.D b hb;have hput:=bA.Sv (σ':=σ) (new:=fun _=>False) (o':=.deferred none) h hB (bZ hB1 YM) hheap (fun _ _ _=>aC) (fun e=>e)
   (fun l r hl=>by obtain⟨_,_,_,_,_,_,hh,_⟩:=h.loop l r hl;exact⟨hl,xQ hh hheap aC⟩) rfl rfl
  have ok1:bA E B0 σ {K with D:=fun x=>K.D x/\x≠b} (w.putObj b (.deferred none)):=by
   have ho:=Ym w b (.deferred none);have h0:bA E B0 σ {K with D:=fun _=>False} w:=h.Sr _ (fun b hb=>hb.elim);have hp:=(bA.Sv (σ':=σ) (new:=fun _=>False) (o':=.deferred none) h0 hB (bZ hB1 YM) hheap (fun _ _ _=>aC) (fun e=>e)
    (fun l r hl=>by obtain⟨_,_,_,_,_,_,hh,_⟩:=h.loop l r hl;exact⟨hl,xQ hh hheap aC⟩) rfl rfl (fun _=>False) (fun x hx=>hx.elim) (fun _ h=>h)).2
   exact hp.Sr (fun x=>K.D x/\x≠b) (fun x hx=>by rw[World.putObj_heap_other hx.2];exact h.D x hx.1)
  refine⟨aC,.inl ⟨b,w.putObj b (.deferred none),rfl,run_takeDeferred hheap,?_⟩⟩;refine ih {K with D:=fun x=>K.D x/\x≠b} (w.putObj b (.deferred none)) ok1 (by simpa using hB) (Ad.1 hnd).2
   (fun x hx=>⟨⟨(hbs x zZ).1,fun e=>(Ad.1 hnd).1 (e▸hx)⟩,(hbs x zZ).2⟩) (fun x hx=>⟨hk x hx,fun e=>by have:=hlt x hx;omega⟩) hlt (fun w1 st=>hl w1 ?_)
  have YJ:bA E B0 σ {K with D:=Dm} w:=h.Sr Dm (fun b hb=>h.D b (hk b hb));have st0:=(bA.Sv (σ':=σ) (new:=fun _=>False) (o':=.deferred none) YJ hB (bZ hB1 YM) hheap (fun _ _ _=>aC) (fun e=>e)
   (fun l r hl=>by obtain⟨_,_,_,_,_,_,hh,_⟩:=h.loop l r hl;exact⟨hl,xQ hh hheap aC⟩) rfl rfl Dm (fun x hx=>⟨hx,fun e=>by have h1:x<B1:=hlt x hx;omega⟩) (fun _ h=>h)).1
  exact st0.trans st
theorem aoM (n:Nat)(hS:Ma E (dX E n).code):H8 E (CY E (dX E n)):=by
 intro f args d σ v σ' h;simp only[CY,iR] at h;obtain⟨fn,hfn,c,hc,h⟩:=h;split at h
 ·rename_i hok
  simp only[iR] at h;obtain⟨⟨e,bT,σ1⟩,hcode,h⟩:=h;have hne:e= .normal\/e= .ret:=by
   cases e with
   |normal=>exact .inl rfl|ret=>exact .inr rfl|exit i=>simp at h
  have h':(fn.results.toList.mapM (lJ E bT σ1)).map (fun vs=>(match vs with| [v]=>v|vs=>.bq vs,σ1))=some (v,σ'):=by rcases hne with rfl|rfl<;>exact h
  simp only[aZ,aP] at h';obtain⟨vs,hvs,hv,rfl⟩:=h';obtain⟨hle,hwp⟩:=hS _ _ _ _ _ _ hcode;refine⟨hle,⟨fn,c,hfn,hc⟩,fun ro B0 K w bV hs hB hA hr=>?_⟩;have hsz:bV.size=args.length:=hr.1.symm;have hst:St E B0 σ K w {d:=d,aj:=E.aj f,tm:=fun i=>args.getD i aK} {tmps:=bV++Array.replicate (fn.ntmps-bV.size) undef,defers:=[]} fn.ntmps ⟨[],w.heap.size,false⟩:=by
   refine⟨hs,hB,fun t=>?_,jR,⟨[],rfl,List.nodup_nil,(fun b hb=>by cases hb),fun _=>rfl⟩,hA,RS _⟩;show Rel K σ.top w (args.getD t aK) _;by_cases ht:t<args.length
   ·have e1:(bV++Array.replicate (fn.ntmps-bV.size) undef).getD t undef=bV.getD t undef:=by simp only[Ac];rw[Array.getElem?_append_left ah]
    rw[e1];exact hr.2 t ht
   ·have e1:(bV++Array.replicate (fn.ntmps-bV.size) undef).getD t undef=undef:=by simp only[Ac];rw[Array.getElem?_append_right ah,Array.getElem?_replicate];split<;>rfl
    have e2:args.getD t aK=aK:=(by simp[List.getD,List.getElem?_eq_none (Nat.le_of_not_lt ht)]);rw[e1,e2];exact .undef _ _ _
  have hwp':=hwp none B0 K w _ fn.ntmps ⟨[],w.heap.size,false⟩ hst hok.2 (.inl ⟨rfl,rfl⟩);have aoN:CallsIn Fence.wide 0 E.P f bV w (Ao E B0 σ K w v σ1):=by
   refine callsIn_of_wp_marks hfn hc trivial (wpIn_mono hwp' ?_);rintro x a' w' ⟨hx,K',hs',st'⟩;have hleave:LeavesInM Fence.wide 0 E.P fn a'.tmps (Ao E B0 σ K w v σ1) a'.defers .returning w':=by
    obtain⟨bs,d1,d2,d3,_⟩:=hs'.df;rw[d1,lF];refine YL (B1:=w.heap.size) hB K.D bs K' w' hs'.ok hs'.hB d2 d3 st'.D (fun b hb=>lt_of_heap (hs.D b hb)) (fun w1 wz=>?_);have wB:=wz.ok;have hf2:kF {K' with D:=K.D} σ1.top w1 bT a'.tmps:=(by have e1:Ext K' σ1.top w' {K' with D:=K.D} σ1.top w1:=(Ih K' σ1.top w' K.D).trans wz.ext;exact hs'.fr.ext e1);obtain⟨cs,k1,k2,k3⟩:=aff wB hf2 fn.results.toList vs hvs;have hrun:(results fn a'.tmps).run E.P w1= .ok (if h:cs.toArray.size=1 then cs.toArray[0] else .tuple cs.toArray) w1:=(by have hres:results fn a'.tmps=(do let vs<-fn.results.mapM (MB a'.tmps);pure (if h:vs.size=1 then vs[0] else .tuple vs)):=rfl;rw[hres,Array.mapM_eq_mapM_toList];simp only[Sem.run_bind,Sem.run_map,k1,Result.andThen_ok,Sem.run_pure]);have Di:Step E B0 (newer σ σ1) σ K w σ1 {K' with D:=K.D} w1:=
     ⟨wB,st'.ext.trans ((Ih K' σ1.top w' K.D).trans wz.ext),st'.below.trans wz.below,fun _ h=>h,st'.A,st'.qh,st'.qj⟩
    refine⟨_,hrun,{K' with D:=K.D},?_,wB,hs'.st,Di⟩;rw[<-hv];cases vs with
    |nil=>have:cs=[]:=Rx;subst this;exact .bq [] #[] rfl (fun i hi=>absurd hi (gK i))
    |cons v1 vs=>
     cases cs with
     |nil=>simp at k2|cons c1 cs=>
      cases vs with
      |nil=>have:cs=[]:=Rx;subst this;have:=k3 0 aC;simpa using this|cons v2 vs=>have hsz2:¬((c1::cs).toArray.size=1):=(by simp only[List.length_cons,Nat.add_right_cancel_iff] at k2;rw[List.size_toArray,List.length_cons];omega);rw[dif_neg hsz2];refine .bq _ _ RF (fun i hi=>?_);have:=k3 i hi;simpa [Ac,List.getD] using this
   rcases hne with rfl|rfl<;>cases x<;>simp only[lM] at hx<;>exact hleave
  exact aoN
 ·simp at h
theorem aoO (hE:kX E)(n:Nat)(hS:Ma E (dX E n).code):H8 E (Al E (dX E n)):=by
 intro f args d σ v σ' h;unfold Al at h;split at h
 ·rename_i v' hv
  cases h;obtain⟨g,h1,h2⟩:=iR.1 hv;obtain⟨h3,h4⟩:=hE.cl f g h1 args _ h2;exact⟨RS _,h3,fun ro B0=>h4 ro B0 _⟩
 ·exact aoM n hS f args d σ v σ' h
theorem Ij (hE:kX E):∀n,Sound E (dX E n):=by
 have all:∀n m,m<=n->Sound E (dX E m):=by
  intro n;induction n with
  |zero=>
   intro m hm;obtain rfl:m=0:=ah
   exact⟨(fun _ _ _ _ _ _ h=>bC),(fun _ _ _ _ _ _ h=>bC)⟩
  |succ n ih=>
   intro m hm;by_cases hmn:m<=n
   ·exact ih m hmn
   ·obtain rfl:m=n+1:=ah
    exact⟨fun c fr σ e fr' σ' h=>afe hE n ih c fr σ e fr' σ' h,aoO hE n (ih n (RS _)).code⟩
 exact fun n=>all n n (RS _)
theorem aoP (hE:kX E){n:Nat}{f:FuncId}{args:List V}{v:V}(h:xK E (dX E n) f args=some v):qY E f args v:=Yl hE (Ij hE n).call h
end
end aY
end
