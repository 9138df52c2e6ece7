import Derived.Test.YteniejlbjfigdaaGreatDoorF510
set_option linter.all false
section
namespace aR
open Go
section
variable {R:kE}{E:Env}
variable {C:bA}{top:Nat->Nat}{b aI:Nat}{st:aM R.T}{fr:Fr}{Z:ah}{o:Oper}
theorem arF {x:au R.T}(h:wR x=true):wR (Co x)=true:=by cases x<;>first|exact h|rfl
theorem ag3 {top:Nat->Nat}{x:au R.T}{v:V}(hs:pz (wS x)=true)(h:aA R C top x v):aA R C top (wS x) (gu v):=by
 cases x with
 |ak c t l=>obtain⟨c',rfl,hc⟩:=h.mo;unfold wS aA;exact⟨.sh,rfl,rfl⟩
 |int k n=>rw[h.iO] at*;exact h|bool b=>rw[h.rH] at*;exact h|jy b=>rw[h.vJ] at*;exact h|str s=>rw[h.oN] at*;exact h|agg cs=>obtain⟨l,rfl,hl⟩:=h.mh;exact h
 |bK cs=>obtain⟨l,rfl,hl⟩:=h.Ir;exact h
 |eF k e m=>rw[h.CB] at*;exact h|fn f a b=>obtain⟨a',b',rfl,ha,hb⟩:=h.oO;exact h
 |aX cs off=>obtain⟨l,rfl,hl⟩:=h.uw;exact h
 |sg ss=>rw[h.Iu] at*;exact h|gU=>unfold aA at h;subst h;unfold wS aA;rfl|gH=>unfold aA at h;subst h;unfold wS aA;rfl|gP=>unfold aA at h;subst h;unfold wS aA;rfl|iH=>unfold aA at h;subst h;unfold wS aA;rfl|_=>simp[wS,pz] at hs
theorem ag4 {top:Nat->Nat}:∀{l:List (au R.T)}{vs:List V},zl (LZ l)=true->aF R C top l vs->aF R C top (LZ l) (vs.map gu)
 | [],vs,_,h=>KV|x::l,vs,hs,h=>by obtain⟨v,ws,rfl,h1,h2⟩:=h.fB;unfold LZ zl at hs;rw[aZ] at hs;exact .cons' (ag3 hs.1 h1) (ag4 hs.2 h2)
theorem arG {top:Nat->Nat}{x:au R.T}{v:V}(hs:pz (wS x)=true)(hg:wR x=true)(hn:∀cs,x≠ .agg cs)(h:aA R C top x v):er v=gu v:=by
 cases x with
 |ak c t l=>obtain⟨c',rfl,hc⟩:=h.mo;rfl
 |int k n=>rw[h.iO];rfl|bool b=>rw[h.rH];rfl|jy b=>rw[h.vJ];rfl|str s=>rw[h.oN];rfl|agg cs=>exact absurd rfl (hn cs)|bK cs=>obtain⟨l,rfl,hl⟩:=h.Ir;rfl
 |eF k e m=>rw[h.CB];rfl|fn f a b=>obtain⟨a',b',rfl,ha,hb⟩:=h.oO;rfl
 |aX cs off=>obtain⟨l,rfl,hl⟩:=h.uw;rfl
 |sg ss=>cases hg|gU=>unfold aA at h;subst h;rfl|gH=>unfold aA at h;subst h;rfl|gP=>unfold aA at h;subst h;rfl|iH=>unfold aA at h;subst h;rfl|_=>simp[wS,pz] at hs
theorem arH {top:Nat->Nat}{x:au R.T}{v:V}(hs:(pz (Co x)&& wR x)=true)(h:aA R C top x v):aA R C top (Co x) (er v):=by
 rw[aZ] at hs;have key:(∀cs,x≠ .agg cs)->Co x=wS x:=fun hne=>by cases x<;>first|rfl|exact absurd rfl (hne _)
 cases x with
 |agg cs=>obtain⟨l,rfl,hl⟩:=h.mh;unfold Co aA;exact⟨_,rfl,ag4 (by have:=hs.1;unfold Co pz at this;exact this) hl⟩
 |sg ss=>cases hs.2|_=>rw[key (fun _ e=>by cases e)] at hs⊢;have h1:=ag3 hs.1 h;rw[arG hs.1 hs.2 (fun _ e=>by cases e) h];exact h1
theorem sN.val {v:Option V}{r:eY R}(hv:qo C Z.top v r)(ho:∀y,v=some y->dh E fr Z aI o=some (y,Z)):sN E st C aI fr Z o r:=by
 cases r with
 |t x=>obtain⟨y,e,hr⟩:=hv;exact⟨y,.jK (ho y e),hr⟩
 |c c x=>intro hc;obtain⟨y,e,hr⟩:=hv hc;exact⟨y,.jK (ho y e),hr⟩
 |p J d o' f=>intro a ha;obtain⟨y,e,hr⟩:=hv a ha;exact⟨y,.jK (ho y e),hr⟩
 |w x s=>exact hv.elim|wc c x s=>exact hv.elim
theorem sN.tt {x:au R.T}{y:V}(ho:dh E fr Z aI o=some (y,Z))(hr:aA R C Z.top x y):sN E st C aI fr Z o (.t x):=⟨y,.jK ho,hr⟩
theorem MI {x:Operand}:kP E fr (some x)=some (fr.ev E x):=rfl
theorem ag5 {top:Nat->Nat}{x y v:au R.T}{w:V}(h:Ih true x y=some v)(hx:aA R C top x w):aA R C top v w:=by
 unfold Ih at h;split at h<;>try cases h
 .split at h
  .cases h;exact hx
  .cases h
 all_goals first|exact hx| (unfold aA at hx⊢;exact hx)
theorem ag6 {top:Nat->Nat}{x y v:au R.T}{w:V}(h:Ih false x y=some v)(hx:aA R C top y w):aA R C top v w:=by
 unfold Ih at h;split at h<;>try cases h
 .split at h
  .rename_i e;subst e;cases h;exact hx
  .cases h
 all_goals first|exact hx| (unfold aA at hx⊢;exact hx)
theorem IQ {c a' b':Operand}{t:Bool}(hop:o.op= .pick c a' b')(hc:fr.ev E c= .bool t):dh E fr Z aI o=some (if t then fr.ev E a' else fr.ev E b',Z):=by simp only[dh,hop,hc,xO,Option.map_some]
variable (hR:rG R)
include hR
theorem arI {t:TypeId}{m x:au R.T}{v w:V}{ok:Bool}{r:eY R}(h:Rp E R t m x ok st=some r)(hm:aA R C Z.top m v)(hx:aA R C Z.top x w)(hi:aT C b st fr Z):qo C Z.top (yY E.P Z t v w ok) r:=by
 unfold Rp at h;split at h
 .rename_i o;split at h
  .rename_i k e m hl;obtain⟨s,h1,rfl⟩:=hm.AB;obtain⟨s',h2,h3⟩:=hi.rd hl;rw[h1] at h2;cases h2;exact Xx hR h hx h3
  .cases h
 .rename_i k e m;exact Xx hR h hx (by rw[hm.CB];rfl)
 .split at h
  .split at h
   .unfold aA at hm;subst hm;exact Xx hR h hx rfl
   .cases h
  .cases h
 .cases h
omit hR in
theorem ag7 {top:Nat->Nat}{x y:au R.T}{v w:V}{r:Bool}(h:Rq x y=some r)(hx:aA R C top x v)(hy:aA R C top y w):p8 v w=some r:=by
 unfold Rq at h;split at h
 .rw[hx.iO,hy.iO];exact h
 .cases h;rw[hx.oN,hy.oN];rfl
 .cases h
omit hR in
theorem ag8 {top:Nat->Nat}{t:TypeId}{x:au R.T}{v:V}(h:Rs E t x=true)(hx:aA R C top x v):oh E.P t v=true:=by
 unfold Rs at h;split at h
 .rename_i hu;rw[hx.iO];unfold oh;rw[hu]
 .rename_i hu;rw[hx.oN];unfold oh;rw[hu]
 .cases h
omit hR in
theorem ag9 {top:Nat->Nat}{x y:au R.T}{v w:V}(hx:aA R C top x v)(hy:aA R C top y w):∀{ks vs:List (au R.T)}{ks' vs':List (au R.T)}{k l:List V},Rt x y ks vs=some (ks',vs')->aF R C top ks k->aF R C top vs l->
 ∃k' l',yX v w k l=some (k',l')/\aF R C top ks' k'/\aF R C top vs' l'
 | [],[],_,_,k,l,h,h1,h2=>by
   cases h;rw[h1.iL,h2.iL];exact⟨_,_,rfl,.cons' hx rfl,.cons' hy rfl⟩
 | [],_::_,_,_,_,_,h,_,_=>bU|_::_,[],_,_,_,_,h,_,_=>bU|a::ks,b::vs,ks',vs',k,l,h,h1,h2=>by
  obtain⟨k0,k,rfl,g1,g2⟩:=h1.fB;obtain⟨l0,l,rfl,g3,g4⟩:=h2.fB;unfold Rt at h;split at h
  .rename_i c hc;have he:=ag7 hc hx g1;cases c with
   |true=>cases h;exact⟨v::k,w::l,by simp[yX,he],.cons' hx g2,.cons' hy g4⟩|false=>
    rw[cond_false] at h;split at h
    .rename_i aAU vs1 hs;cases h;obtain⟨k',l',e1,e2,e3⟩:=ag9 hx hy hs g2 g4;exact⟨k0::k',l0::l',by simp[yX,he,e1],.cons' g1 e2,.cons' g3 e3⟩
    .cases h
  .cases h
theorem aha {t:TypeId}{m x y:au R.T}{v w u:V}{r:eY R}(h:Ib E R t m x y st=some r)(hm:aA R C Z.top m v)(hx:aA R C Z.top x w)(hy:aA R C Z.top y u)(hi:aT C aI st fr Z)(ho:∀Z',uY E.P Z t v w u=some Z'->dh E fr Z aI o=some (aJ,Z')):sN E st C aI fr Z o r:=by
 unfold Ib at h;split at h
 .rename_i p;split at h
  .rename_i k e m hl;split at h
   .rename_i kt et ht;obtain⟨hk,h⟩:=fI h;split at h
    .rename_i a c ha hc;cases h;obtain⟨s,h1,rfl⟩:=hm.AB;obtain⟨s',h2,h3⟩:=hi.ob _ _ hl;rw[h1] at h2;cases h2;have hw:=agw hR hk ha hx;subst hw;unfold afy at hc;obtain⟨hs,hc⟩:=fI hc;have hu:u=aO R e c:=(by have h4:=Xe hR hc hy;have h5:=R7 hR y u hs hy;have h6:=h4.2.2.1 0 Z;rw[ni h5] at h6;exact jW h6);subst hu;have hup:uY E.P Z t (.dQ (C.aj.lc p) s) (aO R k a) (aO R e c)=some (Z.setObj (C.aj.lc p) s (.map ((zm (mK R k) a c m).map fun q=>aO R k q.1) ((zm (mK R k) a c m).map fun q=>aO R e q.2))):=(by unfold uY;rw[ht];simp only[Option.bind_some];rw[if_pos (RX hR hk a a).2,h3];simp only[Option.bind_some];rw[agv hR hk a c m];rfl);refine⟨aJ,_,C,.jK (ho _ hup),(hi.le (jY _)).set p s ⟨s,h1,map_eq _ _ _ _ _⟩,rfl,fV,fun q _=>bN.set hl rfl⟩
    .cases h
   .cases h
  .rename_i ks vs hl;split at h
   .rename_i kt et ht;obtain⟨hk,h⟩:=fI h;split at h
    .rename_i ks' vs' hs;cases h;obtain⟨s,h1,rfl⟩:=hm.AB;obtain⟨s',k0,l0,h2,h3,h4,h5⟩:=hi.ob _ _ hl;rw[h1] at h2;cases h2;obtain⟨k1,l1,g1,g2,g3⟩:=ag9 hx hy hs h4 h5;have hup:uY E.P Z t (.dQ (C.aj.lc p) s) w u=some (Z.setObj (C.aj.lc p) s (.map k1 l1)):=(by unfold uY;rw[ht];simp only[Option.bind_some];rw[if_pos (ag8 hk hx),h3];simp only[Option.bind_some];rw[g1];rfl);refine⟨aJ,_,C,.jK (ho _ hup),(hi.le (jY _)).set p s ⟨s,k1,l1,h1,map_eq _ _ _ _ _,g2,g3⟩,rfl,fV,fun q _=>bN.set hl rfl⟩
    .cases h
   .cases h
  .cases h
 .cases h
omit hR in
theorem aT.at (h:aT C b st fr Z){d:Nat}(hd:d<F0):(fr.d,d)=C.aj.lc d:=by rw[h.d,eG.WY _ hd]
omit hR in
theorem aT.ahb (h:aT C b st fr Z){x:Option Nat}(hd:∀d,x=some d->d<F0):(x.map fun t=>(fr.d,t))=x.map fun t=>C.aj.lc t:=by
 cases x with
 |none=>rfl|some d=>exact congrArg some (h.at (hd d rfl))
theorem ahc {d s:Nat}{cs:List (au R.T)}{l:List V}(hi:aT C b st fr Z)(hc:aF R C Z.top cs l)(hm:ql d cs=false):aT (C.nP d s) b (st.new d (.cells cs)) fr (Z.setObj (C.aj.lc d) s (.cells l)):=
 hi.new d s ⟨s,l,Ae,su _ _ _ _,aF.kill d IB rfl rfl cs l hm hc⟩
theorem ahd {d s:Nat}{ss:List bS}(hi:aT C b st fr Z):aT (C.nP d s) b (st.new d (.sg ss)) fr (Z.setObj (C.aj.lc d) s (.cells (dN ss))):=
 hi.new d s ⟨s,Ae,su _ _ _ _⟩
theorem XW {g:Nat}{cs:List V}(h:E.glob g=some cs):fr.ev E (.global g)= .aX cs 0:=by show (match E.glob g with|some cs=>V.aX cs 0|none=>V.raw (Value.pointer (some ⟨g,0,none⟩)))=_;rw[h]
omit hR in
theorem ahe {top:Nat->Nat}{k:IntKind}(l:List Int):∀L:List Nat,aF R C top (L.map fun j=>(au.int k (l.getD j 0):au R.T)) (L.map fun j=>V.int k (l.getD j 0))
 | []=>aF.nil'|j::L=>aF.cons' fV (ahe l L)
omit hR in
theorem arJ {k:IntKind}{l:List Int}{m:Nat}(h:m<=l.length):((List.range m).map fun j=>V.int k (l.getD j 0))=(l.map (V.int k)).take m:=by
 apply List.ext_getElem
 .rw[eU,El,jV,eU];omega
 .intro i h1 h2;rw[eU,El] at h1;rw[BG,BH,List.getElem_take,BG,mH,gG (show i<l.length by omega)];rfl
theorem arK {g:List (Nat×Bool)}(iJ:∀d,o.dst=some d->d<F0)(hg:sK fr g)(hi:aT C aI st fr Z){r:eY R}(h:um E R g o.dst o.op st=some r):sN E st C aI fr Z o r:=by
 unfold um at h;split at h
 ·
  rename_i t hop;split at h
  .rename_i d ks cs hd hks hz;obtain⟨hc,h⟩:=fI h;cases h;obtain⟨v,hv,hr⟩:=Mw (C:=C) (top:=Z.top) hz;obtain⟨l,rfl,hl⟩:=hr.mh;have hl2:=arB hc hl;refine⟨.ref (C.aj.lc d) aI 0,_,C.nP d aI,.jK (o:=o) ?_,ahd hR (ss:=ks.map Ru) (hi.le (jY _)),rfl,Gb,fun q hq=>bN.new (fun e=>hq.1 Gi)⟩;simp only[dh,hop,hd,Option.map_some,Option.bind_some,hv,V.cells,hl2,MH,if_true,hi.at (iJ _ hd)]
  .cases h
 ·
  rename_i t x hop;cases hz:tK E t o.dst;case true=>rw[hz] at h;cases h
  rw[hz,cond_false] at h;split at h
  .rename_i d ks v hd hks hv;split at h
   .rename_i ss hss;cases h;obtain⟨c1,c2,c3⟩:=ag0 hss (bM (E:=E) hi hg hv);refine⟨.ref (C.aj.lc d) aI 0,_,C.nP d aI,.jK (o:=o) ?_,ahd hR (ss:=ss) (hi.le (jY _)),rfl,Gb,fun q hq=>bN.new (fun e=>hq.1 Gi)⟩;simp only[dh,hop,(show tK E t (some d)=false from hd▸hz),bZ,if_false,hd,Option.map_some,Option.bind_some,c1,c3,MH,and_self,if_true,hi.at (iJ _ hd)]
   .cases h
  .cases h
 ·
  rename_i t a hop;split at h
  .rename_i gl;split at h
   .rename_i k n v hv;cases h;obtain⟨cs,e,g1,g2,g3,g4,g5,g6⟩:=XU hv;refine .tt (y:=.agg (v.l.map (V.int k))) ?_ ?_
    .simp only[dh,hop,XW hR g1];unfold gV;rw[g4,g5];simp only[Option.bind_some];unfold q8;rw[if_pos rfl,if_pos (by rw[g2,eU,v.h];omega),qC,qZ (by rw[g2,eU,v.h];exact mF _),g2];rfl
    .unfold aA;show _=V.agg (v.l.map (V.int k)++[]);rw[iV]
   .cases h
  .split at h
   .rename_i p off hv;split at h
    .rename_i ss hl;split at h
     .rename_i v hld;cases h;obtain⟨s,h1,h2⟩:=(bM (E:=E) hi hg hv).rJ;obtain⟨s',h3,h4⟩:=hi.rd hl;rw[h1] at h3;cases h3;obtain⟨y,hy,hr⟩:=agX (C:=C) (top:=Z.top) hld;exact .tt (by simp only[dh,hop,h2,h4,Option.bind_some,hy,Option.map_some]) hr
     .cases h
    .cases h
   .rename_i p off k n i m hv;split at h
    .rename_i ss hl;obtain⟨s,h1,hi0,hi1,h2⟩:=(bM (E:=E) hi hg hv).Mq;obtain⟨s',h3,h4⟩:=hi.rd hl;rw[h1] at h3;cases h3;split at h
     .rename_i pre k' n' v post hsp;by_cases ek:k'=k
      .subst ek;rw[if_pos rfl] at h;cases hb:Nat.beq n' n
       .rw[hb] at h;cases h
       rw[hb,cond_true] at h;have:=fH hb;subst this;cases hc:(Nat.beq m 1&& uj E t)
       .rw[hc,cond_false] at h;split at h
        .rename_i y hy;cases h;obtain⟨x,g1,g2⟩:=arz (C:=C) (top:=Z.top) hsp hi1 hy;exact .tt (by simp only[dh,hop,h2,h4,Option.bind_some,g1,Option.map_some]) g2
        .cases h
       .rw[hc,cond_true] at h;cases h;rw[aZ] at hc;have:=fH hc.1;subst this;exact .tt (y:=.int k' (v.at' i)) (by simp only[dh,hop,h2,h4,Option.bind_some,agZ (i:=i) hsp (lW (Eh _) hi1) hc.2,Option.map_some]) fV
      .rw[if_neg ek] at h;cases h
     .cases h
    .cases h
   .rename_i k n v i hv;obtain⟨he,h⟩:=fI h;cases h;obtain⟨h1,h2,h3⟩:=(bM (E:=E) hi hg hv).RL;obtain⟨z1,z2⟩:=CV he;refine .tt (y:=.int k (v.at' i)) ?_ fV;simp only[dh,hop,h3];unfold gV;rw[z1,z2];simp only[Option.bind_some];unfold q8;simp only[bZ,if_false];rw[List.getElem?_map,agY v RS];rfl
   .cases h
 ·
  rename_i t a x hop;split at h
  .rename_i p off v hv hx;split at h
   .rename_i ss sz hl hsz;split at h
    .rename_i pre rest hsp;split at h
     .rename_i mid post hsp2;split at h
      .rename_i mid' hco;cases h;obtain⟨s,h1,h2⟩:=(bM (E:=E) hi hg hv).rJ;obtain⟨s',h3,h4⟩:=hi.ob _ _ hl;rw[h1] at h3;cases h3;obtain⟨c1,c2,c3⟩:=ag0 hco (bM (E:=E) hi hg hx);obtain⟨e1,w1⟩:=yB hsp;obtain⟨e2,w2⟩:=yB hsp2;rw[Sb,w2] at c2;refine⟨aJ,_,C,.jK (o:=o) ?_,(hi.le (jY _)).set p s (x:=.sg (pre++(mid'++post))) (a:=.cells (dN (pre++(mid'++post)))) ⟨s,h1,su _ _ _ _⟩,rfl,fV,fun q _=>bN.set hl rfl⟩;simp only[dh,hop,h2,h4,Option.bind_some,c1];rw[if_pos ⟨by rw[hsz,jL,c2],by rw[jL,jL,e1,e2,CW,CW,w1,w2,c2];omega,MH _⟩,e1,e2,arC w1 w2 c2]
      .cases h
     .cases h
    .cases h
   .cases h
  .rename_i p off k n i m k' y hv hx;split at h
   .rename_i ss hl;split at h
    .rename_i pre k2 n' v post hsp;by_cases ek:k2=k
     .subst ek;rw[if_pos rfl] at h;by_cases ahf:k'=k2
      .subst ahf;rw[if_pos rfl] at h;obtain⟨hb,h⟩:=fI h;cases h;rw[aZ,aZ] at hb;have e1:=fH hb.1.1;subst e1;have e2:=fH hb.1.2;subst e2;obtain⟨z1,z2⟩:=CV hb.2;obtain⟨s,h1,hi0,hi1,h2⟩:=(bM (E:=E) hi hg hv).Mq;obtain⟨s',h3,h4⟩:=hi.ob _ _ hl;rw[h1] at h3;cases h3;have hy:=(bM (E:=E) hi hg hx).iO;obtain⟨e1,w1⟩:=yB hsp;refine⟨aJ,_,C,.jK (o:=o) ?_,(hi.le (jY _)).set p s (x:=.sg (pre++(.a k' n' (v.set i y)::post))) (a:=.cells (dN (pre++(.a k' n' (v.set i y)::post)))) ⟨s,h1,su _ _ _ _⟩,rfl,fV,fun q _=>bN.set hl rfl⟩;simp only[dh,hop,h2,h4,Option.bind_some,hy,V.cells];have arL:=ag1 (post:=post) (k:=k') (v:=v) (w:=v.set i y) (l:=[y]) w1 (show i.toNat+[y].length<=n' from hi1) (arD (by rw[v.h];omega));rw[if_pos ⟨by rw[z1];rfl,by rw[jL,e1,CW,w1,R9];show off+i.toNat+1<=off+(n'+_);omega,rfl⟩,e1];rw[show [V.int k' y]=[y].map (V.int k') from rfl,arL]
      .rw[if_neg ahf] at h;cases h
     .rw[if_neg ek] at h;cases h
    .cases h
   .cases h
  .cases h
 ·
  rename_i t x i hop;split at h
  .rename_i n e k0 i ha hiv;obtain⟨hel,h⟩:=fI h;obtain⟨z1,z2⟩:=CV hel;have hii:=(bM (E:=E) hi hg hiv).iO;split at h
   .rename_i gl;split at h
    .rename_i k n' v hv;cases h;intro hin;obtain⟨cs,e',g1,g2,g3,g4,g5,g6⟩:=XU hv;rw[ha] at g3;cases g3;obtain⟨j1,j2,XY⟩:=Sc hin;refine⟨.aX cs i.toNat,.jK ?_,by unfold aA;exact⟨j1,j2,by rw[g2]⟩⟩;simp only[dh,hop,XW hR g1,hii];unfold p9;rw[MF ha];dsimp only;rw[z1];simp only[Option.bind_some,XV hin,Option.map_some,Nat.mul_one,nX]
    .cases h
   .split at h
    .rename_i p off hv;split at h
     .rename_i ss hl;split at h
      .rename_i pre k n' v post hsp;obtain⟨hb,h⟩:=fI h;have:=fH hb;subst this;cases h;intro hin;obtain⟨s,h1,h2⟩:=(bM (E:=E) hi hg hv).rJ;obtain⟨j1,j2,XY⟩:=Sc hin;refine⟨.ref (C.aj.lc p) s (off+i.toNat),.jK ?_,by unfold aA;exact⟨s,h1,j1,RS,rfl⟩⟩;simp only[dh,hop,h2,hii];unfold p9;rw[MF ha];dsimp only;rw[z1];simp only[Option.bind_some,XV hin,Option.map_some,Nat.mul_one]
      .cases h
     .cases h
    .cases h
  .cases h
 ·
  rename_i t x i hop;split at h
  .rename_i n e k n' v k0 i ha hv hiv;obtain⟨hb,h⟩:=fI h;cases h;rw[aZ] at hb;have:=fH hb.2;subst this;obtain⟨z1,z2⟩:=CV hb.1;have hii:=(bM (E:=E) hi hg hiv).iO;have hvv:=(bM (E:=E) hi hg hv).Iu;intro hin;obtain⟨j1,j2,XY⟩:=Sc hin;refine⟨.int k (v.at' i),.jK ?_,fV⟩;simp only[dh,hop,hvv,hii];unfold Er;rw[MF ha];dsimp only;rw[XV hin];simp only[Option.bind_some,z1,Nat.mul_one];have:=agZ (E:=E) (t:=e) (ss:=[.a k n' v]) (pre:=[]) (post:=[]) (off:=0) (i:=i) rfl XY hb.1;rw[nX] at this;rw[this];rfl
  .cases h
 ·
  rename_i t x lo hi' hop;split at h
  .rename_i v hv;have oH:=bM (E:=E) hi hg hv;have ho:∀vl vh,kP E fr lo=vl->kP E fr hi'=vh->∀y,kQ E.P Z t (fr.ev E x) vl vh none=some y->dh E fr Z aI o=some (y,Z):=by rintro vl vh rfl rfl y hy;simp only[dh,hop];rw[show kP E fr none=none from rfl,hy];rfl
   split at h
   .exact .val (Sg h oH hi (vl:=none) (vh:=none) PZ (fun _=>rfl) PZ (fun _=>rfl)) (ho _ _ rfl rfl)
   .rename_i lo;split at h
    .rename_i l hl;have hlr:=bM (E:=E) hi hg hl;exact .val (Sg h oH hi (vl:=some (fr.ev E lo)) (vh:=none) (by intro y hy;cases hy;exact⟨_,rfl,hlr⟩) P8 PZ (fun _=>rfl)) (ho _ _ rfl rfl)
    .cases h
   .rename_i hi';split at h
    .rename_i l hl;have hlr:=bM (E:=E) hi hg hl;exact .val (Sg h oH hi (vl:=none) (vh:=some (fr.ev E hi')) PZ (fun _=>rfl) (by intro y hy;cases hy;exact⟨_,rfl,hlr⟩) P8) (ho _ _ rfl rfl)
    .cases h
   .rename_i lo hi';split at h
    .rename_i l m hl hm;have hlr:=bM (E:=E) hi hg hl;have hmr:=bM (E:=E) hi hg hm;exact .val (Sg h oH hi (vl:=some (fr.ev E lo)) (vh:=some (fr.ev E hi')) (by intro y hy;cases hy;exact⟨_,rfl,hlr⟩) P8 (by intro y hy;cases hy;exact⟨_,rfl,hmr⟩) P8) (ho _ _ rfl rfl)
    .cases h
  .cases h
 ·
  rename_i t x lo hi' mx hop;split at h
  .rename_i cp u l kh hh Si km e hv arM arN hu;split at h
   .rename_i sz hsz;cases hb:Nat.beq sz (dB R u)
    .rw[hb] at h;cases h
    rw[hb,cond_true] at h;have:=fH hb;subst this;obtain⟨c',h2,_⟩:=(bM (E:=E) hi hg hv).mo;have eh:=(bM (E:=E) hi hg arM).iO;have em:=(bM (E:=E) hi hg arN).iO;have fin:∀(vl:Option V)(a:Nat)(L:List (Den R.T u)),kP E fr lo=vl->jq l.length l.length vl (some (.int kh hh)) (some (.int Si km))=some (a,hh.toNat,km.toNat)->(l.take hh.toNat).drop a=L->∃y,nQ E fr Z aI o y Z/\aA R C Z.top (.ak .any u L) y:=by
     rintro vl a L hvl hsb rfl;refine⟨.ak (if km.toNat=hh.toNat then .full else .sh) (((l.map (aO R u)).take hh.toNat).drop a),.jK ?_,?_⟩
     .simp only[dh,hop,h2];rw[hvl,show kP E fr (some hi')=some (.int kh hh) by rw[MI,eh],show kP E fr (some mx)=some (.int Si km) by rw[MI,em]];unfold kQ;rw[hu];dsimp only;rw[hsz];simp only[Option.bind_some,eU,hsb,Mx hR,if_true,Option.isNone_some,bZ,and_false,if_false,Option.map_some]
     .unfold aA;exact⟨_,by rw[Xw],trivial⟩
    split at h
    .cases hf:afF E o.dst with
     |false=>rw[hf,cond_false] at h;cases h;intro hc;rw[aZ] at hc;exact fin none 0 _ rfl (by simp[jq,vL hc.1,vL hc.2]) (by simp[uh])|true=>
      rw[hf,cond_true] at h;cases h;intro hc;rw[aZ,aZ] at hc;obtain⟨y,hy1,hy2⟩:=fin none 0 _ rfl (by simp[jq,vL hc.1,vL hc.2.1]) rfl;have hkm:hh=km:=(by simpa using hc.2.2);subst hkm;refine⟨.ak .full (((l.map (aO R u)).take hh.toNat).drop 0),.jK ?_,?_⟩
      .simp only[dh,hop,h2];rw[show kP E fr none=none from rfl,show kP E fr (some hi')=some (.int kh hh) by rw[MI,eh],show kP E fr (some mx)=some (.int Si hh) by rw[MI,em]];unfold kQ;rw[hu];dsimp only;have hsb:jq l.length l.length none (some (.int kh hh)) (some (.int Si hh))=some (0,hh.toNat,hh.toNat):=(by simp[jq,vL hc.1,vL hc.2.1]);rw[hsz];simp only[Option.bind_some,eU,hsb,Mx hR,if_true,Option.isNone_some,bZ,and_false,if_false,Option.map_some]
      .unfold aA;exact⟨.full,by rw[Xw];simp[uh],rfl⟩
    .rename_i lo';split at h
     .rename_i ka a hva;cases h;intro hc;rw[aZ,aZ] at hc;have ea:=(bM (E:=E) hi hg hva).iO;exact fin (some (.int ka a)) a.toNat _ (by rw[MI,ea]) (by simp[jq,vL hc.1,vL hc.2.1,vL hc.2.2]) (by simp[uh])
     .cases h
   .cases h
  .cases h
 ·
  rename_i a b' x hop;split at h
  .rename_i p off k n lo hi' hv;obtain⟨s,h1,hB,h2⟩:=(bM (E:=E) hi hg hv).CF;split at h
   .rename_i e hu1 hu2;split at h
    .rename_i hu3;split at h
     .rename_i l hl;cases h;obtain⟨cs,c1,c2,c3,c4⟩:=agO hR hi hl h1 hB;obtain⟨p1,p2,p3,_,_⟩:=Fe hB;refine .tt (y:=.str (List.map (fun n:Int=>UInt8.ofNat n.toNat) l)) ?_ fV;simp only[dh,hop,h2];unfold Ah;rw[hu1,hu2];dsimp only;rw[hu3,c1];dsimp only;simp only[Option.bind_some];rw[if_pos RS,c3];have:=Xv (R:=R) l;rw[show l.map (V.int .u8)=List.map (aO R (.int .u8)) l from rfl,this];rfl
     .cases h
    .cases h
   .cases h
  .cases h
 ·
  rename_i t x hop;split at h
  .rename_i m e p off k n lo hi' ha hv;cases h;intro hc;have hc:=of_decide_eq_true hc;obtain⟨s,h1,hB,h2⟩:=(bM (E:=E) hi hg hv).CF;obtain⟨p1,p2,p3,p4,p5⟩:=Fe hB;refine⟨.ref (C.aj.lc p) s (off+(fG lo).toNat),.jK ?_,by unfold aA;exact⟨s,h1,p4,RS,rfl⟩⟩;simp only[dh,hop,ha,h2,Option.bind_some];rw[if_pos ⟨hc.1,RS⟩]
  .rename_i m e c k l ha hv;cases h;intro hc;have hc:=of_decide_eq_true hc;obtain⟨c',h2,_⟩:=(bM (E:=E) hi hg hv).mo;have hr:aF R C Z.top (afG R k m l) ((List.map (V.int k) l).take m):=by rw[<-arJ hc.2];exact ahe l _
   refine⟨.aX ((List.map (V.int k) l).take m) 0,.jK ?_,by unfold aA;exact⟨_,rfl,hr⟩⟩;simp only[dh,hop,ha,h2,Option.bind_some];rw[if_pos ⟨hc.1,by rw[eU];exact hc.2,by unfold bY;rw[List.all_map];exact kU.2 fun _ _=>rfl⟩];rfl
  .cases h
 ·
  rename_i c hop;split at h
  .rename_i p off k n lo hi' y fO hvs;split at h
   .rename_i t ht;split at h
    .rename_i e he;obtain⟨hel,h⟩:=fI h;obtain⟨z1,z2⟩:=CV hel;split at h
     .rename_i l0 ss hsrc hl;obtain⟨l,hl0⟩:∃l:List Int,l=l0:=⟨l0,rfl⟩;subst hl0;split at h
      .rename_i pre k' n' v post hsp;by_cases ek:k'=k
       .subst ek;rw[if_pos rfl] at h;cases hb:Nat.beq n' n
        .rw[hb] at h;cases h
        rw[hb,cond_true] at h;have:=fH hb;subst this;cases h;have hargs:=zA (E:=E) hi hg hvs;obtain⟨a1,aAV,arO,arP,arQ⟩:=hargs.fB;obtain⟨a2,aAW,arR,arS,arT⟩:=arQ.fB;have arU:=arT.iL;subst arU;subst arR;obtain⟨s,h1,hB,rfl⟩:=arP.CF;obtain⟨p1,p2,p3,p4,p5⟩:=Fe hB;obtain⟨s',h3,h4⟩:=hi.ob _ _ hl;rw[h1] at h3;cases h3;obtain⟨e1,w1⟩:=yB hsp;obtain⟨q1,q2⟩:=XC hR (Z:=Z) (ag:=false) (z:=aJ) hsrc arS;have q1:mU Z false 1 aJ a2=some (List.map (V.int k') l):=q1;have hlen:(iX n' hi'-fG lo).toNat=(iX n' hi').toNat-(fG lo).toNat:=RS;have hmin:min (List.map (V.int k') l).length ((iX n' hi').toNat-(fG lo).toNat)=(List.take (iX n' hi'-fG lo).toNat l).length:=(by rw[eU,jV,hlen,Nat.min_comm]);have hfl:((List.map (V.int k') l).take (List.take (iX n' hi'-fG lo).toNat l).length).flatMap V.cells=(List.take (iX n' hi'-fG lo).toNat l).map (V.int k'):=by
         have:∀m:List Int,(m.map (V.int k')).flatMap V.cells=m.map (V.int k'):=by
          intro m;induction m with
          |nil=>rfl|cons x m ih=>rw[iA,lY,ih];rfl
         rw[<-List.map_take,this,jV];congr 1;by_cases hle:(iX n' hi'-fG lo).toNat<=List.length l
         .rw[wC hle]
         .rw[Nat.min_eq_right RS,qZ (mF _),qZ RS]
        have hlt:(List.take (iX n' hi'-fG lo).toNat l).length<=(iX n' hi').toNat-(fG lo).toNat:=(by rw[jV,hlen];exact Nat.min_le_left _ _);have hone:(List.map (V.int k') l).all (fun v=>bY v.cells)=true:=(by rw[List.all_map];simp[bY,V.cells,oneCell]);refine⟨_,_,C,.of (o:=o) fun S=>?_,(hi.le (jY _)).set p s (x:=.sg (pre++(.a k' n' (v.wP (fG lo) (List.take (iX n' hi'-fG lo).toNat l))::post))) (a:=.cells (dN (pre++(.a k' n' (v.wP (fG lo) (List.take (iX n' hi'-fG lo).toNat l))::post)))) ⟨s,h1,su _ _ _ _⟩,rfl,fV,fun q _=>bN.set hl rfl⟩;unfold opC;rw[hop];dsimp only;rw[fO];dsimp only;rw[arO];have hbv:qD E fr.aj (o.dst.map fun t=>(fr.d,E.cn t)) Z aI .copy c.argTypes [.aU (C.aj.lc p) s (off+(fG lo).toNat) ((iX n' hi').toNat-(fG lo).toNat) (n'-(fG lo).toNat) 1 false,a2]=(c.argTypes[0]?).bind fun t=>copyV E.P Z t (.aU (C.aj.lc p) s (off+(fG lo).toNat) ((iX n' hi').toNat-(fG lo).toNat) (n'-(fG lo).toNat) 1 false) a2:=rfl;rw[hbv,ht];simp only[Option.bind_some];rw[arE he z1 z2 q2 q1 hone h4 (by rw[hmin,jL,e1,CW,w1,R9];show off+(fG lo).toNat+_<=off+(n'+_);omega),hmin,hfl];simp only[Option.map_some];rw[e1,ag1 (w:=v.wP (fG lo) (List.take (iX n' hi'-fG lo).toNat l)) w1 RS (by unfold Vec.wP;rw[MG];simp only[iP,jV,nV,v.h] at*;omega)];try rfl
       .rw[if_neg ek] at h;cases h
      .cases h
     .cases h
    .cases h
   .cases h
  .cases h
 .cases h
theorem arV {t:TypeId}{x:au R.T}{v:V}{r:eY R}(h:WJ E R t x st=some r)(hx:aA R C Z.top x v)(hi:aT C aI st fr Z)(ho:∀y Z',Gp E.P Z t v=some (y,Z')->nQ E fr Z aI o y Z'):sN E st C aI fr Z o r:=by
 unfold WJ at h;cases h
theorem arW {aj:Bool}{F:Nat->List (iF R)}(hF:bF E F)(bO:C.aj.aj=aj)(iJ:∀d,o.dst=some d->d<F0){g:List (Nat×Bool)}(hg:sK fr g)(hi:aT C aI st fr Z){r:eY R}(h:vH E R aj F g o.dst o.op st=some r):sN E st C aI fr Z o r:=by
 unfold vH at h;split at h
 ·
  rename_i x hop;cases hz:y7 E o.dst
  .rw[hz] at h;dsimp only[cond_false] at h;split at h
   .rename_i v hv;cases h;exact .tt (y:=fr.ev E x) (by simp only[dh,hop,hz,bZ,if_false]) (bM hi hg hv)
   .cases h
  .rw[hz] at h;dsimp only[cond_true] at h;split at h
   .rename_i p t hv;split at h
    .rename_i t' l0 hl;split at h
     .rename_i l hc;cases h;obtain⟨e1,e2⟩:=vK hc;subst e1;cases e2;have hO:=hi.ob p _ hl;have hrl:∀C',aA R C' Z.top (.ak .any t' l0) (.ak .sh (l0.map (aO R t'))):=fun C'=>by unfold aA;exact⟨.sh,rfl,trivial⟩
      rcases (bM (E:=E) hi hg hv).AJ with ⟨s,h1,h2⟩| ⟨h1,h2⟩
      .rcases hO.2 with h3| ⟨s',cs,h3,h4,h5⟩
       .rw[h1] at h3;exact absurd h3.2 aB
       .rw[h1] at h3;cases h3;have hlc:cs.length=l0.length*dB R t':=(by rw[h5.length,E9]);have hlen:l0.length=C.ln p:=hO.1;refine⟨.ak .sh (l0.map (aO R t')),Z.j3 (C.aj.lc p),C,.jK ?_,(hi.del p).le (jY _),rfl,hrl C,fun q _=>bN.del hl rfl⟩;simp only[dh,hop,hz,if_true,h2,xP,h4,Option.bind_some,nX,qC];rw[qZ Gc,agK hR l0 cs h5,<-hlen,XI hR l0,XJ hR l0];rw[if_pos ⟨by rw[hlc];exact mF _,rfl⟩]
      .have hl0:l0=[]:=lF (hO.1.trans h1);subst hl0;refine⟨.ak .sh [],Z,C,.jK ?_,(hi.del' p).le (jY _),rfl,hrl C,fun q _=>bN.del' hl rfl⟩;simp only[dh,hop,hz,if_true];rcases h2 with h2|h2<;>rw[h2]<;>rfl
     .cases h
    .cases h
   .rename_i k m hv;cases h;have hr:=bM (E:=E) hi hg hv;refine .tt (y:=.int k m) ?_ fV;simp only[dh,hop,hz,if_true,hr.iO,xP]
   .cases h
 .rename_i x hop;split at h
  .rename_i v hv;cases h;exact .tt (y:=fr.ev E x) (by simp only[dh,hop]) (bM hi hg hv)
  .cases h
 ·
  rename_i c a' b' hop;split at h
  .rename_i j;split at h
   .rename_i t hc;have hc':=(bM (E:=E) hi hg hc).rH;split at h
    .rename_i x y hx hy;split at h
     .rename_i v hv;cases h;refine .tt (IQ hop hc') ?_;rw[Hf] at hc';cases t
      .exact ag6 hv (bM (E:=E) hi (.cons hc' hg) hy)
      .exact ag5 hv (bM (E:=E) hi (.cons hc' hg) hx)
     .cases h
    .cases h
   .rename_i t hc;have hc':=(bM (E:=E) hi hg hc).vJ;split at h
    .rename_i v hv;cases h;refine .tt (IQ hop hc') ?_;cases t
     .exact bM (E:=E) hi hg hv
     .exact bM (E:=E) hi hg hv
    .cases h
   .cases h
  .cases h
 ·
  rename_i t hop;split at h
  .rename_i d z hd hz;obtain⟨hc,h⟩:=fI h;cases h;simp only[aZ,xK] at hc;obtain⟨v,hv,hr⟩:=Mw (C:=C) (top:=Z.top) hz;have arX:wR z=true:=by
    cases z<;>first|rfl| (have:=hc.1;simp[au.cells,Cn,Ww] at this)
   obtain⟨hcells,_⟩:=yA arX hr;refine⟨.ref (C.aj.lc d) aI 0,_,C.nP d aI,.jK (o:=o) ?_,ahc hR (hi.le (jY _)) hcells hc.2,rfl,Gb,fun q hq=>bN.new (fun e=>hq.1 Gi)⟩;simp only[dh,hop,hd,Option.map_some,Option.bind_some,hv,Mv hc.1 hcells,if_true,hi.at (iJ _ hd)]
  .cases h
 ·
  rename_i t x hop;cases hz:tK E t o.dst with
  |true=>
   rw[hz,cond_true] at h;split at h
   .rename_i v hv;obtain⟨hc,h⟩:=fI h;cases h;rw[aZ] at hc;have hr:=bM (E:=E) hi hg hv;have hnr:=(yA hc.2 hr).2;have hr2:=arH (by rw[aZ];exact hc) hr;obtain⟨hcells,_⟩:=yA (arF hc.2) hr2;refine .tt (y:=.aX (er (fr.ev E x)).cells 0) ?_ ?_
    .simp only[dh,hop,hz,if_true,R7 hR _ _ hc.1 hr2,hnr,and_self]
    .unfold aA;exact⟨_,rfl,hcells⟩
   .cases h
  |false=>
  rw[hz,cond_false] at h;split at h
  .rename_i d v hd hv;obtain⟨hc,h⟩:=fI h;cases h;simp only[aZ,xK] at hc;have hr:=bM (E:=E) hi hg hv;obtain⟨hcells,hnr⟩:=yA hc.1.2 hr;refine⟨.ref (C.aj.lc d) aI 0,_,C.nP d aI,.jK (o:=o) ?_,ahc hR (hi.le (jY _)) hcells hc.2,rfl,Gb,fun q hq=>bN.new (fun e=>hq.1 Gi)⟩;simp only[dh,hop,(show tK E t (some d)=false from hd▸hz),bZ,if_false,hd,Option.map_some,Option.bind_some,Mv hc.1.1 hcells,hnr,and_self,if_true,hi.at (iJ _ hd)]
  .cases h
 ·
  rename_i t parts hop;split at h
  .rename_i pl z ps hpl hz hps;split at h
   .rename_i cs hcs;cases h;obtain⟨zv,hzv,Xy⟩:=Mw (C:=C) (top:=Z.top) hz;obtain⟨e1,e2⟩:=Xi (E:=E) hi hg hps;have hzc:aF R C Z.top z.cells zv.cells:=by
     refine(yA ?_ Xy).1;unfold Ct at hz;cases z<;>first|rfl|skip
     all_goals
      exfalso;split at hz
      .split at hz
       .unfold Ht at hz;split at hz
        .split at hz<;>cases hz
        .unfold EM at hz;split at hz<;>cases hz
       .cases hz
      .cases hz
    obtain⟨l',f1,f2⟩:=agl (qs:=parts.toList.map fun p=>(p.1,fr.ev E p.2)) pl (by rw[e1];simp[Function.comp_def]) (by simpa [Function.comp_def] using e2) hzc hcs;refine .tt (y:=.agg l') ?_ (by unfold aA;exact⟨l',rfl,f2⟩);simp only[dh,hop,hpl,hzv,Option.bind_some];rw[f1];rfl
   .cases h
  .cases h
 ·
  rename_i t len parts hop;split at h
  .rename_i ps hps;obtain⟨e1,e2⟩:=Xi (E:=E) hi hg hps;cases hz:Aj E o.dst
   .rw[hz,cond_false] at h;refine .val (aqU hR (qs:=parts.toList.map fun p=>(p.1,fr.ev E p.2)) h (by rw[e1];simp[Function.comp_def]) (by simpa [Function.comp_def] using e2)) fun y hy=>?_;simp only[dh,hop,hz,bZ,if_false];rw[hy];rfl
   .rw[hz,cond_true] at h;refine aq9 hR (qs:=parts.toList.map fun p=>(p.1,fr.ev E p.2)) h (by rw[e1];simp[Function.comp_def]) (by simpa [Function.comp_def] using e2) hi rfl fun y Z' hy=>.jK ?_;simp only[dh,hop,hz,if_true];exact hy
  .cases h
 ·
  rename_i t a hop;split at h
  .rename_i p off hv;split at h
   .rename_i cs hl;split at h
    .rename_i v hld;cases h;obtain⟨s,h1,h2⟩:=(bM (E:=E) hi hg hv).rJ;obtain⟨s',l,h3,h4,h5⟩:=hi.rd hl;rw[h1] at h3;cases h3;obtain⟨y,hy,hr⟩:=AO h5 hld;exact .tt (by simp only[dh,hop,h2,h4,Option.bind_some,hy,Option.map_some]) hr
    .cases h
   .cases h
  .rename_i cs off hv;split at h
   .rename_i v hld;cases h;obtain⟨l,h2,h5⟩:=(bM (E:=E) hi hg hv).uw;obtain⟨y,hy,hr⟩:=AO h5 hld;exact .tt (by simp only[dh,hop,h2,hy,Option.map_some]) hr
   .cases h
  .rename_i p τ i off hv;split at h
   .rename_i ob hl;obtain⟨s,h1,_,h2⟩:=(bM (E:=E) hi hg hv).EZ;obtain⟨l,f,rfl,hf⟩:=aq3 h (hi.rd hl) h1;intro y hy;obtain⟨cs,w,h3,h4,h5⟩:=hf y hy;exact⟨w,.jK (by simp only[dh,hop,h2,h3,Option.bind_some,h4,Option.map_some]),h5⟩
   .cases h
  .cases h
 ·
  rename_i t a x hop;split at h
  .rename_i p off v hv hx;split at h
   .rename_i cs sz hl hsz;obtain⟨hc,h⟩:=fI h;cases h;simp only[aZ] at hc;obtain⟨⟨⟨c1,c2⟩,c3⟩,c4⟩:=hc;obtain⟨s,h1,h2⟩:=(bM (E:=E) hi hg hv).rJ;obtain⟨s',l,h3,h4,h5⟩:=hi.ob _ _ hl;rw[h1] at h3;cases h3;obtain⟨h6,h7⟩:=yA c4 (bM (E:=E) hi hg hx);refine⟨aJ,_,C,.jK (o:=o) ?_,(hi.le (jY _)).set p s ⟨s,_,h1,su _ _ _ _,Xt off h5 h6⟩,rfl,fV,fun q _=>bN.set hl rfl⟩;simp only[dh,hop,h2,h4,Option.bind_some];rw[if_pos ⟨by rw[hsz,h6.length,fH c1],by rw[h6.length,h5.length];exact nY c2,Mv c3 h6⟩]
   .cases h
  .cases h
 ·
  rename_i x hop;split at h
  .rename_i p off hv;cases h;have hr:=bM (E:=E) hi hg hv;obtain⟨s,h1,h2⟩:=hr.rJ;exact .tt (y:=fr.ev E x) PY hr
  .rename_i p off hv;cases h;have hr:=bM (E:=E) hi hg hv;obtain⟨s,h2,h1⟩:=hr.uw;exact .tt (y:=fr.ev E x) PY hr
  .rename_i p τ i off hv;cases h;have hr:=bM (E:=E) hi hg hv;obtain⟨s,h1,_,h2⟩:=hr.EZ;exact .tt (y:=fr.ev E x) PY hr
  .rename_i f a' b' hv;cases h;have hr:=bM (E:=E) hi hg hv;obtain⟨a',b',h2,h1⟩:=hr.oO;exact .tt (y:=fr.ev E x) PY hr
  .cases h
 ·
  rename_i op t x y t' hop;split at h
  .rename_i x' y' hx hy;exact .val (aqM h (bM (E:=E) hi hg hx) (bM (E:=E) hi hg hy)) fun z hz=>Bv
  .cases h
 ·
  rename_i op t x hop;split at h
  .rename_i x' hx;exact .val (aqN h (bM (E:=E) hi hg hx)) fun z hz=>Bv
  .cases h
 ·
  rename_i a' b' x hop;split at h
  .rename_i x' hx;exact .val (aqP (Z:=Z) h (bM (E:=E) hi hg hx)) fun z hz=>Bv
  .cases h
 ·
  rename_i f a' b' hop;split at h
  .rename_i xs ys hx hy;cases h;exact .tt (y:=.fn (.func f) (a'.toList.map (fr.ev E)) (b'.toList.map (fr.ev E))) (by simp only[dh,hop]) (by unfold aA;exact⟨_,_,rfl,zA (E:=E) hi hg hx,zA (E:=E) hi hg hy⟩)
  .cases h
 ·
  rename_i t hop;split at h
  .rename_i d k e hd ht;split at h
   .rename_i k' e' hk he;cases h;refine⟨.dQ (C.aj.lc d) aI,_,C.nP d aI,.jK (o:=o) ?_,(hi.le (jY _)).new d aI (a:=.map [] []) ⟨aI,Ae,map_eq Z (C.aj.lc d) aI [] []⟩,rfl,Gb,fun q hq=>bN.new (fun e=>hq.1 Gi)⟩;simp only[dh,hop,hd,Option.map_some,hi.at (iJ _ hd)]
   .cases h;refine⟨.dQ (C.aj.lc d) aI,_,C.nP d aI,.jK (o:=o) ?_,(hi.le (jY _)).new d aI (a:=.map [] []) ⟨aI,[],[],Ae,map_eq Z (C.aj.lc d) aI [] [],rfl,rfl⟩,rfl,Gb,fun q hq=>bN.new (fun e=>hq.1 Gi)⟩;simp only[dh,hop,hd,Option.map_some,hi.at (iJ _ hd)]
  .cases h
 ·
  rename_i t l c hop;split at h
  .rename_i n m hn hm;refine arb hR h (bM (E:=E) hi hg hn) (bM (E:=E) hi hg hm) hi rfl fun y Z' hy=>.jK ?_;have e:(o.dst.map fun t=>(fr.d,t))=o.dst.map fun t=>(C.aj.lc t):=hi.ahb iJ;simp only[dh,hop];rw[e,hi.aj,bO];exact hy
  .cases h
 ·
  rename_i t x lo hi' hop;split at h
  .rename_i x' hx;have oH:=bM (E:=E) hi hg hx;split at h
   .exact .val (RZ hR (Z:=Z) (vl:=none) (vh:=none) h oH hi (fun y hy=>by cases hy) (fun _=>rfl) (fun y hy=>by cases hy) (fun _=>rfl)) fun z hz=>PG
   .rename_i lo;split at h
    .rename_i l hl;exact .val (RZ hR (Z:=Z) (vl:=some (fr.ev E lo)) (vh:=none) h oH hi (fun y hy=>by cases hy;exact⟨_,rfl,bM (E:=E) hi hg hl⟩) (fun h=>bU) (fun y hy=>by cases hy) (fun _=>rfl)) fun z hz=>PG
    .cases h
   .rename_i hi2;split at h
    .rename_i l hl;exact .val (RZ hR (Z:=Z) (vl:=none) (vh:=some (fr.ev E hi2)) h oH hi (fun y hy=>by cases hy) (fun _=>rfl) (fun y hy=>by cases hy;exact⟨_,rfl,bM (E:=E) hi hg hl⟩) (fun h=>bU)) fun z hz=>PG
    .cases h
   .rename_i lo hi2;split at h
    .rename_i l l2 hl hl2;exact .val (RZ hR (Z:=Z) (vl:=some (fr.ev E lo)) (vh:=some (fr.ev E hi2)) h oH hi (fun y hy=>by cases hy;exact⟨_,rfl,bM (E:=E) hi hg hl⟩) (fun h=>bU) (fun y hy=>by cases hy;exact⟨_,rfl,bM (E:=E) hi hg hl2⟩) (fun h=>bU)) fun z hz=>PG
    .cases h
  .cases h
 ·
  rename_i t x f hop;split at h
  .rename_i x' hx;have oH:=bM (E:=E) hi hg hx;split at h
   .rename_i v hv;cases h;unfold afx at hv;split at hv
    .rename_i p u hf;split at hv
     .rename_i q off;cases hv;obtain⟨s,h1,h2⟩:=oH.rJ;exact .tt (y:=.ref (C.aj.lc q) s (off+p)) (by simp only[dh,hop,hf,Option.bind_some,h2]) (by unfold aA;exact⟨s,h1,rfl⟩)
     .rename_i q off;cases hv;obtain⟨l,h2,h1⟩:=oH.uw;exact .tt (y:=.aX l (off+p)) (by simp only[dh,hop,hf,Option.bind_some,h2]) (by unfold aA;exact⟨l,rfl,h1⟩)
     .rename_i q τ i off;cases hv;obtain⟨s,h1,h3,h2⟩:=oH.EZ;exact .tt (y:=.ref (C.aj.lc q) s (i.toNat*dB R τ+off+p)) (by simp only[dh,hop,hf,Option.bind_some,h2]) (by unfold aA;exact⟨s,h1,h3,by rw[oG]⟩)
     .cases hv
    .cases hv
   .cases h
  .cases h
 ·
  rename_i t x f hop;split at h
  .rename_i p u cs hf hx;split at h
   .rename_i v hv;cases h;obtain⟨l,h1,h2⟩:=(bM (E:=E) hi hg hx).mh;obtain⟨y,hy,hr⟩:=AO h2 hv;exact .tt (by simp only[dh,hop,hf,Option.bind_some,h1,hy,Option.map_some]) hr
   .cases h
  .cases h
 ·
  rename_i t x i hop;split at h
  .rename_i p τ y' hx hy;exact .val (ari hR (aj:=false) h (bM (E:=E) hi hg hx) (bM (E:=E) hi hg hy) hi) fun z hz=>Bv
  .rename_i p τ a c y' hx hy;exact .val (arh hR h (bM (E:=E) hi hg hx) (bM (E:=E) hi hg hy) hi) fun z hz=>Bv
  .rename_i x' y' _ _ hx hy;exact .val (aru hR h (bM (E:=E) hi hg hx) (bM (E:=E) hi hg hy)) fun z hz=>Bv
  .cases h
 ·
  rename_i t x i hop;split at h
  .rename_i x' y' hx hy;exact .val (arv h (bM (E:=E) hi hg hx) (bM (E:=E) hi hg hy)) fun z hz=>Bv
  .cases h
 ·
  rename_i t x i ok hop;split at h
  .rename_i x' y' hx hy;exact .val (arI hR h (bM (E:=E) hi hg hx) (bM (E:=E) hi hg hy) hi) fun z hz=>Bv
  .cases h
 ·
  rename_i t m k v hop;split at h
  .rename_i m' k' v' hm hk hv;exact aha hR h (bM (E:=E) hi hg hm) (bM (E:=E) hi hg hk) (bM (E:=E) hi hg hv) hi fun Z' hs=>by simp only[dh,hop,hs,Option.map_some]
  .cases h
 .rename_i t m k v hop;split at h
  .rename_i m' k' v' hm hk hv;exact aha hR h (bM (E:=E) hi hg hm) (bM (E:=E) hi hg hk) (bM (E:=E) hi hg hv) hi fun Z' hs=>by simp only[dh,hop,hs,Option.map_some]
  .cases h
 ·
  rename_i x i hop;split at h
  .rename_i vs hv;split at h
   .rename_i v hx;cases h;obtain⟨l,h1,h2⟩:=(bM (E:=E) hi hg hv).Ir;obtain⟨y,hy,hr⟩:=h2.get hx;exact .tt (by simp only[dh,hop,h1,hy,Option.map_some]) hr
   .cases h
  .cases h
 ·
  rename_i c hop;split at h
  .rename_i bi fO;split at h
   .rename_i vs hvs;have hrs:=zA (E:=E) hi hg hvs;have step:∀y Z',qD E fr.aj (o.dst.map fun t=>(fr.d,E.cn t)) Z aI bi c.argTypes (c.args.toList.map (fr.ev E))=some (y,Z')->nQ E fr Z aI o y Z':=fun y Z' hb=>.of fun S=>by simp only[opC,hop,fO,hb,Option.map_some]
    unfold blt at h;split at h
    .rename_i x;split at h
     .rename_i t ht;split at h
      .rename_i n hn;cases h;obtain⟨v,l,e,h1,h2⟩:=hrs.fB;rw[h2.iL] at e;refine⟨_,step _ Z ?_,fV⟩;rw[e];simp only[qD,ht,Option.bind_some,aqX hn h1 hi,Option.map_some]
      .cases h
     .cases h
    .rename_i x y;split at h
     .rename_i t u ht hu;obtain⟨v,l,e,h1,h2⟩:=hrs.fB;obtain⟨w,l',e',h3,h4⟩:=h2.fB;subst e';rw[h4.iL] at e;have e0:(o.dst.map fun t=>(fr.d,t))=o.dst.map fun t=>(C.aj.lc t):=hi.ahb iJ;have fin:Ie E u=true->∀z Z',ku E.P aj false Z aI (o.dst.map fun t=>(fr.d,E.cn t)) t v w=some (z,Z')->nQ E fr Z aI o z Z':=fun hss z Z' hz=>step z Z' (by
       rw[e];unfold Ie at hss;simp only[qD,ht,hu,Option.bind_some,hi.aj,bO];split at hss
       .rename_i hu';rw[hu'];simp only[hz,Option.bind_some]
       .rename_i hu';rw[hu'];simp only[hz,Option.bind_some]
       .cases hss)
      cases ahg:aj
      .rw[ahg] at h fin;have h':Me E R o.dst t u x y st=some r:=h;have hss:Ie E u=true:=by
        unfold Me at h';split at h'
        .split at h'
         .exact(fI h').1
         .cases h'
        .cases h'
       exact aqW hR (loc:=o.dst.map fun t=>(fr.d,E.cn t)) h' h1 h3 hi (fin hss)
      .rw[ahg] at h fin;have h':Mf E R o.dst t u x y st=some r:=h;have hss:Ie E u=true:=by
        unfold Mf at h';split at h'
        .rename_i d' _;cases hbl:Nat.ble F0 (E.cn d') with
         |true=>rw[hbl] at h';cases h'|false=>
          rw[hbl,cond_false] at h';split at h'
          .exact(fI h').1
          .cases h'
        .cases h'
       exact ara hR h' h1 h3 hi rfl (fin hss)
     .cases h
    .rename_i x;split at h
     .rename_i t ht;obtain⟨v,l,e,h1,h2⟩:=hrs.fB;rw[h2.iL] at e;exact arV hR h h1 hi fun y Z' hy=>step y Z' (by rw[e];simp only[qD,ht,Option.bind_some,hy])
     .cases h
    .rename_i x l;split at h
     .rename_i v hv;cases h;obtain⟨y,ys,e,h1,h2⟩:=hrs.fB;obtain⟨w,hw,hr⟩:=XD false hv h1 h2;refine⟨w,step w Z ?_,hr⟩;rw[e];simp only[qD,hw,Option.map_some]
     .cases h
    .rename_i x l;split at h
     .rename_i v hv;cases h;obtain⟨y,ys,e,h1,h2⟩:=hrs.fB;obtain⟨w,hw,hr⟩:=XD true hv h1 h2;refine⟨w,step w Z ?_,hr⟩;rw[e];simp only[qD,hw,Option.map_some]
     .cases h
    .cases h
   .cases h
  .rename_i f fO;split at h
   .rename_i f' a' b' vs hf hvs;cases himp:E.imp f' with
    |true=>rw[himp] at h;cases h|false=>rw[himp,cond_false] at h;obtain⟨va,vb,h1,h2,h3⟩:=(bM (E:=E) hi hg hf).oO;exact agV hR hF hop fO h1 himp ((h2.append (zA (E:=E) hi hg hvs)).append h3) hi (fun _ hx=>hx) h
   .cases h
  .cases h
 .cases h
theorem zC {aj:Bool}{F:Nat->List (iF R)}(hF:bF E F)(bO:C.aj.aj=aj)(iJ:∀d,o.dst=some d->d<F0){g:List (Nat×Bool)}(hg:sK fr g)(hi:aT C aI st fr Z){r:eY R}(h:zn E R aj F g o.dst o.op st=some r):sN E st C aI fr Z o r:=by
 unfold zn at h;split at h
 .rename_i r' hx;cases h;exact arK hR iJ hg hi hx
 .exact arW hR hF bO iJ hg hi h
end
section
variable {R:kE}{E:Env}{C C':bA}{b aI:Nat}{st:aM R.T}{fr:Fr}{Z:ah}{o:Oper}(hR:rG R)
include hR
def MJ (E:Env)(g:Nat)(r:qI R):Prop:=∀p q y q',r.F p q=some (y,q')->∀(C:bA)(vs:List V)(Z:ah),C.aj.aj=E.aj g->(∀t,C.tk t=none)->C.aj.lo<=Z.next->
 aF R C Z.top (jB R .any r.args p) vs->(∀o x,look (lM R r.obs q) o=some x->gF C Z o x)->
 jd E g vs C.aj.dp Z fun v Z'=>(∃ws,v=mJ ws/\aF R C Z'.top (jB R .any r.res y) ws)/\(∀o x,look (lM R r.obs q') o=some x->gF C Z' o x)/\Z.next<=Z'.next/\(∀l,l<Z.next->Z'.loops l=Z.loops l)/\(∀s,s<C.aj.lo->Z'.top s=Z.top s)/\
  ∀L:Loc,L.1<=C.aj.dp->C.aj.out L->Z'.obj L=Z.obj L
def Sj (E:Env)(M:Nat->List (qI R)):Prop:=∀g,∀r∈M g,E.imp g=true/\MJ E g r
omit hR in
theorem ahh {i:Nat}:∀{l:List Nat},bL i l=true->i∈l
 | [],h=>bU|j::l,h=>by
  have h':(Nat.beq i j||bL i l)=true:=h;rw[xJ] at h';rcases h' with h'|h'
  .rw[fH h'];exact ji ..
  .exact jX _ (ahh h')
omit hR in
theorem XZ {i:Nat}:∀{l:List Nat},i∈l->bL i l=true
 | [],h=>bU|j::l,h=>by
  show (Nat.beq i j||bL i l)=true;rw[xJ];rcases iC.1 h with h|h
  .left;rw[h];exact yO _
  .right;exact XZ h
omit hR in
theorem ahi:∀{l:List Nat}{n o p:Nat},look (lN l n) o=some p->n<=p/\l[p-n]? =some o
 | [],_,_,_,h=>bU|a::l,n,o,p,h=>by
  have h':look ((a,n)::lN l (n+1)) o=some p:=h;by_cases e:o=a
  .subst e;rw[nI] at h';cases h';exact⟨mF _,aB⟩
  .rw[kH _ _ e] at h';obtain⟨h1,h2⟩:=ahi h';refine⟨RS,?_⟩;have:p-n=(p-(n+1))+1:=RS
   rw[this];simpa using h2
omit hR in
theorem ahj:∀{l:List Nat}{n o p:Nat},look (RF (lN l n)) p=some o->n<=p/\l[p-n]? =some o
 | [],_,_,_,h=>bU|a::l,n,o,p,h=>by
  have h':look ((n,a)::RF (lN l (n+1))) p=some o:=h;by_cases e:p=n
  .subst e;rw[nI] at h';cases h';exact⟨mF _,aB⟩
  .rw[kH _ _ e] at h';obtain⟨h1,h2⟩:=ahj h';refine⟨RS,?_⟩;have:p-n=(p-(n+1))+1:=RS
   rw[this];simpa using h2
omit hR in
theorem ahk:∀{l:List Nat},EW l=true->∀{i j o:Nat},l[i]? =some o->l[j]? =some o->i=j
 | [],_,i,j,o,hi,_=>by simp at hi|a::l,h,i,j,o,hi,hj=>by
  have h':(!(bL a l)&& EW l)=true:=h;rw[aZ,xK] at h';cases i with
  |zero=>
   cases j with
   |zero=>rfl|succ j=>have e:a=o:=jH;have e2:l[j]? =some o:=tC;rw[e,XZ (uU e2)] at h';exact absurd h'.1 aB
  |succ i=>
   cases j with
   |zero=>have e:a=o:=tC;have e2:l[i]? =some o:=jH;rw[e,XZ (uU e2)] at h';exact absurd h'.1 aB|succ j=>rw[ahk h'.2 (show l[i]? =some o by simpa using hi) (show l[j]? =some o by simpa using hj)]
omit hR in
theorem X0:∀{l:List Nat}{n p:Nat}{x:bI R.T},look (Im st (lN l n)) p=some x->∃o,n<=p/\l[p-n]? =some o/\look st.ob o=some x
 | [],_,_,_,h=>bU|a::l,n,p,x,h=>by
  have up:look (Im st (lN l (n+1))) p=some x->∃o,n<=p/\(a::l)[p-n]? =some o/\look st.ob o=some x:=fun h=>by
   obtain⟨o,h1,h2,h3⟩:=X0 h;refine⟨o,RS,?_,h3⟩;have:p-n=(p-(n+1))+1:=RS
   rw[this];simpa using h2
  have h':=h;unfold lN Im at h';split at h'
  .rename_i y hy;by_cases e:p=n
   .subst e;rw[nI] at h';cases h';exact⟨a,mF _,aB,hy⟩
   .rw[kH _ _ e] at h';exact up h'
  .exact up h'
omit hR in
theorem X3 {L:List (Nat×bI R.T)}:∀{l:List Nat}{n o:Nat}{y:bI R.T},look (wT (lN l n) L) o=some y->∃p,n<=p/\l[p-n]? =some o/\look L p=some y
 | [],_,_,_,h=>bU|a::l,n,o,y,h=>by
  have up:look (wT (lN l (n+1)) L) o=some y->∃p,n<=p/\(a::l)[p-n]? =some o/\look L p=some y:=fun h=>by
   obtain⟨p,h1,h2,h3⟩:=X3 h;refine⟨p,RS,?_,h3⟩;have:p-n=(p-(n+1))+1:=RS
   rw[this];simpa using h2
  have h':=h;unfold lN wT at h';split at h'
  .rename_i z hz;by_cases e:o=a
   .subst e;rw[nI] at h';cases h';exact⟨n,mF _,aB,hz⟩
   .rw[kH _ _ e] at h';exact up h'
  .exact up h'
omit hR in
theorem ahl {L:List (Nat×bI R.T)}:∀{l:List Nat}{n o:Nat},(∀p,n<=p->p<n+l.length->∃y,look L p=some y)->look (wT (lN l n) L) o=none->o∉l
 | [],_,_,_,_=>aB|a::l,n,o,hL,h=>by
  obtain⟨y,hy⟩:=hL n (mF _) aB;have h':=h;unfold lN wT at h';rw[hy] at h';by_cases e:o=a
  .subst e;rw[nI] at h';cases h'
  .rw[kH _ _ e] at h';have:=ahl (fun p h1 h2=>hL p RS (by rw[List.length_cons];omega)) h';simp[e,this]
omit hR in
theorem Sk:∀{l:List Nat}{n:Nat}{obs:List (Nat×jA)}{q:kZ R.T obs},Io (lN l n) obs=true->∀p,n<=p->p<n+l.length->∃y,look (lM R obs q) p=some y
 | [],n,_,_,_,p,h1,h2=>KP|a::l,n,[],_,h,_,_,_=>bU|a::l,n,[(j,k)],q,h,p,h1,h2=>by
  have h':(Nat.beq n j&& Io (lN l (n+1)) [])=true:=h;rw[aZ] at h';have hj:=fH h'.1;subst hj;by_cases e:p=n
  .subst e;exact⟨_,nI _ _ _⟩
  .obtain⟨y,hy⟩:=Sk (q:=show kZ R.T [] from ()) h'.2 p RS (by rw[List.length_cons] at h2;omega);cases hy
 |a::l,n,(j,k)::x::obs,q,h,p,h1,h2=>by
  have h':(Nat.beq n j&& Io (lN l (n+1)) (x::obs))=true:=h;rw[aZ] at h';have hj:=fH h'.1;subst hj;show∃y,look ((n,oL R k q.1)::lM R (x::obs) q.2) p=some y;by_cases e:p=n
  .subst e;exact⟨_,nI _ _ _⟩
  .rw[kH _ _ e];exact Sk h'.2 p RS (by rw[List.length_cons] at h2;omega)
omit hR in
theorem Sl {L:List (Nat×bI R.T)}:∀(l:List (Nat×jA))(x:kZ R.T l),oM R L l=some x->∀i v,look (lM R l x) i=some v->∃k y z,look L i=some y/\Cr R k y=some z/\v=oL R k z/\(wU l=true->okO k=true)
 | [],x,hx,i,v,hv=>Ec| [(j,k)],x,hx,i,v,hv=>by
   unfold oM at hx;split at hx
   .rename_i y hy;by_cases e:i=j
    .subst e;have hv':look [(i,oL R k x)] i=some v:=hv;rw[nI] at hv';cases hv';exact⟨k,y,x,hy,hx,rfl,fun h=>by unfold wU at h;rw[aZ] at h;exact h.1⟩
    .have hv':look [(j,oL R k x)] i=some v:=hv;rw[kH _ _ e] at hv';cases hv'
   .cases hx
 | (j,k)::q::l,x,hx,i,v,hv=>by
   unfold oM at hx;split at hx
   .rename_i y hy;cases hu:Cr R k y with
    |none=>simp only[hu] at hx;cases hx|some z=>
     cases hs:oM R L (q::l) with
     |none=>simp only[hu,hs] at hx;cases hx|some p=>
      simp only[hu,hs] at hx;obtain rfl:=jW hx;have hv':look ((j,oL R k z)::lM R (q::l) p) i=some v:=hv;by_cases e:i=j
      .subst e;rw[nI] at hv';cases hv';exact⟨k,y,z,hy,hu,rfl,fun h=>by unfold wU at h;rw[aZ] at h;exact h.1⟩
      .rw[kH _ _ e] at hv';obtain⟨k',y',z',h1,h2,h3,h4⟩:=Sl (q::l) p hs i v hv';exact⟨k',y',z',h1,h2,h3,fun h=>h4 (by unfold wU at h;rw[aZ] at h;exact h.2)⟩
   .cases hx
omit hR in
theorem ahm:∀{l:List (Nat×jA)}{x:kZ R.T l},wU l=true->∀{i:Nat}{v:bI R.T},look (lM R l x) i=some v->∃k z,okO k=true/\v=oL R k z
 | [],x,_,i,v,hv=>Ec| [(j,k)],x,h,i,v,hv=>by
   unfold wU at h;rw[aZ] at h;have hv':look [(j,oL R k x)] i=some v:=hv;by_cases e:i=j
   .subst e;rw[nI] at hv';cases hv';exact⟨k,x,h.1,rfl⟩
   .rw[kH _ _ e] at hv';cases hv'
 | (j,k)::q::l,x,h,i,v,hv=>by
   unfold wU at h;rw[aZ] at h;have hv':look ((j,oL R k x.1)::lM R (q::l) x.2) i=some v:=hv;by_cases e:i=j
   .subst e;rw[nI] at hv';cases hv';exact⟨k,x.1,h.1,rfl⟩
   .rw[kH _ _ e] at hv';exact ahm h.2 hv'
omit hR in
theorem arY {top top':Nat->Nat}{t:Ty}{x:Den R.T t}{v:V}(h:aA R C top (iI R .any t x) v):aA R C' top' (iI R .any t x) v:=by
 cases t with
 |st n=>obtain⟨l,hv,hl⟩:=aA.mh (R:=R) h;exact⟨l,hv,CG _ _ _ hl⟩
 |int k=>exact h|bool=>exact h|str=>exact h|slice t=>exact h
omit hR in
mutual
theorem ahn {top top':Nat->Nat}:∀(k:bR)(z:sw R.T k)(v:V),RB k=true->aA R C top (up R .any k z) v->aA R C' top' (up R .any k z) v
 |.d t,z,v,_,h=>by unfold up at h⊢;exact arY h|.aX l off,z,v,hd,h=>by unfold up at h⊢;obtain⟨cs,rfl,h1⟩:=h.uw;unfold aA;exact⟨cs,rfl,MK (by unfold RB at hd;exact hd) h1⟩
 |.fn f a b,z,v,hd,h=>by unfold up at h⊢;obtain⟨x,y,rfl,h1,h2⟩:=h.oO;unfold RB at hd;rw[aZ] at hd;unfold aA;exact⟨x,y,rfl,MK hd.1 h1,MK hd.2 h2⟩
 |.l _ _,_,_,hd,_=>uR|.agg _,_,_,hd,_=>uR|.ref _ _,_,_,hd,_=>uR|.dQ _,_,_,hd,_=>uR|.eF _ _,_,_,hd,_=>uR|.fE,_,_,hd,_=>uR|.aU _ _,_,_,hd,_=>uR|.sub _ _,_,_,hd,_=>uR|.sg _,_,_,hd,_=>uR|.undef,_,_,hd,_=>uR
theorem MK {top top':Nat->Nat}:∀{l:List bR}{z:bB R.T l}{cs:List V},Cy l=true->aF R C top (jB R .any l z) cs->aF R C' top' (jB R .any l z) cs
 | [],_,_,_,h=>h| [k],z,cs,hd,h=>by unfold Cy at hd;rw[aZ] at hd;obtain⟨v,ws,rfl,h1,h2⟩:=aF.fB (ts:=[]) (show aF R C top [up R .any k z] cs from h);rw[h2.iL];exact .cons' (ahn k z v hd.1 h1) rfl
 |k::q::l,z,cs,hd,h=>by unfold Cy at hd;rw[aZ] at hd;obtain⟨v,ws,rfl,h1,h2⟩:=aF.fB (show aF R C top (up R .any k z.1::jB R .any (q::l) z.2) cs from h);exact .cons' (ahn k z.1 v hd.1 h1) (MK (l:=q::l) hd.2 h2)
end
omit hR in
theorem X4 {o p:Nat}{k:jA}{z:EG R.T k}(hk:okO k=true)(hb:C'.ob p=C.ob o)(hn:C'.ln p=C.ln o)(hl:C'.aj.lc p=C.aj.lc o)(h:gF C Z o (oL R k z)):gF C' Z p (oL R k z):=by
 cases k with
 |cells l=>obtain⟨s,cs,h1,h2,h3⟩:=h;exact⟨s,cs,KR,KS,MK hk h3⟩
 |st n=>obtain⟨s,cs,h1,h2,h3⟩:=h;exact⟨s,cs,KR,KS,CG _ _ _ h3⟩
 |map k e=>obtain⟨s,h1,h2⟩:=h;exact⟨s,KR,KS⟩
 |arr t=>
  refine⟨h.1.trans hn.symm,?_⟩;rcases h.2 with h| ⟨s,cs,h1,h2,h3⟩
  .exact .inl ⟨h.1,by rw[hb];exact h.2⟩
  .exact .inr ⟨s,cs,KR,KS,zx _ cs h3⟩
 |sg l=>obtain⟨s,h1,h2⟩:=h;exact⟨s,KR,KS⟩
omit hR in
mutual
theorem aA.ren {top:Nat->Nat}{m:List (Nat×Nat)}(hm:∀o p,look m o=some p->C'.aj.lc p=C.aj.lc o/\C'.ob p=C.ob o/\C'.ln p=C.ln o):∀(x:au R.T)(v:V),aA R C top x v->aA R C' top (zq m x) v
 |.ref o off,v,h=>by
  obtain⟨s,h1,h2⟩:=h;unfold zq;split
  .rename_i p hp;obtain⟨a,b,c⟩:=hm _ _ hp;exact⟨s,D7,KT⟩
  .unfold aA;trivial
 |.dQ o,v,h=>by
  obtain⟨s,h1,h2⟩:=h;unfold zq;split
  .rename_i p hp;obtain⟨a,b,c⟩:=hm _ _ hp;exact⟨s,D7,KT⟩
  .unfold aA;trivial
 |.aU o t,v,h=>by
  unfold zq;split
  .rename_i p hp;obtain⟨a,b,c⟩:=hm _ _ hp;rcases h with ⟨s,h1,h2⟩| ⟨h1,h2⟩
   .exact .inl ⟨s,D7,by rw[a,c];exact h2⟩
   .exact .inr ⟨by rw[c];exact h1,h2⟩
  .unfold aA;trivial
 |.sub o t x y,v,h=>by
  unfold zq;split
  .rename_i p hp;obtain⟨a,b,c⟩:=hm _ _ hp;obtain⟨g0,g1,g2,h⟩:=h;refine⟨g0,g1,by rw[c];exact g2,?_⟩;rcases h with ⟨s,cp,h1,h2,h3⟩|h
   .exact .inl ⟨s,cp,D7,h2,by rw[a];exact h3⟩
   .exact .inr h
  .unfold aA;trivial
 |.l8 o t i off,v,h=>by
  obtain⟨s,h1,h2⟩:=h;unfold zq;split
  .rename_i p hp;obtain⟨a,b,c⟩:=hm _ _ hp;exact⟨s,D7,KT⟩
  .unfold aA;trivial
 |.sv o _ _ _ _ _,v,h=>by
  obtain⟨s,h1,h2⟩:=h;unfold zq;split
  .rename_i p hp;obtain⟨a,b,c⟩:=hm _ _ hp;exact⟨s,D7,KT⟩
  .unfold aA;trivial
 |.sel o _ _ _ _ _,v,h=>by
  obtain⟨s,h1,h2⟩:=h;unfold zq;split
  .rename_i p hp;obtain⟨a,b,c⟩:=hm _ _ hp;exact⟨s,D7,KT⟩
  .unfold aA;trivial
 |.ak c t l,v,h=>by
  obtain⟨c',hv,hc⟩:=h;unfold zq;cases c with
  |own u=>exact⟨c',hv,trivial⟩|any=>exact⟨c',hv,trivial⟩|sh=>exact⟨c',hv,hc⟩|nil=>exact⟨c',hv,hc⟩|full=>exact⟨c',hv,hc⟩
 |.agg cs,v,h=>by obtain⟨l,hv,hl⟩:=h;exact⟨l,hv,aF.ren hm cs l hl⟩
 |.bK cs,v,h=>by obtain⟨l,hv,hl⟩:=h;exact⟨l,hv,aF.ren hm cs l hl⟩
 |.aX cs off,v,h=>by obtain⟨l,hv,hl⟩:=h;exact⟨l,hv,aF.ren hm cs l hl⟩
 |.fn f a b,v,h=>by obtain⟨a',b',hv,ha,hb⟩:=h;exact⟨a',b',hv,aF.ren hm a a' ha,aF.ren hm b b' hb⟩
 |.opt _ _ _,_,h=>h.elim|.int _ _,_,h=>h|.bool _,_,h=>h|.jy _,_,h=>h|.str _,_,h=>h|.gU,_,h=>h|.gH,_,h=>h|.gP,_,h=>h|.iH,_,h=>h|.fE,_,h=>h|.eF _ _ _,_,h=>h|.undef,_,h=>h|.sg _,_,h=>h|.vC _ _ _ _,_,h=>h|.gone,_,h=>h
theorem aF.ren {top:Nat->Nat}{m:List (Nat×Nat)}(hm:∀o p,look m o=some p->C'.aj.lc p=C.aj.lc o/\C'.ob p=C.ob o/\C'.ln p=C.ln o):∀(x:List (au R.T))(v:List V),aF R C top x v->aF R C' top (Ay m x) v
 | [],_,h=>h|x::xs,_,⟨v,vs,e,h1,h2⟩=>⟨v,vs,e,aA.ren hm x v h1,aF.ren hm xs vs h2⟩
end
omit hR in
mutual
theorem aA.top {C:bA}{t t':Nat->Nat}(ht:∀u s,C.tk u=some s->t' s=t s):∀(x:au R.T)(v:V),aA R C t x v->aA R C t' x v
 |.ak c ty l,v,h=>by
  obtain⟨c',hv,hc⟩:=h;refine⟨c',hv,?_⟩;cases c<;>first|exact hc|skip
  rcases hc with hc|hc| ⟨s,h1,h2,h3⟩
  .exact .inl hc
  .exact .inr (.inl hc)
  .exact .inr (.inr ⟨s,h1,h2,(ht _ _ h2).trans h3⟩)
 |.agg cs,v,h=>by obtain⟨l,hv,hl⟩:=h;exact⟨l,hv,aF.top ht cs l hl⟩
 |.bK cs,v,h=>by obtain⟨l,hv,hl⟩:=h;exact⟨l,hv,aF.top ht cs l hl⟩
 |.aX cs off,v,h=>by obtain⟨l,hv,hl⟩:=h;exact⟨l,hv,aF.top ht cs l hl⟩
 |.fn f a b,v,h=>by obtain⟨a',b',hv,ha,hb⟩:=h;exact⟨a',b',hv,aF.top ht a a' ha,aF.top ht b b' hb⟩
 |.ref _ _,_,h=>h|.dQ _,_,h=>h|.aU _ _,_,h=>h|.sub _ _ _ _,_,h=>h|.l8 _ _ _ _,_,h=>h|.opt _ _ _,_,h=>h.elim|.int _ _,_,h=>h|.bool _,_,h=>h|.jy _,_,h=>h|.str _,_,h=>h|.gU,_,h=>h|.gH,_,h=>h|.gP,_,h=>h|.iH,_,h=>h|.fE,_,h=>h|.eF _ _ _,_,h=>h|.undef,_,h=>h|.sg _,_,h=>h|.sv _ _ _ _ _ _,_,h=>h|.sel _ _ _ _ _ _,_,h=>h|.vC _ _ _ _,_,h=>h|.gone,_,h=>h
theorem aF.top {C:bA}{t t':Nat->Nat}(ht:∀u s,C.tk u=some s->t' s=t s):∀(x:List (au R.T))(v:List V),aF R C t x v->aF R C t' x v
 | [],_,h=>h|x::xs,_,⟨v,vs,e,h1,h2⟩=>⟨v,vs,e,aA.top ht x v h1,aF.top ht xs vs h2⟩
end
omit hR in
theorem kg.top {fr:Fr}{C:bA}{t t':Nat->Nat}(ht:∀u s,C.tk u=some s->t' s=t s){x:au R.T}{v:V}(h:kg fr C t x v):kg fr C t' x v:=by
 cases x with
 |opt j w y=>exact⟨fun hc=>aA.top ht y v (h.1 hc),h.2⟩
 |_=>exact .of (aA.top ht _ v h)
omit hR in
theorem X5 {C:bA}{Z Z':ah}{p:Nat}(hp:Z'.obj (C.aj.lc p)=Z.obj (C.aj.lc p))(ht:∀u s,C.tk u=some s->Z'.top s=Z.top s):∀{x:bI R.T},gF C Z p x->gF C Z' p x
 |.cells cs,h=>by obtain⟨s,l,h1,h2,h3⟩:=h;exact⟨s,l,h1,Ga,aF.top ht _ _ h3⟩
 |.map k e m,h=>by obtain⟨s,h1,h2⟩:=h;exact⟨s,h1,PK⟩
 |.smap ks vs,h=>by obtain⟨s,k,l,h1,h2,h3,h4⟩:=h;exact⟨s,k,l,h1,PK,aF.top ht _ _ h3,aF.top ht _ _ h4⟩
 |.arr t l,h=>by
  refine⟨h.1,?_⟩;rcases h.2 with h| ⟨s,cs,h1,h2,h3⟩
  .exact .inl h
  .exact .inr ⟨s,cs,h1,Ga,zx l cs h3⟩
 |.sg ss,h=>by obtain⟨s,h1,h2⟩:=h;exact⟨s,h1,Ga⟩
 |.gone,_=>trivial|.ro b,h=>X5 hp ht (x:=b) h
omit hR in
theorem aT.shift {C:bA}{b:Nat}{st:aM R.T}{fr:Fr}{Z Z':ah}(h:aT C b st fr Z)(hp:∀p,Z'.obj (C.aj.lc p)=Z.obj (C.aj.lc p))(ht:∀s,s<b->Z'.top s=Z.top s):aT C b st fr Z':={h with
 fr:=fun i v hv=>(h.fr i v hv).top fun u s hu=>ht s (h.lt u s hu)
 ob:=fun o x hx=>X5 (hp o) (fun u s hu=>ht s (h.lt u s hu)) (h.ob o x hx)}
omit hR in
theorem arZ {top:Nat->Nat}{xs:List (au R.T)}{vs:List V}(h:aF R C top xs vs):aA R C top (afH xs) (mJ vs):=by
 match xs,vs,h with
 | [],_,h=>rw[h.iL];exact⟨[],rfl,rfl⟩| [x],_,h=>obtain⟨v,l,rfl,h1,h2⟩:=h.fB;rw[h2.iL];exact h1
 |x::y::l,_,h=>obtain⟨v,ws,rfl,h1,h2⟩:=h.fB;obtain⟨w,us,rfl,h3,h4⟩:=h2.fB;exact⟨v::w::us,rfl,.cons' h1 (.cons' h3 h4)⟩
omit hR in
theorem aho {m:List (Nat×Nat)}{A:List (au R.T)}{B:List (Nat×bI R.T)}:∀{l:List (qI R)}{r:qI R}{x:Option (bB R.T r.res×kZ R.T r.obs)},RD R m A B l=some ⟨r,x⟩->r∈l/\∃p q,jl R r.args A=some p/\oM R B r.obs=some q/\Io m r.obs=true/\uo r.res=true/\wU r.obs=true/\x=r.F p q
 | [],_,_,h=>bU|s::l,r,x,h=>by
  unfold RD at h;split at h
  .rename_i p q hp hq;obtain⟨hb,h⟩:=fI h;rw[aZ,aZ] at hb;cases h;exact⟨ji ..,p,q,hp,hq,hb.1,hb.2.1,hb.2.2,rfl⟩
  .obtain⟨h1,h2⟩:=aho h;exact⟨jX _ h1,h2⟩
def eG.call (c:eG)(aj:Bool)(lo:Nat)(ids:List Nat)(hnd:EW ids=true):eG where
 aj:=aj
 dp:=c.dp+1
 lo:=lo
 fl:=fun p=>if F0<=p then (ids[p-F0]?).map c.lc else none
 lt:=fun p L h=>by
  split at h
  .rename_i hp;obtain⟨o,_,rfl⟩:=aW.1 h;exact⟨hp,Nat.lt_succ_of_le (c.RJ o)⟩
  .cases h
 inj:=fun p q L h g=>by
  split at h
  .split at g
   .rename_i hp hq;obtain⟨o,h1,rfl⟩:=aW.1 h;obtain⟨o',h2,e⟩:=aW.1 g;have:=c.WZ e;subst this;have:=ahk hnd h1 h2;omega
   .cases g
  .cases h
omit hR in
theorem eG.ar0 {c:eG}{aj:Bool}{lo:Nat}{ids:List Nat}{hnd:EW ids=true}{p o:Nat}(hp:F0<=p)(h:ids[p-F0]? =some o):(c.call aj lo ids hnd).lc p=c.lc o:=by unfold eG.lc eG.call;dsimp only;rw[if_pos hp,h];rfl
omit hR in
theorem eG.ahp {c:eG}{aj:Bool}{lo:Nat}{ids:List Nat}{hnd:EW ids=true}{L:Loc}(hL:L.1<=c.dp)(h:∀o∈ids,L≠c.lc o):(c.call aj lo ids hnd).out L:=by
 intro p e;unfold eG.lc eG.call at e;dsimp only at e;split at e
 .rename_i M hM;split at hM
  .obtain⟨o,h1,rfl⟩:=aW.1 hM;exact h o (uU h1) e
  .cases hM
 .rw[e] at hL;dsimp only at hL;omega
theorem X6 {β:Type}{M:Nat->List (qI R)}(hM:Sj E M)(hi:aT C aI st fr Z)(hsn:aI<=Z.next){k:aM R.T->Option β}{x:β}(h:EX R M o st k=some x):
 ∃c f g a vb,o.op= .call c/\c.callee= .value f/\fr.ev E f= .fn (.func g) a vb/\E.imp g=true/\jd E g (a++c.args.toList.map (fr.ev E)++vb) (fr.d+1) Z fun v Z1=>∃st1,aT C (aI+1) st1 (fr.put o.dst v) Z1/\Z.next<=Z1.next/\(∀p,bN false p st C Z st1 C Z1)/\k st1=some x:=by
 unfold EX at h;split at h
 .rename_i c hop;split at h
  .rename_i f fO;split at h
   .rename_i g a' b' vs hf hvs;obtain⟨hnd,h⟩:=fI h;generalize aAX:vI (a'++vs++b') []=ids at*;split at h
    .rename_i r x' hfm;obtain⟨⟨y,q'⟩,hy,hk⟩:=iR.1 h;obtain⟨hr,p,q,hp,hq,hks,hsc,hok,rfl⟩:=aho hfm;obtain⟨va,vb,QH,hva,hvb⟩:=(bM (E:=E) hi .nil hf).oO;have hA:=(hva.append (zA (E:=E) hi .nil hvs)).append hvb;let CX:bA:=⟨fun p=>if F0<=p then (ids[p-F0]?).bind C.ob else none,fun _=>none,fun p=>if F0<=p then (match ids[p-F0]? with|some o=>C.ln o|none=>0) else 0,C.aj.call (E.aj g) Z.next ids hnd⟩
     have gJ:∀{p o},F0<=p->ids[p-F0]? =some o->CX.aj.lc p=C.aj.lc o/\CX.ob p=C.ob o/\CX.ln p=C.ln o:=fun {p o} h1 h2=>by
      refine⟨eG.ar0 (hnd:=hnd) h1 h2,?_,?_⟩
      .show (if F0<=p then (ids[p-F0]?).bind C.ob else none)=_;rw[if_pos h1,h2];rfl
      .show (if F0<=p then (match ids[p-F0]? with|some o=>C.ln o|none=>0) else 0)=_;rw[if_pos h1,h2]
     have hm:∀o p,look (lN ids F0) o=some p->CX.aj.lc p=C.aj.lc o/\CX.ob p=C.ob o/\CX.ln p=C.ln o:=fun o p hp=>by obtain⟨h1,h2⟩:=ahi hp;exact gJ h1 h2
     obtain⟨himp,hF⟩:=hM g r hr;obtain⟨n,v,Z',hcall,⟨aAY,hv,hwz⟩,ar1,hnx,hlp,htp,hout⟩:=hF p q y q' hy CX (va++c.args.toList.map (fr.ev E)++vb) Z rfl (fun _=>rfl) (mF _) (CK hR r.args p _ _ hp (aF.ren hm _ _ hA)) (fun i w hw=>by obtain⟨kk,yy,z,h1,h2,rfl,h4⟩:=Sl r.obs q hq i w hw;obtain⟨o',h5,h6,h7⟩:=X0 h1;obtain⟨e1,e2,e3⟩:=gJ h5 h6;exact X4 (h4 hok) e2 e3 e1 (RQ hR h2 (hi.ob _ _ h7)));have hst:∀s,s<aI->Z'.top s=Z.top s:=fun s hs=>htp s (lW hs hsn);have hno:∀o',o'∉ids->Z'.obj (C.aj.lc o')=Z.obj (C.aj.lc o'):=fun o' ho'=>
      hout _ (Nat.le_succ_of_le (C.aj.RJ o')) (eG.ahp (hnd:=hnd) (C.aj.RJ o') fun o'' h2 e=>ho' (by rw[C.aj.WZ e];exact h2))
     have Xr:aT C (aI+1) (⟨st.fr,wT (lN ids F0) (lM R r.obs q')++st.ob⟩:aM R.T) fr Z':={
      d:=hi.d
      aj:=hi.aj
      fr:=fun i w hw=>(hi.fr i w hw).top fun u s hu=>hst s (hi.lt u s hu)
      ob:=fun o' w hw=>by
       have hw':look (wT (lN ids F0) (lM R r.obs q')++st.ob) o'=some w:=hw;rw[CO] at hw';split at hw'
       .rename_i z hz;cases hw';obtain⟨p',h1,h2,h3⟩:=X3 hz;obtain⟨kk,zz,h4,rfl⟩:=ahm hok h3;obtain⟨e1,e2,e3⟩:=gJ h1 h2;exact X4 h4 e2.symm e3.symm e1.symm (ar1 _ _ h3)
       .rename_i hz;have hn:=ahl (fun p' h1 h2=>Sk hks p' h1 h2) hz;exact X5 (hno o' hn) (fun u s hu=>hst s (hi.lt u s hu)) (hi.ob _ _ hw')
      inj:=hi.inj
      lt:=fun t s ht=>Nat.lt_succ_of_lt (hi.lt t s ht)
      ge:=hi.ge
      nx:=Nat.le_succ_of_le hi.nx}
     refine⟨c,f,g,va,vb,hop,fO,QH,himp,n,v,Z',?_,_,?_,hnx,?_,hk⟩
     .rw[hi.d];exact hcall
     .rw[hv];exact Xr.gZ o.dst (arZ (aF.ren (C:=CX) (fun p' o' hpo=>by obtain⟨h1,h2⟩:=ahj hpo;obtain⟨e1,e2,e3⟩:=gJ h1 h2;exact⟨e1.symm,e2.symm,e3.symm⟩) _ _ hwz))
     .intro p';refine bN.congr (st':=(⟨st.fr,wT (lN ids F0) (lM R r.obs q')++st.ob⟩:aM R.T)) ⟨rfl,rfl,rfl,hnx,⟨hlp,fun s hs=>hst s (lW hs hi.nx)⟩,fun L hL ho=>?_,fun hro=>?_⟩ Ad
      .have hL':L.1<=C.aj.dp:=(by rcases hL with e|e;cases e;exact e);exact hout L (Nat.le_succ_of_le hL') (eG.ahp (hnd:=hnd) hL' fun o' _=>ho o')
      .have hn:p'∉ids:=by
        intro hmem;obtain⟨i,hi'⟩:=List.getElem?_of_mem hmem;have hlt:i<ids.length:=by
         rcases Nat.lt_or_ge i ids.length with h|h
         .exact h
         .rw[List.getElem?_eq_none h] at hi';cases hi'
        obtain⟨w,hw⟩:=Sk (q:=q) hks (F0+i) (lD _ _) RS;obtain⟨kk,yy,z,h1,h2,_,_⟩:=Sl r.obs q hq _ _ hw;obtain⟨o',h5,h6,h7⟩:=X0 h1;rw[Ag,hi'] at h6;cases h6;exact Xm h2 (hro _ h7)
       refine⟨fun w hw=>?_,fun s=>?_⟩
       .have hw':look (wT (lN ids F0) (lM R r.obs q')++st.ob) p'=some w:=hw;rw[CO] at hw';split at hw'
        .rename_i z hz;obtain⟨p'',h1,h2,h3⟩:=X3 hz;exact absurd (uU h2) hn
        .exact hro _ hw'
       .unfold ah.dK ah.jh;rw[hno p' hn];exact⟨rfl,rfl⟩
    .cases h
   .cases h
  .cases h
 .cases h
end
end aR
end
