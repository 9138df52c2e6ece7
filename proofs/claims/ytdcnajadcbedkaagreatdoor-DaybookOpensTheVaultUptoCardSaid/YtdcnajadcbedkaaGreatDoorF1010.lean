import Derived.Test.YtdcnajadcbedkaaGreatDoorF1009
set_option linter.all false
section
namespace aQ
open Go
section
variable {R:jV}{E:Env}
variable {Z:bC}{top:Nat->Nat}{b aN:Nat}{st:aO R.T}{fr:Fr}{Y:ah}{o:Oper}
theorem auV {x:aA R.T}(h:wW x=true):wW (Cy x)=true:=by cases x<;>first|exact h|rfl
theorem ajr {top:Nat->Nat}{x:aA R.T}{v:V}(hs:ql (wX x)=true)(h:aC R Z top x v):aC R Z top (wX x) (gH v):=by
 cases x with
 |ak c t l=>obtain⟨c',rfl,hc⟩:=h.mZ;unfold wX aC;exact⟨.sh,rfl,rfl⟩
 |int k n=>rw[h.jy] at*;exact h|bool b=>rw[h.rY] at*;exact h|jH b=>rw[h.vO] at*;exact h|str s=>rw[h.q8] at*;exact h|agg cs=>obtain⟨l,rfl,hl⟩:=h.mY;exact h
 |bV cs=>obtain⟨l,rfl,hl⟩:=h.IU;exact h
 |fD k e m=>rw[h.Fu] at*;exact h|fn f a b=>obtain⟨a',b',rfl,ha,hb⟩:=h.pF;exact h
 |aW cs off=>obtain⟨l,rfl,hl⟩:=h.uJ;exact h
 |sg ss=>rw[h.IV] at*;exact h|gZ=>unfold aC at h;subst h;unfold wX aC;rfl|gL=>unfold aC at h;subst h;unfold wX aC;rfl|iq=>unfold aC at h;subst h;unfold wX aC;rfl|iO=>unfold aC at h;subst h;unfold wX aC;rfl|_=>simp[wX,ql] at hs
theorem ajs {top:Nat->Nat}:∀{l:List (aA R.T)}{vs:List V},zB (ME l)=true->aJ R Z top l vs->aJ R Z top (ME l) (vs.map gH)
 | [],vs,_,h=>Lp|x::l,vs,hs,h=>by obtain⟨v,ws,rfl,h1,h2⟩:=h.fZ;unfold ME zB at hs;rw[aZ] at hs;exact .cons' (ajr hs.1 h1) (ajs hs.2 h2)
theorem auW {top:Nat->Nat}{x:aA R.T}{v:V}(hs:ql (wX x)=true)(hg:wW x=true)(hn:∀cs,x≠ .agg cs)(h:aC R Z top x v):er v=gH v:=by
 cases x with
 |ak c t l=>obtain⟨c',rfl,hc⟩:=h.mZ;rfl
 |int k n=>rw[h.jy];rfl|bool b=>rw[h.rY];rfl|jH b=>rw[h.vO];rfl|str s=>rw[h.q8];rfl|agg cs=>exact absurd rfl (hn cs)|bV cs=>obtain⟨l,rfl,hl⟩:=h.IU;rfl
 |fD k e m=>rw[h.Fu];rfl|fn f a b=>obtain⟨a',b',rfl,ha,hb⟩:=h.pF;rfl
 |aW cs off=>obtain⟨l,rfl,hl⟩:=h.uJ;rfl
 |sg ss=>cases hg|gZ=>unfold aC at h;subst h;rfl|gL=>unfold aC at h;subst h;rfl|iq=>unfold aC at h;subst h;rfl|iO=>unfold aC at h;subst h;rfl|_=>simp[wX,ql] at hs
theorem auX {top:Nat->Nat}{x:aA R.T}{v:V}(hs:(ql (Cy x)&& wW x)=true)(h:aC R Z top x v):aC R Z top (Cy x) (er v):=by
 rw[aZ] at hs;have key:(∀cs,x≠ .agg cs)->Cy x=wX x:=fun hne=>by cases x<;>first|rfl|exact absurd rfl (hne _)
 cases x with
 |agg cs=>obtain⟨l,rfl,hl⟩:=h.mY;unfold Cy aC;exact⟨_,rfl,ajs (by have:=hs.1;unfold Cy ql at this;exact this) hl⟩
 |sg ss=>cases hs.2|_=>rw[key (fun _ e=>by cases e)] at hs⊢;have h1:=ajr hs.1 h;rw[auW hs.1 hs.2 (fun _ e=>by cases e) h];exact h1
theorem tF.val {v:Option V}{r:fC R}(hv:ru Z Y.top v r)(ho:∀y,v=some y->dK E fr Y aN o=some (y,Y)):tF E st Z aN fr Y o r:=by
 cases r with
 |t x=>obtain⟨y,e,hr⟩:=hv;exact⟨y,.kL (ho y e),hr⟩
 |c c x=>intro hc;obtain⟨y,e,hr⟩:=hv hc;exact⟨y,.kL (ho y e),hr⟩
 |p U d o' f=>intro a ha;obtain⟨y,e,hr⟩:=hv a ha;exact⟨y,.kL (ho y e),hr⟩
 |w x s=>exact hv.elim|wc c x s=>exact hv.elim
theorem tF.tt {x:aA R.T}{y:V}(ho:dK E fr Y aN o=some (y,Y))(hr:aC R Z Y.top x y):tF E st Z aN fr Y o (.t x):=⟨y,.kL ho,hr⟩
theorem Na {x:Operand}:lC E fr (some x)=some (fr.ev E x):=rfl
theorem ajt {top:Nat->Nat}{x y v:aA R.T}{w:V}(h:IB true x y=some v)(hx:aC R Z top x w):aC R Z top v w:=by
 unfold IB at h;split at h<;>try cases h
 .split at h
  .cases h;exact hx
  .cases h
 all_goals first|exact hx| (unfold aC at hx⊢;exact hx)
theorem aju {top:Nat->Nat}{x y v:aA R.T}{w:V}(h:IB false x y=some v)(hx:aC R Z top y w):aC R Z top v w:=by
 unfold IB at h;split at h<;>try cases h
 .split at h
  .rename_i e;subst e;cases h;exact hx
  .cases h
 all_goals first|exact hx| (unfold aC at hx⊢;exact hx)
theorem Jb {c a' b':Operand}{t:Bool}(hop:o.op= .pick c a' b')(hc:fr.ev E c= .bool t):dK E fr Y aN o=some (if t then fr.ev E a' else fr.ev E b',Y):=by simp only[dK,hop,hc,yg,Option.map_some]
variable (hR:rX R)
include hR
theorem auY {t:TypeId}{m x:aA R.T}{v w:V}{ok:Bool}{r:fC R}(h:R9 E R t m x ok st=some r)(hm:aC R Z Y.top m v)(hx:aC R Z Y.top x w)(hi:aT Z b st fr Y):ru Z Y.top (ED E.P Y t v w ok) r:=by unfold R9 at h;cases h
theorem ajv {t:TypeId}{m x y:aA R.T}{v w u:V}{r:fC R}(h:Iu E R t m x y st=some r)(hm:aC R Z Y.top m v)(hx:aC R Z Y.top x w)(hy:aC R Z Y.top y u)(hi:aT Z aN st fr Y)(ho:∀Y',Au E.P Y t v w u=some Y'->dK E fr Y aN o=some (aP,Y')):tF E st Z aN fr Y o r:=by
 unfold Iu at h;cases h
omit hR in
theorem aT.at (h:aT Z b st fr Y){d:Nat}(hd:d<F0):(fr.d,d)=Z.aj.lc d:=by rw[h.d,eP.XT _ hd]
omit hR in
theorem aT.ajw (h:aT Z b st fr Y){x:Option Nat}(hd:∀d,x=some d->d<F0):(x.map fun t=>(fr.d,t))=x.map fun t=>Z.aj.lc t:=by
 cases x with
 |none=>rfl|some d=>exact congrArg some (h.at (hd d rfl))
theorem ajx {d s:Nat}{cs:List (aA R.T)}{l:List V}(hi:aT Z b st fr Y)(hc:aJ R Z Y.top cs l)(hm:qC d cs=false):aT (Z.oz d s) b (st.new d (.cells cs)) fr (Y.setObj (Z.aj.lc d) s (.cells l)):=
 hi.new d s ⟨s,l,Ak,sP _ _ _ _,aJ.kill d IZ rfl rfl cs l hm hc⟩
theorem ajy {d s:Nat}{ss:List bW}(hi:aT Z b st fr Y):aT (Z.oz d s) b (st.new d (.sg ss)) fr (Y.setObj (Z.aj.lc d) s (.cells (dU ss))):=
 hi.new d s ⟨s,Ak,sP _ _ _ _⟩
theorem YF {g:Nat}{cs:List V}(h:E.glob g=some cs):fr.ev E (.global g)= .aW cs 0:=by show (match E.glob g with|some cs=>V.aW cs 0|none=>V.raw (Value.pointer (some ⟨g,0,none⟩)))=_;rw[h]
omit hR in
theorem ajz {top:Nat->Nat}{k:IntKind}(l:List Int):∀L:List Nat,aJ R Z top (L.map fun j=>(aA.int k (l.getD j 0):aA R.T)) (L.map fun j=>V.int k (l.getD j 0))
 | []=>aJ.nil'|j::L=>aJ.cons' gY (ajz l L)
omit hR in
theorem auZ {k:IntKind}{l:List Int}{m:Nat}(h:m<=l.length):((List.range m).map fun j=>V.int k (l.getD j 0))=(l.map (V.int k)).take m:=by
 apply List.ext_getElem
 .rw[fH,Eu,mO,fH];omega
 .intro i h1 h2;rw[fH,Eu] at h1;rw[BS,BU,List.getElem_take,BS,nE,fI (show i<l.length by omega)];rfl
theorem au0 {g:List (Nat×Bool)}(iQ:∀d,o.dst=some d->d<F0)(hg:tu fr g)(hi:aT Z aN st fr Y){r:fC R}(h:uG E R g o.dst o.op st=some r):tF E st Z aN fr Y o r:=by
 unfold uG at h;split at h
 ·
  rename_i t hop;split at h
  .rename_i d ks cs hd hks hz;obtain⟨hc,h⟩:=gG h;cases h;obtain⟨v,hv,hr⟩:=Ye (Z:=Z) (top:=Y.top) hz;obtain⟨l,rfl,hl⟩:=hr.mY;have hl2:=auR hc hl;refine⟨.ref (Z.aj.lc d) aN 0,_,Z.oz d aN,.kL (o:=o) ?_,ajy hR (ss:=ks.map Sb) (hi.le (kU _)),rfl,Gu,fun q hq=>bT.new (fun e=>hq.1 GA)⟩;simp only[dK,hop,hd,Option.map_some,Option.bind_some,hv,V.cells,hl2,M9,if_true,hi.at (iQ _ hd)]
  .cases h
 ·
  rename_i t x hop;cases hz:tZ E t o.dst;case true=>rw[hz] at h;cases h
  rw[hz,cond_false] at h;split at h
  .rename_i d ks v hd hks hv;split at h
   .rename_i ss hss;cases h;obtain⟨c1,c2,c3⟩:=ajo hss (bS (E:=E) hi hg hv);refine⟨.ref (Z.aj.lc d) aN 0,_,Z.oz d aN,.kL (o:=o) ?_,ajy hR (ss:=ss) (hi.le (kU _)),rfl,Gu,fun q hq=>bT.new (fun e=>hq.1 GA)⟩;simp only[dK,hop,(show tZ E t (some d)=false from hd▸hz),dG,if_false,hd,Option.map_some,Option.bind_some,c1,c3,M9,and_self,if_true,hi.at (iQ _ hd)]
   .cases h
  .cases h
 ·
  rename_i t a hop;split at h
  .rename_i gl;split at h
   .rename_i k n v hv;cases h;obtain⟨cs,e,g1,g2,g3,g4,g5,g6⟩:=YD hv;refine .tt (y:=.agg (v.l.map (V.int k))) ?_ ?_
    .simp only[dK,hop,YF hR g1];unfold gT;rw[g4,g5];simp only[Option.bind_some];unfold rM;rw[if_pos rfl,if_pos (by rw[g2,fH,v.h];omega),qm,rJ (by rw[g2,fH,v.h];exact iR _),g2];rfl
    .unfold aC;show _=V.agg (v.l.map (V.int k)++[]);rw[jD]
   .cases h
  .split at h
   .rename_i p off hv;split at h
    .rename_i ss hl;split at h
     .rename_i v hld;cases h;obtain⟨s,h1,h2⟩:=(bS (E:=E) hi hg hv).rZ;obtain⟨s',h3,h4⟩:=hi.rd hl;rw[h1] at h3;cases h3;obtain⟨y,hy,hr⟩:=ajl (Z:=Z) (top:=Y.top) hld;exact .tt (by simp only[dK,hop,h2,h4,Option.bind_some,hy,Option.map_some]) hr
     .cases h
    .cases h
   .rename_i p off k n i m hv;split at h
    .rename_i ss hl;obtain⟨s,h1,hi0,hi1,h2⟩:=(bS (E:=E) hi hg hv).MV;obtain⟨s',h3,h4⟩:=hi.rd hl;rw[h1] at h3;cases h3;split at h
     .rename_i pre k' n' v post hsp;by_cases ek:k'=k
      .subst ek;rw[if_pos rfl] at h;cases hb:Nat.beq n' n
       .rw[hb] at h;cases h
       rw[hb,cond_true] at h;have:=fT hb;subst this;cases hc:(Nat.beq m 1&& uF E t)
       .rw[hc,cond_false] at h;split at h
        .rename_i y hy;cases h;obtain⟨x,g1,g2⟩:=auP (Z:=Z) (top:=Y.top) hsp hi1 hy;exact .tt (by simp only[dK,hop,h2,h4,Option.bind_some,g1,Option.map_some]) g2
        .cases h
       .rw[hc,cond_true] at h;cases h;rw[aZ] at hc;have:=fT hc.1;subst this;exact .tt (y:=.int k' (v.at' i)) (by simp only[dK,hop,h2,h4,Option.bind_some,ajn (i:=i) hsp (nD (Er _) hi1) hc.2,Option.map_some]) gY
      .rw[if_neg ek] at h;cases h
     .cases h
    .cases h
   .rename_i k n v i hv;obtain⟨he,h⟩:=gG h;cases h;obtain⟨h1,h2,h3⟩:=(bS (E:=E) hi hg hv).Sw;obtain⟨z1,z2⟩:=C9 he;refine .tt (y:=.int k (v.at' i)) ?_ gY;simp only[dK,hop,h3];unfold gT;rw[z1,z2];simp only[Option.bind_some];unfold rM;simp only[dG,if_false];rw[List.getElem?_map,ajm v RS];rfl
   .cases h
 ·
  rename_i t a x hop;split at h
  .rename_i p off v hv hx;split at h
   .rename_i ss sz hl hsz;split at h
    .rename_i pre rest hsp;split at h
     .rename_i mid post hsp2;split at h
      .rename_i mid' hco;cases h;obtain⟨s,h1,h2⟩:=(bS (E:=E) hi hg hv).rZ;obtain⟨s',h3,h4⟩:=hi.ob _ _ hl;rw[h1] at h3;cases h3;obtain⟨c1,c2,c3⟩:=ajo hco (bS (E:=E) hi hg hx);obtain⟨e1,w1⟩:=yL hsp;obtain⟨e2,w2⟩:=yL hsp2;rw[SS,w2] at c2;refine⟨aP,_,Z,.kL (o:=o) ?_,(hi.le (kU _)).set p s (x:=.sg (pre++(mid'++post))) (a:=.cells (dU (pre++(mid'++post)))) ⟨s,h1,sP _ _ _ _⟩,rfl,gY,fun q _=>bT.set hl rfl⟩;simp only[dK,hop,h2,h4,Option.bind_some,c1];rw[if_pos ⟨by rw[hsz,jO,c2],by rw[jO,jO,e1,e2,Da,Da,w1,w2,c2];omega,M9 _⟩,e1,e2,auS w1 w2 c2]
      .cases h
     .cases h
    .cases h
   .cases h
  .rename_i p off k n i m k' y hv hx;split at h
   .rename_i ss hl;split at h
    .rename_i pre k2 n' v post hsp;by_cases ek:k2=k
     .subst ek;rw[if_pos rfl] at h;by_cases ajA:k'=k2
      .subst ajA;rw[if_pos rfl] at h;obtain⟨hb,h⟩:=gG h;cases h;rw[aZ,aZ] at hb;have e1:=fT hb.1.1;subst e1;have e2:=fT hb.1.2;subst e2;obtain⟨z1,z2⟩:=C9 hb.2;obtain⟨s,h1,hi0,hi1,h2⟩:=(bS (E:=E) hi hg hv).MV;obtain⟨s',h3,h4⟩:=hi.ob _ _ hl;rw[h1] at h3;cases h3;have hy:=(bS (E:=E) hi hg hx).jy;obtain⟨e1,w1⟩:=yL hsp;refine⟨aP,_,Z,.kL (o:=o) ?_,(hi.le (kU _)).set p s (x:=.sg (pre++(.a k' n' (v.set i y)::post))) (a:=.cells (dU (pre++(.a k' n' (v.set i y)::post)))) ⟨s,h1,sP _ _ _ _⟩,rfl,gY,fun q _=>bT.set hl rfl⟩;simp only[dK,hop,h2,h4,Option.bind_some,hy,V.cells];have au1:=ajp (post:=post) (k:=k') (v:=v) (w:=v.set i y) (l:=[y]) w1 (show i.toNat+[y].length<=n' from hi1) (auT (by rw[v.h];omega));rw[if_pos ⟨by rw[z1];rfl,by rw[jO,e1,Da,w1,SQ];show off+i.toNat+1<=off+(n'+_);omega,rfl⟩,e1];rw[show [V.int k' y]=[y].map (V.int k') from rfl,au1]
      .rw[if_neg ajA] at h;cases h
     .rw[if_neg ek] at h;cases h
    .cases h
   .cases h
  .cases h
 ·
  rename_i t x i hop;split at h
  .rename_i n e k0 i ha hiv;obtain⟨hel,h⟩:=gG h;obtain⟨z1,z2⟩:=C9 hel;have hii:=(bS (E:=E) hi hg hiv).jy;split at h
   .rename_i gl;split at h
    .rename_i k n' v hv;cases h;intro hin;obtain⟨cs,e',g1,g2,g3,g4,g5,g6⟩:=YD hv;rw[ha] at g3;cases g3;obtain⟨j1,j2,S9⟩:=SV hin;refine⟨.aW cs i.toNat,.kL ?_,by unfold aC;exact⟨j1,j2,by rw[g2]⟩⟩;simp only[dK,hop,YF hR g1,hii];unfold qp;rw[M7 ha];dsimp only;rw[z1];simp only[Option.bind_some,YE hin,Option.map_some,Nat.mul_one,o7]
    .cases h
   .split at h
    .rename_i p off hv;split at h
     .rename_i ss hl;split at h
      .rename_i pre k n' v post hsp;obtain⟨hb,h⟩:=gG h;have:=fT hb;subst this;cases h;intro hin;obtain⟨s,h1,h2⟩:=(bS (E:=E) hi hg hv).rZ;obtain⟨j1,j2,S9⟩:=SV hin;refine⟨.ref (Z.aj.lc p) s (off+i.toNat),.kL ?_,by unfold aC;exact⟨s,h1,j1,RS,rfl⟩⟩;simp only[dK,hop,h2,hii];unfold qp;rw[M7 ha];dsimp only;rw[z1];simp only[Option.bind_some,YE hin,Option.map_some,Nat.mul_one]
      .cases h
     .cases h
    .cases h
  .cases h
 ·
  rename_i t x i hop;split at h
  .rename_i n e k n' v k0 i ha hv hiv;obtain⟨hb,h⟩:=gG h;cases h;rw[aZ] at hb;have:=fT hb.2;subst this;obtain⟨z1,z2⟩:=C9 hb.1;have hii:=(bS (E:=E) hi hg hiv).jy;have hvv:=(bS (E:=E) hi hg hv).IV;intro hin;obtain⟨j1,j2,S9⟩:=SV hin;refine⟨.int k (v.at' i),.kL ?_,gY⟩;simp only[dK,hop,hvv,hii];unfold EC;rw[M7 ha];dsimp only;rw[YE hin];simp only[Option.bind_some,z1,Nat.mul_one];have:=ajn (E:=E) (t:=e) (ss:=[.a k n' v]) (pre:=[]) (post:=[]) (off:=0) (i:=i) rfl S9 hb.1;rw[o7] at this;rw[this];rfl
  .cases h
 ·
  rename_i t x lo hi' hop;split at h
  .rename_i v hv;have o9:=bS (E:=E) hi hg hv;have ho:∀vl vh,lC E fr lo=vl->lC E fr hi'=vh->∀y,lF E.P Y t (fr.ev E x) vl vh none=some y->dK E fr Y aN o=some (y,Y):=by rintro vl vh rfl rfl y hy;simp only[dK,hop];rw[show lC E fr none=none from rfl,hy];rfl
   split at h
   .exact .val (SY h o9 hi (vl:=none) (vh:=none) QB (fun _=>rfl) QB (fun _=>rfl)) (ho _ _ rfl rfl)
   .rename_i lo;split at h
    .rename_i l hl;have hlr:=bS (E:=E) hi hg hl;exact .val (SY h o9 hi (vl:=some (fr.ev E lo)) (vh:=none) (by intro y hy;cases hy;exact⟨_,rfl,hlr⟩) QF QB (fun _=>rfl)) (ho _ _ rfl rfl)
    .cases h
   .rename_i hi';split at h
    .rename_i l hl;have hlr:=bS (E:=E) hi hg hl;exact .val (SY h o9 hi (vl:=none) (vh:=some (fr.ev E hi')) QB (fun _=>rfl) (by intro y hy;cases hy;exact⟨_,rfl,hlr⟩) QF) (ho _ _ rfl rfl)
    .cases h
   .rename_i lo hi';split at h
    .rename_i l m hl hm;have hlr:=bS (E:=E) hi hg hl;have hmr:=bS (E:=E) hi hg hm;exact .val (SY h o9 hi (vl:=some (fr.ev E lo)) (vh:=some (fr.ev E hi')) (by intro y hy;cases hy;exact⟨_,rfl,hlr⟩) QF (by intro y hy;cases hy;exact⟨_,rfl,hmr⟩) QF) (ho _ _ rfl rfl)
    .cases h
  .cases h
 ·
  rename_i t x lo hi' mx hop;split at h
  .rename_i cp u l kh hh Ta km e hv au2 au3 hu;split at h
   .rename_i sz hsz;cases hb:Nat.beq sz (dL R u)
    .rw[hb] at h;cases h
    rw[hb,cond_true] at h;have:=fT hb;subst this;obtain⟨c',h2,_⟩:=(bS (E:=E) hi hg hv).mZ;have eh:=(bS (E:=E) hi hg au2).jy;have em:=(bS (E:=E) hi hg au3).jy;have fin:∀(vl:Option V)(a:Nat)(L:List (Den R.T u)),lC E fr lo=vl->jE l.length l.length vl (some (.int kh hh)) (some (.int Ta km))=some (a,hh.toNat,km.toNat)->(l.take hh.toNat).drop a=L->∃y,oC E fr Y aN o y Y/\aC R Z Y.top (.ak .any u L) y:=by
     rintro vl a L hvl hsb rfl;refine⟨.ak (if km.toNat=hh.toNat then .full else .sh) (((l.map (aU R u)).take hh.toNat).drop a),.kL ?_,?_⟩
     .simp only[dK,hop,h2];rw[hvl,show lC E fr (some hi')=some (.int kh hh) by rw[Na,eh],show lC E fr (some mx)=some (.int Ta km) by rw[Na,em]];unfold lF;rw[hu];dsimp only;rw[hsz];simp only[Option.bind_some,fH,hsb,M0 hR,if_true,Option.isNone_some,dG,and_false,if_false,Option.map_some]
     .unfold aC;exact⟨_,by rw[Yh],trivial⟩
    split at h
    .cases hf:ah1 E o.dst with
     |false=>rw[hf,cond_false] at h;cases h;intro hc;rw[aZ] at hc;exact fin none 0 _ rfl (by simp[jE,vQ hc.1,vQ hc.2]) (by simp[uE])|true=>
      rw[hf,cond_true] at h;cases h;intro hc;rw[aZ,aZ] at hc;obtain⟨y,hy1,hy2⟩:=fin none 0 _ rfl (by simp[jE,vQ hc.1,vQ hc.2.1]) rfl;have hkm:hh=km:=(by simpa using hc.2.2);subst hkm;refine⟨.ak .full (((l.map (aU R u)).take hh.toNat).drop 0),.kL ?_,?_⟩
      .simp only[dK,hop,h2];rw[show lC E fr none=none from rfl,show lC E fr (some hi')=some (.int kh hh) by rw[Na,eh],show lC E fr (some mx)=some (.int Ta hh) by rw[Na,em]];unfold lF;rw[hu];dsimp only;have hsb:jE l.length l.length none (some (.int kh hh)) (some (.int Ta hh))=some (0,hh.toNat,hh.toNat):=(by simp[jE,vQ hc.1,vQ hc.2.1]);rw[hsz];simp only[Option.bind_some,fH,hsb,M0 hR,if_true,Option.isNone_some,dG,and_false,if_false,Option.map_some]
      .unfold aC;exact⟨.full,by rw[Yh];simp[uE],rfl⟩
    .rename_i lo';split at h
     .rename_i ka a hva;cases h;intro hc;rw[aZ,aZ] at hc;have ea:=(bS (E:=E) hi hg hva).jy;exact fin (some (.int ka a)) a.toNat _ (by rw[Na,ea]) (by simp[jE,vQ hc.1,vQ hc.2.1,vQ hc.2.2]) (by simp[uE])
     .cases h
   .cases h
  .cases h
 ·
  rename_i a b' x hop;split at h
  .rename_i p off k n lo hi' hv;obtain⟨s,h1,hB,h2⟩:=(bS (E:=E) hi hg hv).CQ;split at h
   .rename_i e hu1 hu2;split at h
    .rename_i hu3;split at h
     .rename_i l hl;cases h;obtain⟨cs,c1,c2,c3,c4⟩:=ajc hR hi hl h1 hB;obtain⟨p1,p2,p3,_,_⟩:=FD hB;refine .tt (y:=.str (List.map (fun n:Int=>UInt8.ofNat n.toNat) l)) ?_ gY;simp only[dK,hop,h2];unfold Ar;rw[hu1,hu2];dsimp only;rw[hu3,c1];dsimp only;simp only[Option.bind_some];rw[if_pos RS,c3];have:=Yg (R:=R) l;rw[show l.map (V.int .u8)=List.map (aU R (.int .u8)) l from rfl,this];rfl
     .cases h
    .cases h
   .cases h
  .cases h
 ·
  rename_i t x hop;split at h
  .rename_i m e p off k n lo hi' ha hv;cases h;intro hc;have hc:=of_decide_eq_true hc;obtain⟨s,h1,hB,h2⟩:=(bS (E:=E) hi hg hv).CQ;obtain⟨p1,p2,p3,p4,p5⟩:=FD hB;refine⟨.ref (Z.aj.lc p) s (off+(fK lo).toNat),.kL ?_,by unfold aC;exact⟨s,h1,p4,RS,rfl⟩⟩;simp only[dK,hop,ha,h2,Option.bind_some];rw[if_pos ⟨hc.1,RS⟩]
  .rename_i m e c k l ha hv;cases h;intro hc;have hc:=of_decide_eq_true hc;obtain⟨c',h2,_⟩:=(bS (E:=E) hi hg hv).mZ;have hr:aJ R Z Y.top (ah2 R k m l) ((List.map (V.int k) l).take m):=by rw[<-auZ hc.2];exact ajz l _
   refine⟨.aW ((List.map (V.int k) l).take m) 0,.kL ?_,by unfold aC;exact⟨_,rfl,hr⟩⟩;simp only[dK,hop,ha,h2,Option.bind_some];rw[if_pos ⟨hc.1,by rw[fH];exact hc.2,by unfold dx;rw[List.all_map];exact lK.2 fun _ _=>rfl⟩];rfl
  .cases h
 ·
  rename_i c hop;split at h
  .rename_i p off k n lo hi' y fV hvs;split at h
   .rename_i t ht;split at h
    .rename_i e he;obtain⟨hel,h⟩:=gG h;obtain⟨z1,z2⟩:=C9 hel;split at h
     .rename_i l0 ss hsrc hl;obtain⟨l,hl0⟩:∃l:List Int,l=l0:=⟨l0,rfl⟩;subst hl0;split at h
      .rename_i pre k' n' v post hsp;by_cases ek:k'=k
       .subst ek;rw[if_pos rfl] at h;cases hb:Nat.beq n' n
        .rw[hb] at h;cases h
        rw[hb,cond_true] at h;have:=fT hb;subst this;cases h;have hargs:=zJ (E:=E) hi hg hvs;obtain⟨a1,aFz,au4,au5,au6⟩:=hargs.fZ;obtain⟨a2,aFA,au7,au8,au9⟩:=au6.fZ;have ava:=au9.jq;subst ava;subst au7;obtain⟨s,h1,hB,rfl⟩:=au5.CQ;obtain⟨p1,p2,p3,p4,p5⟩:=FD hB;obtain⟨s',h3,h4⟩:=hi.ob _ _ hl;rw[h1] at h3;cases h3;obtain⟨e1,w1⟩:=yL hsp;obtain⟨q1,q2⟩:=Yl hR (Y:=Y) (ag:=false) (z:=aP) hsrc au8;have q1:nQ Y false 1 aP a2=some (List.map (V.int k') l):=q1;have hlen:(jf n' hi'-fK lo).toNat=(jf n' hi').toNat-(fK lo).toNat:=RS;have hmin:min (List.map (V.int k') l).length ((jf n' hi').toNat-(fK lo).toNat)=(List.take (jf n' hi'-fK lo).toNat l).length:=(by rw[fH,mO,hlen,Nat.min_comm]);have hfl:((List.map (V.int k') l).take (List.take (jf n' hi'-fK lo).toNat l).length).flatMap V.cells=(List.take (jf n' hi'-fK lo).toNat l).map (V.int k'):=by
         have:∀m:List Int,(m.map (V.int k')).flatMap V.cells=m.map (V.int k'):=by
          intro m;induction m with
          |nil=>rfl|cons x m ih=>rw[iH,kT,ih];rfl
         rw[<-List.map_take,this,mO];congr 1;by_cases hle:(jf n' hi'-fK lo).toNat<=List.length l
         .rw[Am hle]
         .rw[Nat.min_eq_right RS,rJ (iR _),rJ RS]
        have hlt:(List.take (jf n' hi'-fK lo).toNat l).length<=(jf n' hi').toNat-(fK lo).toNat:=(by rw[mO,hlen];exact Nat.min_le_left _ _);have hone:(List.map (V.int k') l).all (fun v=>dx v.cells)=true:=(by rw[List.all_map];simp[dx,V.cells,oneCell]);refine⟨_,_,Z,.of (o:=o) fun S=>?_,(hi.le (kU _)).set p s (x:=.sg (pre++(.a k' n' (v.wU (fK lo) (List.take (jf n' hi'-fK lo).toNat l))::post))) (a:=.cells (dU (pre++(.a k' n' (v.wU (fK lo) (List.take (jf n' hi'-fK lo).toNat l))::post)))) ⟨s,h1,sP _ _ _ _⟩,rfl,gY,fun q _=>bT.set hl rfl⟩;unfold opC;rw[hop];dsimp only;rw[fV];dsimp only;rw[au4];have hbv:qN E fr.aj (o.dst.map fun t=>(fr.d,E.cn t)) Y aN .copy c.argTypes [.aS (Z.aj.lc p) s (off+(fK lo).toNat) ((jf n' hi').toNat-(fK lo).toNat) (n'-(fK lo).toNat) 1 false,a2]=(c.argTypes[0]?).bind fun t=>copyV E.P Y t (.aS (Z.aj.lc p) s (off+(fK lo).toNat) ((jf n' hi').toNat-(fK lo).toNat) (n'-(fK lo).toNat) 1 false) a2:=rfl;rw[hbv,ht];simp only[Option.bind_some];rw[auU he z1 z2 q2 q1 hone h4 (by rw[hmin,jO,e1,Da,w1,SQ];show off+(fK lo).toNat+_<=off+(n'+_);omega),hmin,hfl];simp only[Option.map_some];rw[e1,ajp (w:=v.wU (fK lo) (List.take (jf n' hi'-fK lo).toNat l)) w1 RS (by unfold Vec.wU;rw[M8];simp only[fG,mO,qj,v.h] at*;omega)];try rfl
       .rw[if_neg ek] at h;cases h
      .cases h
     .cases h
    .cases h
   .cases h
  .cases h
 .cases h
theorem avb {t:TypeId}{x:aA R.T}{v:V}{r:fC R}(h:XE E R t x st=some r)(hx:aC R Z Y.top x v)(hi:aT Z aN st fr Y)(ho:∀y Y',GL E.P Y t v=some (y,Y')->oC E fr Y aN o y Y'):tF E st Z aN fr Y o r:=by
 unfold XE at h;cases h
theorem avc {aj:Bool}{F:Nat->List (iy R)}(hF:bg E F)(bQ:Z.aj.aj=aj)(iQ:∀d,o.dst=some d->d<F0){g:List (Nat×Bool)}(hg:tu fr g)(hi:aT Z aN st fr Y){r:fC R}(h:vM E R aj F g o.dst o.op st=some r):tF E st Z aN fr Y o r:=by
 unfold vM at h;split at h
 ·
  rename_i x hop;cases hz:yh E o.dst
  .rw[hz] at h;dsimp only[cond_false] at h;split at h
   .rename_i v hv;cases h;exact .tt (y:=fr.ev E x) (by simp only[dK,hop,hz,dG,if_false]) (bS hi hg hv)
   .cases h
  .rw[hz] at h;dsimp only[cond_true] at h;split at h
   .rename_i p t hv;split at h
    .rename_i t' l0 hl;split at h
     .rename_i l hc;cases h;obtain⟨e1,e2⟩:=vP hc;subst e1;cases e2;have hO:=hi.ob p _ hl;have hrl:∀Z',aC R Z' Y.top (.ak .any t' l0) (.ak .sh (l0.map (aU R t'))):=fun Z'=>by unfold aC;exact⟨.sh,rfl,trivial⟩
      rcases (bS (E:=E) hi hg hv).AY with ⟨s,h1,h2⟩| ⟨h1,h2⟩
      .rcases hO.2 with h3| ⟨s',cs,h3,h4,h5⟩
       .rw[h1] at h3;exact absurd h3.2 aD
       .rw[h1] at h3;cases h3;have hlc:cs.length=l0.length*dL R t':=(by rw[h5.length,Fz]);have hlen:l0.length=Z.ln p:=hO.1;refine⟨.ak .sh (l0.map (aU R t')),Y.ko (Z.aj.lc p),Z,.kL ?_,(hi.del p).le (kU _),rfl,hrl Z,fun q _=>bT.del hl rfl⟩;simp only[dK,hop,hz,if_true,h2,yj,h4,Option.bind_some,o7,qm];rw[rJ Gv,ai8 hR l0 cs h5,<-hlen,Yr hR l0,Yt hR l0];rw[if_pos ⟨by rw[hlc];exact iR _,rfl⟩]
      .have hl0:l0=[]:=qo (hO.1.trans h1);subst hl0;refine⟨.ak .sh [],Y,Z,.kL ?_,(hi.del' p).le (kU _),rfl,hrl Z,fun q _=>bT.del' hl rfl⟩;simp only[dK,hop,hz,if_true];rcases h2 with h2|h2<;>rw[h2]<;>rfl
     .cases h
    .cases h
   .rename_i k m hv;cases h;have hr:=bS (E:=E) hi hg hv;refine .tt (y:=.int k m) ?_ gY;simp only[dK,hop,hz,if_true,hr.jy,yj]
   .cases h
 .rename_i x hop;split at h
  .rename_i v hv;cases h;exact .tt (y:=fr.ev E x) (by simp only[dK,hop]) (bS hi hg hv)
  .cases h
 ·
  rename_i c a' b' hop;split at h
  .rename_i j;split at h
   .rename_i t hc;have hc':=(bS (E:=E) hi hg hc).rY;split at h
    .rename_i x y hx hy;split at h
     .rename_i v hv;cases h;refine .tt (Jb hop hc') ?_;rw[H6] at hc';cases t
      .exact aju hv (bS (E:=E) hi (.cons hc' hg) hy)
      .exact ajt hv (bS (E:=E) hi (.cons hc' hg) hx)
     .cases h
    .cases h
   .rename_i t hc;have hc':=(bS (E:=E) hi hg hc).vO;split at h
    .rename_i v hv;cases h;refine .tt (Jb hop hc') ?_;cases t
     .exact bS (E:=E) hi hg hv
     .exact bS (E:=E) hi hg hv
    .cases h
   .cases h
  .cases h
 ·
  rename_i t hop;split at h
  .rename_i d z hd hz;obtain⟨hc,h⟩:=gG h;cases h;simp only[aZ,xY] at hc;obtain⟨v,hv,hr⟩:=Ye (Z:=Z) (top:=Y.top) hz;have avd:wW z=true:=by
    cases z<;>first|rfl| (have:=hc.1;simp[aA.cells,Cx,Xt] at this)
   obtain⟨hcells,_⟩:=yK avd hr;refine⟨.ref (Z.aj.lc d) aN 0,_,Z.oz d aN,.kL (o:=o) ?_,ajx hR (hi.le (kU _)) hcells hc.2,rfl,Gu,fun q hq=>bT.new (fun e=>hq.1 GA)⟩;simp only[dK,hop,hd,Option.map_some,Option.bind_some,hv,MZ hc.1 hcells,if_true,hi.at (iQ _ hd)]
  .cases h
 ·
  rename_i t x hop;cases hz:tZ E t o.dst with
  |true=>
   rw[hz,cond_true] at h;split at h
   .rename_i v hv;obtain⟨hc,h⟩:=gG h;cases h;rw[aZ] at hc;have hr:=bS (E:=E) hi hg hv;have hnr:=(yK hc.2 hr).2;have hr2:=auX (by rw[aZ];exact hc) hr;obtain⟨hcells,_⟩:=yK (auV hc.2) hr2;refine .tt (y:=.aW (er (fr.ev E x)).cells 0) ?_ ?_
    .simp only[dK,hop,hz,if_true,Yx hR _ _ hc.1 hr2,hnr,and_self]
    .unfold aC;exact⟨_,rfl,hcells⟩
   .cases h
  |false=>
  rw[hz,cond_false] at h;split at h
  .rename_i d v hd hv;obtain⟨hc,h⟩:=gG h;cases h;simp only[aZ,xY] at hc;have hr:=bS (E:=E) hi hg hv;obtain⟨hcells,hnr⟩:=yK hc.1.2 hr;refine⟨.ref (Z.aj.lc d) aN 0,_,Z.oz d aN,.kL (o:=o) ?_,ajx hR (hi.le (kU _)) hcells hc.2,rfl,Gu,fun q hq=>bT.new (fun e=>hq.1 GA)⟩;simp only[dK,hop,(show tZ E t (some d)=false from hd▸hz),dG,if_false,hd,Option.map_some,Option.bind_some,MZ hc.1.1 hcells,hnr,and_self,if_true,hi.at (iQ _ hd)]
  .cases h
 ·
  rename_i t parts hop;split at h
  .rename_i pl z ps hpl hz hps;split at h
   .rename_i cs hcs;cases h;obtain⟨zv,hzv,ave⟩:=Ye (Z:=Z) (top:=Y.top) hz;obtain⟨e1,e2⟩:=X3 (E:=E) hi hg hps;have hzc:aJ R Z Y.top z.cells zv.cells:=by
     refine(yK ?_ ave).1;unfold Im at hz;cases z<;>first|rfl|skip
     all_goals
      exfalso;split at hz
      .split at hz
       .unfold Ic at hz;split at hz
        .split at hz<;>cases hz
        .unfold E5 at hz;split at hz<;>cases hz
       .cases hz
      .cases hz
    obtain⟨l',f1,f2⟩:=aiO (qs:=parts.toList.map fun p=>(p.1,fr.ev E p.2)) pl (by rw[e1];simp[Function.comp_def]) (by simpa [Function.comp_def] using e2) hzc hcs;refine .tt (y:=.agg l') ?_ (by unfold aC;exact⟨l',rfl,f2⟩);simp only[dK,hop,hpl,hzv,Option.bind_some];rw[f1];rfl
   .cases h
  .cases h
 ·
  rename_i t len parts hop;split at h
  .rename_i ps hps;obtain⟨e1,e2⟩:=X3 (E:=E) hi hg hps;cases hz:zm E o.dst
   .rw[hz,cond_false] at h;refine .val (aug hR (qs:=parts.toList.map fun p=>(p.1,fr.ev E p.2)) h (by rw[e1];simp[Function.comp_def]) (by simpa [Function.comp_def] using e2)) fun y hy=>?_;simp only[dK,hop,hz,dG,if_false];rw[hy];rfl
   .rw[hz,cond_true] at h;refine auv hR (qs:=parts.toList.map fun p=>(p.1,fr.ev E p.2)) h (by rw[e1];simp[Function.comp_def]) (by simpa [Function.comp_def] using e2) hi rfl fun y Y' hy=>.kL ?_;simp only[dK,hop,hz,if_true];exact hy
  .cases h
 ·
  rename_i t a hop;split at h
  .rename_i p off hv;split at h
   .rename_i cs hl;split at h
    .rename_i v hld;cases h;obtain⟨s,h1,h2⟩:=(bS (E:=E) hi hg hv).rZ;obtain⟨s',l,h3,h4,h5⟩:=hi.rd hl;rw[h1] at h3;cases h3;obtain⟨y,hy,hr⟩:=A8 h5 hld;exact .tt (by simp only[dK,hop,h2,h4,Option.bind_some,hy,Option.map_some]) hr
    .cases h
   .cases h
  .rename_i cs off hv;split at h
   .rename_i v hld;cases h;obtain⟨l,h2,h5⟩:=(bS (E:=E) hi hg hv).uJ;obtain⟨y,hy,hr⟩:=A8 h5 hld;exact .tt (by simp only[dK,hop,h2,hy,Option.map_some]) hr
   .cases h
  .rename_i p τ i off hv;split at h
   .rename_i ob hl;obtain⟨s,h1,_,h2⟩:=(bS (E:=E) hi hg hv).Fw;obtain⟨l,f,rfl,hf⟩:=aup h (hi.rd hl) h1;intro y hy;obtain⟨cs,w,h3,h4,h5⟩:=hf y hy;exact⟨w,.kL (by simp only[dK,hop,h2,h3,Option.bind_some,h4,Option.map_some]),h5⟩
   .cases h
  .cases h
 ·
  rename_i t a x hop;split at h
  .rename_i p off v hv hx;split at h
   .rename_i cs sz hl hsz;obtain⟨hc,h⟩:=gG h;cases h;simp only[aZ] at hc;obtain⟨⟨⟨c1,c2⟩,c3⟩,c4⟩:=hc;obtain⟨s,h1,h2⟩:=(bS (E:=E) hi hg hv).rZ;obtain⟨s',l,h3,h4,h5⟩:=hi.ob _ _ hl;rw[h1] at h3;cases h3;obtain⟨h6,h7⟩:=yK c4 (bS (E:=E) hi hg hx);refine⟨aP,_,Z,.kL (o:=o) ?_,(hi.le (kU _)).set p s ⟨s,_,h1,sP _ _ _ _,Yd off h5 h6⟩,rfl,gY,fun q _=>bT.set hl rfl⟩;simp only[dK,hop,h2,h4,Option.bind_some];rw[if_pos ⟨by rw[hsz,h6.length,fT c1],by rw[h6.length,h5.length];exact oJ c2,MZ c3 h6⟩]
   .cases h
  .cases h
 ·
  rename_i x hop;split at h
  .rename_i p off hv;cases h;have hr:=bS (E:=E) hi hg hv;obtain⟨s,h1,h2⟩:=hr.rZ;exact .tt (y:=fr.ev E x) QA hr
  .rename_i p off hv;cases h;have hr:=bS (E:=E) hi hg hv;obtain⟨s,h2,h1⟩:=hr.uJ;exact .tt (y:=fr.ev E x) QA hr
  .rename_i p τ i off hv;cases h;have hr:=bS (E:=E) hi hg hv;obtain⟨s,h1,_,h2⟩:=hr.Fw;exact .tt (y:=fr.ev E x) QA hr
  .rename_i f a' b' hv;cases h;have hr:=bS (E:=E) hi hg hv;obtain⟨a',b',h2,h1⟩:=hr.pF;exact .tt (y:=fr.ev E x) QA hr
  .cases h
 ·
  rename_i op t x y t' hop;split at h
  .rename_i x' y' hx hy;exact .val (at7 h (bS (E:=E) hi hg hx) (bS (E:=E) hi hg hy)) fun z hz=>BM
  .cases h
 ·
  rename_i op t x hop;split at h
  .rename_i x' hx;exact .val (aua h (bS (E:=E) hi hg hx)) fun z hz=>BM
  .cases h
 ·
  rename_i a' b' x hop;split at h
  .rename_i x' hx;exact .val (auc (Y:=Y) h (bS (E:=E) hi hg hx)) fun z hz=>BM
  .cases h
 ·
  rename_i f a' b' hop;split at h
  .rename_i xs ys hx hy;cases h;exact .tt (y:=.fn (.func f) (a'.toList.map (fr.ev E)) (b'.toList.map (fr.ev E))) (by simp only[dK,hop]) (by unfold aC;exact⟨_,_,rfl,zJ (E:=E) hi hg hx,zJ (E:=E) hi hg hy⟩)
  .cases h
 ·
  rename_i t hop;split at h
  .rename_i d k e hd ht;split at h
   .rename_i k' e' hk he;cases h;refine⟨.fq (Z.aj.lc d) aN,_,Z.oz d aN,.kL (o:=o) ?_,(hi.le (kU _)).new d aN (a:=.map [] []) ⟨aN,Ak,map_eq Y (Z.aj.lc d) aN [] []⟩,rfl,Gu,fun q hq=>bT.new (fun e=>hq.1 GA)⟩;simp only[dK,hop,hd,Option.map_some,hi.at (iQ _ hd)]
   .cases h;refine⟨.fq (Z.aj.lc d) aN,_,Z.oz d aN,.kL (o:=o) ?_,(hi.le (kU _)).new d aN (a:=.map [] []) ⟨aN,[],[],Ak,map_eq Y (Z.aj.lc d) aN [] [],rfl,rfl⟩,rfl,Gu,fun q hq=>bT.new (fun e=>hq.1 GA)⟩;simp only[dK,hop,hd,Option.map_some,hi.at (iQ _ hd)]
  .cases h
 ·
  rename_i t l c hop;split at h
  .rename_i n m hn hm;refine auy hR h (bS (E:=E) hi hg hn) (bS (E:=E) hi hg hm) hi rfl fun y Y' hy=>.kL ?_;have e:(o.dst.map fun t=>(fr.d,t))=o.dst.map fun t=>(Z.aj.lc t):=hi.ajw iQ;simp only[dK,hop];rw[e,hi.aj,bQ];exact hy
  .cases h
 ·
  rename_i t x lo hi' hop;split at h
  .rename_i x' hx;have o9:=bS (E:=E) hi hg hx;split at h
   .exact .val (SG hR (Y:=Y) (vl:=none) (vh:=none) h o9 hi (fun y hy=>by cases hy) (fun _=>rfl) (fun y hy=>by cases hy) (fun _=>rfl)) fun z hz=>Qs
   .rename_i lo;split at h
    .rename_i l hl;exact .val (SG hR (Y:=Y) (vl:=some (fr.ev E lo)) (vh:=none) h o9 hi (fun y hy=>by cases hy;exact⟨_,rfl,bS (E:=E) hi hg hl⟩) (fun h=>cZ) (fun y hy=>by cases hy) (fun _=>rfl)) fun z hz=>Qs
    .cases h
   .rename_i hi2;split at h
    .rename_i l hl;exact .val (SG hR (Y:=Y) (vl:=none) (vh:=some (fr.ev E hi2)) h o9 hi (fun y hy=>by cases hy) (fun _=>rfl) (fun y hy=>by cases hy;exact⟨_,rfl,bS (E:=E) hi hg hl⟩) (fun h=>cZ)) fun z hz=>Qs
    .cases h
   .rename_i lo hi2;split at h
    .rename_i l l2 hl hl2;exact .val (SG hR (Y:=Y) (vl:=some (fr.ev E lo)) (vh:=some (fr.ev E hi2)) h o9 hi (fun y hy=>by cases hy;exact⟨_,rfl,bS (E:=E) hi hg hl⟩) (fun h=>cZ) (fun y hy=>by cases hy;exact⟨_,rfl,bS (E:=E) hi hg hl2⟩) (fun h=>cZ)) fun z hz=>Qs
    .cases h
  .cases h
 ·
  rename_i t x f hop;split at h
  .rename_i x' hx;have o9:=bS (E:=E) hi hg hx;split at h
   .rename_i v hv;cases h;unfold ahU at hv;split at hv
    .rename_i p u hf;split at hv
     .rename_i q off;cases hv;obtain⟨s,h1,h2⟩:=o9.rZ;exact .tt (y:=.ref (Z.aj.lc q) s (off+p)) (by simp only[dK,hop,hf,Option.bind_some,h2]) (by unfold aC;exact⟨s,h1,rfl⟩)
     .rename_i q off;cases hv;obtain⟨l,h2,h1⟩:=o9.uJ;exact .tt (y:=.aW l (off+p)) (by simp only[dK,hop,hf,Option.bind_some,h2]) (by unfold aC;exact⟨l,rfl,h1⟩)
     .rename_i q τ i off;cases hv;obtain⟨s,h1,h3,h2⟩:=o9.Fw;exact .tt (y:=.ref (Z.aj.lc q) s (i.toNat*dL R τ+off+p)) (by simp only[dK,hop,hf,Option.bind_some,h2]) (by unfold aC;exact⟨s,h1,h3,by rw[oZ]⟩)
     .cases hv
    .cases hv
   .cases h
  .cases h
 ·
  rename_i t x f hop;split at h
  .rename_i p u cs hf hx;split at h
   .rename_i v hv;cases h;obtain⟨l,h1,h2⟩:=(bS (E:=E) hi hg hx).mY;obtain⟨y,hy,hr⟩:=A8 h2 hv;exact .tt (by simp only[dK,hop,hf,Option.bind_some,h1,hy,Option.map_some]) hr
   .cases h
  .cases h
 ·
  rename_i t x i hop;split at h
  .rename_i p τ y' hx hy;exact .val (auC hR (aj:=false) h (bS (E:=E) hi hg hx) (bS (E:=E) hi hg hy) hi) fun z hz=>BM
  .rename_i p τ a c y' hx hy;exact .val (auB hR h (bS (E:=E) hi hg hx) (bS (E:=E) hi hg hy) hi) fun z hz=>BM
  .rename_i x' y' _ _ hx hy;exact .val (auL hR h (bS (E:=E) hi hg hx) (bS (E:=E) hi hg hy)) fun z hz=>BM
  .cases h
 ·
  rename_i t x i hop;split at h
  .rename_i x' y' hx hy;exact .val (auM h (bS (E:=E) hi hg hx) (bS (E:=E) hi hg hy)) fun z hz=>BM
  .cases h
 ·
  rename_i t x i ok hop;split at h
  .rename_i x' y' hx hy;exact .val (auY hR h (bS (E:=E) hi hg hx) (bS (E:=E) hi hg hy) hi) fun z hz=>BM
  .cases h
 ·
  rename_i t m k v hop;split at h
  .rename_i m' k' v' hm hk hv;exact ajv hR h (bS (E:=E) hi hg hm) (bS (E:=E) hi hg hk) (bS (E:=E) hi hg hv) hi fun Y' hs=>by simp only[dK,hop,hs,Option.map_some]
  .cases h
 .rename_i t m k v hop;split at h
  .rename_i m' k' v' hm hk hv;exact ajv hR h (bS (E:=E) hi hg hm) (bS (E:=E) hi hg hk) (bS (E:=E) hi hg hv) hi fun Y' hs=>by simp only[dK,hop,hs,Option.map_some]
  .cases h
 ·
  rename_i x i hop;split at h
  .rename_i vs hv;split at h
   .rename_i v hx;cases h;obtain⟨l,h1,h2⟩:=(bS (E:=E) hi hg hv).IU;obtain⟨y,hy,hr⟩:=h2.get hx;exact .tt (by simp only[dK,hop,h1,hy,Option.map_some]) hr
   .cases h
  .cases h
 ·
  rename_i c hop;split at h
  .rename_i bi fV;split at h
   .rename_i vs hvs;have hrs:=zJ (E:=E) hi hg hvs;have step:∀y Y',qN E fr.aj (o.dst.map fun t=>(fr.d,E.cn t)) Y aN bi c.argTypes (c.args.toList.map (fr.ev E))=some (y,Y')->oC E fr Y aN o y Y':=fun y Y' hb=>.of fun S=>by simp only[opC,hop,fV,hb,Option.map_some]
    unfold blt at h;split at h
    .rename_i x;split at h
     .rename_i t ht;split at h
      .rename_i n hn;cases h;obtain⟨v,l,e,h1,h2⟩:=hrs.fZ;rw[h2.jq] at e;refine⟨_,step _ Y ?_,gY⟩;rw[e];simp only[qN,ht,Option.bind_some,auj hn h1 hi,Option.map_some]
      .cases h
     .cases h
    .rename_i x y;split at h
     .rename_i t u ht hu;obtain⟨v,l,e,h1,h2⟩:=hrs.fZ;obtain⟨w,l',e',h3,h4⟩:=h2.fZ;subst e';rw[h4.jq] at e;have e0:(o.dst.map fun t=>(fr.d,t))=o.dst.map fun t=>(Z.aj.lc t):=hi.ajw iQ;have fin:Iy E u=true->∀z Y',kI E.P aj false Y aN (o.dst.map fun t=>(fr.d,E.cn t)) t v w=some (z,Y')->oC E fr Y aN o z Y':=fun hss z Y' hz=>step z Y' (by
       rw[e];unfold Iy at hss;simp only[qN,ht,hu,Option.bind_some,hi.aj,bQ];split at hss
       .rename_i hu';rw[hu'];simp only[hz,Option.bind_some]
       .rename_i hu';rw[hu'];simp only[hz,Option.bind_some]
       .cases hss)
      cases ajB:aj
      .rw[ajB] at h fin;have h':MK E R o.dst t u x y st=some r:=h;have hss:Iy E u=true:=by
        unfold MK at h';split at h'
        .split at h'
         .exact(gG h').1
         .cases h'
        .cases h'
       exact aui hR (loc:=o.dst.map fun t=>(fr.d,E.cn t)) h' h1 h3 hi (fin hss)
      .rw[ajB] at h fin;have h':ML E R o.dst t u x y st=some r:=h;have hss:Iy E u=true:=by
        unfold ML at h';split at h'
        .rename_i d' _;cases hbl:Nat.ble F0 (E.cn d') with
         |true=>rw[hbl] at h';cases h'|false=>
          rw[hbl,cond_false] at h';split at h'
          .exact(gG h').1
          .cases h'
        .cases h'
       exact auw hR h' h1 h3 hi rfl (fin hss)
     .cases h
    .rename_i x;split at h
     .rename_i t ht;obtain⟨v,l,e,h1,h2⟩:=hrs.fZ;rw[h2.jq] at e;exact avb hR h h1 hi fun y Y' hy=>step y Y' (by rw[e];simp only[qN,ht,Option.bind_some,hy])
     .cases h
    .rename_i x l;split at h
     .rename_i v hv;cases h;obtain⟨y,ys,e,h1,h2⟩:=hrs.fZ;obtain⟨w,hw,hr⟩:=Ym false hv h1 h2;refine⟨w,step w Y ?_,hr⟩;rw[e];simp only[qN,hw,Option.map_some]
     .cases h
    .rename_i x l;split at h
     .rename_i v hv;cases h;obtain⟨y,ys,e,h1,h2⟩:=hrs.fZ;obtain⟨w,hw,hr⟩:=Ym true hv h1 h2;refine⟨w,step w Y ?_,hr⟩;rw[e];simp only[qN,hw,Option.map_some]
     .cases h
    .cases h
   .cases h
  .rename_i f fV;split at h
   .rename_i f' a' b' vs hf hvs;cases himp:E.imp f' with
    |true=>rw[himp] at h;cases h|false=>rw[himp,cond_false] at h;obtain⟨va,vb,h1,h2,h3⟩:=(bS (E:=E) hi hg hf).pF;exact ajj hR hF hop fV h1 himp ((h2.append (zJ (E:=E) hi hg hvs)).append h3) hi (fun _ hx=>hx) h
   .cases h
  .cases h
 .cases h
theorem zL {aj:Bool}{F:Nat->List (iy R)}(hF:bg E F)(bQ:Z.aj.aj=aj)(iQ:∀d,o.dst=some d->d<F0){g:List (Nat×Bool)}(hg:tu fr g)(hi:aT Z aN st fr Y){r:fC R}(h:zC E R aj F g o.dst o.op st=some r):tF E st Z aN fr Y o r:=by
 unfold zC at h;split at h
 .rename_i r' hx;cases h;exact au0 hR iQ hg hi hx
 .exact avc hR hF bQ iQ hg hi h
end
section
variable {R:jV}{E:Env}{Z Z':bC}{b aN:Nat}{st:aO R.T}{fr:Fr}{Y:ah}{o:Oper}(hR:rX R)
include hR
def Nb (E:Env)(g:Nat)(r:qV R):Prop:=∀p q y q',r.F p q=some (y,q')->∀(Z:bC)(vs:List V)(Y:ah),Z.aj.aj=E.aj g->(∀t,Z.tk t=none)->Z.aj.lo<=Y.next->
 aJ R Z Y.top (jI R .any r.args p) vs->(∀o x,look (mE R r.obs q) o=some x->gK Z Y o x)->
 iX E g vs Z.aj.dp Y fun v Y'=>(∃ws,v=jW ws/\aJ R Z Y'.top (jI R .any r.res y) ws)/\(∀o x,look (mE R r.obs q') o=some x->gK Z Y' o x)/\Y.next<=Y'.next/\(∀l,l<Y.next->Y'.loops l=Y.loops l)/\(∀s,s<Z.aj.lo->Y'.top s=Y.top s)/\
  ∀L:Loc,L.1<=Z.aj.dp->Z.aj.out L->Y'.obj L=Y.obj L
def Tc (E:Env)(M:Nat->List (qV R)):Prop:=∀g,∀r∈M g,E.imp g=true/\Nb E g r
omit hR in
theorem ajC {i:Nat}:∀{l:List Nat},bM i l=true->i∈l
 | [],h=>cZ|j::l,h=>by
  have h':(Nat.beq i j||bM i l)=true:=h;rw[wI] at h';rcases h' with h'|h'
  .rw[fT h'];exact jv ..
  .exact jT _ (ajC h')
omit hR in
theorem YG {i:Nat}:∀{l:List Nat},i∈l->bM i l=true
 | [],h=>cZ|j::l,h=>by
  show (Nat.beq i j||bM i l)=true;rw[wI];rcases jr.1 h with h|h
  .left;rw[h];exact y9 _
  .right;exact YG h
omit hR in
theorem ajD:∀{l:List Nat}{n o p:Nat},look (mG l n) o=some p->n<=p/\l[p-n]? =some o
 | [],_,_,_,h=>cZ|a::l,n,o,p,h=>by
  have h':look ((a,n)::mG l (n+1)) o=some p:=h;by_cases e:o=a
  .subst e;rw[oh] at h';cases h';exact⟨iR _,aD⟩
  .rw[kR _ _ e] at h';obtain⟨h1,h2⟩:=ajD h';refine⟨RS,?_⟩;have:p-n=(p-(n+1))+1:=RS
   rw[this];simpa using h2
omit hR in
theorem ajE:∀{l:List Nat}{n o p:Nat},look (Sm (mG l n)) p=some o->n<=p/\l[p-n]? =some o
 | [],_,_,_,h=>cZ|a::l,n,o,p,h=>by
  have h':look ((n,a)::Sm (mG l (n+1))) p=some o:=h;by_cases e:p=n
  .subst e;rw[oh] at h';cases h';exact⟨iR _,aD⟩
  .rw[kR _ _ e] at h';obtain⟨h1,h2⟩:=ajE h';refine⟨RS,?_⟩;have:p-n=(p-(n+1))+1:=RS
   rw[this];simpa using h2
omit hR in
theorem ajF:∀{l:List Nat},Fj l=true->∀{i j o:Nat},l[i]? =some o->l[j]? =some o->i=j
 | [],_,i,j,o,hi,_=>by simp at hi|a::l,h,i,j,o,hi,hj=>by
  have h':(!(bM a l)&& Fj l)=true:=h;rw[aZ,xY] at h';cases i with
  |zero=>
   cases j with
   |zero=>rfl|succ j=>have e:a=o:=kg;have e2:l[j]? =some o:=Ed;rw[e,YG (tX e2)] at h';exact absurd h'.1 aD
  |succ i=>
   cases j with
   |zero=>have e:a=o:=Ed;have e2:l[i]? =some o:=kg;rw[e,YG (tX e2)] at h';exact absurd h'.1 aD|succ j=>rw[ajF h'.2 (show l[i]? =some o by simpa using hi) (show l[j]? =some o by simpa using hj)]
omit hR in
theorem YH:∀{l:List Nat}{n p:Nat}{x:bL R.T},look (IJ st (mG l n)) p=some x->∃o,n<=p/\l[p-n]? =some o/\look st.ob o=some x
 | [],_,_,_,h=>cZ|a::l,n,p,x,h=>by
  have up:look (IJ st (mG l (n+1))) p=some x->∃o,n<=p/\(a::l)[p-n]? =some o/\look st.ob o=some x:=fun h=>by
   obtain⟨o,h1,h2,h3⟩:=YH h;refine⟨o,RS,?_,h3⟩;have:p-n=(p-(n+1))+1:=RS
   rw[this];simpa using h2
  have h':=h;unfold mG IJ at h';split at h'
  .rename_i y hy;by_cases e:p=n
   .subst e;rw[oh] at h';cases h';exact⟨a,iR _,aD,hy⟩
   .rw[kR _ _ e] at h';exact up h'
  .exact up h'
omit hR in
theorem YI {L:List (Nat×bL R.T)}:∀{l:List Nat}{n o:Nat}{y:bL R.T},look (wY (mG l n) L) o=some y->∃p,n<=p/\l[p-n]? =some o/\look L p=some y
 | [],_,_,_,h=>cZ|a::l,n,o,y,h=>by
  have up:look (wY (mG l (n+1)) L) o=some y->∃p,n<=p/\(a::l)[p-n]? =some o/\look L p=some y:=fun h=>by
   obtain⟨p,h1,h2,h3⟩:=YI h;refine⟨p,RS,?_,h3⟩;have:p-n=(p-(n+1))+1:=RS
   rw[this];simpa using h2
  have h':=h;unfold mG wY at h';split at h'
  .rename_i z hz;by_cases e:o=a
   .subst e;rw[oh] at h';cases h';exact⟨n,iR _,aD,hz⟩
   .rw[kR _ _ e] at h';exact up h'
  .exact up h'
omit hR in
theorem ajG {L:List (Nat×bL R.T)}:∀{l:List Nat}{n o:Nat},(∀p,n<=p->p<n+l.length->∃y,look L p=some y)->look (wY (mG l n) L) o=none->o∉l
 | [],_,_,_,_=>aD|a::l,n,o,hL,h=>by
  obtain⟨y,hy⟩:=hL n (iR _) aD;have h':=h;unfold mG wY at h';rw[hy] at h';by_cases e:o=a
  .subst e;rw[oh] at h';cases h'
  .rw[kR _ _ e] at h';have:=ajG (fun p h1 h2=>hL p RS (by rw[List.length_cons];omega)) h';simp[e,this]
omit hR in
theorem Td:∀{l:List Nat}{n:Nat}{obs:List (Nat×iC)}{q:lX R.T obs},IK (mG l n) obs=true->∀p,n<=p->p<n+l.length->∃y,look (mE R obs q) p=some y
 | [],n,_,_,_,p,h1,h2=>Lh|a::l,n,[],_,h,_,_,_=>cZ|a::l,n,[(j,k)],q,h,p,h1,h2=>by
  have h':(Nat.beq n j&& IK (mG l (n+1)) [])=true:=h;rw[aZ] at h';have hj:=fT h'.1;subst hj;by_cases e:p=n
  .subst e;exact⟨_,oh _ _ _⟩
  .obtain⟨y,hy⟩:=Td (q:=show lX R.T [] from ()) h'.2 p RS (by rw[List.length_cons] at h2;omega);cases hy
 |a::l,n,(j,k)::x::obs,q,h,p,h1,h2=>by
  have h':(Nat.beq n j&& IK (mG l (n+1)) (x::obs))=true:=h;rw[aZ] at h';have hj:=fT h'.1;subst hj;show∃y,look ((n,pz R k q.1)::mE R (x::obs) q.2) p=some y;by_cases e:p=n
  .subst e;exact⟨_,oh _ _ _⟩
  .rw[kR _ _ e];exact Td h'.2 p RS (by rw[List.length_cons] at h2;omega)
omit hR in
theorem Te {L:List (Nat×bL R.T)}:∀(l:List (Nat×iC))(x:lX R.T l),pE R L l=some x->∀i v,look (mE R l x) i=some v->∃k y z,look L i=some y/\CB R k y=some z/\v=pz R k z/\(wZ l=true->okO k=true)
 | [],x,hx,i,v,hv=>Ej| [(j,k)],x,hx,i,v,hv=>by
   unfold pE at hx;split at hx
   .rename_i y hy;by_cases e:i=j
    .subst e;have hv':look [(i,pz R k x)] i=some v:=hv;rw[oh] at hv';cases hv';exact⟨k,y,x,hy,hx,rfl,fun h=>by unfold wZ at h;rw[aZ] at h;exact h.1⟩
    .have hv':look [(j,pz R k x)] i=some v:=hv;rw[kR _ _ e] at hv';cases hv'
   .cases hx
 | (j,k)::q::l,x,hx,i,v,hv=>by
   unfold pE at hx;split at hx
   .rename_i y hy;cases hu:CB R k y with
    |none=>simp only[hu] at hx;cases hx|some z=>
     cases hs:pE R L (q::l) with
     |none=>simp only[hu,hs] at hx;cases hx|some p=>
      simp only[hu,hs] at hx;obtain rfl:=kS hx;have hv':look ((j,pz R k z)::mE R (q::l) p) i=some v:=hv;by_cases e:i=j
      .subst e;rw[oh] at hv';cases hv';exact⟨k,y,z,hy,hu,rfl,fun h=>by unfold wZ at h;rw[aZ] at h;exact h.1⟩
      .rw[kR _ _ e] at hv';obtain⟨k',y',z',h1,h2,h3,h4⟩:=Te (q::l) p hs i v hv';exact⟨k',y',z',h1,h2,h3,fun h=>h4 (by unfold wZ at h;rw[aZ] at h;exact h.2)⟩
   .cases hx
omit hR in
theorem ajH:∀{l:List (Nat×iC)}{x:lX R.T l},wZ l=true->∀{i:Nat}{v:bL R.T},look (mE R l x) i=some v->∃k z,okO k=true/\v=pz R k z
 | [],x,_,i,v,hv=>Ej| [(j,k)],x,h,i,v,hv=>by
   unfold wZ at h;rw[aZ] at h;have hv':look [(j,pz R k x)] i=some v:=hv;by_cases e:i=j
   .subst e;rw[oh] at hv';cases hv';exact⟨k,x,h.1,rfl⟩
   .rw[kR _ _ e] at hv';cases hv'
 | (j,k)::q::l,x,h,i,v,hv=>by
   unfold wZ at h;rw[aZ] at h;have hv':look ((j,pz R k x.1)::mE R (q::l) x.2) i=some v:=hv;by_cases e:i=j
   .subst e;rw[oh] at hv';cases hv';exact⟨k,x.1,h.1,rfl⟩
   .rw[kR _ _ e] at hv';exact ajH h.2 hv'
omit hR in
theorem avf {top top':Nat->Nat}{t:Ty}{x:Den R.T t}{v:V}(h:aC R Z top (je R .any t x) v):aC R Z' top' (je R .any t x) v:=by
 cases t with
 |st n=>obtain⟨l,hv,hl⟩:=aC.mY (R:=R) h;exact⟨l,hv,CS _ _ _ hl⟩
 |int k=>exact h|bool=>exact h|str=>exact h|slice t=>exact h
omit hR in
mutual
theorem ajI {top top':Nat->Nat}:∀(k:bO)(z:sQ R.T k)(v:V),Sk k=true->aC R Z top (up R .any k z) v->aC R Z' top' (up R .any k z) v
 |.d t,z,v,_,h=>by unfold up at h⊢;exact avf h|.aW l off,z,v,hd,h=>by unfold up at h⊢;obtain⟨cs,rfl,h1⟩:=h.uJ;unfold aC;exact⟨cs,rfl,Nc (by unfold Sk at hd;exact hd) h1⟩
 |.fn f a b,z,v,hd,h=>by unfold up at h⊢;obtain⟨x,y,rfl,h1,h2⟩:=h.pF;unfold Sk at hd;rw[aZ] at hd;unfold aC;exact⟨x,y,rfl,Nc hd.1 h1,Nc hd.2 h2⟩
 |.l _ _,_,_,hd,_=>uW|.agg _,_,_,hd,_=>uW|.ref _ _,_,_,hd,_=>uW|.fq _,_,_,hd,_=>uW|.fD _ _,_,_,hd,_=>uW|.fQ,_,_,hd,_=>uW|.aS _ _,_,_,hd,_=>uW|.sub _ _,_,_,hd,_=>uW|.sg _,_,_,hd,_=>uW|.undef,_,_,hd,_=>uW
theorem Nc {top top':Nat->Nat}:∀{l:List bO}{z:aV R.T l}{cs:List V},CO l=true->aJ R Z top (jI R .any l z) cs->aJ R Z' top' (jI R .any l z) cs
 | [],_,_,_,h=>h| [k],z,cs,hd,h=>by unfold CO at hd;rw[aZ] at hd;obtain⟨v,ws,rfl,h1,h2⟩:=aJ.fZ (ts:=[]) (show aJ R Z top [up R .any k z] cs from h);rw[h2.jq];exact .cons' (ajI k z v hd.1 h1) rfl
 |k::q::l,z,cs,hd,h=>by unfold CO at hd;rw[aZ] at hd;obtain⟨v,ws,rfl,h1,h2⟩:=aJ.fZ (show aJ R Z top (up R .any k z.1::jI R .any (q::l) z.2) cs from h);exact .cons' (ajI k z.1 v hd.1 h1) (Nc (l:=q::l) hd.2 h2)
end
omit hR in
theorem YJ {o p:Nat}{k:iC}{z:ET R.T k}(hk:okO k=true)(hb:Z'.ob p=Z.ob o)(hn:Z'.ln p=Z.ln o)(hl:Z'.aj.lc p=Z.aj.lc o)(h:gK Z Y o (pz R k z)):gK Z' Y p (pz R k z):=by
 cases k with
 |cells l=>obtain⟨s,cs,h1,h2,h3⟩:=h;exact⟨s,cs,Li,Lj,Nc hk h3⟩
 |st n=>obtain⟨s,cs,h1,h2,h3⟩:=h;exact⟨s,cs,Li,Lj,CS _ _ _ h3⟩
 |map k e=>obtain⟨s,h1,h2⟩:=h;exact⟨s,Li,Lj⟩
 |arr t=>
  refine⟨h.1.trans hn.symm,?_⟩;rcases h.2 with h| ⟨s,cs,h1,h2,h3⟩
  .exact .inl ⟨h.1,by rw[hb];exact h.2⟩
  .exact .inr ⟨s,cs,Li,Lj,zH _ cs h3⟩
 |sg l=>obtain⟨s,h1,h2⟩:=h;exact⟨s,Li,Lj⟩
omit hR in
mutual
theorem aC.ren {top:Nat->Nat}{m:List (Nat×Nat)}(hm:∀o p,look m o=some p->Z'.aj.lc p=Z.aj.lc o/\Z'.ob p=Z.ob o/\Z'.ln p=Z.ln o):∀(x:aA R.T)(v:V),aC R Z top x v->aC R Z' top (zF m x) v
 |.ref o off,v,h=>by
  obtain⟨s,h1,h2⟩:=h;unfold zF;split
  .rename_i p hp;obtain⟨a,b,c⟩:=hm _ _ hp;exact⟨s,Ee,Ll⟩
  .unfold aC;trivial
 |.fq o,v,h=>by
  obtain⟨s,h1,h2⟩:=h;unfold zF;split
  .rename_i p hp;obtain⟨a,b,c⟩:=hm _ _ hp;exact⟨s,Ee,Ll⟩
  .unfold aC;trivial
 |.aS o t,v,h=>by
  unfold zF;split
  .rename_i p hp;obtain⟨a,b,c⟩:=hm _ _ hp;rcases h with ⟨s,h1,h2⟩| ⟨h1,h2⟩
   .exact .inl ⟨s,Ee,by rw[a,c];exact h2⟩
   .exact .inr ⟨by rw[c];exact h1,h2⟩
  .unfold aC;trivial
 |.sub o t x y,v,h=>by
  unfold zF;split
  .rename_i p hp;obtain⟨a,b,c⟩:=hm _ _ hp;obtain⟨g0,g1,g2,h⟩:=h;refine⟨g0,g1,by rw[c];exact g2,?_⟩;rcases h with ⟨s,cp,h1,h2,h3⟩|h
   .exact .inl ⟨s,cp,Ee,h2,by rw[a];exact h3⟩
   .exact .inr h
  .unfold aC;trivial
 |.mV o t i off,v,h=>by
  obtain⟨s,h1,h2⟩:=h;unfold zF;split
  .rename_i p hp;obtain⟨a,b,c⟩:=hm _ _ hp;exact⟨s,Ee,Ll⟩
  .unfold aC;trivial
 |.sv o _ _ _ _ _,v,h=>by
  obtain⟨s,h1,h2⟩:=h;unfold zF;split
  .rename_i p hp;obtain⟨a,b,c⟩:=hm _ _ hp;exact⟨s,Ee,Ll⟩
  .unfold aC;trivial
 |.sel o _ _ _ _ _,v,h=>by
  obtain⟨s,h1,h2⟩:=h;unfold zF;split
  .rename_i p hp;obtain⟨a,b,c⟩:=hm _ _ hp;exact⟨s,Ee,Ll⟩
  .unfold aC;trivial
 |.ak c t l,v,h=>by
  obtain⟨c',hv,hc⟩:=h;unfold zF;cases c with
  |own u=>exact⟨c',hv,trivial⟩|any=>exact⟨c',hv,trivial⟩|sh=>exact⟨c',hv,hc⟩|nil=>exact⟨c',hv,hc⟩|full=>exact⟨c',hv,hc⟩
 |.agg cs,v,h=>by obtain⟨l,hv,hl⟩:=h;exact⟨l,hv,aJ.ren hm cs l hl⟩
 |.bV cs,v,h=>by obtain⟨l,hv,hl⟩:=h;exact⟨l,hv,aJ.ren hm cs l hl⟩
 |.aW cs off,v,h=>by obtain⟨l,hv,hl⟩:=h;exact⟨l,hv,aJ.ren hm cs l hl⟩
 |.fn f a b,v,h=>by obtain⟨a',b',hv,ha,hb⟩:=h;exact⟨a',b',hv,aJ.ren hm a a' ha,aJ.ren hm b b' hb⟩
 |.opt _ _ _,_,h=>h.elim|.int _ _,_,h=>h|.bool _,_,h=>h|.jH _,_,h=>h|.str _,_,h=>h|.gZ,_,h=>h|.gL,_,h=>h|.iq,_,h=>h|.iO,_,h=>h|.fQ,_,h=>h|.fD _ _ _,_,h=>h|.undef,_,h=>h|.sg _,_,h=>h|.vH _ _ _ _,_,h=>h|.gone,_,h=>h
theorem aJ.ren {top:Nat->Nat}{m:List (Nat×Nat)}(hm:∀o p,look m o=some p->Z'.aj.lc p=Z.aj.lc o/\Z'.ob p=Z.ob o/\Z'.ln p=Z.ln o):∀(x:List (aA R.T))(v:List V),aJ R Z top x v->aJ R Z' top (AU m x) v
 | [],_,h=>h|x::xs,_,⟨v,vs,e,h1,h2⟩=>⟨v,vs,e,aC.ren hm x v h1,aJ.ren hm xs vs h2⟩
end
omit hR in
mutual
theorem aC.top {Z:bC}{t t':Nat->Nat}(ht:∀u s,Z.tk u=some s->t' s=t s):∀(x:aA R.T)(v:V),aC R Z t x v->aC R Z t' x v
 |.ak c ty l,v,h=>by
  obtain⟨c',hv,hc⟩:=h;refine⟨c',hv,?_⟩;cases c<;>first|exact hc|skip
  rcases hc with hc|hc| ⟨s,h1,h2,h3⟩
  .exact .inl hc
  .exact .inr (.inl hc)
  .exact .inr (.inr ⟨s,h1,h2,(ht _ _ h2).trans h3⟩)
 |.agg cs,v,h=>by obtain⟨l,hv,hl⟩:=h;exact⟨l,hv,aJ.top ht cs l hl⟩
 |.bV cs,v,h=>by obtain⟨l,hv,hl⟩:=h;exact⟨l,hv,aJ.top ht cs l hl⟩
 |.aW cs off,v,h=>by obtain⟨l,hv,hl⟩:=h;exact⟨l,hv,aJ.top ht cs l hl⟩
 |.fn f a b,v,h=>by obtain⟨a',b',hv,ha,hb⟩:=h;exact⟨a',b',hv,aJ.top ht a a' ha,aJ.top ht b b' hb⟩
 |.ref _ _,_,h=>h|.fq _,_,h=>h|.aS _ _,_,h=>h|.sub _ _ _ _,_,h=>h|.mV _ _ _ _,_,h=>h|.opt _ _ _,_,h=>h.elim|.int _ _,_,h=>h|.bool _,_,h=>h|.jH _,_,h=>h|.str _,_,h=>h|.gZ,_,h=>h|.gL,_,h=>h|.iq,_,h=>h|.iO,_,h=>h|.fQ,_,h=>h|.fD _ _ _,_,h=>h|.undef,_,h=>h|.sg _,_,h=>h|.sv _ _ _ _ _ _,_,h=>h|.sel _ _ _ _ _ _,_,h=>h|.vH _ _ _ _,_,h=>h|.gone,_,h=>h
theorem aJ.top {Z:bC}{t t':Nat->Nat}(ht:∀u s,Z.tk u=some s->t' s=t s):∀(x:List (aA R.T))(v:List V),aJ R Z t x v->aJ R Z t' x v
 | [],_,h=>h|x::xs,_,⟨v,vs,e,h1,h2⟩=>⟨v,vs,e,aC.top ht x v h1,aJ.top ht xs vs h2⟩
end
omit hR in
theorem kC.top {fr:Fr}{Z:bC}{t t':Nat->Nat}(ht:∀u s,Z.tk u=some s->t' s=t s){x:aA R.T}{v:V}(h:kC fr Z t x v):kC fr Z t' x v:=by
 cases x with
 |opt j w y=>exact⟨fun hc=>aC.top ht y v (h.1 hc),h.2⟩
 |_=>exact .of (aC.top ht _ v h)
omit hR in
theorem YK {Z:bC}{Y Y':ah}{p:Nat}(hp:Y'.obj (Z.aj.lc p)=Y.obj (Z.aj.lc p))(ht:∀u s,Z.tk u=some s->Y'.top s=Y.top s):∀{x:bL R.T},gK Z Y p x->gK Z Y' p x
 |.cells cs,h=>by obtain⟨s,l,h1,h2,h3⟩:=h;exact⟨s,l,h1,Gt,aJ.top ht _ _ h3⟩
 |.map k e m,h=>by obtain⟨s,h1,h2⟩:=h;exact⟨s,h1,Qt⟩
 |.smap ks vs,h=>by obtain⟨s,k,l,h1,h2,h3,h4⟩:=h;exact⟨s,k,l,h1,Qt,aJ.top ht _ _ h3,aJ.top ht _ _ h4⟩
 |.arr t l,h=>by
  refine⟨h.1,?_⟩;rcases h.2 with h| ⟨s,cs,h1,h2,h3⟩
  .exact .inl h
  .exact .inr ⟨s,cs,h1,Gt,zH l cs h3⟩
 |.sg ss,h=>by obtain⟨s,h1,h2⟩:=h;exact⟨s,h1,Gt⟩
 |.gone,_=>trivial|.ro b,h=>YK hp ht (x:=b) h
omit hR in
theorem aT.shift {Z:bC}{b:Nat}{st:aO R.T}{fr:Fr}{Y Y':ah}(h:aT Z b st fr Y)(hp:∀p,Y'.obj (Z.aj.lc p)=Y.obj (Z.aj.lc p))(ht:∀s,s<b->Y'.top s=Y.top s):aT Z b st fr Y':={h with
 fr:=fun i v hv=>(h.fr i v hv).top fun u s hu=>ht s (h.lt u s hu)
 ob:=fun o x hx=>YK (hp o) (fun u s hu=>ht s (h.lt u s hu)) (h.ob o x hx)}
omit hR in
theorem avg {top:Nat->Nat}{xs:List (aA R.T)}{vs:List V}(h:aJ R Z top xs vs):aC R Z top (ah4 xs) (jW vs):=by
 match xs,vs,h with
 | [],_,h=>rw[h.jq];exact⟨[],rfl,rfl⟩| [x],_,h=>obtain⟨v,l,rfl,h1,h2⟩:=h.fZ;rw[h2.jq];exact h1
 |x::y::l,_,h=>obtain⟨v,ws,rfl,h1,h2⟩:=h.fZ;obtain⟨w,us,rfl,h3,h4⟩:=h2.fZ;exact⟨v::w::us,rfl,.cons' h1 (.cons' h3 h4)⟩
omit hR in
theorem ajJ {m:List (Nat×Nat)}{A:List (aA R.T)}{B:List (Nat×bL R.T)}:∀{l:List (qV R)}{r:qV R}{x:Option (aV R.T r.res×lX R.T r.obs)},Sl R m A B l=some ⟨r,x⟩->r∈l/\∃p q,jw R r.args A=some p/\pE R B r.obs=some q/\IK m r.obs=true/\uH r.res=true/\wZ r.obs=true/\x=r.F p q
 | [],_,_,h=>cZ|s::l,r,x,h=>by
  unfold Sl at h;split at h
  .rename_i p q hp hq;obtain⟨hb,h⟩:=gG h;rw[aZ,aZ] at hb;cases h;exact⟨jv ..,p,q,hp,hq,hb.1,hb.2.1,hb.2.2,rfl⟩
  .obtain⟨h1,h2⟩:=ajJ h;exact⟨jT _ h1,h2⟩
def eP.call (c:eP)(aj:Bool)(lo:Nat)(ids:List Nat)(hnd:Fj ids=true):eP where
 aj:=aj
 dp:=c.dp+1
 lo:=lo
 fl:=fun p=>if F0<=p then (ids[p-F0]?).map c.lc else none
 lt:=fun p L h=>by
  split at h
  .rename_i hp;obtain⟨o,_,rfl⟩:=aY.1 h;exact⟨hp,Nat.lt_succ_of_le (c.Sv o)⟩
  .cases h
 inj:=fun p q L h g=>by
  split at h
  .split at g
   .rename_i hp hq;obtain⟨o,h1,rfl⟩:=aY.1 h;obtain⟨o',h2,e⟩:=aY.1 g;have:=c.XU e;subst this;have:=ajF hnd h1 h2;omega
   .cases g
  .cases h
omit hR in
theorem eP.avh {c:eP}{aj:Bool}{lo:Nat}{ids:List Nat}{hnd:Fj ids=true}{p o:Nat}(hp:F0<=p)(h:ids[p-F0]? =some o):(c.call aj lo ids hnd).lc p=c.lc o:=by unfold eP.lc eP.call;dsimp only;rw[if_pos hp,h];rfl
omit hR in
theorem eP.ajK {c:eP}{aj:Bool}{lo:Nat}{ids:List Nat}{hnd:Fj ids=true}{L:Loc}(hL:L.1<=c.dp)(h:∀o∈ids,L≠c.lc o):(c.call aj lo ids hnd).out L:=by
 intro p e;unfold eP.lc eP.call at e;dsimp only at e;split at e
 .rename_i M hM;split at hM
  .obtain⟨o,h1,rfl⟩:=aY.1 hM;exact h o (tX h1) e
  .cases hM
 .rw[e] at hL;dsimp only at hL;omega
theorem YL {β:Type}{M:Nat->List (qV R)}(hM:Tc E M)(hi:aT Z aN st fr Y)(hsn:aN<=Y.next){k:aO R.T->Option β}{x:β}(h:Fp R M o st k=some x):
 ∃c f g a vb,o.op= .call c/\c.callee= .value f/\fr.ev E f= .fn (.func g) a vb/\E.imp g=true/\iX E g (a++c.args.toList.map (fr.ev E)++vb) (fr.d+1) Y fun v aB=>∃st1,aT Z (aN+1) st1 (fr.put o.dst v) aB/\Y.next<=aB.next/\(∀p,bT false p st Z Y st1 Z aB)/\k st1=some x:=by
 unfold Fp at h;split at h
 .rename_i c hop;split at h
  .rename_i f fV;split at h
   .rename_i g a' b' vs hf hvs;obtain⟨hnd,h⟩:=gG h;generalize aFB:vN (a'++vs++b') []=ids at*;split at h
    .rename_i r x' hfm;obtain⟨⟨y,q'⟩,hy,hk⟩:=iP.1 h;obtain⟨hr,p,q,hp,hq,hks,hsc,hok,rfl⟩:=ajJ hfm;obtain⟨va,vb,Ro,hva,hvb⟩:=(bS (E:=E) hi .nil hf).pF;have hA:=(hva.append (zJ (E:=E) hi .nil hvs)).append hvb;let Db:bC:=⟨fun p=>if F0<=p then (ids[p-F0]?).bind Z.ob else none,fun _=>none,fun p=>if F0<=p then (match ids[p-F0]? with|some o=>Z.ln o|none=>0) else 0,Z.aj.call (E.aj g) Y.next ids hnd⟩
     have hZ:∀{p o},F0<=p->ids[p-F0]? =some o->Db.aj.lc p=Z.aj.lc o/\Db.ob p=Z.ob o/\Db.ln p=Z.ln o:=fun {p o} h1 h2=>by
      refine⟨eP.avh (hnd:=hnd) h1 h2,?_,?_⟩
      .show (if F0<=p then (ids[p-F0]?).bind Z.ob else none)=_;rw[if_pos h1,h2];rfl
      .show (if F0<=p then (match ids[p-F0]? with|some o=>Z.ln o|none=>0) else 0)=_;rw[if_pos h1,h2]
     have hm:∀o p,look (mG ids F0) o=some p->Db.aj.lc p=Z.aj.lc o/\Db.ob p=Z.ob o/\Db.ln p=Z.ln o:=fun o p hp=>by obtain⟨h1,h2⟩:=ajD hp;exact hZ h1 h2
     obtain⟨himp,hF⟩:=hM g r hr;obtain⟨n,v,Y',hcall,⟨aFC,hv,hwz⟩,avi,hnx,hlp,htp,hout⟩:=hF p q y q' hy Db (va++c.args.toList.map (fr.ev E)++vb) Y rfl (fun _=>rfl) (iR _) (CV hR r.args p _ _ hp (aJ.ren hm _ _ hA)) (fun i w hw=>by obtain⟨kk,yy,z,h1,h2,rfl,h4⟩:=Te r.obs q hq i w hw;obtain⟨o',h5,h6,h7⟩:=YH h1;obtain⟨e1,e2,e3⟩:=hZ h5 h6;exact YJ (h4 hok) e2 e3 e1 (SB hR h2 (hi.ob _ _ h7)));have hst:∀s,s<aN->Y'.top s=Y.top s:=fun s hs=>htp s (nD hs hsn);have hno:∀o',o'∉ids->Y'.obj (Z.aj.lc o')=Y.obj (Z.aj.lc o'):=fun o' ho'=>
      hout _ (Nat.le_succ_of_le (Z.aj.Sv o')) (eP.ajK (hnd:=hnd) (Z.aj.Sv o') fun o'' h2 e=>ho' (by rw[Z.aj.XU e];exact h2))
     have Yc:aT Z (aN+1) (⟨st.fr,wY (mG ids F0) (mE R r.obs q')++st.ob⟩:aO R.T) fr Y':={
      d:=hi.d
      aj:=hi.aj
      fr:=fun i w hw=>(hi.fr i w hw).top fun u s hu=>hst s (hi.lt u s hu)
      ob:=fun o' w hw=>by
       have hw':look (wY (mG ids F0) (mE R r.obs q')++st.ob) o'=some w:=hw;rw[CW] at hw';split at hw'
       .rename_i z hz;cases hw';obtain⟨p',h1,h2,h3⟩:=YI hz;obtain⟨kk,zz,h4,rfl⟩:=ajH hok h3;obtain⟨e1,e2,e3⟩:=hZ h1 h2;exact YJ h4 e2.symm e3.symm e1.symm (avi _ _ h3)
       .rename_i hz;have hn:=ajG (fun p' h1 h2=>Td hks p' h1 h2) hz;exact YK (hno o' hn) (fun u s hu=>hst s (hi.lt u s hu)) (hi.ob _ _ hw')
      inj:=hi.inj
      lt:=fun t s ht=>Nat.lt_succ_of_lt (hi.lt t s ht)
      ge:=hi.ge
      nx:=Nat.le_succ_of_le hi.nx}
     refine⟨c,f,g,va,vb,hop,fV,Ro,himp,n,v,Y',?_,_,?_,hnx,?_,hk⟩
     .rw[hi.d];exact hcall
     .rw[hv];exact Yc.iD o.dst (avg (aJ.ren (Z:=Db) (fun p' o' hpo=>by obtain⟨h1,h2⟩:=ajE hpo;obtain⟨e1,e2,e3⟩:=hZ h1 h2;exact⟨e1.symm,e2.symm,e3.symm⟩) _ _ hwz))
     .intro p';refine bT.congr (st':=(⟨st.fr,wY (mG ids F0) (mE R r.obs q')++st.ob⟩:aO R.T)) ⟨rfl,rfl,rfl,hnx,⟨hlp,fun s hs=>hst s (nD hs hi.nx)⟩,fun L hL ho=>?_,fun hro=>?_⟩ Aj
      .have hL':L.1<=Z.aj.dp:=(by rcases hL with e|e;cases e;exact e);exact hout L (Nat.le_succ_of_le hL') (eP.ajK (hnd:=hnd) hL' fun o' _=>ho o')
      .have hn:p'∉ids:=by
        intro hmem;obtain⟨i,hi'⟩:=List.getElem?_of_mem hmem;have hlt:i<ids.length:=by
         rcases Nat.lt_or_ge i ids.length with h|h
         .exact h
         .rw[List.getElem?_eq_none h] at hi';cases hi'
        obtain⟨w,hw⟩:=Td (q:=q) hks (F0+i) (mg _ _) RS;obtain⟨kk,yy,z,h1,h2,_,_⟩:=Te r.obs q hq _ _ hw;obtain⟨o',h5,h6,h7⟩:=YH h1;rw[Aq,hi'] at h6;cases h6;exact X7 h2 (hro _ h7)
       refine⟨fun w hw=>?_,fun s=>?_⟩
       .have hw':look (wY (mG ids F0) (mE R r.obs q')++st.ob) p'=some w:=hw;rw[CW] at hw';split at hw'
        .rename_i z hz;obtain⟨p'',h1,h2,h3⟩:=YI hz;exact absurd (tX h2) hn
        .exact hro _ hw'
       .unfold ah.dQ ah.lD;rw[hno p' hn];exact⟨rfl,rfl⟩
    .cases h
   .cases h
  .cases h
 .cases h
end
end aQ
end
