import Derived.Test.YtdcnajadcbedkaaGreatDoorF909
set_option linter.all false
section
namespace aR
open Go
section
variable {R:jY}{E:Env}
variable {Z:bC}{top:Nat->Nat}{b aN:Nat}{st:aO R.T}{fr:Fr}{Y:ah}{o:Oper}
theorem avK {x:aA R.T}(h:w9 x=true):w9 (CQ x)=true:=by cases x<;>first|exact h|rfl
theorem akh {top:Nat->Nat}{x:aA R.T}{v:V}(hs:qc (xg x)=true)(h:aC R Z top x v):aC R Z top (xg x) (gH v):=by
 cases x with
 |ak c t l=>obtain⟨c',rfl,hc⟩:=h.mY;unfold xg aC;exact⟨.sh,rfl,rfl⟩
 |int k n=>rw[h.jB] at*;exact h|bool b=>rw[h.rR] at*;exact h|jK b=>rw[h.vL] at*;exact h|str s=>rw[h.qV] at*;exact h|agg cs=>obtain⟨l,rfl,hl⟩:=h.mX;exact h
 |bW cs=>obtain⟨l,rfl,hl⟩:=h.Jf;exact h
 |fH k e m=>rw[h.FJ] at*;exact h|fn f a b=>obtain⟨a',b',rfl,ha,hb⟩:=h.pE;exact h
 |aY cs off=>obtain⟨l,rfl,hl⟩:=h.uz;exact h
 |sg ss=>rw[h.Jg] at*;exact h|gY=>unfold aC at h;subst h;unfold xg aC;rfl|gL=>unfold aC at h;subst h;unfold xg aC;rfl|iq=>unfold aC at h;subst h;unfold xg aC;rfl|iN=>unfold aC at h;subst h;unfold xg aC;rfl|_=>simp[xg,qc] at hs
theorem aki {top:Nat->Nat}:∀{l:List (aA R.T)}{vs:List V},zI (MZ l)=true->aK R Z top l vs->aK R Z top (MZ l) (vs.map gH)
 | [],vs,_,h=>LW|x::l,vs,hs,h=>by obtain⟨v,ws,rfl,h1,h2⟩:=h.fV;unfold MZ zI at hs;rw[bf] at hs;exact .cons' (akh hs.1 h1) (aki hs.2 h2)
theorem avL {top:Nat->Nat}{x:aA R.T}{v:V}(hs:qc (xg x)=true)(hg:w9 x=true)(hn:∀cs,x≠ .agg cs)(h:aC R Z top x v):er v=gH v:=by
 cases x with
 |ak c t l=>obtain⟨c',rfl,hc⟩:=h.mY;rfl
 |int k n=>rw[h.jB];rfl|bool b=>rw[h.rR];rfl|jK b=>rw[h.vL];rfl|str s=>rw[h.qV];rfl|agg cs=>exact absurd rfl (hn cs)|bW cs=>obtain⟨l,rfl,hl⟩:=h.Jf;rfl
 |fH k e m=>rw[h.FJ];rfl|fn f a b=>obtain⟨a',b',rfl,ha,hb⟩:=h.pE;rfl
 |aY cs off=>obtain⟨l,rfl,hl⟩:=h.uz;rfl
 |sg ss=>cases hg|gY=>unfold aC at h;subst h;rfl|gL=>unfold aC at h;subst h;rfl|iq=>unfold aC at h;subst h;rfl|iN=>unfold aC at h;subst h;rfl|_=>simp[xg,qc] at hs
theorem avM {top:Nat->Nat}{x:aA R.T}{v:V}(hs:(qc (CQ x)&& w9 x)=true)(h:aC R Z top x v):aC R Z top (CQ x) (er v):=by
 rw[bf] at hs;have key:(∀cs,x≠ .agg cs)->CQ x=xg x:=fun hne=>by cases x<;>first|rfl|exact absurd rfl (hne _)
 cases x with
 |agg cs=>obtain⟨l,rfl,hl⟩:=h.mX;unfold CQ aC;exact⟨_,rfl,aki (by have:=hs.1;unfold CQ qc at this;exact this) hl⟩
 |sg ss=>cases hs.2|_=>rw[key (fun _ e=>by cases e)] at hs⊢;have h1:=akh hs.1 h;rw[avL hs.1 hs.2 (fun _ e=>by cases e) h];exact h1
theorem sZ.val {v:Option V}{r:fE R}(hv:qX Z Y.top v r)(ho:∀y,v=some y->dM E fr Y aN o=some (y,Y)):sZ E st Z aN fr Y o r:=by
 cases r with
 |t x=>obtain⟨y,e,hr⟩:=hv;exact⟨y,.kL (ho y e),hr⟩
 |c c x=>intro hc;obtain⟨y,e,hr⟩:=hv hc;exact⟨y,.kL (ho y e),hr⟩
 |p U d o' f=>intro a ha;obtain⟨y,e,hr⟩:=hv a ha;exact⟨y,.kL (ho y e),hr⟩
 |w x s=>exact hv.elim|wc c x s=>exact hv.elim
theorem sZ.tt {x:aA R.T}{y:V}(ho:dM E fr Y aN o=some (y,Y))(hr:aC R Z Y.top x y):sZ E st Z aN fr Y o (.t x):=⟨y,.kL ho,hr⟩
theorem Nw {x:Operand}:kZ E fr (some x)=some (fr.ev E x):=rfl
theorem akj {top:Nat->Nat}{x y v:aA R.T}{w:V}(h:I6 true x y=some v)(hx:aC R Z top x w):aC R Z top v w:=by
 unfold I6 at h;split at h<;>try cases h
 .split at h
  .cases h;exact hx
  .cases h
 all_goals first|exact hx| (unfold aC at hx⊢;exact hx)
theorem akk {top:Nat->Nat}{x y v:aA R.T}{w:V}(h:I6 false x y=some v)(hx:aC R Z top y w):aC R Z top v w:=by
 unfold I6 at h;split at h<;>try cases h
 .split at h
  .rename_i e;subst e;cases h;exact hx
  .cases h
 all_goals first|exact hx| (unfold aC at hx⊢;exact hx)
theorem Jt {c a' b':Operand}{t:Bool}(hop:o.op= .pick c a' b')(hc:fr.ev E c= .bool t):dM E fr Y aN o=some (if t then fr.ev E a' else fr.ev E b',Y):=by simp only[dM,hop,hc,yg,Option.map_some]
variable (hR:rQ R)
include hR
theorem avN {t:TypeId}{m x:aA R.T}{v w:V}{ok:Bool}{r:fE R}(h:Sy E R t m x ok st=some r)(hm:aC R Z Y.top m v)(hx:aC R Z Y.top x w)(hi:aU Z b st fr Y):qX Z Y.top (ER E.P Y t v w ok) r:=by unfold Sy at h;cases h
theorem akl {t:TypeId}{m x y:aA R.T}{v w u:V}{r:fE R}(h:IY E R t m x y st=some r)(hm:aC R Z Y.top m v)(hx:aC R Z Y.top x w)(hy:aC R Z Y.top y u)(hi:aU Z aN st fr Y)(ho:∀Y',AL E.P Y t v w u=some Y'->dM E fr Y aN o=some (aP,Y')):sZ E st Z aN fr Y o r:=by
 unfold IY at h;cases h
omit hR in
theorem aU.at (h:aU Z b st fr Y){d:Nat}(hd:d<F0):(fr.d,d)=Z.aj.lc d:=by rw[h.d,eP.Yi _ hd]
omit hR in
theorem aU.akm (h:aU Z b st fr Y){x:Option Nat}(hd:∀d,x=some d->d<F0):(x.map fun t=>(fr.d,t))=x.map fun t=>Z.aj.lc t:=by
 cases x with
 |none=>rfl|some d=>exact congrArg some (h.at (hd d rfl))
theorem akn {d s:Nat}{cs:List (aA R.T)}{l:List V}(hi:aU Z b st fr Y)(hc:aK R Z Y.top cs l)(hm:qx d cs=false):aU (Z.oo d s) b (st.new d (.cells cs)) fr (Y.setObj (Z.aj.lc d) s (.cells l)):=
 hi.new d s ⟨s,l,Aw,sK _ _ _ _,aK.kill d Jk rfl rfl cs l hm hc⟩
theorem ako {d s:Nat}{ss:List bX}(hi:aU Z b st fr Y):aU (Z.oo d s) b (st.new d (.sg ss)) fr (Y.setObj (Z.aj.lc d) s (.cells (dW ss))):=
 hi.new d s ⟨s,Aw,sK _ _ _ _⟩
theorem Y2 {g:Nat}{cs:List V}(h:E.glob g=some cs):fr.ev E (.global g)= .aY cs 0:=by show (match E.glob g with|some cs=>V.aY cs 0|none=>V.raw (Value.pointer (some ⟨g,0,none⟩)))=_;rw[h]
omit hR in
theorem akp {top:Nat->Nat}{k:IntKind}(l:List Int):∀L:List Nat,aK R Z top (L.map fun j=>(aA.int k (l.getD j 0):aA R.T)) (L.map fun j=>V.int k (l.getD j 0))
 | []=>aK.nil'|j::L=>aK.cons' gX (akp l L)
omit hR in
theorem avO {k:IntKind}{l:List Int}{m:Nat}(h:m<=l.length):((List.range m).map fun j=>V.int k (l.getD j 0))=(l.map (V.int k)).take m:=by
 apply List.ext_getElem
 .rw[fF,EI,nA,fF];omega
 .intro i h1 h2;rw[fF,EI] at h1;rw[Cg,Ch,List.getElem_take,Cg,nD,fA (show i<l.length by omega)];rfl
theorem avP {g:List (Nat×Bool)}(iO:∀d,o.dst=some d->d<F0)(hg:sV fr g)(hi:aU Z aN st fr Y){r:fE R}(h:uq E R g o.dst o.op st=some r):sZ E st Z aN fr Y o r:=by
 unfold uq at h;split at h
 ·
  rename_i t hop;split at h
  .rename_i d ks cs hd hks hz;obtain⟨hc,h⟩:=gG h;cases h;obtain⟨v,hv,hr⟩:=YB (Z:=Z) (top:=Y.top) hz;obtain⟨l,rfl,hl⟩:=hr.mX;have hl2:=avG hc hl;refine⟨.ref (Z.aj.lc d) aN 0,_,Z.oo d aN,.kL (o:=o) ?_,ako hR (ss:=ks.map Sz) (hi.le (kR _)),rfl,GU,fun q hq=>bV.new (fun e=>hq.1 G6)⟩;simp only[dM,hop,hd,Option.map_some,Option.bind_some,hv,V.cells,hl2,Nv,if_true,hi.at (iO _ hd)]
  .cases h
 ·
  rename_i t x hop;cases hz:tN E t o.dst;case true=>rw[hz] at h;cases h
  rw[hz,cond_false] at h;split at h
  .rename_i d ks v hd hks hv;split at h
   .rename_i ss hss;cases h;obtain⟨c1,c2,c3⟩:=ake hss (bU (E:=E) hi hg hv);refine⟨.ref (Z.aj.lc d) aN 0,_,Z.oo d aN,.kL (o:=o) ?_,ako hR (ss:=ss) (hi.le (kR _)),rfl,GU,fun q hq=>bV.new (fun e=>hq.1 G6)⟩;simp only[dM,hop,(show tN E t (some d)=false from hd▸hz),dI,if_false,hd,Option.map_some,Option.bind_some,c1,c3,Nv,and_self,if_true,hi.at (iO _ hd)]
   .cases h
  .cases h
 ·
  rename_i t a hop;split at h
  .rename_i gl;split at h
   .rename_i k n v hv;cases h;obtain⟨cs,e,g1,g2,g3,g4,g5,g6⟩:=Y0 hv;refine .tt (y:=.agg (v.l.map (V.int k))) ?_ ?_
    .simp only[dM,hop,Y2 hR g1];unfold gT;rw[g4,g5];simp only[Option.bind_some];unfold rD;rw[if_pos rfl,if_pos (by rw[g2,fF,v.h];omega),qd,rC (by rw[g2,fF,v.h];exact iR _),g2];rfl
    .unfold aC;show _=V.agg (v.l.map (V.int k)++[]);rw[jG]
   .cases h
  .split at h
   .rename_i p off hv;split at h
    .rename_i ss hl;split at h
     .rename_i v hld;cases h;obtain⟨s,h1,h2⟩:=(bU (E:=E) hi hg hv).rT;obtain⟨s',h3,h4⟩:=hi.rd hl;rw[h1] at h3;cases h3;obtain⟨y,hy,hr⟩:=akb (Z:=Z) (top:=Y.top) hld;exact .tt (by simp only[dM,hop,h2,h4,Option.bind_some,hy,Option.map_some]) hr
     .cases h
    .cases h
   .rename_i p off k n i m hv;split at h
    .rename_i ss hl;obtain⟨s,h1,hi0,hi1,h2⟩:=(bU (E:=E) hi hg hv).Nj;obtain⟨s',h3,h4⟩:=hi.rd hl;rw[h1] at h3;cases h3;split at h
     .rename_i pre k' n' v post hsp;by_cases ek:k'=k
      .subst ek;rw[if_pos rfl] at h;cases hb:Nat.beq n' n
       .rw[hb] at h;cases h
       rw[hb,cond_true] at h;have:=fQ hb;subst this;cases hc:(Nat.beq m 1&& uo E t)
       .rw[hc,cond_false] at h;split at h
        .rename_i y hy;cases h;obtain⟨x,g1,g2⟩:=avE (Z:=Z) (top:=Y.top) hsp hi1 hy;exact .tt (by simp only[dM,hop,h2,h4,Option.bind_some,g1,Option.map_some]) g2
        .cases h
       .rw[hc,cond_true] at h;cases h;rw[bf] at hc;have:=fQ hc.1;subst this;exact .tt (y:=.int k' (v.at' i)) (by simp only[dM,hop,h2,h4,Option.bind_some,akd (i:=i) hsp (nC (EF _) hi1) hc.2,Option.map_some]) gX
      .rw[if_neg ek] at h;cases h
     .cases h
    .cases h
   .rename_i k n v i hv;obtain⟨he,h⟩:=gG h;cases h;obtain⟨h1,h2,h3⟩:=(bU (E:=E) hi hg hv).SS;obtain⟨z1,z2⟩:=Dl he;refine .tt (y:=.int k (v.at' i)) ?_ gX;simp only[dM,hop,h3];unfold gT;rw[z1,z2];simp only[Option.bind_some];unfold rD;simp only[dI,if_false];rw[List.getElem?_map,akc v RS];rfl
   .cases h
 ·
  rename_i t a x hop;split at h
  .rename_i p off v hv hx;split at h
   .rename_i ss sz hl hsz;split at h
    .rename_i pre rest hsp;split at h
     .rename_i mid post hsp2;split at h
      .rename_i mid' hco;cases h;obtain⟨s,h1,h2⟩:=(bU (E:=E) hi hg hv).rT;obtain⟨s',h3,h4⟩:=hi.ob _ _ hl;rw[h1] at h3;cases h3;obtain⟨c1,c2,c3⟩:=ake hco (bU (E:=E) hi hg hx);obtain⟨e1,w1⟩:=yL hsp;obtain⟨e2,w2⟩:=yL hsp2;rw[Tn,w2] at c2;refine⟨aP,_,Z,.kL (o:=o) ?_,(hi.le (kR _)).set p s (x:=.sg (pre++(mid'++post))) (a:=.cells (dW (pre++(mid'++post)))) ⟨s,h1,sK _ _ _ _⟩,rfl,gX,fun q _=>bV.set hl rfl⟩;simp only[dM,hop,h2,h4,Option.bind_some,c1];rw[if_pos ⟨by rw[hsz,jR,c2],by rw[jR,jR,e1,e2,Dm,Dm,w1,w2,c2];omega,Nv _⟩,e1,e2,avH w1 w2 c2]
      .cases h
     .cases h
    .cases h
   .cases h
  .rename_i p off k n i m k' y hv hx;split at h
   .rename_i ss hl;split at h
    .rename_i pre k2 n' v post hsp;by_cases ek:k2=k
     .subst ek;rw[if_pos rfl] at h;by_cases akq:k'=k2
      .subst akq;rw[if_pos rfl] at h;obtain⟨hb,h⟩:=gG h;cases h;rw[bf,bf] at hb;have e1:=fQ hb.1.1;subst e1;have e2:=fQ hb.1.2;subst e2;obtain⟨z1,z2⟩:=Dl hb.2;obtain⟨s,h1,hi0,hi1,h2⟩:=(bU (E:=E) hi hg hv).Nj;obtain⟨s',h3,h4⟩:=hi.ob _ _ hl;rw[h1] at h3;cases h3;have hy:=(bU (E:=E) hi hg hx).jB;obtain⟨e1,w1⟩:=yL hsp;refine⟨aP,_,Z,.kL (o:=o) ?_,(hi.le (kR _)).set p s (x:=.sg (pre++(.a k' n' (v.set i y)::post))) (a:=.cells (dW (pre++(.a k' n' (v.set i y)::post)))) ⟨s,h1,sK _ _ _ _⟩,rfl,gX,fun q _=>bV.set hl rfl⟩;simp only[dM,hop,h2,h4,Option.bind_some,hy,V.cells];have avQ:=akf (post:=post) (k:=k') (v:=v) (w:=v.set i y) (l:=[y]) w1 (show i.toNat+[y].length<=n' from hi1) (avI (by rw[v.h];omega));rw[if_pos ⟨by rw[z1];rfl,by rw[jR,e1,Dm,w1,Tm];show off+i.toNat+1<=off+(n'+_);omega,rfl⟩,e1];rw[show [V.int k' y]=[y].map (V.int k') from rfl,avQ]
      .rw[if_neg akq] at h;cases h
     .rw[if_neg ek] at h;cases h
    .cases h
   .cases h
  .cases h
 ·
  rename_i t x i hop;split at h
  .rename_i n e k0 i ha hiv;obtain⟨hel,h⟩:=gG h;obtain⟨z1,z2⟩:=Dl hel;have hii:=(bU (E:=E) hi hg hiv).jB;split at h
   .rename_i gl;split at h
    .rename_i k n' v hv;cases h;intro hin;obtain⟨cs,e',g1,g2,g3,g4,g5,g6⟩:=Y0 hv;rw[ha] at g3;cases g3;obtain⟨j1,j2,Y3⟩:=Tp hin;refine⟨.aY cs i.toNat,.kL ?_,by unfold aC;exact⟨j1,j2,by rw[g2]⟩⟩;simp only[dM,hop,Y2 hR g1,hii];unfold qh;rw[Nt ha];dsimp only;rw[z1];simp only[Option.bind_some,Y1 hin,Option.map_some,Nat.mul_one,oW]
    .cases h
   .split at h
    .rename_i p off hv;split at h
     .rename_i ss hl;split at h
      .rename_i pre k n' v post hsp;obtain⟨hb,h⟩:=gG h;have:=fQ hb;subst this;cases h;intro hin;obtain⟨s,h1,h2⟩:=(bU (E:=E) hi hg hv).rT;obtain⟨j1,j2,Y3⟩:=Tp hin;refine⟨.ref (Z.aj.lc p) s (off+i.toNat),.kL ?_,by unfold aC;exact⟨s,h1,j1,RS,rfl⟩⟩;simp only[dM,hop,h2,hii];unfold qh;rw[Nt ha];dsimp only;rw[z1];simp only[Option.bind_some,Y1 hin,Option.map_some,Nat.mul_one]
      .cases h
     .cases h
    .cases h
  .cases h
 ·
  rename_i t x i hop;split at h
  .rename_i n e k n' v k0 i ha hv hiv;obtain⟨hb,h⟩:=gG h;cases h;rw[bf] at hb;have:=fQ hb.2;subst this;obtain⟨z1,z2⟩:=Dl hb.1;have hii:=(bU (E:=E) hi hg hiv).jB;have hvv:=(bU (E:=E) hi hg hv).Jg;intro hin;obtain⟨j1,j2,Y3⟩:=Tp hin;refine⟨.int k (v.at' i),.kL ?_,gX⟩;simp only[dM,hop,hvv,hii];unfold EP;rw[Nt ha];dsimp only;rw[Y1 hin];simp only[Option.bind_some,z1,Nat.mul_one];have:=akd (E:=E) (t:=e) (ss:=[.a k n' v]) (pre:=[]) (post:=[]) (off:=0) (i:=i) rfl Y3 hb.1;rw[oW] at this;rw[this];rfl
  .cases h
 ·
  rename_i t x lo hi' hop;split at h
  .rename_i v hv;have o8:=bU (E:=E) hi hg hv;have ho:∀vl vh,kZ E fr lo=vl->kZ E fr hi'=vh->∀y,lC E.P Y t (fr.ev E x) vl vh none=some y->dM E fr Y aN o=some (y,Y):=by rintro vl vh rfl rfl y hy;simp only[dM,hop];rw[show kZ E fr none=none from rfl,hy];rfl
   split at h
   .exact .val (Tt h o8 hi (vl:=none) (vh:=none) QT (fun _=>rfl) QT (fun _=>rfl)) (ho _ _ rfl rfl)
   .rename_i lo;split at h
    .rename_i l hl;have hlr:=bU (E:=E) hi hg hl;exact .val (Tt h o8 hi (vl:=some (fr.ev E lo)) (vh:=none) (by intro y hy;cases hy;exact⟨_,rfl,hlr⟩) QX QT (fun _=>rfl)) (ho _ _ rfl rfl)
    .cases h
   .rename_i hi';split at h
    .rename_i l hl;have hlr:=bU (E:=E) hi hg hl;exact .val (Tt h o8 hi (vl:=none) (vh:=some (fr.ev E hi')) QT (fun _=>rfl) (by intro y hy;cases hy;exact⟨_,rfl,hlr⟩) QX) (ho _ _ rfl rfl)
    .cases h
   .rename_i lo hi';split at h
    .rename_i l m hl hm;have hlr:=bU (E:=E) hi hg hl;have hmr:=bU (E:=E) hi hg hm;exact .val (Tt h o8 hi (vl:=some (fr.ev E lo)) (vh:=some (fr.ev E hi')) (by intro y hy;cases hy;exact⟨_,rfl,hlr⟩) QX (by intro y hy;cases hy;exact⟨_,rfl,hmr⟩) QX) (ho _ _ rfl rfl)
    .cases h
  .cases h
 ·
  rename_i t x lo hi' mx hop;split at h
  .rename_i cp u l kh hh Tv km e hv avR avS hu;split at h
   .rename_i sz hsz;cases hb:Nat.beq sz (dN R u)
    .rw[hb] at h;cases h
    rw[hb,cond_true] at h;have:=fQ hb;subst this;obtain⟨c',h2,_⟩:=(bU (E:=E) hi hg hv).mY;have eh:=(bU (E:=E) hi hg avR).jB;have em:=(bU (E:=E) hi hg avS).jB;have fin:∀(vl:Option V)(a:Nat)(L:List (Den R.T u)),kZ E fr lo=vl->jH l.length l.length vl (some (.int kh hh)) (some (.int Tv km))=some (a,hh.toNat,km.toNat)->(l.take hh.toNat).drop a=L->∃y,oq E fr Y aN o y Y/\aC R Z Y.top (.ak .any u L) y:=by
     rintro vl a L hvl hsb rfl;refine⟨.ak (if km.toNat=hh.toNat then .full else .sh) (((l.map (aV R u)).take hh.toNat).drop a),.kL ?_,?_⟩
     .simp only[dM,hop,h2];rw[hvl,show kZ E fr (some hi')=some (.int kh hh) by rw[Nw,eh],show kZ E fr (some mx)=some (.int Tv km) by rw[Nw,em]];unfold lC;rw[hu];dsimp only;rw[hsz];simp only[Option.bind_some,fF,hsb,Np hR,if_true,Option.isNone_some,dI,and_false,if_false,Option.map_some]
     .unfold aC;exact⟨_,by rw[YE],trivial⟩
    split at h
    .cases hf:aiU E o.dst with
     |false=>rw[hf,cond_false] at h;cases h;intro hc;rw[bf] at hc;exact fin none 0 _ rfl (by simp[jH,vN hc.1,vN hc.2]) (by simp[um])|true=>
      rw[hf,cond_true] at h;cases h;intro hc;rw[bf,bf] at hc;obtain⟨y,hy1,hy2⟩:=fin none 0 _ rfl (by simp[jH,vN hc.1,vN hc.2.1]) rfl;have hkm:hh=km:=(by simpa using hc.2.2);subst hkm;refine⟨.ak .full (((l.map (aV R u)).take hh.toNat).drop 0),.kL ?_,?_⟩
      .simp only[dM,hop,h2];rw[show kZ E fr none=none from rfl,show kZ E fr (some hi')=some (.int kh hh) by rw[Nw,eh],show kZ E fr (some mx)=some (.int Tv hh) by rw[Nw,em]];unfold lC;rw[hu];dsimp only;have hsb:jH l.length l.length none (some (.int kh hh)) (some (.int Tv hh))=some (0,hh.toNat,hh.toNat):=(by simp[jH,vN hc.1,vN hc.2.1]);rw[hsz];simp only[Option.bind_some,fF,hsb,Np hR,if_true,Option.isNone_some,dI,and_false,if_false,Option.map_some]
      .unfold aC;exact⟨.full,by rw[YE];simp[um],rfl⟩
    .rename_i lo';split at h
     .rename_i ka a hva;cases h;intro hc;rw[bf,bf] at hc;have ea:=(bU (E:=E) hi hg hva).jB;exact fin (some (.int ka a)) a.toNat _ (by rw[Nw,ea]) (by simp[jH,vN hc.1,vN hc.2.1,vN hc.2.2]) (by simp[um])
     .cases h
   .cases h
  .cases h
 ·
  rename_i a b' x hop;split at h
  .rename_i p off k n lo hi' hv;obtain⟨s,h1,hB,h2⟩:=(bU (E:=E) hi hg hv).C9;split at h
   .rename_i e hu1 hu2;split at h
    .rename_i hu3;split at h
     .rename_i l hl;cases h;obtain⟨cs,c1,c2,c3,c4⟩:=aj1 hR hi hl h1 hB;obtain⟨p1,p2,p3,_,_⟩:=FT hB;refine .tt (y:=.str (List.map (fun n:Int=>UInt8.ofNat n.toNat) l)) ?_ gX;simp only[dM,hop,h2];unfold AJ;rw[hu1,hu2];dsimp only;rw[hu3,c1];dsimp only;simp only[Option.bind_some];rw[if_pos RS,c3];have:=YD (R:=R) l;rw[show l.map (V.int .u8)=List.map (aV R (.int .u8)) l from rfl,this];rfl
     .cases h
    .cases h
   .cases h
  .cases h
 ·
  rename_i t x hop;split at h
  .rename_i m e p off k n lo hi' ha hv;cases h;intro hc;have hc:=of_decide_eq_true hc;obtain⟨s,h1,hB,h2⟩:=(bU (E:=E) hi hg hv).C9;obtain⟨p1,p2,p3,p4,p5⟩:=FT hB;refine⟨.ref (Z.aj.lc p) s (off+(fO lo).toNat),.kL ?_,by unfold aC;exact⟨s,h1,p4,RS,rfl⟩⟩;simp only[dM,hop,ha,h2,Option.bind_some];rw[if_pos ⟨hc.1,RS⟩]
  .rename_i m e c k l ha hv;cases h;intro hc;have hc:=of_decide_eq_true hc;obtain⟨c',h2,_⟩:=(bU (E:=E) hi hg hv).mY;have hr:aK R Z Y.top (aiV R k m l) ((List.map (V.int k) l).take m):=by rw[<-avO hc.2];exact akp l _
   refine⟨.aY ((List.map (V.int k) l).take m) 0,.kL ?_,by unfold aC;exact⟨_,rfl,hr⟩⟩;simp only[dM,hop,ha,h2,Option.bind_some];rw[if_pos ⟨hc.1,by rw[fF];exact hc.2,by unfold dA;rw[List.all_map];exact lK.2 fun _ _=>rfl⟩];rfl
  .cases h
 ·
  rename_i c hop;split at h
  .rename_i p off k n lo hi' y fT hvs;split at h
   .rename_i t ht;split at h
    .rename_i e he;obtain⟨hel,h⟩:=gG h;obtain⟨z1,z2⟩:=Dl hel;split at h
     .rename_i l0 ss hsrc hl;obtain⟨l,hl0⟩:∃l:List Int,l=l0:=⟨l0,rfl⟩;subst hl0;split at h
      .rename_i pre k' n' v post hsp;by_cases ek:k'=k
       .subst ek;rw[if_pos rfl] at h;cases hb:Nat.beq n' n
        .rw[hb] at h;cases h
        rw[hb,cond_true] at h;have:=fQ hb;subst this;cases h;have hargs:=zP (E:=E) hi hg hvs;obtain⟨a1,aGP,avT,avU,avV⟩:=hargs.fV;obtain⟨a2,aGQ,avW,avX,avY⟩:=avV.fV;have avZ:=avY.jw;subst avZ;subst avW;obtain⟨s,h1,hB,rfl⟩:=avU.C9;obtain⟨p1,p2,p3,p4,p5⟩:=FT hB;obtain⟨s',h3,h4⟩:=hi.ob _ _ hl;rw[h1] at h3;cases h3;obtain⟨e1,w1⟩:=yL hsp;obtain⟨q1,q2⟩:=YI hR (Y:=Y) (ag:=false) (z:=aP) hsrc avX;have q1:nN Y false 1 aP a2=some (List.map (V.int k') l):=q1;have hlen:(jh n' hi'-fO lo).toNat=(jh n' hi').toNat-(fO lo).toNat:=RS;have hmin:min (List.map (V.int k') l).length ((jh n' hi').toNat-(fO lo).toNat)=(List.take (jh n' hi'-fO lo).toNat l).length:=(by rw[fF,nA,hlen,Nat.min_comm]);have hfl:((List.map (V.int k') l).take (List.take (jh n' hi'-fO lo).toNat l).length).flatMap V.cells=(List.take (jh n' hi'-fO lo).toNat l).map (V.int k'):=by
         have:∀m:List Int,(m.map (V.int k')).flatMap V.cells=m.map (V.int k'):=by
          intro m;induction m with
          |nil=>rfl|cons x m ih=>rw[iH,lu,ih];rfl
         rw[<-List.map_take,this,nA];congr 1;by_cases hle:(jh n' hi'-fO lo).toNat<=List.length l
         .rw[Ci hle]
         .rw[Nat.min_eq_right RS,rC (iR _),rC RS]
        have hlt:(List.take (jh n' hi'-fO lo).toNat l).length<=(jh n' hi').toNat-(fO lo).toNat:=(by rw[nA,hlen];exact Nat.min_le_left _ _);have hone:(List.map (V.int k') l).all (fun v=>dA v.cells)=true:=(by rw[List.all_map];simp[dA,V.cells,oneCell]);refine⟨_,_,Z,.of (o:=o) fun S=>?_,(hi.le (kR _)).set p s (x:=.sg (pre++(.a k' n' (v.wY (fO lo) (List.take (jh n' hi'-fO lo).toNat l))::post))) (a:=.cells (dW (pre++(.a k' n' (v.wY (fO lo) (List.take (jh n' hi'-fO lo).toNat l))::post)))) ⟨s,h1,sK _ _ _ _⟩,rfl,gX,fun q _=>bV.set hl rfl⟩;unfold opC;rw[hop];dsimp only;rw[fT];dsimp only;rw[avT];have hbv:qI E fr.aj (o.dst.map fun t=>(fr.d,E.cn t)) Y aN .copy c.argTypes [.aS (Z.aj.lc p) s (off+(fO lo).toNat) ((jh n' hi').toNat-(fO lo).toNat) (n'-(fO lo).toNat) 1 false,a2]=(c.argTypes[0]?).bind fun t=>copyV E.P Y t (.aS (Z.aj.lc p) s (off+(fO lo).toNat) ((jh n' hi').toNat-(fO lo).toNat) (n'-(fO lo).toNat) 1 false) a2:=rfl;rw[hbv,ht];simp only[Option.bind_some];rw[avJ he z1 z2 q2 q1 hone h4 (by rw[hmin,jR,e1,Dm,w1,Tm];show off+(fO lo).toNat+_<=off+(n'+_);omega),hmin,hfl];simp only[Option.map_some];rw[e1,akf (w:=v.wY (fO lo) (List.take (jh n' hi'-fO lo).toNat l)) w1 RS (by unfold Vec.wY;rw[Nu];simp only[eU,nA,qD,v.h] at*;omega)];try rfl
       .rw[if_neg ek] at h;cases h
      .cases h
     .cases h
    .cases h
   .cases h
  .cases h
 .cases h
theorem av0 {t:TypeId}{x:aA R.T}{v:V}{r:fE R}(h:X5 E R t x st=some r)(hx:aC R Z Y.top x v)(hi:aU Z aN st fr Y)(ho:∀y Y',Hl E.P Y t v=some (y,Y')->oq E fr Y aN o y Y'):sZ E st Z aN fr Y o r:=by
 unfold X5 at h;cases h
theorem av1 {aj:Bool}{F:Nat->List (ig R)}(hF:bg E F)(bT:Z.aj.aj=aj)(iO:∀d,o.dst=some d->d<F0){g:List (Nat×Bool)}(hg:sV fr g)(hi:aU Z aN st fr Y){r:fE R}(h:vJ E R aj F g o.dst o.op st=some r):sZ E st Z aN fr Y o r:=by
 unfold vJ at h;split at h
 ·
  rename_i x hop;cases hz:yh E o.dst
  .rw[hz] at h;dsimp only[cond_false] at h;split at h
   .rename_i v hv;cases h;exact .tt (y:=fr.ev E x) (by simp only[dM,hop,hz,dI,if_false]) (bU hi hg hv)
   .cases h
  .rw[hz] at h;dsimp only[cond_true] at h;split at h
   .rename_i p t hv;split at h
    .rename_i t' l0 hl;split at h
     .rename_i l hc;cases h;obtain⟨e1,e2⟩:=vM hc;subst e1;cases e2;have hO:=hi.ob p _ hl;have hrl:∀Z',aC R Z' Y.top (.ak .any t' l0) (.ak .sh (l0.map (aV R t'))):=fun Z'=>by unfold aC;exact⟨.sh,rfl,trivial⟩
      rcases (bU (E:=E) hi hg hv).Bf with ⟨s,h1,h2⟩| ⟨h1,h2⟩
      .rcases hO.2 with h3| ⟨s',cs,h3,h4,h5⟩
       .rw[h1] at h3;exact absurd h3.2 aD
       .rw[h1] at h3;cases h3;have hlc:cs.length=l0.length*dN R t':=(by rw[h5.length,FP]);have hlen:l0.length=Z.ln p:=hO.1;refine⟨.ak .sh (l0.map (aV R t')),Y.ko (Z.aj.lc p),Z,.kL ?_,(hi.del p).le (kR _),rfl,hrl Z,fun q _=>bV.del hl rfl⟩;simp only[dM,hop,hz,if_true,h2,yj,h4,Option.bind_some,oW,qd];rw[rC GV,ajX hR l0 cs h5,<-hlen,YO hR l0,YP hR l0];rw[if_pos ⟨by rw[hlc];exact iR _,rfl⟩]
      .have hl0:l0=[]:=qg (hO.1.trans h1);subst hl0;refine⟨.ak .sh [],Y,Z,.kL ?_,(hi.del' p).le (kR _),rfl,hrl Z,fun q _=>bV.del' hl rfl⟩;simp only[dM,hop,hz,if_true];rcases h2 with h2|h2<;>rw[h2]<;>rfl
     .cases h
    .cases h
   .rename_i k m hv;cases h;have hr:=bU (E:=E) hi hg hv;refine .tt (y:=.int k m) ?_ gX;simp only[dM,hop,hz,if_true,hr.jB,yj]
   .cases h
 .rename_i x hop;split at h
  .rename_i v hv;cases h;exact .tt (y:=fr.ev E x) (by simp only[dM,hop]) (bU hi hg hv)
  .cases h
 ·
  rename_i c a' b' hop;split at h
  .rename_i j;split at h
   .rename_i t hc;have hc':=(bU (E:=E) hi hg hc).rR;split at h
    .rename_i x y hx hy;split at h
     .rename_i v hv;cases h;refine .tt (Jt hop hc') ?_;rw[Iq] at hc';cases t
      .exact akk hv (bU (E:=E) hi (.cons hc' hg) hy)
      .exact akj hv (bU (E:=E) hi (.cons hc' hg) hx)
     .cases h
    .cases h
   .rename_i t hc;have hc':=(bU (E:=E) hi hg hc).vL;split at h
    .rename_i v hv;cases h;refine .tt (Jt hop hc') ?_;cases t
     .exact bU (E:=E) hi hg hv
     .exact bU (E:=E) hi hg hv
    .cases h
   .cases h
  .cases h
 ·
  rename_i t hop;split at h
  .rename_i d z hd hz;obtain⟨hc,h⟩:=gG h;cases h;simp only[bf,xZ] at hc;obtain⟨v,hv,hr⟩:=YB (Z:=Z) (top:=Y.top) hz;have av2:w9 z=true:=by
    cases z<;>first|rfl| (have:=hc.1;simp[aA.cells,CP,XQ] at this)
   obtain⟨hcells,_⟩:=yK av2 hr;refine⟨.ref (Z.aj.lc d) aN 0,_,Z.oo d aN,.kL (o:=o) ?_,akn hR (hi.le (kR _)) hcells hc.2,rfl,GU,fun q hq=>bV.new (fun e=>hq.1 G6)⟩;simp only[dM,hop,hd,Option.map_some,Option.bind_some,hv,Nn hc.1 hcells,if_true,hi.at (iO _ hd)]
  .cases h
 ·
  rename_i t x hop;cases hz:tN E t o.dst with
  |true=>
   rw[hz,cond_true] at h;split at h
   .rename_i v hv;obtain⟨hc,h⟩:=gG h;cases h;rw[bf] at hc;have hr:=bU (E:=E) hi hg hv;have hnr:=(yK hc.2 hr).2;have hr2:=avM (by rw[bf];exact hc) hr;obtain⟨hcells,_⟩:=yK (avK hc.2) hr2;refine .tt (y:=.aY (er (fr.ev E x)).cells 0) ?_ ?_
    .simp only[dM,hop,hz,if_true,YT hR _ _ hc.1 hr2,hnr,and_self]
    .unfold aC;exact⟨_,rfl,hcells⟩
   .cases h
  |false=>
  rw[hz,cond_false] at h;split at h
  .rename_i d v hd hv;obtain⟨hc,h⟩:=gG h;cases h;simp only[bf,xZ] at hc;have hr:=bU (E:=E) hi hg hv;obtain⟨hcells,hnr⟩:=yK hc.1.2 hr;refine⟨.ref (Z.aj.lc d) aN 0,_,Z.oo d aN,.kL (o:=o) ?_,akn hR (hi.le (kR _)) hcells hc.2,rfl,GU,fun q hq=>bV.new (fun e=>hq.1 G6)⟩;simp only[dM,hop,(show tN E t (some d)=false from hd▸hz),dI,if_false,hd,Option.map_some,Option.bind_some,Nn hc.1.1 hcells,hnr,and_self,if_true,hi.at (iO _ hd)]
  .cases h
 ·
  rename_i t parts hop;split at h
  .rename_i pl z ps hpl hz hps;split at h
   .rename_i cs hcs;cases h;obtain⟨zv,hzv,av3⟩:=YB (Z:=Z) (top:=Y.top) hz;obtain⟨e1,e2⟩:=Yp (E:=E) hi hg hps;have hzc:aK R Z Y.top z.cells zv.cells:=by
     refine(yK ?_ av3).1;unfold IQ at hz;cases z<;>first|rfl|skip
     all_goals
      exfalso;split at hz
      .split at hz
       .unfold IB at hz;split at hz
        .split at hz<;>cases hz
        .unfold Fv at hz;split at hz<;>cases hz
       .cases hz
      .cases hz
    obtain⟨l',f1,f2⟩:=ajD (qs:=parts.toList.map fun p=>(p.1,fr.ev E p.2)) pl (by rw[e1];simp[Function.comp_def]) (by simpa [Function.comp_def] using e2) hzc hcs;refine .tt (y:=.agg l') ?_ (by unfold aC;exact⟨l',rfl,f2⟩);simp only[dM,hop,hpl,hzv,Option.bind_some];rw[f1];rfl
   .cases h
  .cases h
 ·
  rename_i t len parts hop;split at h
  .rename_i ps hps;obtain⟨e1,e2⟩:=Yp (E:=E) hi hg hps;cases hz:zx E o.dst
   .rw[hz,cond_false] at h;refine .val (au6 hR (qs:=parts.toList.map fun p=>(p.1,fr.ev E p.2)) h (by rw[e1];simp[Function.comp_def]) (by simpa [Function.comp_def] using e2)) fun y hy=>?_;simp only[dM,hop,hz,dI,if_false];rw[hy];rfl
   .rw[hz,cond_true] at h;refine avl hR (qs:=parts.toList.map fun p=>(p.1,fr.ev E p.2)) h (by rw[e1];simp[Function.comp_def]) (by simpa [Function.comp_def] using e2) hi rfl fun y Y' hy=>.kL ?_;simp only[dM,hop,hz,if_true];exact hy
  .cases h
 ·
  rename_i t a hop;split at h
  .rename_i p off hv;split at h
   .rename_i cs hl;split at h
    .rename_i v hld;cases h;obtain⟨s,h1,h2⟩:=(bU (E:=E) hi hg hv).rT;obtain⟨s',l,h3,h4,h5⟩:=hi.rd hl;rw[h1] at h3;cases h3;obtain⟨y,hy,hr⟩:=Bh h5 hld;exact .tt (by simp only[dM,hop,h2,h4,Option.bind_some,hy,Option.map_some]) hr
    .cases h
   .cases h
  .rename_i cs off hv;split at h
   .rename_i v hld;cases h;obtain⟨l,h2,h5⟩:=(bU (E:=E) hi hg hv).uz;obtain⟨y,hy,hr⟩:=Bh h5 hld;exact .tt (by simp only[dM,hop,h2,hy,Option.map_some]) hr
   .cases h
  .rename_i p τ i off hv;split at h
   .rename_i ob hl;obtain⟨s,h1,_,h2⟩:=(bU (E:=E) hi hg hv).FL;obtain⟨l,f,rfl,hf⟩:=avf h (hi.rd hl) h1;intro y hy;obtain⟨cs,w,h3,h4,h5⟩:=hf y hy;exact⟨w,.kL (by simp only[dM,hop,h2,h3,Option.bind_some,h4,Option.map_some]),h5⟩
   .cases h
  .cases h
 ·
  rename_i t a x hop;split at h
  .rename_i p off v hv hx;split at h
   .rename_i cs sz hl hsz;obtain⟨hc,h⟩:=gG h;cases h;simp only[bf] at hc;obtain⟨⟨⟨c1,c2⟩,c3⟩,c4⟩:=hc;obtain⟨s,h1,h2⟩:=(bU (E:=E) hi hg hv).rT;obtain⟨s',l,h3,h4,h5⟩:=hi.ob _ _ hl;rw[h1] at h3;cases h3;obtain⟨h6,h7⟩:=yK c4 (bU (E:=E) hi hg hx);refine⟨aP,_,Z,.kL (o:=o) ?_,(hi.le (kR _)).set p s ⟨s,_,h1,sK _ _ _ _,YA off h5 h6⟩,rfl,gX,fun q _=>bV.set hl rfl⟩;simp only[dM,hop,h2,h4,Option.bind_some];rw[if_pos ⟨by rw[hsz,h6.length,fQ c1],by rw[h6.length,h5.length];exact oD c2,Nn c3 h6⟩]
   .cases h
  .cases h
 ·
  rename_i x hop;split at h
  .rename_i p off hv;cases h;have hr:=bU (E:=E) hi hg hv;obtain⟨s,h1,h2⟩:=hr.rT;exact .tt (y:=fr.ev E x) QS hr
  .rename_i p off hv;cases h;have hr:=bU (E:=E) hi hg hv;obtain⟨s,h2,h1⟩:=hr.uz;exact .tt (y:=fr.ev E x) QS hr
  .rename_i p τ i off hv;cases h;have hr:=bU (E:=E) hi hg hv;obtain⟨s,h1,_,h2⟩:=hr.FL;exact .tt (y:=fr.ev E x) QS hr
  .rename_i f a' b' hv;cases h;have hr:=bU (E:=E) hi hg hv;obtain⟨a',b',h2,h1⟩:=hr.pE;exact .tt (y:=fr.ev E x) QS hr
  .cases h
 ·
  rename_i op t x y t' hop;split at h
  .rename_i x' y' hx hy;exact .val (auZ h (bU (E:=E) hi hg hx) (bU (E:=E) hi hg hy)) fun z hz=>BX
  .cases h
 ·
  rename_i op t x hop;split at h
  .rename_i x' hx;exact .val (au0 h (bU (E:=E) hi hg hx)) fun z hz=>BX
  .cases h
 ·
  rename_i a' b' x hop;split at h
  .rename_i x' hx;exact .val (au2 (Y:=Y) h (bU (E:=E) hi hg hx)) fun z hz=>BX
  .cases h
 ·
  rename_i f a' b' hop;split at h
  .rename_i xs ys hx hy;cases h;exact .tt (y:=.fn (.func f) (a'.toList.map (fr.ev E)) (b'.toList.map (fr.ev E))) (by simp only[dM,hop]) (by unfold aC;exact⟨_,_,rfl,zP (E:=E) hi hg hx,zP (E:=E) hi hg hy⟩)
  .cases h
 ·
  rename_i t hop;split at h
  .rename_i d k e hd ht;split at h
   .rename_i k' e' hk he;cases h;refine⟨.fu (Z.aj.lc d) aN,_,Z.oo d aN,.kL (o:=o) ?_,(hi.le (kR _)).new d aN (a:=.map [] []) ⟨aN,Aw,map_eq Y (Z.aj.lc d) aN [] []⟩,rfl,GU,fun q hq=>bV.new (fun e=>hq.1 G6)⟩;simp only[dM,hop,hd,Option.map_some,hi.at (iO _ hd)]
   .cases h;refine⟨.fu (Z.aj.lc d) aN,_,Z.oo d aN,.kL (o:=o) ?_,(hi.le (kR _)).new d aN (a:=.map [] []) ⟨aN,[],[],Aw,map_eq Y (Z.aj.lc d) aN [] [],rfl,rfl⟩,rfl,GU,fun q hq=>bV.new (fun e=>hq.1 G6)⟩;simp only[dM,hop,hd,Option.map_some,hi.at (iO _ hd)]
  .cases h
 ·
  rename_i t l c hop;split at h
  .rename_i n m hn hm;refine avn hR h (bU (E:=E) hi hg hn) (bU (E:=E) hi hg hm) hi rfl fun y Y' hy=>.kL ?_;have e:(o.dst.map fun t=>(fr.d,t))=o.dst.map fun t=>(Z.aj.lc t):=hi.akm iO;simp only[dM,hop];rw[e,hi.aj,bT];exact hy
  .cases h
 ·
  rename_i t x lo hi' hop;split at h
  .rename_i x' hx;have o8:=bU (E:=E) hi hg hx;split at h
   .exact .val (Te hR (Y:=Y) (vl:=none) (vh:=none) h o8 hi (fun y hy=>by cases hy) (fun _=>rfl) (fun y hy=>by cases hy) (fun _=>rfl)) fun z hz=>QH
   .rename_i lo;split at h
    .rename_i l hl;exact .val (Te hR (Y:=Y) (vl:=some (fr.ev E lo)) (vh:=none) h o8 hi (fun y hy=>by cases hy;exact⟨_,rfl,bU (E:=E) hi hg hl⟩) (fun h=>dh) (fun y hy=>by cases hy) (fun _=>rfl)) fun z hz=>QH
    .cases h
   .rename_i hi2;split at h
    .rename_i l hl;exact .val (Te hR (Y:=Y) (vl:=none) (vh:=some (fr.ev E hi2)) h o8 hi (fun y hy=>by cases hy) (fun _=>rfl) (fun y hy=>by cases hy;exact⟨_,rfl,bU (E:=E) hi hg hl⟩) (fun h=>dh)) fun z hz=>QH
    .cases h
   .rename_i lo hi2;split at h
    .rename_i l l2 hl hl2;exact .val (Te hR (Y:=Y) (vl:=some (fr.ev E lo)) (vh:=some (fr.ev E hi2)) h o8 hi (fun y hy=>by cases hy;exact⟨_,rfl,bU (E:=E) hi hg hl⟩) (fun h=>dh) (fun y hy=>by cases hy;exact⟨_,rfl,bU (E:=E) hi hg hl2⟩) (fun h=>dh)) fun z hz=>QH
    .cases h
  .cases h
 ·
  rename_i t x f hop;split at h
  .rename_i x' hx;have o8:=bU (E:=E) hi hg hx;split at h
   .rename_i v hv;cases h;unfold aiN at hv;split at hv
    .rename_i p u hf;split at hv
     .rename_i q off;cases hv;obtain⟨s,h1,h2⟩:=o8.rT;exact .tt (y:=.ref (Z.aj.lc q) s (off+p)) (by simp only[dM,hop,hf,Option.bind_some,h2]) (by unfold aC;exact⟨s,h1,rfl⟩)
     .rename_i q off;cases hv;obtain⟨l,h2,h1⟩:=o8.uz;exact .tt (y:=.aY l (off+p)) (by simp only[dM,hop,hf,Option.bind_some,h2]) (by unfold aC;exact⟨l,rfl,h1⟩)
     .rename_i q τ i off;cases hv;obtain⟨s,h1,h3,h2⟩:=o8.FL;exact .tt (y:=.ref (Z.aj.lc q) s (i.toNat*dN R τ+off+p)) (by simp only[dM,hop,hf,Option.bind_some,h2]) (by unfold aC;exact⟨s,h1,h3,by rw[oV]⟩)
     .cases hv
    .cases hv
   .cases h
  .cases h
 ·
  rename_i t x f hop;split at h
  .rename_i p u cs hf hx;split at h
   .rename_i v hv;cases h;obtain⟨l,h1,h2⟩:=(bU (E:=E) hi hg hx).mX;obtain⟨y,hy,hr⟩:=Bh h2 hv;exact .tt (by simp only[dM,hop,hf,Option.bind_some,h1,hy,Option.map_some]) hr
   .cases h
  .cases h
 ·
  rename_i t x i hop;split at h
  .rename_i p τ y' hx hy;exact .val (avr hR (aj:=false) h (bU (E:=E) hi hg hx) (bU (E:=E) hi hg hy) hi) fun z hz=>BX
  .rename_i p τ a c y' hx hy;exact .val (avq hR h (bU (E:=E) hi hg hx) (bU (E:=E) hi hg hy) hi) fun z hz=>BX
  .rename_i x' y' _ _ hx hy;exact .val (avA hR h (bU (E:=E) hi hg hx) (bU (E:=E) hi hg hy)) fun z hz=>BX
  .cases h
 ·
  rename_i t x i hop;split at h
  .rename_i x' y' hx hy;exact .val (avB h (bU (E:=E) hi hg hx) (bU (E:=E) hi hg hy)) fun z hz=>BX
  .cases h
 ·
  rename_i t x i ok hop;split at h
  .rename_i x' y' hx hy;exact .val (avN hR h (bU (E:=E) hi hg hx) (bU (E:=E) hi hg hy) hi) fun z hz=>BX
  .cases h
 ·
  rename_i t m k v hop;split at h
  .rename_i m' k' v' hm hk hv;exact akl hR h (bU (E:=E) hi hg hm) (bU (E:=E) hi hg hk) (bU (E:=E) hi hg hv) hi fun Y' hs=>by simp only[dM,hop,hs,Option.map_some]
  .cases h
 .rename_i t m k v hop;split at h
  .rename_i m' k' v' hm hk hv;exact akl hR h (bU (E:=E) hi hg hm) (bU (E:=E) hi hg hk) (bU (E:=E) hi hg hv) hi fun Y' hs=>by simp only[dM,hop,hs,Option.map_some]
  .cases h
 ·
  rename_i x i hop;split at h
  .rename_i vs hv;split at h
   .rename_i v hx;cases h;obtain⟨l,h1,h2⟩:=(bU (E:=E) hi hg hv).Jf;obtain⟨y,hy,hr⟩:=h2.get hx;exact .tt (by simp only[dM,hop,h1,hy,Option.map_some]) hr
   .cases h
  .cases h
 ·
  rename_i c hop;split at h
  .rename_i bi fT;split at h
   .rename_i vs hvs;have hrs:=zP (E:=E) hi hg hvs;have step:∀y Y',qI E fr.aj (o.dst.map fun t=>(fr.d,E.cn t)) Y aN bi c.argTypes (c.args.toList.map (fr.ev E))=some (y,Y')->oq E fr Y aN o y Y':=fun y Y' hb=>.of fun S=>by simp only[opC,hop,fT,hb,Option.map_some]
    unfold blt at h;split at h
    .rename_i x;split at h
     .rename_i t ht;split at h
      .rename_i n hn;cases h;obtain⟨v,l,e,h1,h2⟩:=hrs.fV;rw[h2.jw] at e;refine⟨_,step _ Y ?_,gX⟩;rw[e];simp only[qI,ht,Option.bind_some,au9 hn h1 hi,Option.map_some]
      .cases h
     .cases h
    .rename_i x y;split at h
     .rename_i t u ht hu;obtain⟨v,l,e,h1,h2⟩:=hrs.fV;obtain⟨w,l',e',h3,h4⟩:=h2.fV;subst e';rw[h4.jw] at e;have e0:(o.dst.map fun t=>(fr.d,t))=o.dst.map fun t=>(Z.aj.lc t):=hi.akm iO;have fin:I4 E u=true->∀z Y',kI E.P aj false Y aN (o.dst.map fun t=>(fr.d,E.cn t)) t v w=some (z,Y')->oq E fr Y aN o z Y':=fun hss z Y' hz=>step z Y' (by
       rw[e];unfold I4 at hss;simp only[qI,ht,hu,Option.bind_some,hi.aj,bT];split at hss
       .rename_i hu';rw[hu'];simp only[hz,Option.bind_some]
       .rename_i hu';rw[hu'];simp only[hz,Option.bind_some]
       .cases hss)
      cases akr:aj
      .rw[akr] at h fin;have h':M8 E R o.dst t u x y st=some r:=h;have hss:I4 E u=true:=by
        unfold M8 at h';split at h'
        .split at h'
         .exact(gG h').1
         .cases h'
        .cases h'
       exact au8 hR (loc:=o.dst.map fun t=>(fr.d,E.cn t)) h' h1 h3 hi (fin hss)
      .rw[akr] at h fin;have h':M9 E R o.dst t u x y st=some r:=h;have hss:I4 E u=true:=by
        unfold M9 at h';split at h'
        .rename_i d' _;cases hbl:Nat.ble F0 (E.cn d') with
         |true=>rw[hbl] at h';cases h'|false=>
          rw[hbl,cond_false] at h';split at h'
          .exact(gG h').1
          .cases h'
        .cases h'
       exact avm hR h' h1 h3 hi rfl (fin hss)
     .cases h
    .rename_i x;split at h
     .rename_i t ht;obtain⟨v,l,e,h1,h2⟩:=hrs.fV;rw[h2.jw] at e;exact av0 hR h h1 hi fun y Y' hy=>step y Y' (by rw[e];simp only[qI,ht,Option.bind_some,hy])
     .cases h
    .rename_i x l;split at h
     .rename_i v hv;cases h;obtain⟨y,ys,e,h1,h2⟩:=hrs.fV;obtain⟨w,hw,hr⟩:=YJ false hv h1 h2;refine⟨w,step w Y ?_,hr⟩;rw[e];simp only[qI,hw,Option.map_some]
     .cases h
    .rename_i x l;split at h
     .rename_i v hv;cases h;obtain⟨y,ys,e,h1,h2⟩:=hrs.fV;obtain⟨w,hw,hr⟩:=YJ true hv h1 h2;refine⟨w,step w Y ?_,hr⟩;rw[e];simp only[qI,hw,Option.map_some]
     .cases h
    .cases h
   .cases h
  .rename_i f fT;split at h
   .rename_i f' a' b' vs hf hvs;cases himp:E.imp f' with
    |true=>rw[himp] at h;cases h|false=>rw[himp,cond_false] at h;obtain⟨va,vb,h1,h2,h3⟩:=(bU (E:=E) hi hg hf).pE;exact aj8 hR hF hop fT h1 himp ((h2.append (zP (E:=E) hi hg hvs)).append h3) hi (fun _ hx=>hx) h
   .cases h
  .cases h
 .cases h
theorem zR {aj:Bool}{F:Nat->List (ig R)}(hF:bg E F)(bT:Z.aj.aj=aj)(iO:∀d,o.dst=some d->d<F0){g:List (Nat×Bool)}(hg:sV fr g)(hi:aU Z aN st fr Y){r:fE R}(h:zJ E R aj F g o.dst o.op st=some r):sZ E st Z aN fr Y o r:=by
 unfold zJ at h;split at h
 .rename_i r' hx;cases h;exact avP hR iO hg hi hx
 .exact av1 hR hF bT iO hg hi h
end
section
variable {R:jY}{E:Env}{Z Z':bC}{b aN:Nat}{st:aO R.T}{fr:Fr}{Y:ah}{o:Oper}(hR:rQ R)
include hR
def Ny (E:Env)(g:Nat)(r:qO R):Prop:=∀p q y q',r.F p q=some (y,q')->∀(Z:bC)(vs:List V)(Y:ah),Z.aj.aj=E.aj g->(∀t,Z.tk t=none)->Z.aj.lo<=Y.next->
 aK R Z Y.top (jL R .any r.args p) vs->(∀o x,look (mE R r.obs q) o=some x->gK Z Y o x)->
 iW E g vs Z.aj.dp Y fun v Y'=>(∃ws,v=jy ws/\aK R Z Y'.top (jL R .any r.res y) ws)/\(∀o x,look (mE R r.obs q') o=some x->gK Z Y' o x)/\Y.next<=Y'.next/\(∀l,l<Y.next->Y'.loops l=Y.loops l)/\(∀s,s<Z.aj.lo->Y'.top s=Y.top s)/\
  ∀L:Loc,L.1<=Z.aj.dp->Z.aj.out L->Y'.obj L=Y.obj L
def Tw (E:Env)(M:Nat->List (qO R)):Prop:=∀g,∀r∈M g,E.imp g=true/\Ny E g r
omit hR in
theorem aks {i:Nat}:∀{l:List Nat},bR i l=true->i∈l
 | [],h=>dh|j::l,h=>by
  have h':(Nat.beq i j||bR i l)=true:=h;rw[wM] at h';rcases h' with h'|h'
  .rw[fQ h'];exact jW ..
  .exact kQ _ (aks h')
omit hR in
theorem Y4 {i:Nat}:∀{l:List Nat},i∈l->bR i l=true
 | [],h=>dh|j::l,h=>by
  show (Nat.beq i j||bR i l)=true;rw[wM];rcases jd.1 h with h|h
  .left;rw[h];exact zh _
  .right;exact Y4 h
omit hR in
theorem akt:∀{l:List Nat}{n o p:Nat},look (mG l n) o=some p->n<=p/\l[p-n]? =some o
 | [],_,_,_,h=>dh|a::l,n,o,p,h=>by
  have h':look ((a,n)::mG l (n+1)) o=some p:=h;by_cases e:o=a
  .subst e;rw[nX] at h';cases h';exact⟨iR _,aD⟩
  .rw[kN _ _ e] at h';obtain⟨h1,h2⟩:=akt h';refine⟨RS,?_⟩;have:p-n=(p-(n+1))+1:=RS
   rw[this];simpa using h2
omit hR in
theorem aku:∀{l:List Nat}{n o p:Nat},look (SI (mG l n)) p=some o->n<=p/\l[p-n]? =some o
 | [],_,_,_,h=>dh|a::l,n,o,p,h=>by
  have h':look ((n,a)::SI (mG l (n+1))) p=some o:=h;by_cases e:p=n
  .subst e;rw[nX] at h';cases h';exact⟨iR _,aD⟩
  .rw[kN _ _ e] at h';obtain⟨h1,h2⟩:=aku h';refine⟨RS,?_⟩;have:p-n=(p-(n+1))+1:=RS
   rw[this];simpa using h2
omit hR in
theorem akv:∀{l:List Nat},FE l=true->∀{i j o:Nat},l[i]? =some o->l[j]? =some o->i=j
 | [],_,i,j,o,hi,_=>by simp at hi|a::l,h,i,j,o,hi,hj=>by
  have h':(!(bR a l)&& FE l)=true:=h;rw[bf,xZ] at h';cases i with
  |zero=>
   cases j with
   |zero=>rfl|succ j=>have e:a=o:=kg;have e2:l[j]? =some o:=Es;rw[e,Y4 (uW e2)] at h';exact absurd h'.1 aD
  |succ i=>
   cases j with
   |zero=>have e:a=o:=Es;have e2:l[i]? =some o:=kg;rw[e,Y4 (uW e2)] at h';exact absurd h'.1 aD|succ j=>rw[akv h'.2 (show l[i]? =some o by simpa using hi) (show l[j]? =some o by simpa using hj)]
omit hR in
theorem Y5:∀{l:List Nat}{n p:Nat}{x:bP R.T},look (Jb st (mG l n)) p=some x->∃o,n<=p/\l[p-n]? =some o/\look st.ob o=some x
 | [],_,_,_,h=>dh|a::l,n,p,x,h=>by
  have up:look (Jb st (mG l (n+1))) p=some x->∃o,n<=p/\(a::l)[p-n]? =some o/\look st.ob o=some x:=fun h=>by
   obtain⟨o,h1,h2,h3⟩:=Y5 h;refine⟨o,RS,?_,h3⟩;have:p-n=(p-(n+1))+1:=RS
   rw[this];simpa using h2
  have h':=h;unfold mG Jb at h';split at h'
  .rename_i y hy;by_cases e:p=n
   .subst e;rw[nX] at h';cases h';exact⟨a,iR _,aD,hy⟩
   .rw[kN _ _ e] at h';exact up h'
  .exact up h'
omit hR in
theorem Y6 {L:List (Nat×bP R.T)}:∀{l:List Nat}{n o:Nat}{y:bP R.T},look (xk (mG l n) L) o=some y->∃p,n<=p/\l[p-n]? =some o/\look L p=some y
 | [],_,_,_,h=>dh|a::l,n,o,y,h=>by
  have up:look (xk (mG l (n+1)) L) o=some y->∃p,n<=p/\(a::l)[p-n]? =some o/\look L p=some y:=fun h=>by
   obtain⟨p,h1,h2,h3⟩:=Y6 h;refine⟨p,RS,?_,h3⟩;have:p-n=(p-(n+1))+1:=RS
   rw[this];simpa using h2
  have h':=h;unfold mG xk at h';split at h'
  .rename_i z hz;by_cases e:o=a
   .subst e;rw[nX] at h';cases h';exact⟨n,iR _,aD,hz⟩
   .rw[kN _ _ e] at h';exact up h'
  .exact up h'
omit hR in
theorem akw {L:List (Nat×bP R.T)}:∀{l:List Nat}{n o:Nat},(∀p,n<=p->p<n+l.length->∃y,look L p=some y)->look (xk (mG l n) L) o=none->o∉l
 | [],_,_,_,_=>aD|a::l,n,o,hL,h=>by
  obtain⟨y,hy⟩:=hL n (iR _) aD;have h':=h;unfold mG xk at h';rw[hy] at h';by_cases e:o=a
  .subst e;rw[nX] at h';cases h'
  .rw[kN _ _ e] at h';have:=akw (fun p h1 h2=>hL p RS (by rw[List.length_cons];omega)) h';simp[e,this]
omit hR in
theorem Tx:∀{l:List Nat}{n:Nat}{obs:List (Nat×iD)}{q:lW R.T obs},Jc (mG l n) obs=true->∀p,n<=p->p<n+l.length->∃y,look (mE R obs q) p=some y
 | [],n,_,_,_,p,h1,h2=>LM|a::l,n,[],_,h,_,_,_=>dh|a::l,n,[(j,k)],q,h,p,h1,h2=>by
  have h':(Nat.beq n j&& Jc (mG l (n+1)) [])=true:=h;rw[bf] at h';have hj:=fQ h'.1;subst hj;by_cases e:p=n
  .subst e;exact⟨_,nX _ _ _⟩
  .obtain⟨y,hy⟩:=Tx (q:=show lW R.T [] from ()) h'.2 p RS (by rw[List.length_cons] at h2;omega);cases hy
 |a::l,n,(j,k)::x::obs,q,h,p,h1,h2=>by
  have h':(Nat.beq n j&& Jc (mG l (n+1)) (x::obs))=true:=h;rw[bf] at h';have hj:=fQ h'.1;subst hj;show∃y,look ((n,pq R k q.1)::mE R (x::obs) q.2) p=some y;by_cases e:p=n
  .subst e;exact⟨_,nX _ _ _⟩
  .rw[kN _ _ e];exact Tx h'.2 p RS (by rw[List.length_cons] at h2;omega)
omit hR in
theorem Tz {L:List (Nat×bP R.T)}:∀(l:List (Nat×iD))(x:lW R.T l),pz R L l=some x->∀i v,look (mE R l x) i=some v->∃k y z,look L i=some y/\CU R k y=some z/\v=pq R k z/\(xq l=true->okO k=true)
 | [],x,hx,i,v,hv=>Ey| [(j,k)],x,hx,i,v,hv=>by
   unfold pz at hx;split at hx
   .rename_i y hy;by_cases e:i=j
    .subst e;have hv':look [(i,pq R k x)] i=some v:=hv;rw[nX] at hv';cases hv';exact⟨k,y,x,hy,hx,rfl,fun h=>by unfold xq at h;rw[bf] at h;exact h.1⟩
    .have hv':look [(j,pq R k x)] i=some v:=hv;rw[kN _ _ e] at hv';cases hv'
   .cases hx
 | (j,k)::q::l,x,hx,i,v,hv=>by
   unfold pz at hx;split at hx
   .rename_i y hy;cases hu:CU R k y with
    |none=>simp only[hu] at hx;cases hx|some z=>
     cases hs:pz R L (q::l) with
     |none=>simp only[hu,hs] at hx;cases hx|some p=>
      simp only[hu,hs] at hx;obtain rfl:=kP hx;have hv':look ((j,pq R k z)::mE R (q::l) p) i=some v:=hv;by_cases e:i=j
      .subst e;rw[nX] at hv';cases hv';exact⟨k,y,z,hy,hu,rfl,fun h=>by unfold xq at h;rw[bf] at h;exact h.1⟩
      .rw[kN _ _ e] at hv';obtain⟨k',y',z',h1,h2,h3,h4⟩:=Tz (q::l) p hs i v hv';exact⟨k',y',z',h1,h2,h3,fun h=>h4 (by unfold xq at h;rw[bf] at h;exact h.2)⟩
   .cases hx
omit hR in
theorem akx:∀{l:List (Nat×iD)}{x:lW R.T l},xq l=true->∀{i:Nat}{v:bP R.T},look (mE R l x) i=some v->∃k z,okO k=true/\v=pq R k z
 | [],x,_,i,v,hv=>Ey| [(j,k)],x,h,i,v,hv=>by
   unfold xq at h;rw[bf] at h;have hv':look [(j,pq R k x)] i=some v:=hv;by_cases e:i=j
   .subst e;rw[nX] at hv';cases hv';exact⟨k,x,h.1,rfl⟩
   .rw[kN _ _ e] at hv';cases hv'
 | (j,k)::q::l,x,h,i,v,hv=>by
   unfold xq at h;rw[bf] at h;have hv':look ((j,pq R k x.1)::mE R (q::l) x.2) i=some v:=hv;by_cases e:i=j
   .subst e;rw[nX] at hv';cases hv';exact⟨k,x.1,h.1,rfl⟩
   .rw[kN _ _ e] at hv';exact akx h.2 hv'
omit hR in
theorem av4 {top top':Nat->Nat}{t:Ty}{x:Den R.T t}{v:V}(h:aC R Z top (jg R .any t x) v):aC R Z' top' (jg R .any t x) v:=by
 cases t with
 |st n=>obtain⟨l,hv,hl⟩:=aC.mX (R:=R) h;exact⟨l,hv,Da _ _ _ hl⟩
 |int k=>exact h|bool=>exact h|str=>exact h|slice t=>exact h
omit hR in
mutual
theorem aky {top top':Nat->Nat}:∀(k:bQ)(z:sM R.T k)(v:V),SG k=true->aC R Z top (up R .any k z) v->aC R Z' top' (up R .any k z) v
 |.d t,z,v,_,h=>by unfold up at h⊢;exact av4 h|.aY l off,z,v,hd,h=>by unfold up at h⊢;obtain⟨cs,rfl,h1⟩:=h.uz;unfold aC;exact⟨cs,rfl,Nz (by unfold SG at hd;exact hd) h1⟩
 |.fn f a b,z,v,hd,h=>by unfold up at h⊢;obtain⟨x,y,rfl,h1,h2⟩:=h.pE;unfold SG at hd;rw[bf] at hd;unfold aC;exact⟨x,y,rfl,Nz hd.1 h1,Nz hd.2 h2⟩
 |.l _ _,_,_,hd,_=>uT|.agg _,_,_,hd,_=>uT|.ref _ _,_,_,hd,_=>uT|.fu _,_,_,hd,_=>uT|.fH _ _,_,_,hd,_=>uT|.fU,_,_,hd,_=>uT|.aS _ _,_,_,hd,_=>uT|.sub _ _,_,_,hd,_=>uT|.sg _,_,_,hd,_=>uT|.undef,_,_,hd,_=>uT
theorem Nz {top top':Nat->Nat}:∀{l:List bQ}{z:aT R.T l}{cs:List V},CZ l=true->aK R Z top (jL R .any l z) cs->aK R Z' top' (jL R .any l z) cs
 | [],_,_,_,h=>h| [k],z,cs,hd,h=>by unfold CZ at hd;rw[bf] at hd;obtain⟨v,ws,rfl,h1,h2⟩:=aK.fV (ts:=[]) (show aK R Z top [up R .any k z] cs from h);rw[h2.jw];exact .cons' (aky k z v hd.1 h1) rfl
 |k::q::l,z,cs,hd,h=>by unfold CZ at hd;rw[bf] at hd;obtain⟨v,ws,rfl,h1,h2⟩:=aK.fV (show aK R Z top (up R .any k z.1::jL R .any (q::l) z.2) cs from h);exact .cons' (aky k z.1 v hd.1 h1) (Nz (l:=q::l) hd.2 h2)
end
omit hR in
theorem Y7 {o p:Nat}{k:iD}{z:Fg R.T k}(hk:okO k=true)(hb:Z'.ob p=Z.ob o)(hn:Z'.ln p=Z.ln o)(hl:Z'.aj.lc p=Z.aj.lc o)(h:gK Z Y o (pq R k z)):gK Z' Y p (pq R k z):=by
 cases k with
 |cells l=>obtain⟨s,cs,h1,h2,h3⟩:=h;exact⟨s,cs,LP,LQ,Nz hk h3⟩
 |st n=>obtain⟨s,cs,h1,h2,h3⟩:=h;exact⟨s,cs,LP,LQ,Da _ _ _ h3⟩
 |map k e=>obtain⟨s,h1,h2⟩:=h;exact⟨s,LP,LQ⟩
 |arr t=>
  refine⟨h.1.trans hn.symm,?_⟩;rcases h.2 with h| ⟨s,cs,h1,h2,h3⟩
  .exact .inl ⟨h.1,by rw[hb];exact h.2⟩
  .exact .inr ⟨s,cs,LP,LQ,zN _ cs h3⟩
 |sg l=>obtain⟨s,h1,h2⟩:=h;exact⟨s,LP,LQ⟩
omit hR in
mutual
theorem aC.ren {top:Nat->Nat}{m:List (Nat×Nat)}(hm:∀o p,look m o=some p->Z'.aj.lc p=Z.aj.lc o/\Z'.ob p=Z.ob o/\Z'.ln p=Z.ln o):∀(x:aA R.T)(v:V),aC R Z top x v->aC R Z' top (zL m x) v
 |.ref o off,v,h=>by
  obtain⟨s,h1,h2⟩:=h;unfold zL;split
  .rename_i p hp;obtain⟨a,b,c⟩:=hm _ _ hp;exact⟨s,Et,LU⟩
  .unfold aC;trivial
 |.fu o,v,h=>by
  obtain⟨s,h1,h2⟩:=h;unfold zL;split
  .rename_i p hp;obtain⟨a,b,c⟩:=hm _ _ hp;exact⟨s,Et,LU⟩
  .unfold aC;trivial
 |.aS o t,v,h=>by
  unfold zL;split
  .rename_i p hp;obtain⟨a,b,c⟩:=hm _ _ hp;rcases h with ⟨s,h1,h2⟩| ⟨h1,h2⟩
   .exact .inl ⟨s,Et,by rw[a,c];exact h2⟩
   .exact .inr ⟨by rw[c];exact h1,h2⟩
  .unfold aC;trivial
 |.sub o t x y,v,h=>by
  unfold zL;split
  .rename_i p hp;obtain⟨a,b,c⟩:=hm _ _ hp;obtain⟨g0,g1,g2,h⟩:=h;refine⟨g0,g1,by rw[c];exact g2,?_⟩;rcases h with ⟨s,cp,h1,h2,h3⟩|h
   .exact .inl ⟨s,cp,Et,h2,by rw[a];exact h3⟩
   .exact .inr h
  .unfold aC;trivial
 |.mU o t i off,v,h=>by
  obtain⟨s,h1,h2⟩:=h;unfold zL;split
  .rename_i p hp;obtain⟨a,b,c⟩:=hm _ _ hp;exact⟨s,Et,LU⟩
  .unfold aC;trivial
 |.sv o _ _ _ _ _,v,h=>by
  obtain⟨s,h1,h2⟩:=h;unfold zL;split
  .rename_i p hp;obtain⟨a,b,c⟩:=hm _ _ hp;exact⟨s,Et,LU⟩
  .unfold aC;trivial
 |.sel o _ _ _ _ _,v,h=>by
  obtain⟨s,h1,h2⟩:=h;unfold zL;split
  .rename_i p hp;obtain⟨a,b,c⟩:=hm _ _ hp;exact⟨s,Et,LU⟩
  .unfold aC;trivial
 |.ak c t l,v,h=>by
  obtain⟨c',hv,hc⟩:=h;unfold zL;cases c with
  |own u=>exact⟨c',hv,trivial⟩|any=>exact⟨c',hv,trivial⟩|sh=>exact⟨c',hv,hc⟩|nil=>exact⟨c',hv,hc⟩|full=>exact⟨c',hv,hc⟩
 |.agg cs,v,h=>by obtain⟨l,hv,hl⟩:=h;exact⟨l,hv,aK.ren hm cs l hl⟩
 |.bW cs,v,h=>by obtain⟨l,hv,hl⟩:=h;exact⟨l,hv,aK.ren hm cs l hl⟩
 |.aY cs off,v,h=>by obtain⟨l,hv,hl⟩:=h;exact⟨l,hv,aK.ren hm cs l hl⟩
 |.fn f a b,v,h=>by obtain⟨a',b',hv,ha,hb⟩:=h;exact⟨a',b',hv,aK.ren hm a a' ha,aK.ren hm b b' hb⟩
 |.opt _ _ _,_,h=>h.elim|.int _ _,_,h=>h|.bool _,_,h=>h|.jK _,_,h=>h|.str _,_,h=>h|.gY,_,h=>h|.gL,_,h=>h|.iq,_,h=>h|.iN,_,h=>h|.fU,_,h=>h|.fH _ _ _,_,h=>h|.undef,_,h=>h|.sg _,_,h=>h|.vE _ _ _ _,_,h=>h|.gone,_,h=>h
theorem aK.ren {top:Nat->Nat}{m:List (Nat×Nat)}(hm:∀o p,look m o=some p->Z'.aj.lc p=Z.aj.lc o/\Z'.ob p=Z.ob o/\Z'.ln p=Z.ln o):∀(x:List (aA R.T))(v:List V),aK R Z top x v->aK R Z' top (Bb m x) v
 | [],_,h=>h|x::xs,_,⟨v,vs,e,h1,h2⟩=>⟨v,vs,e,aC.ren hm x v h1,aK.ren hm xs vs h2⟩
end
omit hR in
mutual
theorem aC.top {Z:bC}{t t':Nat->Nat}(ht:∀u s,Z.tk u=some s->t' s=t s):∀(x:aA R.T)(v:V),aC R Z t x v->aC R Z t' x v
 |.ak c ty l,v,h=>by
  obtain⟨c',hv,hc⟩:=h;refine⟨c',hv,?_⟩;cases c<;>first|exact hc|skip
  rcases hc with hc|hc| ⟨s,h1,h2,h3⟩
  .exact .inl hc
  .exact .inr (.inl hc)
  .exact .inr (.inr ⟨s,h1,h2,(ht _ _ h2).trans h3⟩)
 |.agg cs,v,h=>by obtain⟨l,hv,hl⟩:=h;exact⟨l,hv,aK.top ht cs l hl⟩
 |.bW cs,v,h=>by obtain⟨l,hv,hl⟩:=h;exact⟨l,hv,aK.top ht cs l hl⟩
 |.aY cs off,v,h=>by obtain⟨l,hv,hl⟩:=h;exact⟨l,hv,aK.top ht cs l hl⟩
 |.fn f a b,v,h=>by obtain⟨a',b',hv,ha,hb⟩:=h;exact⟨a',b',hv,aK.top ht a a' ha,aK.top ht b b' hb⟩
 |.ref _ _,_,h=>h|.fu _,_,h=>h|.aS _ _,_,h=>h|.sub _ _ _ _,_,h=>h|.mU _ _ _ _,_,h=>h|.opt _ _ _,_,h=>h.elim|.int _ _,_,h=>h|.bool _,_,h=>h|.jK _,_,h=>h|.str _,_,h=>h|.gY,_,h=>h|.gL,_,h=>h|.iq,_,h=>h|.iN,_,h=>h|.fU,_,h=>h|.fH _ _ _,_,h=>h|.undef,_,h=>h|.sg _,_,h=>h|.sv _ _ _ _ _ _,_,h=>h|.sel _ _ _ _ _ _,_,h=>h|.vE _ _ _ _,_,h=>h|.gone,_,h=>h
theorem aK.top {Z:bC}{t t':Nat->Nat}(ht:∀u s,Z.tk u=some s->t' s=t s):∀(x:List (aA R.T))(v:List V),aK R Z t x v->aK R Z t' x v
 | [],_,h=>h|x::xs,_,⟨v,vs,e,h1,h2⟩=>⟨v,vs,e,aC.top ht x v h1,aK.top ht xs vs h2⟩
end
omit hR in
theorem kD.top {fr:Fr}{Z:bC}{t t':Nat->Nat}(ht:∀u s,Z.tk u=some s->t' s=t s){x:aA R.T}{v:V}(h:kD fr Z t x v):kD fr Z t' x v:=by
 cases x with
 |opt j w y=>exact⟨fun hc=>aC.top ht y v (h.1 hc),h.2⟩
 |_=>exact .of (aC.top ht _ v h)
omit hR in
theorem Y8 {Z:bC}{Y Y':ah}{p:Nat}(hp:Y'.obj (Z.aj.lc p)=Y.obj (Z.aj.lc p))(ht:∀u s,Z.tk u=some s->Y'.top s=Y.top s):∀{x:bP R.T},gK Z Y p x->gK Z Y' p x
 |.cells cs,h=>by obtain⟨s,l,h1,h2,h3⟩:=h;exact⟨s,l,h1,GR,aK.top ht _ _ h3⟩
 |.map k e m,h=>by obtain⟨s,h1,h2⟩:=h;exact⟨s,h1,QI⟩
 |.smap ks vs,h=>by obtain⟨s,k,l,h1,h2,h3,h4⟩:=h;exact⟨s,k,l,h1,QI,aK.top ht _ _ h3,aK.top ht _ _ h4⟩
 |.arr t l,h=>by
  refine⟨h.1,?_⟩;rcases h.2 with h| ⟨s,cs,h1,h2,h3⟩
  .exact .inl h
  .exact .inr ⟨s,cs,h1,GR,zN l cs h3⟩
 |.sg ss,h=>by obtain⟨s,h1,h2⟩:=h;exact⟨s,h1,GR⟩
 |.gone,_=>trivial|.ro b,h=>Y8 hp ht (x:=b) h
omit hR in
theorem aU.shift {Z:bC}{b:Nat}{st:aO R.T}{fr:Fr}{Y Y':ah}(h:aU Z b st fr Y)(hp:∀p,Y'.obj (Z.aj.lc p)=Y.obj (Z.aj.lc p))(ht:∀s,s<b->Y'.top s=Y.top s):aU Z b st fr Y':={h with
 fr:=fun i v hv=>(h.fr i v hv).top fun u s hu=>ht s (h.lt u s hu)
 ob:=fun o x hx=>Y8 (hp o) (fun u s hu=>ht s (h.lt u s hu)) (h.ob o x hx)}
omit hR in
theorem av5 {top:Nat->Nat}{xs:List (aA R.T)}{vs:List V}(h:aK R Z top xs vs):aC R Z top (aiX xs) (jy vs):=by
 match xs,vs,h with
 | [],_,h=>rw[h.jw];exact⟨[],rfl,rfl⟩| [x],_,h=>obtain⟨v,l,rfl,h1,h2⟩:=h.fV;rw[h2.jw];exact h1
 |x::y::l,_,h=>obtain⟨v,ws,rfl,h1,h2⟩:=h.fV;obtain⟨w,us,rfl,h3,h4⟩:=h2.fV;exact⟨v::w::us,rfl,.cons' h1 (.cons' h3 h4)⟩
omit hR in
theorem akz {m:List (Nat×Nat)}{A:List (aA R.T)}{B:List (Nat×bP R.T)}:∀{l:List (qO R)}{r:qO R}{x:Option (aT R.T r.res×lW R.T r.obs)},SH R m A B l=some ⟨r,x⟩->r∈l/\∃p q,jA R r.args A=some p/\pz R B r.obs=some q/\Jc m r.obs=true/\uw r.res=true/\xq r.obs=true/\x=r.F p q
 | [],_,_,h=>dh|s::l,r,x,h=>by
  unfold SH at h;split at h
  .rename_i p q hp hq;obtain⟨hb,h⟩:=gG h;rw[bf,bf] at hb;cases h;exact⟨jW ..,p,q,hp,hq,hb.1,hb.2.1,hb.2.2,rfl⟩
  .obtain⟨h1,h2⟩:=akz h;exact⟨kQ _ h1,h2⟩
def eP.call (c:eP)(aj:Bool)(lo:Nat)(ids:List Nat)(hnd:FE ids=true):eP where
 aj:=aj
 dp:=c.dp+1
 lo:=lo
 fl:=fun p=>if F0<=p then (ids[p-F0]?).map c.lc else none
 lt:=fun p L h=>by
  split at h
  .rename_i hp;obtain⟨o,_,rfl⟩:=aZ.1 h;exact⟨hp,Nat.lt_succ_of_le (c.SQ o)⟩
  .cases h
 inj:=fun p q L h g=>by
  split at h
  .split at g
   .rename_i hp hq;obtain⟨o,h1,rfl⟩:=aZ.1 h;obtain⟨o',h2,e⟩:=aZ.1 g;have:=c.Yj e;subst this;have:=akv hnd h1 h2;omega
   .cases g
  .cases h
omit hR in
theorem eP.av6 {c:eP}{aj:Bool}{lo:Nat}{ids:List Nat}{hnd:FE ids=true}{p o:Nat}(hp:F0<=p)(h:ids[p-F0]? =some o):(c.call aj lo ids hnd).lc p=c.lc o:=by unfold eP.lc eP.call;dsimp only;rw[if_pos hp,h];rfl
omit hR in
theorem eP.akA {c:eP}{aj:Bool}{lo:Nat}{ids:List Nat}{hnd:FE ids=true}{L:Loc}(hL:L.1<=c.dp)(h:∀o∈ids,L≠c.lc o):(c.call aj lo ids hnd).out L:=by
 intro p e;unfold eP.lc eP.call at e;dsimp only at e;split at e
 .rename_i M hM;split at hM
  .obtain⟨o,h1,rfl⟩:=aZ.1 hM;exact h o (uW h1) e
  .cases hM
 .rw[e] at hL;dsimp only at hL;omega
theorem Y9 {β:Type}{M:Nat->List (qO R)}(hM:Tw E M)(hi:aU Z aN st fr Y)(hsn:aN<=Y.next){k:aO R.T->Option β}{x:β}(h:FH R M o st k=some x):
 ∃c f g a vb,o.op= .call c/\c.callee= .value f/\fr.ev E f= .fn (.func g) a vb/\E.imp g=true/\iW E g (a++c.args.toList.map (fr.ev E)++vb) (fr.d+1) Y fun v aB=>∃st1,aU Z (aN+1) st1 (fr.put o.dst v) aB/\Y.next<=aB.next/\(∀p,bV false p st Z Y st1 Z aB)/\k st1=some x:=by
 unfold FH at h;split at h
 .rename_i c hop;split at h
  .rename_i f fT;split at h
   .rename_i g a' b' vs hf hvs;obtain⟨hnd,h⟩:=gG h;generalize aGR:vK (a'++vs++b') []=ids at*;split at h
    .rename_i r x' hfm;obtain⟨⟨y,q'⟩,hy,hk⟩:=iP.1 h;obtain⟨hr,p,q,hp,hq,hks,hsc,hok,rfl⟩:=akz hfm;obtain⟨va,vb,RG,hva,hvb⟩:=(bU (E:=E) hi .nil hf).pE;have hA:=(hva.append (zP (E:=E) hi .nil hvs)).append hvb;let Dn:bC:=⟨fun p=>if F0<=p then (ids[p-F0]?).bind Z.ob else none,fun _=>none,fun p=>if F0<=p then (match ids[p-F0]? with|some o=>Z.ln o|none=>0) else 0,Z.aj.call (E.aj g) Y.next ids hnd⟩
     have hZ:∀{p o},F0<=p->ids[p-F0]? =some o->Dn.aj.lc p=Z.aj.lc o/\Dn.ob p=Z.ob o/\Dn.ln p=Z.ln o:=fun {p o} h1 h2=>by
      refine⟨eP.av6 (hnd:=hnd) h1 h2,?_,?_⟩
      .show (if F0<=p then (ids[p-F0]?).bind Z.ob else none)=_;rw[if_pos h1,h2];rfl
      .show (if F0<=p then (match ids[p-F0]? with|some o=>Z.ln o|none=>0) else 0)=_;rw[if_pos h1,h2]
     have hm:∀o p,look (mG ids F0) o=some p->Dn.aj.lc p=Z.aj.lc o/\Dn.ob p=Z.ob o/\Dn.ln p=Z.ln o:=fun o p hp=>by obtain⟨h1,h2⟩:=akt hp;exact hZ h1 h2
     obtain⟨himp,hF⟩:=hM g r hr;obtain⟨n,v,Y',hcall,⟨aGS,hv,hwz⟩,av7,hnx,hlp,htp,hout⟩:=hF p q y q' hy Dn (va++c.args.toList.map (fr.ev E)++vb) Y rfl (fun _=>rfl) (iR _) (Dc hR r.args p _ _ hp (aK.ren hm _ _ hA)) (fun i w hw=>by obtain⟨kk,yy,z,h1,h2,rfl,h4⟩:=Tz r.obs q hq i w hw;obtain⟨o',h5,h6,h7⟩:=Y5 h1;obtain⟨e1,e2,e3⟩:=hZ h5 h6;exact Y7 (h4 hok) e2 e3 e1 (S9 hR h2 (hi.ob _ _ h7)));have hst:∀s,s<aN->Y'.top s=Y.top s:=fun s hs=>htp s (nC hs hsn);have hno:∀o',o'∉ids->Y'.obj (Z.aj.lc o')=Y.obj (Z.aj.lc o'):=fun o' ho'=>
      hout _ (Nat.le_succ_of_le (Z.aj.SQ o')) (eP.akA (hnd:=hnd) (Z.aj.SQ o') fun o'' h2 e=>ho' (by rw[Z.aj.Yj e];exact h2))
     have Yz:aU Z (aN+1) (⟨st.fr,xk (mG ids F0) (mE R r.obs q')++st.ob⟩:aO R.T) fr Y':={
      d:=hi.d
      aj:=hi.aj
      fr:=fun i w hw=>(hi.fr i w hw).top fun u s hu=>hst s (hi.lt u s hu)
      ob:=fun o' w hw=>by
       have hw':look (xk (mG ids F0) (mE R r.obs q')++st.ob) o'=some w:=hw;rw[Df] at hw';split at hw'
       .rename_i z hz;cases hw';obtain⟨p',h1,h2,h3⟩:=Y6 hz;obtain⟨kk,zz,h4,rfl⟩:=akx hok h3;obtain⟨e1,e2,e3⟩:=hZ h1 h2;exact Y7 h4 e2.symm e3.symm e1.symm (av7 _ _ h3)
       .rename_i hz;have hn:=akw (fun p' h1 h2=>Tx hks p' h1 h2) hz;exact Y8 (hno o' hn) (fun u s hu=>hst s (hi.lt u s hu)) (hi.ob _ _ hw')
      inj:=hi.inj
      lt:=fun t s ht=>Nat.lt_succ_of_lt (hi.lt t s ht)
      ge:=hi.ge
      nx:=Nat.le_succ_of_le hi.nx}
     refine⟨c,f,g,va,vb,hop,fT,RG,himp,n,v,Y',?_,_,?_,hnx,?_,hk⟩
     .rw[hi.d];exact hcall
     .rw[hv];exact Yz.iF o.dst (av5 (aK.ren (Z:=Dn) (fun p' o' hpo=>by obtain⟨h1,h2⟩:=aku hpo;obtain⟨e1,e2,e3⟩:=hZ h1 h2;exact⟨e1.symm,e2.symm,e3.symm⟩) _ _ hwz))
     .intro p';refine bV.congr (st':=(⟨st.fr,xk (mG ids F0) (mE R r.obs q')++st.ob⟩:aO R.T)) ⟨rfl,rfl,rfl,hnx,⟨hlp,fun s hs=>hst s (nC hs hi.nx)⟩,fun L hL ho=>?_,fun hro=>?_⟩ Av
      .have hL':L.1<=Z.aj.dp:=(by rcases hL with e|e;cases e;exact e);exact hout L (Nat.le_succ_of_le hL') (eP.akA (hnd:=hnd) hL' fun o' _=>ho o')
      .have hn:p'∉ids:=by
        intro hmem;obtain⟨i,hi'⟩:=List.getElem?_of_mem hmem;have hlt:i<ids.length:=by
         rcases Nat.lt_or_ge i ids.length with h|h
         .exact h
         .rw[List.getElem?_eq_none h] at hi';cases hi'
        obtain⟨w,hw⟩:=Tx (q:=q) hks (F0+i) (mg _ _) RS;obtain⟨kk,yy,z,h1,h2,_,_⟩:=Tz r.obs q hq _ _ hw;obtain⟨o',h5,h6,h7⟩:=Y5 h1;rw[AB,hi'] at h6;cases h6;exact Yu h2 (hro _ h7)
       refine⟨fun w hw=>?_,fun s=>?_⟩
       .have hw':look (xk (mG ids F0) (mE R r.obs q')++st.ob) p'=some w:=hw;rw[Df] at hw';split at hw'
        .rename_i z hz;obtain⟨p'',h1,h2,h3⟩:=Y6 hz;exact absurd (uW h2) hn
        .exact hro _ hw'
       .unfold ah.dS ah.lg;rw[hno p' hn];exact⟨rfl,rfl⟩
    .cases h
   .cases h
  .cases h
 .cases h
end
end aR
end
